import PyProof.Rows.All
import Wide.All
import OpenK.AllK
import Wide.FinOn
import PySem.Challenge.RW_casesruled_k08_whole_seen_amounts
import HandS.ForMost
import HandS.TupAny
import HandS.TupMul
import HandS.Wide
import HandS.IsInst
import HandS.Deep
import HandS.Zip
import HandS.Flow
import HandS.Walk
import HandS.Dict
import HandS.Style
import HandS.Text
import HandS.More
import HandS.WordsDict
import HandS.Conv
import HandS.DictComp
import HandS.Iter
import HandS.Defaults
import HandS.Head0
import HandS.Head1
import HandS.Head2
import HandS.HeadEnd
import HandS.HeadHook1
import HandS.HeadHook2
import HandS.HeadHook3
import HandS.HeadHook4
set_option Elab.async false
set_option linter.all false
set_option autoImplicit false
set_option maxRecDepth 100000
set_option maxHeartbeats 4000000
/-! Plain data D, the IR (IE, IS), its meaning (wE, wS). -/
namespace Q
open PySem

/-- plain data of Python; scr: the law's script; obj: a cell of the store -/
inductive D where
  | non | bl (b : Bool) | int (i : Int) | str (s : Str)
  | tup (l : List D) | lst (l : List D) | dct (ks : List Str) (vs : List D)
  | scr (ns : List Int) | obj (n : Nat)

/-- a local name: no value, a value, a list or dict that this name alone holds -/
inductive Sl where
  | no | val (d : D) | own (d : D)
abbrev Lo := List Sl
abbrev Sto := List (List D)

mutual
def D.py : D → PyData
  | .non => .none
  | .bl b => .bool b
  | .int i => .int i
  | .str s => .str s
  | .tup l => .tuple (D.pys l)
  | .lst l => .list (D.pys l)
  | .dct _ _ => .dict []
  | .scr _ => .dict []
  | .obj _ => .dict []
def D.pys : List D → List PyData
  | [] => []
  | d :: r => d.py :: D.pys r
end
mutual
/-- no dict, no cell within -/
def D.plain : D → Bool
  | .tup l => D.plains l
  | .lst l => D.plains l
  | .dct _ _ => false
  | .scr _ => false
  | .obj _ => false
  | _ => true
def D.plains : List D → Bool
  | [] => true
  | d :: r => d.plain && D.plains r
end
mutual
/-- no list, no dict within -/
def D.flat : D → Bool
  | .tup l => D.flats l
  | .lst _ => false
  | .dct _ _ => false
  | .scr _ => false
  | .obj _ => false
  | _ => true
def D.flats : List D → Bool
  | [] => true
  | d :: r => d.flat && D.flats r
end
/-- == may be asked -/
def D.eqOk (d : D) : Bool := d.plain && SeqAt.shaped d.py
def D.eq (a b : D) : Bool := PyData.eqv a.py b.py

/-! ### the IR -/
inductive BO where | add | sub | mul | fdiv | mod | pow
inductive CO where | eq | ne | lt | le | gt | ge | is | isn | mem | nmem
inductive IT where
  | nm (i : Nat) | tp (l : List IT)
mutual
inductive IE where
  | loc (i : Nat)
  | cst (d : D)
  | bin (op : BO) (a b : IE)
  | neg (a : IE)
  | not (a : IE)
  | and (a b : IE)
  | or (a b : IE)
  | ite (c : IC) (a b : IE)
  | cmp (op : CO) (a b : IE)
  | chain (o1 o2 : CO) (a b c : IE)
  | tup (l : IEs)
  | lst (l : IEs)
  | new (l : IEs)
  | idx (a i : IE)
  | slc (a : IE) (lo hi : Option Int)
  | slcE (a : IE) (lo hi : IEo)
  | call (f : Str) (l : IEs)
  | blt (f : String) (l : IEs)
  | isa (a : IE) (t : String)
  | comp (elt : IE) (t : IT) (src : II) (c : IC) (own : List Nat)
  | comp2 (elt : IE) (t1 : IT) (s1 : II) (t2 : IT) (s2 : II) (own : List Nat)
  | dct (ks : List Str) (l : IEs)
  | dcomp (k v : IE) (t : IT) (src : II) (c : IC) (own : List Nat)
/-- a test -/
inductive IC where
  | v (e : IE)
  | yes
  | not (a : IC)
  | and (a b : IC)
  | or (a b : IC)
  | cmp (op : CO) (a b : IE)
  | chain (o1 o2 : CO) (a b c : IE)
inductive IEs where
  | nil | cons (e : IE) (r : IEs)
inductive IEo where
  | no | so (e : IE)
/-- what a for walks -/
inductive II where
  | seq (e : IE)
  | rng (lo hi : IE)
  | rngd (lo hi : IE)
  | zip (a b : IE)
  | wk (i : Nat)
end
mutual
inductive IS where
  | asg (t : IT) (e : IE)
  | asg2 (i j : Nat) (e : IE)
  | par (i j : Nat) (a b : IE)
  | aug (i : Nat) (op : BO) (e : IE)
  | setI (i : Nat) (k e : IE)
  | app (i : Nat) (e : IE)
  | ext (i : Nat) (e : IE)
  | pop (t : IT) (i : Nat)
  | expr (e : IE)
  | ret (e : IE)
  | ifs (c : IC) (a b : ISs)
  | whl (c : IC) (a : ISs)
  | fors (t : IT) (src : II) (a : ISs)
  | cont | brk | pass | never
inductive ISs where
  | nil | cons (s : IS) (r : ISs)
end

def IEs.len : IEs → Nat
  | .nil => 0
  | .cons _ r => r.len + 1
/-! ### the meaning of the operators -/
abbrev KF := D → Bool → Prop
def dAdd : D → D → KF → Prop
  | .int a, .int b, P => P (.int (a + b)) false
  | .str a, .str b, P => a.length + b.length ≤ sizeLine ∧ P (.str (a ++ b)) false
  | .tup a, .tup b, P => a.length + b.length ≤ sizeLine ∧ P (.tup (a ++ b)) false
  | .lst a, .lst b, P => a.length + b.length ≤ sizeLine ∧ P (.lst (a ++ b)) true
  | _, _, _ => False
def small64 (i : Int) : Prop := -(2 ^ 64) < i ∧ i < 2 ^ 64
def dMul : D → D → KF → Prop
  | .int a, .int b, P => (small64 a ∨ small64 b ∨ (a.natAbs < 2 ^ 4000 ∧ b.natAbs < 2 ^ 4000)) ∧ P (.int (a * b)) false
  | .tup a, .int k, P => (a ≠ [] ∧ 0 ≤ k ∧ k ≤ 1000 ∧ a.length ≤ 1000) ∧ P (.tup (List.replicate k.toNat a).flatten) false
  | _, _, _ => False
def dBin : BO → D → D → KF → Prop
  | .add, x, y, P => dAdd x y P
  | .sub, .int a, .int b, P => P (.int (a - b)) false
  | .mul, x, y, P => dMul x y P
  | .fdiv, .int a, .int b, P => (0 < b ∧ b.natAbs < 2 ^ 9000) ∧ P (.int (a / b)) false
  | .mod, .int a, .int b, P => b ≠ 0 ∧ P (.int (a.fmod b)) false
  | .pow, .int a, .int b, P => (0 ≤ b ∧ b ≤ 1000000 ∧ a.natAbs < 2 ^ 64) ∧ P (.int (a ^ b.toNat)) false
  | _, _, _, _ => False
/-- == of two may be asked -/
def eqQ : D → D → Bool
  | .str _, .str _ => true
  | x, y => x.eqOk && y.eqOk
/-- a dict's value at k -/
def dLook : List Str → List D → Str → Option D
  | k' :: ks, v :: vs, k => if k' = k then some v else dLook ks vs k
  | _, _, _ => none
def putKs (ks : List Str) (k : Str) : List Str := if ks.any (fun x => decide (x = k)) then ks else ks ++ [k]
def putVs (ks : List Str) (vs : List D) (k : Str) (v : D) : List D := if ks.any (fun x => decide (x = k)) then List.zipWith (fun k' v' => if k' = k then v else v') ks vs else vs ++ [v]
def strIn (i j : Str) : Bool := !(Builtin.Str.occurrences j i 0 j.length 1).isEmpty
def dMem : D → D → (Bool → Prop) → Prop
  | .str i, .str j, P => P (strIn i j)
  | x, .tup l, P => x.eqOk = true ∧ (D.tup l).eqOk = true ∧ P (l.any fun z => z.eq x)
  | x, .lst l, P => x.eqOk = true ∧ (D.lst l).eqOk = true ∧ P (l.any fun z => z.eq x)
  | .str k, .dct ks vs, P => ks.length = vs.length ∧ P (dLook ks vs k).isSome
  | _, _, _ => False
def lexInt : List Int → List Int → Bool
  | _, [] => false
  | [], _ :: _ => true
  | x :: xs, y :: ys => if x = y then lexInt xs ys else decide (x < y)
def dLt : D → D → (Bool → Prop) → Prop
  | .int a, .int b, P => P (decide (a < b))
  | .str a, .str b, P => P (decide (a.cps.toList < b.cps.toList))
  | _, _, _ => False
def D.isNon : D → Bool
  | .non => true
  | _ => false
def D.isBl (k : Bool) : D → Bool
  | .bl b => b == k
  | _ => false
def dCmp : CO → D → D → (Bool → Prop) → Prop
  | .eq, x, y, P => eqQ x y = true ∧ P (x.eq y)
  | .ne, x, y, P => eqQ x y = true ∧ P (!x.eq y)
  | .lt, x, y, P => dLt x y P
  | .gt, .int a, .int b, P => P (decide (b < a))
  | .gt, .str a, .str b, P => P (decide (b.cps.toList < a.cps.toList))
  | .le, .int a, .int b, P => P (decide (a ≤ b))
  | .le, .str a, .str b, P => P (!decide (b.cps.toList < a.cps.toList))
  | .ge, .int a, .int b, P => P (decide (b ≤ a))
  | .is, x, .non, P => P x.isNon
  | .isn, x, .non, P => P (!x.isNon)
  | .is, x, .bl k, P => P (x.isBl k)
  | .isn, x, .bl k, P => P (!x.isBl k)
  | .mem, x, y, P => dMem x y P
  | .nmem, x, y, P => dMem x y fun b => P (!b)
  | _, _, _, _ => False
/-- truth -/
def D.truth : D → (Bool → Prop) → Prop
  | .non, P => P false
  | .bl b, P => P b
  | .int i, P => P (i != 0)
  | .str s, P => s.length ≤ sizeLine ∧ P ((s.length : Int) != 0)
  | .tup l, P => P (!l.isEmpty)
  | .lst l, P => P (!l.isEmpty)
  | _, _ => False
def D.isA : D → String → Option Bool
  | .non, "str" | .non, "int" | .non, "bool" | .non, "tuple" | .non, "list" | .non, "dict" => some false
  | .bl _, "int" | .bl _, "bool" => some true
  | .bl _, "str" | .bl _, "tuple" | .bl _, "list" | .bl _, "dict" => some false
  | .int _, "int" => some true
  | .int _, "str" | .int _, "bool" | .int _, "tuple" | .int _, "list" | .int _, "dict" => some false
  | .str _, "str" => some true
  | .str _, "int" | .str _, "bool" | .str _, "tuple" | .str _, "list" | .str _, "dict" => some false
  | .tup _, "tuple" => some true
  | .tup _, "str" | .tup _, "int" | .tup _, "bool" | .tup _, "list" | .tup _, "dict" => some false
  | .lst _, "list" => some true
  | .lst _, "str" | .lst _, "int" | .lst _, "bool" | .lst _, "tuple" | .lst _, "dict" => some false
  | .dct _ _, "dict" => some true
  | .dct _ _, "str" | .dct _ _, "int" | .dct _ _, "bool" | .dct _ _, "tuple" | .dct _ _, "list" => some false
  | _, _ => none
def dIdx (S : Sto) : D → D → (D → Prop) → Prop
  | .tup l, .int i, P => ∃ d, L2.atI l i = some d ∧ P d
  | .lst l, .int i, P => ∃ d, L2.atI l i = some d ∧ P d
  | .obj n, .int i, P => ∃ l d, S[n]? = some l ∧ L2.atI l i = some d ∧ P d
  | .dct ks vs, .str k, P => ∃ d, dLook ks vs k = some d ∧ P d
  | .str z, .int i, P => ∃ c, z.length ≤ sizeLine ∧ L2.atI z.cps.toList i = some c ∧ P (.str ⟨#[c]⟩)
  | _, _, _ => False
/-- the part from lo to hi of a list -/
def cut {α : Type} (xs : List α) (lo hi : Option Int) : List α := (xs.drop (HT.sIx xs.length 0 lo)).take (HT.sIx xs.length xs.length hi - HT.sIx xs.length 0 lo)
def dSlc : D → Option Int → Option Int → KF → Prop
  | .tup l, lo, hi, P => P (.tup (cut l lo hi)) false
  | .lst l, lo, hi, P => P (.lst (cut l lo hi)) true
  | .scr l, lo, hi, P => P (.lst ((cut l lo hi).map .int)) true
  | _, _, _, _ => False
def allB : List D → Option (List Bool)
  | [] => some []
  | .bl b :: r => (allB r).map (b :: ·)
  | _ :: _ => none
def allI : List D → Option (List Int)
  | [] => some []
  | .int i :: r => (allI r).map (i :: ·)
  | _ :: _ => none
/-- built-in functions -/
def dBlt (S : Sto) : String → List D → KF → Prop
  | "len", [.tup l], P => P (.int l.length) false
  | "len", [.lst l], P => P (.int l.length) false
  | "len", [.scr l], P => P (.int l.length) false
  | "len", [.str s], P => s.length ≤ sizeLine ∧ P (.int s.length) false
  | "len", [.dct ks _], P => P (.int ks.length) false
  | "len", [.obj n], P => ∃ l, S[n]? = some l ∧ P (.int l.length) false
  | "all", [.lst l], P => ∃ bs, allB l = some bs ∧ P (.bl (bs.all id)) false
  | "any", [.lst l], P => ∃ bs, allB l = some bs ∧ P (.bl (bs.any id)) false
  | "sum", [.lst l], P => ∃ ns, allI l = some ns ∧ P (.int ns.sum) false
  | "tuple", [.lst l], P => P (.tup l) false
  | "tuple", [.tup l], P => P (.tup l) false
  | "list", [.lst l], P => P (.lst l) true
  | "list", [.tup l], P => P (.lst l) true
  | "list", [.scr l], P => P (.lst (l.map .int)) true
  | "int", [.int i], P => P (.int i) false
  | "min", [.int i, .int j], P => P (.int (if j < i then j else i)) false
  | "max", [.int i, .int j], P => P (.int (if j > i then j else i)) false
  | "min", [.lst l], P => ∃ ns m, allI l = some ns ∧ ns.min? = some m ∧ P (.int m) false
  | "max", [.lst l], P => ∃ ns m, allI l = some ns ∧ ns.max? = some m ∧ P (.int m) false
  | "dict", [.dct ks vs], P => P (.dct ks vs) true
  | "list", [.dct ks _], P => P (.lst (ks.map .str)) true
  | _, _, _ => False

/-! ### the meaning of code -/
abbrev KE := D → Bool → Lo → Sto → Prop
abbrev KP := D → Lo → Sto → Prop
abbrev KT := Bool → Lo → Sto → Prop
abbrev Calls := Str → List D → Sto → (D → Sto → Prop) → Prop
structure Ends where
  nx : Lo → Sto → Prop
  rt : D → Sto → Prop
  bk : Lo → Sto → Prop := fun _ _ => False
  ct : Lo → Sto → Prop := fun _ _ => False

/-- e is only looked at: a list that its name alone holds stays so -/
def pk (e : IE) (t : Lo → Sto → KE → Prop) (L : Lo) (S : Sto) (P : KP) : Prop :=
  match e with
  | .loc i => (match L[i]? with
    | some (.val d) => P d L S
    | some (.own d) => P d L S
    | _ => False)
  | _ => t L S fun d _ L' S' => P d L' S'
/-- a target -/
def wG : IT → D → Lo → (Lo → Prop) → Prop
  | .nm i, d, L, P => P (L.set i (.val d))
  | .tp ts, d, L, P => ∃ ds, d = .tup ds ∧ wGs ts ds L P
where
  wGs : List IT → List D → Lo → (Lo → Prop) → Prop
  | [], [], L, P => P L
  | t :: ts, d :: ds, L, P => wG t d L fun L1 => wGs ts ds L1 P
  | _, _, _, _ => False
def IT.ix : IT → List Nat
  | .nm i => [i]
  | .tp ts => ixs ts
where
  ixs : List IT → List Nat
  | [] => []
  | t :: ts => IT.ix t ++ ixs ts
def wipeL (L : Lo) : List Nat → Lo
  | [] => L
  | v :: vs => (wipeL L vs).set v .no
/-- a comprehension's loop -/
def compL (t : D → Lo → (Lo → Prop) → Prop) (c : Lo → Sto → KT → Prop) (e : Lo → Sto → KE → Prop) (Lw : Lo) : List D → Sto → List D → (List D → Sto → Prop) → Prop
  | [], S, acc, P => P acc S
  | d :: ds, S, acc, P => t d Lw fun L1 => c L1 S fun b L2 S2 => L2 = L1 ∧ if b = true then e L1 S2 fun r _ L3 S3 => L3 = L1 ∧ acc.length < sizeLine ∧ compL t c e Lw ds S3 (acc ++ [r]) P else compL t c e Lw ds S2 acc P
def compL2 (t2 : D → Lo → (Lo → Prop) → Prop) (src : Lo → Sto → (List D → Lo → Sto → Prop) → Prop) (e : Lo → Sto → KE → Prop) (t1 : D → Lo → (Lo → Prop) → Prop) (ix : List Nat) (Lw : Lo) : List D → Sto → List D → (List D → Sto → Prop) → Prop
  | [], S, acc, P => P acc S
  | d :: ds, S, acc, P => t1 d Lw fun L1 => src L1 S fun xs L2 S2 => L2 = L1 ∧ compL t2 (fun L S k => k true L S) e (wipeL L1 ix) xs S2 acc fun acc' S3 => compL2 t2 src e t1 ix Lw ds S3 acc' P
/-- a dict comprehension's loop -/
def compD (t : D → Lo → (Lo → Prop) → Prop) (c : Lo → Sto → KT → Prop) (k v : Lo → Sto → KE → Prop) (Lw : Lo) : List D → Sto → List Str → List D → (List Str → List D → Sto → Prop) → Prop
  | [], S, ks, vs, P => P ks vs S
  | d :: ds, S, ks, vs, P => t d Lw fun L1 => c L1 S fun b L2 S2 => L2 = L1 ∧ if b = true then k L1 S2 fun y _ L3 S3 => ∃ s, y = .str s ∧ L3 = L1 ∧ v L1 S3 fun z _ L4 S4 => L4 = L1 ∧ ks.length < sizeLine ∧ compD t c k v Lw ds S4 (putKs ks s) (putVs ks vs s z) P else compD t c k v Lw ds S2 ks vs P
def rngList (lo : Int) (n : Nat) : List D := (List.range n).map fun (k : Nat) => .int (lo + (k : Int))
def rngDown (lo : Int) (n : Nat) : List D := (List.range n).map fun (k : Nat) => .int (lo - (k : Int))
def freezeAt (L : Lo) (i : Nat) : Lo := match L[i]? with
  | some (.own d) => L.set i (.val d)
  | _ => L
def freezeAll (L : Lo) (is : List Nat) : Lo := is.foldl freezeAt L
def lim62 (i : Int) : Prop := -(2 ^ 62) ≤ i ∧ i < 2 ^ 62
def Sto.flat (S : Sto) : Bool := S.all D.flats

mutual
def wE (C : Calls) : IE → Lo → Sto → KE → Prop
  | .loc i, L, S, P => (match L[i]? with
    | some (.val d) => P d false L S
    | some (.own d) => P d false (L.set i (.val d)) S
    | _ => False)
  | .cst d, L, S, P => P d false L S
  | .bin op a b, L, S, P => pk a (wE C a) L S fun x L1 S1 => pk b (wE C b) L1 S1 fun y L2 S2 => dBin op x y fun r f => P r f L2 S2
  | .neg a, L, S, P => pk a (wE C a) L S fun x L1 S1 => ∃ i, x = .int i ∧ P (.int (-i)) false L1 S1
  | .not a, L, S, P => wE C a L S fun x _ L1 S1 => x.truth fun b => P (.bl (!b)) false L1 S1
  | .and a b, L, S, P => wE C a L S fun x _ L1 S1 => x.truth fun k => if k = true then wE C b L1 S1 P else P x false L1 S1
  | .or a b, L, S, P => wE C a L S fun x _ L1 S1 => x.truth fun k => if k = true then P x false L1 S1 else wE C b L1 S1 P
  | .ite c a b, L, S, P => wT C c L S fun k L1 S1 => if k = true then wE C a L1 S1 P else wE C b L1 S1 P
  | .cmp op a b, L, S, P => pk a (wE C a) L S fun x L1 S1 => pk b (wE C b) L1 S1 fun y L2 S2 => dCmp op x y fun k => P (.bl k) false L2 S2
  | .chain o1 o2 a b c, L, S, P => pk a (wE C a) L S fun x L1 S1 => pk b (wE C b) L1 S1 fun y L2 S2 => dCmp o1 x y fun k =>
      if k = true then pk c (wE C c) L2 S2 fun z L3 S3 => dCmp o2 y z fun k2 => P (.bl k2) false L3 S3 else P (.bl false) false L2 S2
  | .tup l, L, S, P => wEs C l L S fun ds L1 S1 => ds.length ≤ sizeLine ∧ P (.tup ds) false L1 S1
  | .lst l, L, S, P => wEs C l L S fun ds L1 S1 => ds.length ≤ sizeLine ∧ P (.lst ds) true L1 S1
  | .new l, L, S, P => wEs C l L S fun ds L1 S1 => ds.length ≤ sizeLine ∧ P (.obj S1.length) false L1 (S1 ++ [ds])
  | .idx a i, L, S, P => pk a (wE C a) L S fun x L1 S1 => pk i (wE C i) L1 S1 fun y L2 S2 => dIdx S2 x y fun r => P r false L2 S2
  | .slc a lo hi, L, S, P => pk a (wE C a) L S fun x L1 S1 => dSlc x lo hi fun r f => P r f L1 S1
  | .slcE a lo hi, L, S, P => pk a (wE C a) L S fun x L1 S1 => wEo C lo L1 S1 fun l L2 S2 => wEo C hi L2 S2 fun h L3 S3 => dSlc x l h fun r f => P r f L3 S3
  | .call f l, L, S, P => wAs C l L S [] fun ds bs L1 S1 => ds.length = l.len ∧ (∀ i, i ∈ bs → ∃ d, L1[i]? = some (.own d)) ∧ C f ds S1 fun r S2 => if bs = [] ∨ (r.flat = true ∧ Sto.flat S2 = true) then P r false L1 S2 else P r false (freezeAll L1 bs) S2
  | .blt f l, L, S, P => wPs C l L S fun ds L1 S1 => dBlt S1 f ds fun r g => P r g L1 S1
  | .isa a t, L, S, P => pk a (wE C a) L S fun x L1 S1 => ∃ b, x.isA t = some b ∧ P (.bl b) false L1 S1
  | .comp e t src c own, L, S, P => wI C src L S fun ds L1 S1 => (∀ i, i ∈ own → ∀ d, L1[i]? ≠ some (.own d)) ∧ compL (wG t) (wT C c) (wE C e) (wipeL L1 own) ds S1 [] fun acc S2 => P (.lst acc) true L1 S2
  | .dct ks l, L, S, P => wEs C l L S fun ds L1 S1 => (ks.length = ds.length ∧ ks.length ≤ 15 ∧ ks.Nodup) ∧ P (.dct ks ds) true L1 S1
  | .dcomp k v t src c own, L, S, P => wI C src L S fun ds L1 S1 => (∀ i, i ∈ own → ∀ d, L1[i]? ≠ some (.own d)) ∧ compD (wG t) (wT C c) (wE C k) (wE C v) (wipeL L1 own) ds S1 [] [] fun ks vs S2 => P (.dct ks vs) true L1 S2
  | .comp2 e t1 s1 t2 s2 own, L, S, P => wI C s1 L S fun ds L1 S1 => (∀ i, i ∈ own → ∀ d, L1[i]? ≠ some (.own d)) ∧ compL2 (wG t2) (wI C s2) (wE C e) (wG t1) t2.ix (wipeL L1 own) ds S1 [] fun acc S2 => P (.lst acc) true L1 S2
def wEs (C : Calls) : IEs → Lo → Sto → (List D → Lo → Sto → Prop) → Prop
  | .nil, L, S, P => P [] L S
  | .cons e r, L, S, P => wE C e L S fun d _ L1 S1 => wEs C r L1 S1 fun ds L2 S2 => P (d :: ds) L2 S2
def wPs (C : Calls) : IEs → Lo → Sto → (List D → Lo → Sto → Prop) → Prop
  | .nil, L, S, P => P [] L S
  | .cons e r, L, S, P => pk e (wE C e) L S fun d L1 S1 => wPs C r L1 S1 fun ds L2 S2 => P (d :: ds) L2 S2
/-- arguments of a def: lists held by a name alone are lent -/
def wAs (C : Calls) : IEs → Lo → Sto → List Nat → (List D → List Nat → Lo → Sto → Prop) → Prop
  | .nil, L, S, bs, P => P [] bs L S
  | .cons (.loc i) r, L, S, bs, P => (match L[i]? with
    | some (.val d) => wAs C r L S bs fun ds bs' L2 S2 => P (d :: ds) bs' L2 S2
    | some (.own d) => wAs C r L S (i :: bs) fun ds bs' L2 S2 => P (d :: ds) bs' L2 S2
    | _ => False)
  | .cons e r, L, S, bs, P => wE C e L S fun d _ L1 S1 => wAs C r L1 S1 bs fun ds bs' L2 S2 => P (d :: ds) bs' L2 S2
def wEo (C : Calls) : IEo → Lo → Sto → (Option Int → Lo → Sto → Prop) → Prop
  | .no, L, S, P => P none L S
  | .so e, L, S, P => pk e (wE C e) L S fun x L1 S1 => ∃ i, x = .int i ∧ P (some i) L1 S1
def wT (C : Calls) : IC → Lo → Sto → KT → Prop
  | .not a, L, S, P => wT C a L S fun b L1 S1 => P (!b) L1 S1
  | .and a b, L, S, P => wT C a L S fun k L1 S1 => if k = true then wT C b L1 S1 P else P false L1 S1
  | .or a b, L, S, P => wT C a L S fun k L1 S1 => if k = true then P true L1 S1 else wT C b L1 S1 P
  | .cmp op a b, L, S, P => pk a (wE C a) L S fun x L1 S1 => pk b (wE C b) L1 S1 fun y L2 S2 => dCmp op x y fun k => P k L2 S2
  | .chain o1 o2 a b c, L, S, P => pk a (wE C a) L S fun x L1 S1 => pk b (wE C b) L1 S1 fun y L2 S2 => dCmp o1 x y fun k =>
      if k = true then pk c (wE C c) L2 S2 fun z L3 S3 => dCmp o2 y z fun k2 => P k2 L3 S3 else P false L2 S2
  | .yes, L, S, P => P true L S
  | .v e, L, S, P => pk e (wE C e) L S fun x L1 S1 => x.truth fun k => P k L1 S1
def wI (C : Calls) : II → Lo → Sto → (List D → Lo → Sto → Prop) → Prop
  | .seq e, L, S, P => wE C e L S fun x _ L1 S1 => (match x with
    | .tup l => P l L1 S1
    | .lst l => P l L1 S1
    | .scr l => P (l.map .int) L1 S1
    | .str z => P (z.cps.toList.map fun c => .str ⟨#[c]⟩) L1 S1
    | _ => False)
  | .rng a b, L, S, P => wE C a L S fun x _ L1 S1 => wE C b L1 S1 fun y _ L2 S2 => ∃ i j, x = .int i ∧ y = .int j ∧ lim62 i ∧ lim62 j ∧ P (rngList i (j - i).toNat) L2 S2
  | .rngd _ _, _, _, _ => False
  | .wk i, L, S, P => (match L[i]? with
    | some (.val (.tup l)) => P l L S
    | some (.val (.lst l)) => P l L S
    | some (.own (.lst l)) => P l (L.set i (.val (.lst l))) S
    | some (.val (.dct ks _)) => P (ks.map .str) L S
    | some (.own (.dct ks vs)) => P (ks.map .str) (L.set i (.val (.dct ks vs))) S
    | _ => False)
  | .zip a b, L, S, P => wE C a L S fun x _ L1 S1 => wE C b L1 S1 fun y _ L2 S2 => (match x, y with
    | .tup l, .tup m => l.length = m.length ∧ P (List.zipWith (fun u v => .tup [u, v]) l m) L2 S2
    | .lst l, .lst m => l.length = m.length ∧ P (List.zipWith (fun u v => .tup [u, v]) l m) L2 S2
    | _, _ => False)
end
end Q
/-! Statements' meaning; defs by tables; the translator. -/
namespace Q
open PySem

def asgF (t : IT) (d : D) (f : Bool) (L : Lo) (P : Lo → Prop) : Prop :=
  match t with
  | .nm i => P (L.set i (if f then .own d else .val d))
  | t => wG t d L P
def forL (t : D → Lo → (Lo → Prop) → Prop) (b : Lo → Sto → Ends → Prop) (Z : Ends) : List D → Lo → Sto → Prop
  | [], L, S => Z.nx L S
  | d :: ds, L, S => t d L fun L1 => b L1 S { nx := fun L2 S2 => forL t b Z ds L2 S2, rt := Z.rt, bk := Z.nx, ct := fun L2 S2 => forL t b Z ds L2 S2 }
def whlL (c : Lo → Sto → KT → Prop) (b : Lo → Sto → Ends → Prop) (Z : Ends) (L : Lo) (S : Sto) : Prop :=
  ∃ W : Nat → Lo → Sto → Prop, (∃ m, W m L S) ∧ ∀ m L S, W m L S → c L S fun k L1 S1 =>
    if k = true then b L1 S1 { nx := fun L2 S2 => ∃ m', m' < m ∧ W m' L2 S2, rt := Z.rt, bk := Z.nx, ct := fun L2 S2 => ∃ m', m' < m ∧ W m' L2 S2 } else Z.nx L1 S1
def flag (f : Bool) (d : D) : Sl := if f then .own d else .val d
mutual
def wS (C : Calls) : IS → Lo → Sto → Ends → Prop
  | .asg t e, L, S, Z => wE C e L S fun d f L1 S1 => asgF t d f L1 fun L2 => Z.nx L2 S1
  | .asg2 i j e, L, S, Z => wE C e L S fun d _ L1 S1 => Z.nx ((L1.set i (.val d)).set j (.val d)) S1
  | .par i j a b, L, S, Z => wE C a L S fun x f L1 S1 => wE C b L1 S1 fun y g L2 S2 => Z.nx ((L2.set i (flag f x)).set j (flag g y)) S2
  | .aug i op e, L, S, Z => ∃ x, L[i]? = some (.val x) ∧ wE C e L S fun y _ L1 S1 => (match x, y with
      | .int _, .int _ => dBin op x y fun r _ => Z.nx (L1.set i (.val r)) S1
      | .str _, .str _ => dBin op x y fun r _ => Z.nx (L1.set i (.val r)) S1
      | _, _ => False)
  | .setI i k e, L, S, Z => (∃ d, L[i]? = some (.own d) ∨ L[i]? = some (.val d)) ∧ wE C e L S fun d _ L1 S1 => pk k (wE C k) L1 S1 fun y L2 S2 => (match L2[i]?, y with
      | some (.val (.obj n)), .int z => ∃ l j, S2[n]? = some l ∧ _root_.L2.ixN l.length z = some j ∧ Z.nx L2 (S2.set n (l.set j d))
      | some (.own (.lst l)), .int z => ∃ j, _root_.L2.ixN l.length z = some j ∧ Z.nx (L2.set i (.own (.lst (l.set j d)))) S2
      | some (.own (.dct ks vs)), .str k => (ks.length = vs.length ∧ ks.length < sizeLine) ∧ Z.nx (L2.set i (.own (.dct (putKs ks k) (putVs ks vs k d)))) S2
      | _, _ => False)
  | .app i e, L, S, Z => (∃ l, L[i]? = some (.own (.lst l))) ∧ wE C e L S fun d _ L1 S1 => ∃ l, L1[i]? = some (.own (.lst l)) ∧ l.length < sizeLine ∧ Z.nx (L1.set i (.own (.lst (l ++ [d])))) S1
  | .ext i e, L, S, Z => (∃ l, L[i]? = some (.own (.lst l))) ∧ wE C e L S fun d _ L1 S1 => ∃ l m, L1[i]? = some (.own (.lst l)) ∧ d = .lst m ∧ l.length + m.length ≤ sizeLine ∧ Z.nx (L1.set i (.own (.lst (l ++ m)))) S1
  | .pop t i, L, S, Z => ∃ l d, L[i]? = some (.own (.lst l)) ∧ l[l.length - 1]? = some d ∧ wG t d (L.set i (.own (.lst l.dropLast))) fun L2 => Z.nx L2 S
  | .expr e, L, S, Z => wE C e L S fun _ _ L1 S1 => Z.nx L1 S1
  | .ret e, L, S, Z => wE C e L S fun d _ _ S1 => Z.rt d S1
  | .ifs c a b, L, S, Z => wT C c L S fun k L1 S1 => if k = true then wSs C a L1 S1 Z else wSs C b L1 S1 Z
  | .whl c a, L, S, Z => whlL (wT C c) (wSs C a) Z L S
  | .fors t src a, L, S, Z => wI C src L S fun ds L1 S1 => forL (wG t) (wSs C a) Z ds L1 S1
  | .cont, L, S, Z => Z.ct L S
  | .brk, L, S, Z => Z.bk L S
  | .pass, L, S, Z => Z.nx L S
  | .never, _, _, _ => False
def wSs (C : Calls) : ISs → Lo → Sto → Ends → Prop
  | .nil, L, S, Z => Z.nx L S
  | .cons s r, L, S, Z => wS C s L S { Z with nx := fun L1 S1 => wSs C r L1 S1 Z }
end
/-- a def: parameters, all names, body -/
structure FD where
  np : Nat
  nn : Nat
  body : ISs
def lo0 (ds : List D) (n : Nat) : Lo := ds.map .val ++ List.replicate (n - ds.length) .no
/-- calls, at most k deep -/
def Cl (T : Str → Option FD) : Nat → Calls
  | 0 => fun _ _ _ _ => False
  | k + 1 => fun f ds S P => ∃ fd, T f = some fd ∧ ds.length = fd.np ∧ wSs (Cl T k) fd.body (lo0 ds fd.nn) S { nx := fun _ S1 => P .non S1, rt := P }

/-! ### the translator -/
structure TC where
  N : List Str
  gl : List (Str × D)
  fs : List (Str × Nat × List D)
  mu : Bool
def vis (sc : Scope) (x : Str) : Bool := match sc.names.lookup x with
  | some .local | some .cell | some .free => true
  | _ => false
def loc (sc : Scope) (x : Str) : Bool := match sc.names.lookup x with
  | some .local => true
  | _ => false
def glb (sc : Scope) (x : Str) : Bool := match sc.names.lookup x with
  | some .globalImplicit => true
  | _ => false
def fine (x : Str) : Bool := !(x == ("__debug__" : Str)) && !(x == ("__classdict__" : Str)) && !(x == ("__name__" : Str))
def toBO : Operator → Option BO
  | .Add => some .add | .Sub => some .sub | .Mult => some .mul | .FloorDiv => some .fdiv | .Mod => some .mod | .Pow => some .pow
  | _ => none
def toCO : CmpOp → CO
  | .Eq => .eq | .NotEq => .ne | .Lt => .lt | .LtE => .le | .Gt => .gt | .GtE => .ge | .Is => .is | .IsNot => .isn | .In => .mem | .NotIn => .nmem
def isBoolE : Expr → Bool
  | .Constant (.bool _) _ _ => true
  | _ => false
def strKeys : List (Option Expr) → Option (List Str)
  | [] => some []
  | some (.Constant (.str k) _ _) :: r => (strKeys r).map (k :: ·)
  | _ => none
def isConstE : Expr → Bool
  | .Constant _ _ _ => true
  | _ => false
def isNoneE : Expr → Bool
  | .Constant .none _ _ => true
  | _ => false
def intE : Expr → Option Int
  | .Constant (.int i) _ _ => some i
  | _ => none
def isTup : Expr → Bool
  | .Tuple _ _ _ => true
  | _ => false
def isSetE : Expr → Bool
  | .Set _ _ _ => true
  | _ => false
def cmpFine (op : CmpOp) (b : Expr) : Bool := match op with
  | .Is | .IsNot => isNoneE b || isBoolE b
  | .In | .NotIn => !isSetE b
  | _ => true
def builtins1 : List String := ["len", "all", "any", "sum", "min", "max"]
def types1 : List String := ["tuple", "list", "int", "dict"]
def isTys : List String := ["str", "int", "bool", "tuple", "list", "dict"]
def ofS (l : List String) (x : Str) : Option String := l.find? fun s => x == (s : Str)
def ownOf (N : List Str) (sc : Scope) : List (Str × Nat) := sc.names.filterMap fun (n, k) => if k == .local || k == .cell then (N.idxOf? n).map fun i => (n, i) else none
mutual
def trT (c : TC) (sc : Scope) : Nat → Expr → Option IT
  | 0, _ => none
  | n + 1, .Name x _ => if loc sc x || (sc.names.lookup x == some .cell) then (c.N.idxOf? x).map .nm else none
  | n + 1, .Tuple es _ _ => (trTs c sc n es).map .tp
  | _, _ => none
def trTs (c : TC) (sc : Scope) : Nat → List Expr → Option (List IT)
  | _, [] => some []
  | 0, _ => none
  | n + 1, e :: es => do some ((← trT c sc n e) :: (← trTs c sc n es))
end
def cstS : List D → IEs
  | [] => .nil
  | d :: r => .cons (.cst d) (cstS r)
def addD : IEs → List D → IEs
  | .nil, ds => cstS ds
  | .cons e r, ds => .cons e (addD r ds)
def ixIn (c : TC) (scope : Scope) (n : Nat) (tg : Expr) : Bool := match trT c scope n tg with
  | some t => t.ix.all fun i => ((ownOf c.N scope).map (·.2)).contains i
  | none => false
mutual
def trE (c : TC) : Nat → Scope → Expr → Option IE
  | 0, _, _ => none
  | n + 1, sc, e => match e with
    | .Name x _ => if fine x then (if vis sc x then (c.N.idxOf? x).map .loc else if glb sc x then (c.gl.lookup x).map .cst else none) else none
    | .Constant (.int i) _ _ => some (.cst (.int i))
    | .Constant (.bool i) _ _ => some (.cst (.bl i))
    | .Constant (.str i) _ _ => some (.cst (.str i))
    | .Constant .none _ _ => some (.cst .non)
    | .BinOp a op b _ => do some (.bin (← toBO op) (← trE c n sc a) (← trE c n sc b))
    | .UnaryOp .USub a _ => do some (.neg (← trE c n sc a))
    | .UnaryOp .Not a _ => do some (.not (← trE c n sc a))
    | .BoolOp op es _ => trB c n sc op es
    | .IfExp t a b _ => do some (.ite (← trC c n sc t) (← trE c n sc a) (← trE c n sc b))
    | .Compare a [op] [b] _ => if cmpFine op b then do some (.cmp (toCO op) (← trE c n sc a) (← trE c n sc b)) else none
    | .Compare a [o1, o2] [b, d] _ => if cmpFine o1 b && cmpFine o2 d && (o1 != .In) && (o1 != .NotIn) && (o2 != .In) && (o2 != .NotIn) then do some (.chain (toCO o1) (toCO o2) (← trE c n sc a) (← trE c n sc b) (← trE c n sc d)) else none
    | .Tuple es _ _ => (trEs c n sc es).map .tup
    | .List es _ => (trEs c n sc es).map (if c.mu then .new else .lst)
    | .Dict ks vs _ => do if ks.length == vs.length && decide (ks.length ≤ 15) then some (.dct (← strKeys ks) (← trEs c n sc vs)) else none
    | .DictComp k v [⟨tg, iter, ifs, 0⟩] scope _ =>
        if L2.blkC c.N sc scope (ownOf c.N scope) && ixIn c scope n tg then do
          some (.dcomp (← trE c n scope k) (← trE c n scope v) (← trT c scope n tg) (← trW c n sc (isTup tg) iter) (← (match ifs with | [] => some .yes | [t] => trC c n scope t | _ => none)) ((ownOf c.N scope).map (·.2)))
        else none
    | .Subscript a i _ => (match i with
      | .Slice lo hi none _ => do some (.slcE (← trE c n sc a) (← trO c n sc lo) (← trO c n sc hi))
      | i => do some (.idx (← trE c n sc a) (← trE c n sc i)))
    | .Call (.Name f _) args [] _ => if glb sc f && fine f then (match c.fs.lookup f with
        | some (np, dv) => if args.length ≤ np && np ≤ args.length + dv.length && 0 < args.length && dv.all (fun d => d.flat) then do some (.call f (addD (← trEs c n sc args) (dv.drop (args.length + dv.length - np)))) else none
        | none => (match args with
          | [a, .Name t _] => if f == ("isinstance" : Str) then (match ofS isTys t with
              | some T => if glb sc t then do some (.isa (← trE c n sc a) T) else none
              | none => none)
            else if f == ("min" : Str) then do some (.blt "min" (← trEs c n sc args)) else if f == ("max" : Str) then do some (.blt "max" (← trEs c n sc args)) else none
          | [a, _] => if f == ("min" : Str) then do some (.blt "min" (← trEs c n sc args)) else if f == ("max" : Str) then do some (.blt "max" (← trEs c n sc args)) else none
          | [a] => (match ofS builtins1 f with
            | some T => do some (.blt T (← trEs c n sc args))
            | none => (match ofS types1 f with
              | some T => do some (.blt T (← trEs c n sc args))
              | none => none))
          | _ => none))
        else none
    | .ListComp elt [⟨tg, iter, ifs, 0⟩] scope _ =>
        if L2.blkC c.N sc scope (ownOf c.N scope) && ixIn c scope n tg then do
          some (.comp (← trE c n scope elt) (← trT c scope n tg) (← trI c n sc (isTup tg) iter) (← (match ifs with | [] => some .yes | [t] => trC c n scope t | _ => none)) ((ownOf c.N scope).map (·.2)))
        else none
    | .ListComp elt [⟨tg, iter, [], 0⟩, ⟨tg1, iter1, [], 0⟩] scope _ =>
        if L2.blkC c.N sc scope (ownOf c.N scope) && ixIn c scope n tg && ixIn c scope n tg1 then do
          some (.comp2 (← trE c n scope elt) (← trT c scope n tg) (← trI c n sc (isTup tg) iter) (← trT c scope n tg1) (← trI c n scope (isTup tg1) iter1) ((ownOf c.N scope).map (·.2)))
        else none
    | _ => none
def trB (c : TC) : Nat → Scope → BoolOp → List Expr → Option IE
  | 0, _, _, _ => none
  | n + 1, sc, op, es => match es with
    | [] => none
    | [e] => trE c n sc e
    | e :: r => match op with
      | .And => do some (.and (← trE c n sc e) (← trB c n sc op r))
      | .Or => do some (.or (← trE c n sc e) (← trB c n sc op r))
def trEs (c : TC) : Nat → Scope → List Expr → Option IEs
  | _, _, [] => some .nil
  | 0, _, _ => none
  | n + 1, sc, e :: r => do some (.cons (← trE c n sc e) (← trEs c n sc r))
def trO (c : TC) : Nat → Scope → Option Expr → Option IEo
  | _, _, none => some .no
  | 0, _, _ => none
  | n + 1, sc, some e => do some (.so (← trE c n sc e))
def trC (c : TC) : Nat → Scope → Expr → Option IC
  | 0, _, _ => none
  | n + 1, sc, e => match e with
    | .UnaryOp .Not a _ => do some (.not (← trC c n sc a))
    | .BoolOp op es _ => trBC c n sc op es
    | .Compare a [op] [b] _ => if cmpFine op b then do some (.cmp (toCO op) (← trE c n sc a) (← trE c n sc b)) else none
    | .Compare a [o1, o2] [b, d] _ => if cmpFine o1 b && cmpFine o2 d && (o1 != .In) && (o1 != .NotIn) && (o2 != .In) && (o2 != .NotIn) then do some (.chain (toCO o1) (toCO o2) (← trE c n sc a) (← trE c n sc b) (← trE c n sc d)) else none
    | .IfExp _ _ _ _ => none
    | e => do some (.v (← trE c n sc e))
def trBC (c : TC) : Nat → Scope → BoolOp → List Expr → Option IC
  | 0, _, _, _ => none
  | n + 1, sc, op, es => match es with
    | [] => none
    | [e] => trC c n sc e
    | e :: r => match op with
      | .And => do some (.and (← trC c n sc e) (← trBC c n sc op r))
      | .Or => do some (.or (← trC c n sc e) (← trBC c n sc op r))
def trW (c : TC) : Nat → Scope → Bool → Expr → Option II
  | 0, _, _, _ => none
  | n + 1, sc, tt, e => match e with
    | .Name x _ => if fine x && vis sc x then (c.N.idxOf? x).map .wk else none
    | e => trI c n sc tt e
def trI (c : TC) : Nat → Scope → Bool → Expr → Option II
  | 0, _, _, _ => none
  | n + 1, sc, tt, e => match e with
    | .Call (.Name f _) [a] [] _ => if glb sc f && (f == ("range" : Str)) then do some (.rng (.cst (.int 0)) (← trE c n sc a)) else do some (.seq (← trE c n sc e))
    | .Call (.Name f _) [a, b] [] _ => if glb sc f && (f == ("range" : Str)) then do some (.rng (← trE c n sc a) (← trE c n sc b))
        else if tt && glb sc f && (f == ("zip" : Str)) then do some (.zip (← trE c n sc a) (← trE c n sc b)) else do some (.seq (← trE c n sc e))
    | e => do some (.seq (← trE c n sc e))
end
end Q
/-! The translator of statements and defs. -/
namespace Q
open PySem
def lcScope : Expr → Option Scope
  | .ListComp _ _ s _ => some s
  | _ => none
def swB (sc : Scope) (x : Str) (px : Pos) (e : Expr) : Bool := match lcScope e with
  | some s => loc sc x && px.line == e.pos.line && !(s.names.any fun (n, k) => n == x && (k == .local || k == .cell))
  | none => false
def isSDComp : Expr → Bool
  | .SetComp _ _ _ _ => true
  | .DictComp _ _ _ _ _ => true
  | _ => false
def isSub : Expr → Bool
  | .Subscript _ _ _ => true
  | _ => false
def isTupE : Expr → Bool
  | .Tuple _ _ _ => true
  | _ => false
def tgt (sc : Scope) (x : Str) : Bool := loc sc x || (sc.names.lookup x == some .cell)
def parOk (sc : Scope) (x y : Str) (px py pt : Pos) (a b : Expr) : Bool :=
  loc sc x && loc sc y && !(x == y) && px.line == py.line && isPlain a && isPlain b && !(foldedForSure 8 a && foldedForSure 8 b) && !(constantsAlone 8 a && constantsAlone 8 b)
where isPlain : Expr → Bool
  | .Starred _ _ => false
  | _ => true
mutual
def trS (c : TC) (sc : Scope) : Nat → Stmt → Option IS
  | 0, _ => none
  | n + 1, .Assign [.Name x px] e pos => (match e with
      | .Call (.Attribute (.Name y py) m apos) [] [] cpos => if m == ("pop" : Str) && fine y && vis sc y && apos.endLine == cpos.line && tgt sc x then do some (.pop (.nm (← c.N.idxOf? x)) (← c.N.idxOf? y)) else none
      | e => if tgt sc x && !isSDComp e then do some (.asg (.nm (← c.N.idxOf? x)) (← trE c n sc e)) else none)
  | n + 1, .Assign [.Name x _, .Name y _] e _ => if tgt sc x && tgt sc y && isSub e then do some (.asg2 (← c.N.idxOf? x) (← c.N.idxOf? y) (← trE c n sc e)) else none
  | n + 1, .Assign [.Tuple ts k tp] e pos => (match ts, e with
      | [.Name x px, .Name y py], .Tuple [a, b] _ _ => if parOk sc x y px py tp a b then do some (.par (← c.N.idxOf? x) (← c.N.idxOf? y) (← trE c n sc a) (← trE c n sc b)) else none
      | _, .Call (.Attribute (.Name y py) m apos) [] [] cpos => if m == ("pop" : Str) && fine y && vis sc y && apos.endLine == cpos.line then do some (.pop (← trT c sc n (.Tuple ts k tp)) (← c.N.idxOf? y)) else none
      | _, e => if !isTupE e then do some (.asg (← trT c sc n (.Tuple ts k tp)) (← trE c n sc e)) else none)
  | n + 1, .Assign [.Subscript (.Name x px) i sp] e pos => if fine x && vis sc x then do some (.setI (← c.N.idxOf? x) (← trE c n sc i) (← trE c n sc e)) else none
  | n + 1, .AugAssign (.Name x px) op e pos => if tgt sc x then do
      match (← toBO op) with
      | .add | .sub | .mul => some (.aug (← c.N.idxOf? x) (← toBO op) (← trE c n sc e))
      | _ => none
    else none
  | n + 1, .Expr e pos => (match e with
      | .Call (.Attribute (.Name y py) m apos) [a] [] cpos => if fine y && vis sc y && apos.endLine == cpos.line then (if m == ("append" : Str) then do some (.app (← c.N.idxOf? y) (← trE c n sc a)) else if m == ("extend" : Str) then do some (.ext (← c.N.idxOf? y) (← trE c n sc a)) else none) else none
      | .Call (.Name f p) l [] cpos => do some (.expr (← trE c n sc (.Call (.Name f p) l [] cpos)))
      | .Constant (.str _) _ _ => some .pass
      | _ => none)
  | n + 1, .Return (some e) _ => do some (.ret (← trE c n sc e))
  | _ + 1, .Return none _ => some (.ret (.cst .non))
  | n + 1, .If t a b _ => do some (.ifs (← trC c n sc t) (← trSs c sc n a) (← trSs c sc n b))
  | n + 1, .While t a [] _ => do some (.whl (← trC c n sc t) (← trSs c sc n a))
  | n + 1, .For tg it a [] _ => do some (.fors (← trT c sc n tg) (← trI c n sc (isTup tg) it) (← trSs c sc n a))
  | _ + 1, .Continue _ => some .cont
  | _ + 1, .Break _ => some .brk
  | _ + 1, .Pass _ => some .pass
  | _ + 1, .Raise _ _ _ => some .never
  | _ + 1, _ => none
def trSs (c : TC) (sc : Scope) : Nat → List Stmt → Option ISs
  | _, [] => some .nil
  | 0, _ => none
  | n + 1, s :: r => do some (.cons (← trS c sc n s) (← trSs c sc n r))
end
end Q
/-! How plain data lies on the abstract heap. -/
namespace Q
open PySem PySem.Spec PyProof.Rows L2

def isM : HO → Bool
  | .lst _ => true
  | .dK _ => true
  | _ => false
section
variable (K : PySem.W.Frag) (H : Hp) (φ : List Addr) (W : Addr → Prop)
mutual
def Rep : D → V → Prop
  | .non, v => v = .non
  | .bl b, v => v = .bl b
  | .int i, v => v = .int i
  | .str s, v => v = .str s
  | .tup l, v => ∃ a vs, v = .ref a ∧ SqT K H a vs ∧ Reps l vs
  | .lst l, v => ∃ a, v = .ref a ∧ ¬ W a ∧ a ∉ φ ∧ ∃ vs, H a = some (.lst vs) ∧ Reps l vs
  | .dct ks ds, v => ∃ a, v = .ref a ∧ ¬ W a ∧ a ∉ φ ∧ ∃ kvs : List (Key × V), Rd H a (.dK kvs) ∧ kvs.map (·.1) = ks.map Sum.inr ∧ Reps ds (kvs.map (·.2))
  | .scr ns, v => ∃ a, v = .ref a ∧ ((∃ o, H a = some (.frz o (.lst (ns.map V.int)))) ∨ SqL K (fun _ => none) a (ns.map V.int))
  | .obj n, v => ∃ a, v = .ref a ∧ φ[n]? = some a
def Reps : List D → List V → Prop
  | [], [] => True
  | d :: ds, v :: vs => Rep d v ∧ Reps ds vs
  | _, _ => False
end
/-- what a list or a dict holds, at an address -/
def Top (d : D) (a : Addr) : Prop := match d with
  | .lst l => ∃ vs, H a = some (.lst vs) ∧ Reps K H φ W l vs
  | .dct ks ds => ∃ kvs : List (Key × V), H a = some (.dK kvs) ∧ kvs.map (·.1) = ks.map Sum.inr ∧ Reps K H φ W ds (kvs.map (·.2))
  | _ => False
/-- as it may be looked at -/
def RepP (d : D) (v : V) : Prop := Rep K H φ W d v ∨ ∃ a, v = .ref a ∧ a ∉ φ ∧ Top K H φ W d a
end
section
variable {K : PySem.W.Frag} {H H' : Hp} {φ φ' : List Addr} {W W' : Addr → Prop}
theorem Reps.len : ∀ {ds : List D} {vs : List V}, Reps K H φ W ds vs → ds.length = vs.length
  | [], [], _ => rfl
  | d :: ds, v :: vs, h => by simp only [Reps] at h; simp [Reps.len h.2]
  | [], _ :: _, h => by simp [Reps] at h
  | _ :: _, [], h => by simp [Reps] at h
theorem Reps.cons {d : D} {v : V} {ds : List D} {vs : List V} (h : Rep K H φ W d v) (h2 : Reps K H φ W ds vs) : Reps K H φ W (d :: ds) (v :: vs) := by simp only [Reps]; exact ⟨h, h2⟩
theorem Reps.nil : Reps K H φ W [] [] := by simp only [Reps]
theorem Reps.get : ∀ {ds : List D} {vs : List V} {i : Nat} {d : D}, Reps K H φ W ds vs → ds[i]? = some d → ∃ v, vs[i]? = some v ∧ Rep K H φ W d v
  | d :: ds, v :: vs, 0, _, h, e => by simp only [Reps] at h; simp at e; subst e; exact ⟨v, rfl, h.1⟩
  | d :: ds, v :: vs, i + 1, _, h, e => by simp only [Reps] at h; simp at e; simpa using Reps.get (i := i) h.2 e
  | [], vs, _, _, h, e => by simp at e
  | _ :: _, [], _, _, h, e => by simp [Reps] at h
theorem Reps.getv : ∀ {ds : List D} {vs : List V} {i : Nat} {v : V}, Reps K H φ W ds vs → vs[i]? = some v → ∃ d, ds[i]? = some d ∧ Rep K H φ W d v
  | d :: ds, v :: vs, 0, _, h, e => by simp only [Reps] at h; simp at e; subst e; exact ⟨d, rfl, h.1⟩
  | d :: ds, v :: vs, i + 1, _, h, e => by simp only [Reps] at h; simp at e; simpa using Reps.getv (i := i) h.2 e
  | [], [], _, _, h, e => by simp at e
  | [], _ :: _, _, _, h, e => by simp [Reps] at h
  | _ :: _, [], _, _, h, e => by simp [Reps] at h
theorem Reps.append : ∀ {ds es : List D} {vs us : List V}, Reps K H φ W ds vs → Reps K H φ W es us → Reps K H φ W (ds ++ es) (vs ++ us)
  | [], _, [], _, _, h => h
  | d :: ds, _, v :: vs, _, h, h2 => by simp only [Reps] at h; exact Reps.cons h.1 (Reps.append h.2 h2)
  | [], _, _ :: _, _, h, _ => by simp [Reps] at h
  | _ :: _, _, [], _, h, _ => by simp [Reps] at h
theorem Reps.take : ∀ {ds : List D} {vs : List V} (n : Nat), Reps K H φ W ds vs → Reps K H φ W (ds.take n) (vs.take n)
  | [], [], n, _ => by simp [Reps]
  | d :: ds, v :: vs, 0, _ => Reps.nil
  | d :: ds, v :: vs, n + 1, h => by simp only [Reps] at h; exact Reps.cons h.1 (Reps.take n h.2)
  | [], _ :: _, _, h => by simp [Reps] at h
  | _ :: _, [], _, h => by simp [Reps] at h
theorem Reps.drop : ∀ {ds : List D} {vs : List V} (n : Nat), Reps K H φ W ds vs → Reps K H φ W (ds.drop n) (vs.drop n)
  | [], [], n, _ => by simp [Reps]
  | d :: ds, v :: vs, 0, h => h
  | d :: ds, v :: vs, n + 1, h => by simp only [Reps] at h; exact Reps.drop n h.2
  | [], _ :: _, _, h => by simp [Reps] at h
  | _ :: _, [], _, h => by simp [Reps] at h
theorem Reps.set : ∀ {ds : List D} {vs : List V} {d : D} {v : V} (n : Nat), Reps K H φ W ds vs → Rep K H φ W d v → Reps K H φ W (ds.set n d) (vs.set n v)
  | [], [], _, _, n, _, _ => by simp [Reps]
  | d :: ds, v :: vs, _, _, 0, h, h2 => by simp only [Reps] at h; exact Reps.cons h2 h.2
  | d :: ds, v :: vs, _, _, n + 1, h, h2 => by simp only [Reps] at h; exact Reps.cons h.1 (Reps.set n h.2 h2)
  | [], _ :: _, _, _, _, h, _ => by simp [Reps] at h
  | _ :: _, [], _, _, _, h, _ => by simp [Reps] at h
theorem Reps.dropLast {ds : List D} {vs : List V} (h : Reps K H φ W ds vs) : Reps K H φ W ds.dropLast vs.dropLast := by
  rw [List.dropLast_eq_take, List.dropLast_eq_take, h.len]; exact h.take _
theorem Reps.rep {ds : List D} {vs : List V} (h : Reps K H φ W ds vs) : ∀ k : Nat, Reps K H φ W (List.replicate k ds).flatten (List.replicate k vs).flatten
  | 0 => Reps.nil
  | k + 1 => by rw [List.replicate_succ, List.replicate_succ]; exact h.append (Reps.rep h k)
theorem Reps.ints : ∀ (ns : List Int), Reps K H φ W (ns.map .int) (ns.map V.int)
  | [] => Reps.nil
  | n :: ns => Reps.cons (by simp only [Rep]) (Reps.ints ns)

/-- the heap goes on: what stands is kept, but for cells (and, for S, what W bears) -/
structure Tr (S : Bool) (H : Hp) (φ : List Addr) (W : Addr → Prop) (H' : Hp) (φ' : List Addr) (W' : Addr → Prop) : Prop where
  keep : ∀ a o, H a = some o → (isM o = true → a ∉ φ ∧ (S = true → ¬ W a)) → H' a = some o
  w : ∀ a, W' a → W a ∨ H a = none
  dom : ∀ a, H' a = none → H a = none
  pre : φ <+: φ'
  phi : ∀ a, a ∈ φ' → a ∈ φ ∨ H a = none
theorem Tr.refl {S : Bool} : Tr S H φ W H φ W := ⟨fun _ _ h _ => h, fun _ h => .inl h, fun _ h => h, List.prefix_refl _, fun _ h => .inl h⟩
theorem Tr.weak (t : Tr false H φ W H' φ' W') : Tr true H φ W H' φ' W' := ⟨fun a o h q => t.keep a o h fun m => ⟨(q m).1, fun z => nomatch z⟩, t.w, t.dom, t.pre, t.phi⟩
theorem Tr.of {S : Bool} (t : Tr false H φ W H' φ' W') : Tr S H φ W H' φ' W' := by cases S; exact t; exact t.weak
theorem scr_sq {a : Addr} {xs : List V} (h : (∃ o, H a = some (.frz o (.lst xs))) ∨ SqL K (fun _ => none) a xs) : SqL K H a xs := by
  rcases h with ⟨o, h⟩ | h
  · exact .inl (.inr ⟨o, h⟩)
  · rcases h with (h | ⟨o, h⟩) | h
    · cases h
    · cases h
    · exact .inr h
theorem isM_none {H : Hp} {a : Addr} {o : HO} (h : H a = some o) (h2 : H a = none) : False := by rw [h] at h2; cases h2
theorem prefix_get {α : Type} {l m : List α} (h : l <+: m) {n : Nat} {a : α} (e : l[n]? = some a) : m[n]? = some a := by
  obtain ⟨t, rfl⟩ := h
  rw [List.getElem?_append_left (List.getElem?_eq_some_iff.mp e).1]; exact e
theorem SqT.go {S : Bool} (t : Tr S H φ W H' φ' W') {a : Addr} {vs : List V} (h : SqT K H a vs) : SqT K H' a vs := by
  rcases h with (h | ⟨o, h⟩) | h
  · exact .inl (.inl (t.keep _ _ h (by intro z; cases z)))
  · exact .inl (.inr ⟨o, t.keep _ _ h (by intro z; cases z)⟩)
  · exact .inr h
mutual
theorem Rep.go {S : Bool} (t : Tr S H φ W H' φ' W') : ∀ {d : D} {v : V}, Rep K H φ W d v → Rep K H' φ' W' d v
  | .non, v, h => by simp only [Rep] at h ⊢; exact h
  | .bl b, v, h => by simp only [Rep] at h ⊢; exact h
  | .int b, v, h => by simp only [Rep] at h ⊢; exact h
  | .str b, v, h => by simp only [Rep] at h ⊢; exact h
  | .tup l, v, h => by
    simp only [Rep] at h ⊢
    obtain ⟨a, vs, e, q, r⟩ := h
    exact ⟨a, vs, e, SqT.go t q, Reps.go t r⟩
  | .lst l, v, h => by
    simp only [Rep] at h ⊢
    obtain ⟨a, e, w, p, vs, q, r⟩ := h
    exact ⟨a, e, fun z => (t.w a z).elim w (isM_none q), fun z => (t.phi a z).elim p (isM_none q), vs, t.keep _ _ q (fun _ => ⟨p, fun _ => w⟩), Reps.go t r⟩
  | .dct ks ds, v, h => by
    simp only [Rep] at h ⊢
    obtain ⟨a, e, w, p, vs, q, k, r⟩ := h
    have nn : H a = none → False := fun z => q.elim (fun q => isM_none q z) fun ⟨_, q⟩ => isM_none q z
    exact ⟨a, e, fun z => (t.w a z).elim w nn, fun z => (t.phi a z).elim p nn, vs, q.elim (fun q => .inl (t.keep _ _ q (fun _ => ⟨p, fun _ => w⟩))) (fun ⟨o, q⟩ => .inr ⟨o, t.keep _ _ q (fun z => by cases z)⟩), k, Reps.go t r⟩
  | .scr ns, v, h => by
    simp only [Rep] at h ⊢
    obtain ⟨a, e, q⟩ := h
    exact ⟨a, e, q.elim (fun ⟨o, q⟩ => .inl ⟨o, t.keep _ _ q (by intro z; cases z)⟩) .inr⟩
  | .obj n, v, h => by
    simp only [Rep] at h ⊢
    obtain ⟨a, e, q⟩ := h
    exact ⟨a, e, prefix_get t.pre q⟩
theorem Reps.go {S : Bool} (t : Tr S H φ W H' φ' W') : ∀ {d : List D} {v : List V}, Reps K H φ W d v → Reps K H' φ' W' d v
  | [], [], _ => Reps.nil
  | d :: ds, v :: vs, h => by simp only [Reps] at h; exact Reps.cons (Rep.go t h.1) (Reps.go t h.2)
  | [], _ :: _, h => by simp [Reps] at h
  | _ :: _, [], h => by simp [Reps] at h
end
theorem Top.go (t : Tr false H φ W H' φ' W') {d : D} {a : Addr} (p : a ∉ φ) (h : Top K H φ W d a) : Top K H' φ' W' d a := by
  cases d with
  | lst l =>
    obtain ⟨vs, q, r⟩ := h
    exact ⟨vs, t.keep _ _ q (fun _ => ⟨p, fun z => nomatch z⟩), Reps.go t r⟩
  | dct ks ds =>
    obtain ⟨vs, q, k, r⟩ := h
    exact ⟨vs, t.keep _ _ q (fun _ => ⟨p, fun z => nomatch z⟩), k, Reps.go t r⟩
  | _ => exact h.elim
theorem Top.there {d : D} {a : Addr} (h : Top K H φ W d a) : ∃ o, H a = some o ∧ isM o = true := by
  cases d with
  | lst l => obtain ⟨vs, q, r⟩ := h; exact ⟨_, q, rfl⟩
  | dct ks ds => obtain ⟨vs, q, k, r⟩ := h; exact ⟨_, q, rfl⟩
  | _ => exact h.elim
theorem RepP.go (t : Tr false H φ W H' φ' W') {d : D} {v : V} (h : RepP K H φ W d v) : RepP K H' φ' W' d v := by
  rcases h with h | ⟨a, e, p, h⟩
  · exact .inl (h.go t)
  · obtain ⟨o, q, _⟩ := h.there
    exact .inr ⟨a, e, fun z => (t.phi a z).elim p (isM_none q), h.go t p⟩
theorem Tr.trans {S : Bool} {H2 : Hp} {φ2 : List Addr} {W2 : Addr → Prop} (t : Tr S H φ W H' φ' W') (u : Tr S H' φ' W' H2 φ2 W2) : Tr S H φ W H2 φ2 W2 where
  keep := fun a o h q => by
    have h1 := t.keep a o h q
    refine u.keep a o h1 fun m => ⟨fun z => (t.phi a z).elim (q m).1 (isM_none h), fun s z => (t.w a z).elim ((q m).2 s) (isM_none h)⟩
  w := fun a z => by
    rcases u.w a z with z | z
    · exact t.w a z
    · exact .inr (t.dom a z)
  dom := fun a z => t.dom a (u.dom a z)
  pre := t.pre.trans u.pre
  phi := fun a z => by
    rcases u.phi a z with z | z
    · exact t.phi a z
    · exact .inr (t.dom a z)
/-- W may shrink -/
theorem Tr.less {S : Bool} (h : ∀ a, W' a → W a) : Tr S H φ W H φ W' := ⟨fun _ _ h _ => h, fun a z => .inl (h a z), fun _ h => h, List.prefix_refl _, fun _ h => .inl h⟩
/-- a new object -/
theorem Tr.new {S : Bool} {p : Addr} {o : HO} (hp : H p = none) : Tr S H φ W (upd H p o) φ W :=
  ⟨fun a u h _ => by rw [upd_ne (ne_of_none h hp)]; exact h, fun _ h => .inl h, fun a z => by
    unfold upd at z; split at z
    · cases z
    · exact z, List.prefix_refl _, fun _ h => .inl h⟩
/-- .. that W bears -/
theorem Tr.newW {S : Bool} {p : Addr} {o : HO} (hp : H p = none) : Tr S H φ W (upd H p o) φ (fun a => W a ∨ a = p) :=
  ⟨fun a u h _ => by rw [upd_ne (ne_of_none h hp)]; exact h, fun a z => z.elim .inl fun e => .inr (by rw [e]; exact hp), fun a z => by
    unfold upd at z; split at z
    · cases z
    · exact z, List.prefix_refl _, fun _ h => .inl h⟩
end
end Q
/-! The state of a def's body, and lifted meanings. -/
namespace Q
open PySem PySem.Spec PyProof.Rows L2

abbrev Sg := L2.St
/-- a def's entry: the heap, what its callers hold alone, the cells -/
structure Fr where
  H0 : Hp
  Wc : Addr → Prop
  φ0 : List Addr
/-- a thing of this code's own -/
def Fr.fr (F : Fr) (a : Addr) : Prop := F.H0 a = none ∧ ¬ F.Wc a
def ownAt (L : Lo) (σ : Sg) (i : Nat) (a : Addr) : Prop := (∃ d, L[i]? = some (.own d)) ∧ σ[i]? = some (some (.ref a))
section
variable (K : PySem.W.Frag) (F : Fr) (H : Hp) (W : Addr → Prop) (φ : List Addr)
def SlotR (s : Sl) (x : Option (Option V)) : Prop := match s with
  | .no => True
  | .val d => ∃ v, x = some (some v) ∧ Rep K H φ W d v
  | .own d => ∃ a, x = some (some (.ref a)) ∧ W a ∧ F.fr a ∧ Top K H φ W d a
structure LoR (L : Lo) (σ : Sg) : Prop where
  len : L.length = σ.length
  at_ : ∀ (i : Nat) (s : Sl), L[i]? = some s → SlotR K F H W φ s σ[i]?
  apart : ∀ (i j : Nat) (a : Addr), ownAt L σ i a → ownAt L σ j a → i = j
structure StoR (S : Sto) : Prop where
  len : S.length = φ.length
  at_ : ∀ (n : Nat) (a : Addr) (l : List D), φ[n]? = some a → S[n]? = some l → ∃ vs, H a = some (.lst vs) ∧ vs.length ≤ sizeLine ∧ Reps K H φ W l vs
structure StR (L : Lo) (S : Sto) (σ : Sg) : Prop where
  ext : ∀ a o, F.H0 a = some o → (isM o = true → a ∉ F.φ0) → H a = some o
  dom : ∀ a, H a = none → F.H0 a = none
  wc : ∀ a, F.Wc a → W a
  wnew : ∀ a, W a → F.Wc a ∨ F.H0 a = none
  wt : ∀ a, W a → ∃ o, H a = some o ∧ isM o = true
  pre : F.φ0 <+: φ
  phi : ∀ a, a ∈ φ → a ∈ F.φ0 ∨ F.H0 a = none
  phw : ∀ a, a ∈ φ → ¬ W a
  nd : φ.Nodup
  st : StoR K H W φ S
  lo : LoR K F H W φ L σ
/-- an expression's value, by its flag -/
def VR (L : Lo) (σ : Sg) (f : Bool) (d : D) (v : V) : Prop := match f with
  | false => Rep K H φ W d v
  | true => ∃ a, v = .ref a ∧ W a ∧ F.fr a ∧ Top K H φ W d a ∧ ∀ i, ¬ ownAt L σ i a
end
def liftE (K : PySem.W.Frag) (t : Lo → Sto → KE → Prop) : TE := fun σ H Q => ∃ F W φ L S P, StR K F H W φ L S σ ∧ t L S P ∧
  ∀ d f L' S' H' W' φ' v, P d f L' S' → StR K F H' W' φ' L' S' σ → Tr false H φ W H' φ' W' → VR K F H' W' φ' L' σ f d v → Q v H'
def liftT (K : PySem.W.Frag) (t : Lo → Sto → KT → Prop) : TT := fun σ H Q => ∃ F W φ L S P, StR K F H W φ L S σ ∧ t L S P ∧
  ∀ b L' S' H' W' φ', P b L' S' → StR K F H' W' φ' L' S' σ → Tr false H φ W H' φ' W' → Q b H'
section
variable {K : PySem.W.Frag} {F : Fr} {H H' : Hp} {W W' : Addr → Prop} {φ φ' : List Addr} {L L' : Lo} {S S' : Sto} {σ : Sg}

theorem Tr.top (t : Tr false H φ W H' φ' W') {d : D} {a : Addr} (p : a ∉ φ) (h : Top K H φ W d a) : Top K H' φ' W' d a := h.go t p
theorem StR.phO (s : StR K F H W φ L S σ) {a : Addr} (h : W a) : a ∉ φ := fun z => s.phw a z h
/-- locals stay when the heap goes on -/
theorem LoR.go (t : Tr false H φ W H' φ' W') (h : LoR K F H W φ L σ) (hw : ∀ i a, ownAt L σ i a → a ∉ φ ∧ W' a) : LoR K F H' W' φ' L σ where
  len := h.len
  at_ := fun i s e => by
    have q := h.at_ i s e
    cases s with
    | no => trivial
    | val d => obtain ⟨v, e1, r⟩ := q; exact ⟨v, e1, r.go t⟩
    | own d =>
      obtain ⟨a, e1, w, h0, tp⟩ := q
      obtain ⟨p, w'⟩ := hw i a ⟨⟨d, e⟩, e1⟩
      exact ⟨a, e1, w', h0, tp.go t p⟩
  apart := h.apart
theorem StoR.go {S' : Bool} (t : Tr S' H φ W H' φ W') (hk : ∀ a, a ∈ φ → H' a = H a) (h : StoR K H W φ S) : StoR K H' W' φ S where
  len := h.len
  at_ := fun n a l e1 e2 => by
    obtain ⟨vs, q, z, r⟩ := h.at_ n a l e1 e2
    exact ⟨vs, by rw [hk a (List.mem_of_getElem? e1)]; exact q, z, r.go t⟩
/-- one address less is held -/
theorem StR.less (s : StR K F H W φ L S σ) (a : Addr) (ha : F.fr a) (hno : ∀ i, ¬ ownAt L σ i a) : StR K F H (fun b => W b ∧ b ≠ a) φ L S σ where
  ext := s.ext
  dom := s.dom
  wc := fun b h => ⟨s.wc b h, fun e => ha.2 (by rw [← e]; exact h)⟩
  wnew := fun b h => s.wnew b h.1
  wt := fun b h => s.wt b h.1
  pre := s.pre
  phi := s.phi
  phw := fun b h z => s.phw b h z.1
  nd := s.nd
  st := s.st.go (S' := false) (Tr.less fun b h => h.1) fun _ _ => rfl
  lo := s.lo.go (Tr.less fun b h => h.1) fun i b hb => by
    have hW : W b := by
      obtain ⟨⟨d, e⟩, e2⟩ := hb
      obtain ⟨b', e3, w, _⟩ := s.lo.at_ i _ e
      rw [e2] at e3; cases e3; exact w
    exact ⟨s.phO hW, hW, fun e => hno i (e ▸ hb)⟩
theorem Top.rep {d : D} {a : Addr} (h : Top K H φ W d a) (hw : ¬ W a) (hp : a ∉ φ) : Rep K H φ W d (.ref a) := by
  cases d with
  | lst l => simp only [Rep]; exact ⟨a, rfl, hw, hp, h⟩
  | dct ks ds => simp only [Rep]; obtain ⟨kvs, q, z⟩ := h; exact ⟨a, rfl, hw, hp, kvs, .inl q, z⟩
  | _ => exact h.elim
/-- a value is kept for good -/
theorem settle {f : Bool} {d : D} {v : V} (s : StR K F H W φ L S σ) (h : VR K F H W φ L σ f d v) : ∃ W', StR K F H W' φ L S σ ∧ Tr false H φ W H φ W' ∧ Rep K H φ W' d v := by
  cases f with
  | false => exact ⟨W, s, Tr.refl, h⟩
  | true =>
    obtain ⟨a, rfl, w, h0, tp, no⟩ := h
    refine ⟨_, s.less a h0 no, Tr.less fun b h => h.1, ?_⟩
    exact (tp.go (Tr.less fun b h => h.1) (s.phO w)).rep (fun z => z.2 rfl) (s.phO w)
theorem VR.repP {f : Bool} {d : D} {v : V} (s : StR K F H W φ L S σ) (h : VR K F H W φ L σ f d v) : RepP K H φ W d v := by
  cases f with
  | false => exact .inl h
  | true => obtain ⟨a, rfl, w, h0, tp, no⟩ := h; exact .inr ⟨a, rfl, s.phO w, tp⟩
/-- slots forgotten or told anew, the values being there -/
theorem StR.slots (s : StR K F H W φ L S σ) (hl : L'.length = L.length) (h : ∀ (i : Nat) (t : Sl), L'[i]? = some t → L[i]? = some t ∨ t = Sl.no ∨ ∃ d v, t = Sl.val d ∧ σ[i]? = some (some v) ∧ Rep K H φ W d v) : StR K F H W φ L' S σ where
  ext := s.ext
  dom := s.dom
  wc := s.wc
  wnew := s.wnew
  wt := s.wt
  pre := s.pre
  phi := s.phi
  phw := s.phw
  nd := s.nd
  st := s.st
  lo := by
    refine ⟨hl.trans s.lo.len, fun i t e => ?_, fun i j a hi hj => ?_⟩
    · rcases h i t e with h | rfl | ⟨d, v, rfl, e1, r⟩
      · exact s.lo.at_ i t h
      · trivial
      · exact ⟨v, e1, r⟩
    · have get : ∀ i, ownAt L' σ i a → ownAt L σ i a := fun i ⟨⟨d, e⟩, e2⟩ => by
        rcases h i _ e with h | h | ⟨_, _, h, _⟩
        · exact ⟨⟨d, h⟩, e2⟩
        · cases h
        · cases h
      exact s.lo.apart i j a (get i hi) (get j hj)
theorem set_cases {α : Type} {l : List α} {i j : Nat} {a b : α} (h : (l.set i a)[j]? = some b) : (j = i ∧ b = a) ∨ (j ≠ i ∧ l[j]? = some b) := by
  by_cases e : i = j
  · subst e
    have hl : i < l.length := by
      have := (List.getElem?_eq_some_iff.mp h).1
      simpa using this
    rw [List.getElem?_set_self hl] at h; cases h; exact .inl ⟨rfl, rfl⟩
  · rw [List.getElem?_set_ne e] at h; exact .inr ⟨fun z => e z.symm, h⟩
/-- a slot's list is kept for good -/
theorem StR.freeze (s : StR K F H W φ L S σ) {i : Nat} {d : D} (e : L[i]? = some (.own d)) : ∃ W' v, StR K F H W' φ (L.set i (.val d)) S σ ∧ Tr false H φ W H φ W' ∧ σ[i]? = some (some v) ∧ Rep K H φ W' d v := by
  obtain ⟨a, e1, w, h0, tp⟩ := s.lo.at_ i _ e
  have hp := s.phO w
  have rp : Rep K H φ (fun b => W b ∧ b ≠ a) d (.ref a) := (tp.go (Tr.less fun b h => h.1) hp).rep (fun z => z.2 rfl) hp
  have s1 : StR K F H W φ (L.set i .no) S σ := s.slots (by simp) fun j t et => by
    rcases set_cases et with ⟨_, rfl⟩ | ⟨_, h⟩
    · exact .inr (.inl rfl)
    · exact .inl h
  have s2 := s1.less a h0 fun j hj => by
    obtain ⟨⟨d', e'⟩, e2⟩ := hj
    rcases set_cases e' with ⟨_, h⟩ | ⟨hn, h⟩
    · cases h
    · exact hn (s.lo.apart j i a ⟨⟨d', h⟩, e2⟩ ⟨⟨d, e⟩, e1⟩)
  refine ⟨_, .ref a, s2.slots (by simp) fun j t et => ?_, Tr.less fun b h => h.1, e1, rp⟩
  rcases set_cases et with ⟨rfl, rfl⟩ | ⟨hn, h⟩
  · exact .inr (.inr ⟨d, _, rfl, e1, rp⟩)
  · exact .inl (by rw [List.getElem?_set_ne (Ne.symm hn)]; exact h)
/-- a slot is read -/
theorem StR.val (s : StR K F H W φ L S σ) {i : Nat} {d : D} (e : L[i]? = some (.val d)) : ∃ v, σ[i]? = some (some v) ∧ Rep K H φ W d v := s.lo.at_ i _ e
theorem StR.own (s : StR K F H W φ L S σ) {i : Nat} {d : D} (e : L[i]? = some (.own d)) : ∃ a, σ[i]? = some (some (.ref a)) ∧ W a ∧ F.fr a ∧ a ∉ φ ∧ Top K H φ W d a := by
  obtain ⟨a, e1, w, h0, tp⟩ := s.lo.at_ i _ e
  exact ⟨a, e1, w, h0, s.phO w, tp⟩
/-- the heap grows by an object that nobody holds alone -/
theorem StR.grow (s : StR K F H W φ L S σ) {p : Addr} {o : HO} (hp : H p = none) : StR K F (upd H p o) W φ L S σ where
  ext := fun a u h q => by
    have := s.ext a u h q
    rw [upd_ne (ne_of_none this hp)]; exact this
  dom := fun a z => s.dom a (by
    unfold upd at z; split at z
    · cases z
    · exact z)
  wc := s.wc
  wnew := s.wnew
  wt := fun a h => by
    obtain ⟨u, e, m⟩ := s.wt a h
    exact ⟨u, by rw [upd_ne (ne_of_none e hp)]; exact e, m⟩
  pre := s.pre
  phi := s.phi
  phw := s.phw
  nd := s.nd
  st := ⟨s.st.len, fun n a l e1 e2 => by
    obtain ⟨vs, q, z, r⟩ := s.st.at_ n a l e1 e2
    exact ⟨vs, by rw [upd_ne (ne_of_none q hp)]; exact q, z, r.go (S := false) (Tr.new hp)⟩⟩
  lo := s.lo.go (Tr.new hp) fun i a ⟨⟨d, e⟩, e2⟩ => by
    obtain ⟨a', e3, w, _, p, _⟩ := s.own e
    rw [e2] at e3; cases e3; exact ⟨p, w⟩
/-- a new object that the code holds alone -/
theorem StR.growW (s : StR K F H W φ L S σ) {p : Addr} {o : HO} (hp : H p = none) (hm : isM o = true) (hz : p ∉ φ := by assumption) : StR K F (upd H p o) (fun a => W a ∨ a = p) φ L S σ where
  ext := (s.grow (o := o) hp).ext
  dom := (s.grow (o := o) hp).dom
  wc := fun a h => .inl (s.wc a h)
  wnew := fun a h => h.elim (s.wnew a) fun e => .inr (by rw [e]; exact s.dom p hp)
  wt := fun a h => h.elim ((s.grow (o := o) hp).wt a) fun e => ⟨o, by rw [e]; exact upd_same, hm⟩
  pre := s.pre
  phi := s.phi
  phw := fun a h z => z.elim (s.phw a h) fun e => hz (e ▸ h)
  nd := s.nd
  st := ⟨s.st.len, fun n a l e1 e2 => by
    obtain ⟨vs, q, z, r⟩ := s.st.at_ n a l e1 e2
    exact ⟨vs, by rw [upd_ne (ne_of_none q hp)]; exact q, z, r.go (S := false) (Tr.newW hp)⟩⟩
  lo := s.lo.go (Tr.newW hp) fun i a ⟨⟨d, e⟩, e2⟩ => by
    obtain ⟨a', e3, w, _, p, _⟩ := s.own e
    rw [e2] at e3; cases e3; exact ⟨p, .inl w⟩
theorem StR.phN (s : StR K F H W φ L S σ) {p : Addr} (hp : H p = none) : p ∉ φ := fun z => by
  obtain ⟨n, hn⟩ := List.mem_iff_getElem?.mp z
  have hl : n < S.length := by rw [s.st.len]; exact (List.getElem?_eq_some_iff.mp hn).1
  obtain ⟨vs, q, _⟩ := s.st.at_ n p S[n] hn (List.getElem?_eq_getElem hl)
  rw [hp] at q; cases q
theorem StR.frN (s : StR K F H W φ L S σ) {p : Addr} (hp : H p = none) : F.fr p := ⟨s.dom p hp, fun z => by
  obtain ⟨o, e, _⟩ := s.wt p (s.wc p z)
  rw [hp] at e; cases e⟩
theorem StR.noOwn (s : StR K F H W φ L S σ) {p : Addr} (hp : H p = none) : ∀ i, ¬ ownAt L σ i p := fun i ⟨⟨d, e⟩, e2⟩ => by
  obtain ⟨a', e3, w, _, _, t⟩ := s.own e
  rw [e2] at e3; cases e3
  obtain ⟨o, q, _⟩ := t.there
  rw [hp] at q; cases q
end
end Q
/-! The operators, over the heap. -/
namespace Q
open PySem PySem.Spec PyProof.Rows L2

def OpX (X : Cx) (f : Value → Value → Sem Value) : R2 := fun x y H Q => ∃ r, OpR X f r ∧ r x y H Q
theorem opX (X : Cx) (f : Value → Value → Sem Value) : OpR X f (OpX X f) := fun pins s σ H x y v u Q I rx ry h => by
  obtain ⟨r, hr, h⟩ := h
  exact hr pins s σ H x y v u Q I rx ry h
def CaX (X : Cx) (f : Value) : List V → Hp → VK → Prop := fun xs H Q => ∃ r, CallR X f r ∧ r xs H Q
theorem caX (X : Cx) (f : Value) : CallR X f (CaX X f) := fun pins s σ H xs us Q I rr h => by
  obtain ⟨r', hr, h⟩ := h
  exact hr pins s σ H xs us Q I rr h
def IxX (X : Cx) : R2 := fun x y H Q => ∃ r, IxR X r ∧ r x y H Q
theorem ixX (X : Cx) : IxR X (IxX X) := fun e1 e2 pins s σ H x y v u Q I rx ry h => by
  obtain ⟨r, hr, h⟩ := h
  exact hr e1 e2 pins s σ H x y v u Q I rx ry h
def SlX (X : Cx) : V → Option Int → Option Int → Hp → VK → Prop := fun x lo hi H Q => ∃ r, SlR X r ∧ r x lo hi H Q
theorem slX (X : Cx) : SlR X (SlX X) := fun pins s σ H x v vl vu lo hi sl Q I rx hs pl pu h => by
  obtain ⟨r, hr, h⟩ := h
  exact hr pins s σ H x v vl vu lo hi sl Q I rx hs pl pu h

section
variable {K : PySem.W.Frag} {F : Fr} {H : Hp} {W : Addr → Prop} {φ : List Addr} {L : Lo} {S : Sto} {σ : Sg}
theorem RepP.of {d : D} {v : V} (h : Rep K H φ W d v) : RepP K H φ W d v := .inl h
theorem RepP.int {i : Int} {v : V} (h : RepP K H φ W (.int i) v) : v = .int i := by
  rcases h with h | ⟨_, _, _, h⟩
  · simpa only [Rep] using h
  · exact h.elim
theorem RepP.str {i : Str} {v : V} (h : RepP K H φ W (.str i) v) : v = .str i := by
  rcases h with h | ⟨_, _, _, h⟩
  · simpa only [Rep] using h
  · exact h.elim
theorem RepP.bl {i : Bool} {v : V} (h : RepP K H φ W (.bl i) v) : v = .bl i := by
  rcases h with h | ⟨_, _, _, h⟩
  · simpa only [Rep] using h
  · exact h.elim
theorem RepP.non {v : V} (h : RepP K H φ W .non v) : v = .non := by
  rcases h with h | ⟨_, _, _, h⟩
  · simpa only [Rep] using h
  · exact h.elim
theorem RepP.tup {l : List D} {v : V} (h : RepP K H φ W (.tup l) v) : ∃ a vs, v = .ref a ∧ SqT K H a vs ∧ Reps K H φ W l vs := by
  rcases h with h | ⟨_, _, _, h⟩
  · simpa only [Rep] using h
  · exact h.elim
theorem RepP.lst {l : List D} {v : V} (h : RepP K H φ W (.lst l) v) : ∃ a vs, v = .ref a ∧ a ∉ φ ∧ H a = some (.lst vs) ∧ Reps K H φ W l vs := by
  rcases h with h | ⟨a, e, p, vs, h, r⟩
  · simp only [Rep] at h
    obtain ⟨a, e, w, p, vs, h, r⟩ := h
    exact ⟨a, vs, e, p, h, r⟩
  · exact ⟨a, vs, e, p, h, r⟩
theorem RepP.dct {ks : List Str} {l : List D} {v : V} (h : RepP K H φ W (.dct ks l) v) : ∃ a, ∃ kvs : List (Key × V), v = .ref a ∧ a ∉ φ ∧ Rd H a (.dK kvs) ∧ kvs.map (·.1) = ks.map Sum.inr ∧ Reps K H φ W l (kvs.map (·.2)) := by
  rcases h with h | ⟨a, e, p, vs, h, k, r⟩
  · simp only [Rep] at h
    obtain ⟨a, e, w, p, vs, h, k, r⟩ := h
    exact ⟨a, vs, e, p, h, k, r⟩
  · exact ⟨a, vs, e, p, .inl h, k, r⟩
theorem RepP.scr {ns : List Int} {v : V} (h : RepP K H φ W (.scr ns) v) : ∃ a, v = .ref a ∧ ((∃ o, H a = some (.frz o (.lst (ns.map V.int)))) ∨ SqL K (fun _ => none) a (ns.map V.int)) := by
  rcases h with h | ⟨_, _, _, h⟩
  · simpa only [Rep] using h
  · exact h.elim
theorem RepP.obj {n : Nat} {v : V} (h : RepP K H φ W (.obj n) v) : ∃ a, v = .ref a ∧ φ[n]? = some a := by
  rcases h with h | ⟨_, _, _, h⟩
  · simpa only [Rep] using h
  · exact h.elim
/-- what an operator's answer has to serve -/
def Fin (K : PySem.W.Frag) (F : Fr) (H : Hp) (W : Addr → Prop) (φ : List Addr) (L : Lo) (S : Sto) (σ : Sg) (R : KF) (Q : VK) : Prop :=
  ∀ d f w H' W', R d f → StR K F H' W' φ L S σ → Tr false H φ W H' φ W' → VR K F H' W' φ L σ f d w → Q w H'
section
variable {R : KF} {Q : VK}
theorem Fin.same (q : Fin K F H W φ L S σ R Q) (s : StR K F H W φ L S σ) {d : D} {v : V} (h : R d false) (r : Rep K H φ W d v) : Q v H := q d false v H W h s Tr.refl r
theorem Fin.newL (q : Fin K F H W φ L S σ R Q) (s : StR K F H W φ L S σ) {l : List D} {vs : List V} (h : R (.lst l) true) (r : Reps K H φ W l vs) {p : Addr} (hp : H p = none) : Q (.ref p) (upd H p (.lst vs)) := by
  refine q (.lst l) true (.ref p) _ _ h (s.growW hp rfl (s.phN hp)) (Tr.newW hp) ⟨p, rfl, .inr rfl, s.frN hp, ⟨vs, upd_same, r.go (S := false) (Tr.newW hp)⟩, s.noOwn hp⟩
theorem Fin.newT (q : Fin K F H W φ L S σ R Q) (s : StR K F H W φ L S σ) {l : List D} {vs : List V} (h : R (.tup l) false) (r : Reps K H φ W l vs) {p : Addr} (hp : H p = none) : Q (.ref p) (upd H p (.tup vs)) := by
  refine q (.tup l) false (.ref p) _ _ h (s.grow hp) (Tr.new hp) ?_
  show Rep _ _ _ _ _ _
  simp only [Rep]
  exact ⟨p, vs, rfl, .inl (.inl upd_same), r.go (S := false) (Tr.new hp)⟩
end
theorem Reps.nil_iff {l : List D} {vs : List V} (h : Reps K H φ W l vs) : vs = [] ↔ l = [] := by
  have := h.len
  constructor <;> intro e <;> subst e
  · exact List.length_eq_zero_iff.mp this
  · exact List.length_eq_zero_iff.mp this.symm
variable {X : Cx} {R : KF} {Q : VK} {x y : D} {v u : V}
theorem prim_add (hK : X.K = K) (s : StR K F H W φ L S σ) (hx : RepP K H φ W x v) (hy : RepP K H φ W y u) (h : dAdd x y R) (q : Fin K F H W φ L S σ R Q) : OpX X (binaryOp .Add) v u H Q := by
  subst hK
  unfold dAdd at h
  split at h
  · have := hx.int; have := hy.int; subst_vars
    exact ⟨_, op_add, _, _, rfl, rfl, q.same s h (by simp only [Rep])⟩
  · have := hx.str; have := hy.str; subst_vars
    exact ⟨_, op_add_str, _, _, rfl, rfl, h.1, q.same s h.2 (by simp only [Rep])⟩
  · obtain ⟨a, xs, rfl, e1, r1⟩ := hx.tup
    obtain ⟨b, ys, rfl, e2, r2⟩ := hy.tup
    refine ⟨_, op_catA, a, b, xs, ys, rfl, rfl, e1, e2, by rw [← r1.len, ← r2.len]; exact h.1, fun z => ?_, fun z z2 => ?_, fun z z2 p hp => q.newT s h.2 (r1.append r2) hp⟩
    · have := r1.nil_iff.mp z; subst this
      exact q.same s (v := .ref b) h.2 (by simp only [Rep]; exact ⟨b, ys, rfl, e2, by simpa using r2⟩)
    · have := r2.nil_iff.mp z2; subst this
      exact q.same s (v := .ref a) h.2 (by simp only [Rep]; exact ⟨a, xs, rfl, e1, by simpa using r1⟩)
  · obtain ⟨a, xs, rfl, _, e1, r1⟩ := hx.lst
    obtain ⟨b, ys, rfl, _, e2, r2⟩ := hy.lst
    exact ⟨_, op_cat, a, b, xs, ys, rfl, rfl, e1, e2, by rw [← r1.len, ← r2.len]; exact h.1, fun p hp => q.newL s h.2 (r1.append r2) hp⟩
  · exact h.elim
theorem tuple_mul1 (l : Addr) (items : Array Value) (n : Nat) (dd : Option Addr) (sl : Array (Option Value)) (u : Tok) :
    Meets (Builtin.«tuple.__mul__» ⟨[.ref l, .int 1 u], []⟩) (fun _ R s => s.heap.get? l = some { cls := .type "tuple", dict := dd, data := .seq items n, slots := sl } ∧
      R (.ok (.ret (Value.ref l))) s) :=
  .of_wp fun prog w A R s h => by
    obtain ⟨hp, g, d, tk, os⟩ := s
    obtain ⟨hl, h⟩ := h
    have f1 := AutoSeq1.idx_int
    wp_walk using wpAny_loadPart' hl
    exact ⟨_, rfl, h⟩
theorem tuple_mul0 (l : Addr) (items : Array Value) (n : Nat) (dd : Option Addr) (sl : Array (Option Value)) (u : Tok) (c1 : (items.isEmpty || (0 : Int) == 1) = false) :
    Meets (Builtin.«tuple.__mul__» ⟨[.ref l, .int 0 u], []⟩) (fun _ R s => s.heap.get? l = some { cls := .type "tuple", dict := dd, data := .seq items n, slots := sl } ∧
      R (.ok (.ret (Value.ref s.heap.objs.size))) { s with heap := s.heap.push { cls := Value.type "tuple", data := Data.seq #[] }, toks := s.toks }) :=
  .of_wp fun prog w A R s h => by
    obtain ⟨hp, g, d, tk, os⟩ := s
    obtain ⟨hl, h⟩ := h
    have f1 := AutoSeq1.idx_int
    wp_walk using wpAny_loadPart' hl
    repeat (first
      | (refine wpAny_ite_false (decide_eq_false (by rw [c1]; exact Bool.false_ne_true)) ?_; wp_walk using wpAny_loadPart' hl))
    exact ⟨_, rfl, h⟩
/-- a tuple, once or not at all -/
def rRep01 (K : PySem.W.Frag) : R2 := fun x y H Q => ∃ l k xs, x = .ref l ∧ y = .int k ∧ SqT K H l xs ∧ xs ≠ [] ∧ ((k = 1 ∧ Q (.ref l) H) ∨ (k = 0 ∧ ∀ p, H p = none → Q (.ref p) (upd H p (.tup []))))
theorem op_rep01 {X : Cx} : OpR X (binaryOp .Mult) (rRep01 X.K) := by
  intro pins s σ H x y v u Q I rx ry h
  obtain ⟨l, k, xs, rfl, rfl, hT, hne, q⟩ := h
  cases rx
  obtain ⟨t, rfl⟩ := ry
  obtain ⟨its, r, ⟨⟨cls, dd, data, sl⟩, ho, hc, n, hd⟩, hs⟩ := I.tuple hT
  simp only at hc hd
  subst hc hd
  have hle : its.length = xs.length := r.length.symm
  have hn : its ≠ [] := fun e => hne (by
    rw [e] at hle
    exact List.eq_nil_of_length_eq_zero hle.symm)
  have hi : its.toArray.isEmpty = false := by
    cases its with
    | nil => exact absurd rfl hn
    | cons a b => rfl
  rcases q with ⟨rfl, q⟩ | ⟨rfl, q⟩
  · refine wpAny_binaryOp_repeat_ref (T := "tuple") (U := "int") (by decide) ⟨_, ho, rfl⟩ (fun s' => typeIs_int s' 1 t) noFill_tuple_mul F.fills_int_mul F.slot_int_rmul repeat_tuple F.slot_int_index.lookup
      (call_meets F.slot_int_rmul (typeIs_int s 1 t) F.entry_int_rmul (F.args_int_rmul_2 _ _) (int_rmul_tuple 1 t l its.toArray n dd sl)
        ⟨ho, rfl, ⟨_, ho, rfl⟩, call_meets F.slot_tuple_mul ⟨_, ho, rfl⟩ F.entry_tuple_mul (F.args_tuple_mul_2 _ _) (tuple_mul1 l its.toArray n dd sl t) ⟨ho, ?_⟩⟩)
    exact ⟨.ref l, H, I, rfl, q⟩
  · refine wpAny_binaryOp_repeat_ref (T := "tuple") (U := "int") (by decide) ⟨_, ho, rfl⟩ (fun s' => typeIs_int s' 0 t) noFill_tuple_mul F.fills_int_mul F.slot_int_rmul repeat_tuple F.slot_int_index.lookup
      (call_meets F.slot_int_rmul (typeIs_int s 0 t) F.entry_int_rmul (F.args_int_rmul_2 _ _) (int_rmul_tuple 0 t l its.toArray n dd sl)
        ⟨ho, rfl, ⟨_, ho, rfl⟩, call_meets F.slot_tuple_mul ⟨_, ho, rfl⟩ F.entry_tuple_mul (F.args_tuple_mul_2 _ _) (tuple_mul0 l its.toArray n dd sl t (by rw [hi]; rfl)) ⟨ho, ?_⟩⟩)
    refine ⟨.ref s.heap.objs.size, _, I.laid (t' := s.toks) (o := .tup []) (fun b ob q => Heap.get?_push_of_some _ q) (Nat.le_refl _) ?_, rfl, q _ (I.hok.fresh (Nat.le_refl _))⟩
    exact ⟨Nat.zero_le _, [], .nil, IsTup.new _ _⟩
theorem prim_mul (hK : X.K = K) (s : StR K F H W φ L S σ) (hx : RepP K H φ W x v) (hy : RepP K H φ W y u) (h : dMul x y R) (q : Fin K F H W φ L S σ R Q) : OpX X (binaryOp .Mult) v u H Q := by
  subst hK
  unfold dMul at h
  split at h
  · have := hx.int; have := hy.int; subst_vars
    rename_i _ _ _ i j
    obtain ⟨h, hr⟩ := h
    have hq : Q (.int (i * j)) H := q.same s hr (by simp only [Rep])
    rcases h with h | h | ⟨h1, h2⟩
    · exact ⟨_, op_mul, _, _, rfl, rfl, .inl h, hq⟩
    · exact ⟨_, op_mul, _, _, rfl, rfl, .inr h, hq⟩
    · exact ⟨_, op_mulW, _, _, rfl, rfl, wide_mul h1 h2 (by decide) (by decide) (by decide), hq⟩
  · have := hy.int; subst this
    obtain ⟨a, xs, rfl, e1, r1⟩ := hx.tup
    obtain ⟨⟨h1, h2, h3, h4⟩, h⟩ := h
    rename_i l k
    by_cases hk : 2 ≤ k
    · exact ⟨_, op_repT, a, _, xs, rfl, rfl, e1, fun z => h1 (r1.nil_iff.mp z), hk, h3, by rw [← r1.len]; exact h4, fun p hp => q.newT s h (r1.rep _) hp⟩
    · have hk2 : k = 1 ∨ k = 0 := by omega
      refine ⟨_, op_rep01, a, k, xs, rfl, rfl, e1, fun z => h1 (r1.nil_iff.mp z), ?_⟩
      rcases hk2 with rfl | rfl
      · refine .inl ⟨rfl, q.same s h ?_⟩
        simp only [Rep]
        exact ⟨a, xs, rfl, e1, by simpa using r1⟩
      · exact .inr ⟨rfl, fun p hp => q.newT s h (r1.rep 0) hp⟩
  · exact h.elim
def opOf : BO → Operator
  | .add => .Add | .sub => .Sub | .mul => .Mult | .fdiv => .FloorDiv | .mod => .Mod | .pow => .Pow
theorem prim_bin {op : BO} (hK : X.K = K) (s : StR K F H W φ L S σ) (hx : RepP K H φ W x v) (hy : RepP K H φ W y u) (h : dBin op x y R) (q : Fin K F H W φ L S σ R Q) : OpX X (binaryOp (opOf op)) v u H Q := by
  unfold dBin at h
  split at h
  · exact prim_add hK s hx hy h q
  · have := hx.int; have := hy.int; subst_vars
    exact ⟨_, op_sub, _, _, rfl, rfl, q.same s h (by simp only [Rep])⟩
  · exact prim_mul hK s hx hy h q
  · have := hx.int; have := hy.int; subst_vars
    exact ⟨_, op_fdivW, _, _, rfl, rfl, wide_div h.1.1 h.1.2 (by decide) (by decide), q.same s h.2 (by simp only [Rep])⟩
  · have := hx.int; have := hy.int; subst_vars
    exact ⟨_, op_modN, _, _, rfl, rfl, h.1, q.same s h.2 (by simp only [Rep])⟩
  · have := hx.int; have := hy.int; subst_vars
    exact ⟨_, op_pow, _, _, rfl, rfl, h.1, q.same s h.2 (by simp only [Rep])⟩
  · exact h.elim
/-! comparisons -/
mutual
theorem Rep.dp : ∀ {d : D} {v : V}, Rep K H φ W d v → d.plain = true → Dp K H v d.py
  | .non, v, h, _ => by simp only [Rep] at h; subst h; exact .non
  | .bl b, v, h, _ => by simp only [Rep] at h; subst h; exact .bl b
  | .int b, v, h, _ => by simp only [Rep] at h; subst h; exact .int b
  | .str b, v, h, _ => by simp only [Rep] at h; subst h; exact .str b
  | .tup l, v, h, p => by
    simp only [Rep] at h
    obtain ⟨a, vs, rfl, q, r⟩ := h
    exact .tup q (Reps.dp r (by simpa only [D.plain] using p))
  | .lst l, v, h, p => by
    simp only [Rep] at h
    obtain ⟨a, rfl, _, _, vs, q, r⟩ := h
    exact .lst (SqL.of q) (Reps.dp r (by simpa only [D.plain] using p))
  | .dct _ _, v, h, p => by simp [D.plain] at p
  | .scr _, v, h, p => by simp [D.plain] at p
  | .obj _, v, h, p => by simp [D.plain] at p
theorem Reps.dp : ∀ {d : List D} {v : List V}, Reps K H φ W d v → D.plains d = true → DpAll K H v (D.pys d)
  | [], [], _, _ => .nil
  | d :: ds, v :: vs, h, p => by
    simp only [Reps] at h
    simp only [D.plains, Bool.and_eq_true] at p
    exact .cons (Rep.dp h.1 p.1) (Reps.dp h.2 p.2)
  | [], _ :: _, h, _ => by simp [Reps] at h
  | _ :: _, [], h, _ => by simp [Reps] at h
end
theorem RepP.dp {d : D} {v : V} (h : RepP K H φ W d v) (p : d.plain = true) : Dp K H v d.py := by
  rcases h with h | ⟨a, rfl, _, t⟩
  · exact h.dp p
  · cases d with
    | lst l =>
      obtain ⟨vs, q, r⟩ := t
      exact .lst (SqL.of q) (r.dp (by simpa only [D.plain] using p))
    | dct _ _ => simp [D.plain] at p
    | _ => exact t.elim
theorem pys_any (x : D) : ∀ l : List D, (D.pys l).any (fun z => PyData.eqv z x.py) = l.any fun z => z.eq x
  | [] => rfl
  | d :: r => by simp only [D.pys, List.any_cons, pys_any x r]; rfl
theorem eqOk_iff {d : D} (h : d.eqOk = true) : d.plain = true ∧ SeqAt.shaped d.py = true := by simpa [D.eqOk] using h
theorem op_inT (hu : X.A.units + 65 < cLine) : OpR X (compareOp .In) (fun x y H Q => ∃ d ds, Dp X.K H x d ∧ Dp X.K H y (.tuple ds) ∧ SeqAt.shaped d = true ∧ SeqAt.shaped (.tuple ds) = true ∧ Q (.bl (ds.any fun z => PyData.eqv z d)) H) := by
  intro pins s σ H x y v u Q I rx ry h
  obtain ⟨d, ds, hd, he, sd, se, q⟩ := h
  obtain ⟨as, r1⟩ := Dp.reads I d x v hd rx
  obtain ⟨bs, r2⟩ := Dp.reads I (.tuple ds) y u he ry
  exact SeqAt.in_tuple_reads r2 r1 (SeqAt.canLay_of_shaped se) (SeqAt.canLay_of_shaped sd) (room_in_shaped sd hu) ⟨.bl _, H, I, rfl, q⟩
theorem op_notInT (hu : X.A.units + 65 < cLine) : OpR X (compareOp .NotIn) (fun x y H Q => ∃ d ds, Dp X.K H x d ∧ Dp X.K H y (.tuple ds) ∧ SeqAt.shaped d = true ∧ SeqAt.shaped (.tuple ds) = true ∧ Q (.bl (!ds.any fun z => PyData.eqv z d)) H) := by
  intro pins s σ H x y v u Q I rx ry h
  obtain ⟨d, ds, hd, he, sd, se, q⟩ := h
  obtain ⟨as, r1⟩ := Dp.reads I d x v hd rx
  obtain ⟨bs, r2⟩ := Dp.reads I (.tuple ds) y u he ry
  exact SeqAt.notIn_tuple_reads r2 r1 (SeqAt.canLay_of_shaped se) (SeqAt.canLay_of_shaped sd) (room_in_shaped sd hu) ⟨.bl _, H, I, rfl, q⟩
/-! dicts -/
theorem look_rep {k : Str} : ∀ {ks : List Str} {l : List D} {kvs : List (Key × V)}, kvs.map (·.1) = ks.map Sum.inr → Reps K H φ W l (kvs.map (·.2)) →
    (∀ d, dLook ks l k = some d → ∃ w, valV kvs (Sum.inr k) = some w ∧ Rep K H φ W d w) ∧ (ks.length = l.length → (valV kvs (Sum.inr k : Key)).isSome = (dLook ks l k).isSome)
  | [], l, [], _, _ => ⟨fun d h => by simp [dLook] at h, fun _ => rfl⟩
  | [], _, _ :: _, e, _ => by simp at e
  | _ :: _, _, [], e, _ => by simp at e
  | k' :: ks, [], kv :: kvs, e, r => by simp [Reps] at r
  | k' :: ks, d :: l, kv :: kvs, e, r => by
    simp only [List.map_cons, List.cons.injEq] at e
    simp only [List.map_cons, Reps] at r
    have ih := look_rep (k := k) (ks := ks) e.2 r.2
    by_cases h : k' = k
    · subst h
      have : valV (kv :: kvs) (Sum.inr k' : Key) = some kv.2 := valV_pos e.1
      rw [this]
      exact ⟨fun d' hd => by
        rw [dLook, if_pos rfl] at hd
        cases hd
        exact ⟨_, rfl, r.1⟩, fun _ => by rw [dLook, if_pos rfl]; rfl⟩
    · have : valV (kv :: kvs) (Sum.inr k : Key) = valV kvs (Sum.inr k) := valV_neg (by rw [e.1]; intro z; cases z; exact h rfl)
      rw [this]
      exact ⟨fun d' hd => by
        rw [dLook, if_neg h] at hd
        exact ih.1 d' hd, fun hl => by rw [dLook, if_neg h]; exact ih.2 (by simpa using hl)⟩
theorem op_inDk (hu : X.A.units + 1 < cLine) : OpR X (compareOp .In) (fun y x H Q => ∃ a o, x = .ref a ∧ DGet H a y o ∧ Q (.bl o.isSome) H) := by
  intro pins s σ H x y v u Q I rx ry h
  obtain ⟨a, o, rfl, g, q⟩ := h
  cases ry
  exact d_in hu I g rx fun s' I' => ⟨.bl _, H, I', rfl, q⟩
theorem op_notInDk (hu : X.A.units + 1 < cLine) : OpR X (compareOp .NotIn) (fun y x H Q => ∃ a o, x = .ref a ∧ DGet H a y o ∧ Q (.bl (!o.isSome)) H) := by
  intro pins s σ H x y v u Q I rx ry h
  obtain ⟨a, o, rfl, g, q⟩ := h
  cases ry
  exact d_notIn hu I g rx fun s' I' => ⟨.bl _, H, I', rfl, q⟩
theorem op_isB : OpR X (compareOp .Is) (fun x y H Q => ∃ b, y = .bl b ∧ Q (.bl (decide (x = .bl b))) H) := by
  intro pins s σ H x y v u Q I rx ry h
  obtain ⟨b, rfl, q⟩ := h
  cases (show u = Value.bool b from ry)
  by_cases e : x = .bl b
  · subst e
    cases (show v = Value.bool b from rx)
    exact wpAny_is_self rfl ⟨.bl true, H, I, rfl, by simpa using q⟩
  · have hv : plainIs v (.bool b) = true ∧ v ≠ .bool b := by
      cases x <;> first
        | (cases rx; exact ⟨rfl, fun z => by first | (cases z; exact e rfl) | cases z⟩)
        | (obtain ⟨t, rfl⟩ := rx; exact ⟨rfl, fun z => by cases z⟩)
    exact wpAny_is_other hv.1 hv.2 ⟨.bl false, H, I, rfl, by simpa [e] using q⟩
theorem op_isnB : OpR X (compareOp .IsNot) (fun x y H Q => ∃ b, y = .bl b ∧ Q (.bl (!decide (x = .bl b))) H) := by
  intro pins s σ H x y v u Q I rx ry h
  obtain ⟨b, rfl, q⟩ := h
  cases (show u = Value.bool b from ry)
  by_cases e : x = .bl b
  · subst e
    cases (show v = Value.bool b from rx)
    exact wpAny_isNot_self rfl ⟨.bl false, H, I, rfl, by simpa using q⟩
  · have hv : plainIs v (.bool b) = true ∧ v ≠ .bool b := by
      cases x <;> first
        | (cases rx; exact ⟨rfl, fun z => by first | (cases z; exact e rfl) | cases z⟩)
        | (obtain ⟨t, rfl⟩ := rx; exact ⟨rfl, fun z => by cases z⟩)
    exact wpAny_isNot_other hv.1 hv.2 ⟨.bl true, H, I, rfl, by simpa [e] using q⟩
theorem isBl_dec {d : D} {k : Bool} (h : RepP K H φ W d v) : decide (v = .bl k) = d.isBl k := by
  rcases h with h | ⟨a, rfl, _, t⟩
  · cases d with
    | non => simp only [Rep] at h; subst h; rfl
    | bl b => simp only [Rep] at h; subst h; cases b <;> cases k <;> rfl
    | int b => simp only [Rep] at h; subst h; rfl
    | str b => simp only [Rep] at h; subst h; rfl
    | tup l => simp only [Rep] at h; obtain ⟨a, vs, rfl, _⟩ := h; rfl
    | lst l => simp only [Rep] at h; obtain ⟨a, rfl, _⟩ := h; rfl
    | dct ks l => simp only [Rep] at h; obtain ⟨a, rfl, _⟩ := h; rfl
    | scr l => simp only [Rep] at h; obtain ⟨a, rfl, _⟩ := h; rfl
    | obj l => simp only [Rep] at h; obtain ⟨a, rfl, _⟩ := h; rfl
  · cases d with
    | lst l => rfl
    | dct ks l => rfl
    | _ => exact t.elim
theorem prim_mem {P : Bool → Prop} (hK : X.K = K) (hu : X.A.units + 200 < cLine) (hx : RepP K H φ W x v) (hy : RepP K H φ W y u) (h : dMem x y P) (q : ∀ b, P b → Q (.bl b) H) : OpX X (compareOp .In) v u H Q := by
  subst hK
  unfold dMem at h
  split at h
  · have := hx.str; have := hy.str; subst_vars
    exact ⟨_, op_in_str, _, _, rfl, rfl, q _ h⟩
  · obtain ⟨h1, h2, h⟩ := h
    have h1 := eqOk_iff h1; have h2 := eqOk_iff h2
    exact ⟨_, op_inT (by omega), _, _, hx.dp h1.1, hy.dp h2.1, h1.2, h2.2, by rw [pys_any]; exact q _ h⟩
  · obtain ⟨h1, h2, h⟩ := h
    have h1 := eqOk_iff h1; have h2 := eqOk_iff h2
    exact ⟨_, op_inD (by omega), _, _, hx.dp h1.1, hy.dp h2.1, h1.2, h2.2, by rw [pys_any]; exact q _ h⟩
  · have := hx.str; subst this
    obtain ⟨a, kvs, rfl, _, e, ek, r⟩ := hy.dct
    rename_i kk _ _ _
    have := (look_rep (k := kk) ek r).2 h.1
    refine ⟨_, op_inDk (by omega), a, _, rfl, .inl ⟨kvs, .inr _, e, rfl, rfl⟩, ?_⟩
    rw [this]; exact q _ h.2
  · exact h.elim
theorem prim_nmem {P : Bool → Prop} (hK : X.K = K) (hu : X.A.units + 200 < cLine) (hx : RepP K H φ W x v) (hy : RepP K H φ W y u) (h : dMem x y fun b => P (!b)) (q : ∀ b, P b → Q (.bl b) H) : OpX X (compareOp .NotIn) v u H Q := by
  subst hK
  unfold dMem at h
  split at h
  · have := hx.str; have := hy.str; subst_vars
    exact ⟨_, L2.op_notIn_str, _, _, rfl, rfl, q _ h⟩
  · obtain ⟨h1, h2, h⟩ := h
    have h1 := eqOk_iff h1; have h2 := eqOk_iff h2
    exact ⟨_, op_notInT (by omega), _, _, hx.dp h1.1, hy.dp h2.1, h1.2, h2.2, by rw [pys_any]; exact q _ h⟩
  · obtain ⟨h1, h2, h⟩ := h
    have h1 := eqOk_iff h1; have h2 := eqOk_iff h2
    exact ⟨_, op_notInD (by omega), _, _, hx.dp h1.1, hy.dp h2.1, h1.2, h2.2, by rw [pys_any]; exact q _ h⟩
  · have := hx.str; subst this
    obtain ⟨a, kvs, rfl, _, e, ek, r⟩ := hy.dct
    rename_i kk _ _ _
    have := (look_rep (k := kk) ek r).2 h.1
    refine ⟨_, op_notInDk (by omega), a, _, rfl, .inl ⟨kvs, .inr _, e, rfl, rfl⟩, ?_⟩
    rw [this]; exact q _ h.2
  · exact h.elim
theorem prim_lt {P : Bool → Prop} (hx : RepP K H φ W x v) (hy : RepP K H φ W y u) (h : dLt x y P) (q : ∀ b, P b → Q (.bl b) H) : OpX X (compareOp .Lt) v u H Q := by
  unfold dLt at h
  split at h
  · have := hx.int; have := hy.int; subst_vars
    exact ⟨_, op_lt, _, _, rfl, rfl, q _ h⟩
  · have := hx.str; have := hy.str; subst_vars
    exact ⟨_, op_lt_str, _, _, rfl, rfl, q _ h⟩
  · exact h.elim
theorem isNon_dec {d : D} (h : RepP K H φ W d v) : decide (v = .non) = d.isNon := by
  rcases h with h | ⟨a, rfl, _, t⟩
  · cases d with
    | non => simp only [Rep] at h; subst h; rfl
    | bl b => simp only [Rep] at h; subst h; rfl
    | int b => simp only [Rep] at h; subst h; rfl
    | str b => simp only [Rep] at h; subst h; rfl
    | tup l => simp only [Rep] at h; obtain ⟨a, vs, rfl, _⟩ := h; rfl
    | lst l => simp only [Rep] at h; obtain ⟨a, rfl, _⟩ := h; rfl
    | dct ks l => simp only [Rep] at h; obtain ⟨a, rfl, _⟩ := h; rfl
    | scr l => simp only [Rep] at h; obtain ⟨a, rfl, _⟩ := h; rfl
    | obj l => simp only [Rep] at h; obtain ⟨a, rfl, _⟩ := h; rfl
  · cases d with
    | lst l => rfl
    | dct ks l => rfl
    | _ => exact t.elim
theorem eqQ_cases {x y : D} (h : eqQ x y = true) : (∃ a b, x = .str a ∧ y = .str b) ∨ (x.eqOk = true ∧ y.eqOk = true) := by
  cases x <;> cases y <;> first | exact .inl ⟨_, _, rfl, rfl⟩ | exact .inr (by simpa [eqQ] using h)
def coOf : CO → CmpOp
  | .eq => .Eq | .ne => .NotEq | .lt => .Lt | .le => .LtE | .gt => .Gt | .ge => .GtE | .is => .Is | .isn => .IsNot | .mem => .In | .nmem => .NotIn
theorem prim_cmp {op : CO} {P : Bool → Prop} (hK : X.K = K) (hu : X.A.units + 200 < cLine) (hx : RepP K H φ W x v) (hy : RepP K H φ W y u) (h : dCmp op x y P) (q : ∀ b, P b → Q (.bl b) H) : OpX X (compareOp (coOf op)) v u H Q := by
  unfold dCmp at h
  split at h
  · subst hK
    obtain ⟨h0, h⟩ := h
    rcases eqQ_cases h0 with ⟨a, b, rfl, rfl⟩ | ⟨h1, h2⟩
    · have := hx.str; have := hy.str; subst_vars
      exact ⟨_, op_eq, rfl, by rw [dec_str]; exact q _ h⟩
    · have h1 := eqOk_iff h1; have h2 := eqOk_iff h2
      exact ⟨_, op_eqD (by omega), _, _, hx.dp h1.1, hy.dp h2.1, h1.2, h2.2, q _ h⟩
  · subst hK
    obtain ⟨h0, h⟩ := h
    rcases eqQ_cases h0 with ⟨a, b, rfl, rfl⟩ | ⟨h1, h2⟩
    · have := hx.str; have := hy.str; subst_vars
      exact ⟨_, op_ne, rfl, by rw [dec_str]; exact q _ h⟩
    · have h1 := eqOk_iff h1; have h2 := eqOk_iff h2
      exact ⟨_, op_neD (by omega), _, _, hx.dp h1.1, hy.dp h2.1, h1.2, h2.2, q _ h⟩
  · exact prim_lt hx hy h q
  · have := hx.int; have := hy.int; subst_vars
    exact ⟨_, op_gt, _, _, rfl, rfl, q _ h⟩
  · have := hx.str; have := hy.str; subst_vars
    exact ⟨_, op_gt_str, _, _, rfl, rfl, q _ h⟩
  · have := hx.int; have := hy.int; subst_vars
    exact ⟨_, op_le, _, _, rfl, rfl, q _ h⟩
  · have := hx.str; have := hy.str; subst_vars
    exact ⟨_, op_le_str, _, _, rfl, rfl, q _ h⟩
  · have := hx.int; have := hy.int; subst_vars
    exact ⟨_, op_ge, _, _, rfl, rfl, q _ h⟩
  · have := hy.non; subst this
    exact ⟨_, op_isN, rfl, by rw [isNon_dec hx]; exact q _ h⟩
  · have := hy.non; subst this
    exact ⟨_, op_notN, rfl, by rw [isNon_dec hx]; exact q _ h⟩
  · have := hy.bl; subst this
    exact ⟨_, op_isB, _, rfl, by rw [isBl_dec hx]; exact q _ h⟩
  · have := hy.bl; subst this
    exact ⟨_, op_isnB, _, rfl, by rw [isBl_dec hx]; exact q _ h⟩
  · exact prim_mem hK hu hx hy h q
  · exact prim_nmem hK hu hx hy h q
  · exact h.elim
theorem isEmpty_len {l : List D} {vs : List V} (h : l.length = vs.length) : (!l.isEmpty) = !vs.isEmpty := by
  cases l <;> cases vs <;> simp_all
theorem prim_truth {P : Bool → Prop} {d : D} (h : RepP K H φ W d v) (t : d.truth P) : ∃ k, TruV K v H k ∧ P k := by
  unfold D.truth at t
  split at t
  · have := h.non; subst this; exact ⟨_, rfl, t⟩
  · have := h.bl; subst this; exact ⟨_, rfl, t⟩
  · have := h.int; subst this; exact ⟨_, rfl, t⟩
  · have := h.str; subst this; exact ⟨_, ⟨t.1, rfl⟩, t.2⟩
  · obtain ⟨a, vs, rfl, q, r⟩ := h.tup
    exact ⟨_, .inr (.inl ⟨vs, q, isEmpty_len r.len⟩), t⟩
  · obtain ⟨a, vs, rfl, _, q, r⟩ := h.lst
    exact ⟨_, .inl ⟨vs, SqL.of q, isEmpty_len r.len⟩, t⟩
  · exact t.elim
end
end Q
/-! Built-in functions, subscripts, over the heap. -/
namespace Q
open PySem PySem.Spec PyProof.Rows L2
theorem kitTab : ∀ t ∈ ["NoneType", "bool", "int", "str", "tuple", "list", "dict"], ∀ T ∈ isTys, kitB t T = some (t == T || (t == "bool" && T == "int")) := by decide +kernel
section
variable {K : PySem.W.Frag} {F : Fr} {H : Hp} {W : Addr → Prop} {φ : List Addr} {L : Lo} {S : Sto} {σ : Sg} {X : Cx} {R : KF} {Q : VK} {x y : D} {v u : V}
def tyName : D → String
  | .non => "NoneType" | .bl _ => "bool" | .int _ => "int" | .str _ => "str" | .tup _ => "tuple" | .lst _ => "list" | .dct _ _ => "dict" | _ => ""
theorem tyX_of (h : RepP K H φ W x v) (hn : tyName x ≠ "") : TyX K H v (.type (tyName x)) := by
  cases x with
  | non => have := h.non; subst this; exact .base .non
  | bl b => have := h.bl; subst this; exact .base (.bl b)
  | int b => have := h.int; subst this; exact .base (.int b)
  | str b => have := h.str; subst this; exact .base (.str b)
  | tup l =>
    obtain ⟨a, vs, rfl, (q | ⟨o, q⟩) | ⟨o, its, n, h1, h2, _⟩, r⟩ := h.tup
    · exact .base (.tup q)
    · exact .fTuple q
    · exact .kTuple h1 h2
  | lst l => obtain ⟨a, vs, rfl, _, q, r⟩ := h.lst; exact .base (.lst q)
  | dct ks l =>
    obtain ⟨a, vs, rfl, _, q, r⟩ := h.dct
    rcases q with q | ⟨o, q⟩
    · exact .base (.dK q)
    · exact .fDict q
  | scr _ => exact (hn rfl).elim
  | obj _ => exact (hn rfl).elim
theorem tyName_mem : ∀ x : D, tyName x ≠ "" → tyName x ∈ ["NoneType", "bool", "int", "str", "tuple", "list", "dict"] := fun x h => by
  cases x <;> first
    | exact (h rfl).elim
    | (show _ ∈ _; simp [tyName])
theorem isA_eq {T : String} {b : Bool} (hT : T ∈ isTys) (h : x.isA T = some b) : tyName x ≠ "" ∧ b = (tyName x == T || (tyName x == "bool" && T == "int")) := by
  have hT' : T = "str" ∨ T = "int" ∨ T = "bool" ∨ T = "tuple" ∨ T = "list" ∨ T = "dict" := by simpa [isTys] using hT
  cases x <;> rcases hT' with rfl | rfl | rfl | rfl | rfl | rfl <;> simp [D.isA, tyName] at h ⊢ <;> exact h
theorem isA_kit {T : String} {b : Bool} (hT : T ∈ isTys) (h : x.isA T = some b) : tyName x ≠ "" ∧ kitB (tyName x) T = some b := by
  obtain ⟨h1, h2⟩ := isA_eq hT h
  exact ⟨h1, by rw [h2]; exact kitTab _ (tyName_mem x h1) _ hT⟩
theorem prim_isa {T : String} {b : Bool} (hK : X.K = K) (hT : T ∈ isTys) (h : x.isA T = some b) (hx : RepP K H φ W x v) (q : Q (.bl b) H) : CaX X (.builtin "isinstance") [v, .ty T] H Q := by
  subst hK
  obtain ⟨h1, h2⟩ := isA_kit hT h
  exact ⟨_, call_isi, _, _, _, _, _, rfl, .ty T, tyX_of hx h1, kit_ty h2, q⟩
theorem atI_rep {l : List D} {vs : List V} {i : Int} {d : D} (r : Reps K H φ W l vs) (h : L2.atI l i = some d) : ∃ w, L2.atI vs i = some w ∧ Rep K H φ W d w := by
  unfold L2.atI at h ⊢
  rw [← r.len]
  cases e : L2.ixN l.length i with
  | none => rw [e] at h; simp at h
  | some j => rw [e] at h; exact r.get h
theorem ix_dk (hu : X.A.units + 1 < cLine) : IxR X (fun x y H Q => ∃ a v, x = .ref a ∧ DGet H a y (some v) ∧ Q v H) := by
  intro e1 e2 pins s σ H x y v u Q I rx ry h hs
  obtain ⟨a, w, rfl, g, q⟩ := h
  cases rx
  exact tail_any (dict_typeIs I g) slot_dict_getitem.lookup (d_getItem hu I g ry fun w' s' I' r => ⟨w, H, I', r, q⟩) hs
theorem prim_idx {P : D → Prop} (hK : X.K = K) (hu : X.A.units + 200 < cLine) (s : StR K F H W φ L S σ) (hx : RepP K H φ W x v) (hy : RepP K H φ W y u) (h : dIdx S x y P) (q : ∀ d w, P d → Rep K H φ W d w → Q w H) : IxX X v u H Q := by
  subst hK
  unfold dIdx at h
  split at h
  · have := hy.int; subst this
    obtain ⟨a, vs, rfl, e, r⟩ := hx.tup
    obtain ⟨d, h1, h2⟩ := h
    obtain ⟨w, hw, rw'⟩ := atI_rep r h1
    exact ⟨_, ix_tup, a, vs, _, w, rfl, rfl, e, hw, q d w h2 rw'⟩
  · have := hy.int; subst this
    obtain ⟨a, vs, rfl, _, e, r⟩ := hx.lst
    obtain ⟨d, h1, h2⟩ := h
    obtain ⟨w, hw, rw'⟩ := atI_rep r h1
    exact ⟨_, ix_list, a, vs, _, w, rfl, rfl, SqL.of e, hw, q d w h2 rw'⟩
  · have := hy.int; subst this
    obtain ⟨a, rfl, e⟩ := hx.obj
    obtain ⟨l, d, h0, h1, h2⟩ := h
    obtain ⟨vs, hq, _, r⟩ := s.st.at_ _ _ _ e h0
    obtain ⟨w, hw, rw'⟩ := atI_rep r h1
    exact ⟨_, ix_list, a, vs, _, w, rfl, rfl, SqL.of hq, hw, q d w h2 rw'⟩
  · have := hy.str; subst this
    obtain ⟨a, kvs, rfl, _, e, ek, r⟩ := hx.dct
    obtain ⟨d, h1, h2⟩ := h
    obtain ⟨w, hw, rw'⟩ := (look_rep ek r).1 d h1
    exact ⟨_, ix_dk (by omega), a, w, rfl, .inl ⟨kvs, .inr _, e, rfl, hw.symm⟩, q d w h2 rw'⟩
  · have := hx.str; have := hy.int; subst_vars
    obtain ⟨c, h0, h1, h2⟩ := h
    exact ⟨_, ix_str, _, _, c, rfl, rfl, h0, h1, q _ _ h2 (by simp only [Rep])⟩
  · exact h.elim
theorem Reps.strs : ∀ (ks : List Str), Reps K H φ W (ks.map .str) (ks.map (kV ∘ Sum.inr))
  | [] => Reps.nil
  | n :: ns => Reps.cons (by simp only [Rep]; rfl) (Reps.strs ns)
theorem Fin.newD (q : Fin K F H W φ L S σ R Q) (s : StR K F H W φ L S σ) {ks : List Str} {l : List D} {kvs : List (Key × V)} (h : R (.dct ks l) true) (ek : kvs.map (·.1) = ks.map Sum.inr) (r : Reps K H φ W l (kvs.map (·.2))) {p : Addr} (hp : H p = none) : Q (.ref p) (upd H p (.dK kvs)) :=
  q (.dct ks l) true (.ref p) _ _ h (s.growW hp rfl (s.phN hp)) (Tr.newW hp) ⟨p, rfl, .inr rfl, s.frN hp, ⟨kvs, upd_same, ek, r.go (S := false) (Tr.newW hp)⟩, s.noOwn hp⟩
theorem cut_rep {l : List D} {vs : List V} {lo hi : Option Int} (r : Reps K H φ W l vs) : Reps K H φ W (cut l lo hi) (cutV vs lo hi) := by
  unfold cut cutV
  rw [r.len]
  exact (r.drop _).take _
theorem cut_map {α β : Type} (f : α → β) (l : List α) (lo hi : Option Int) : (cut l lo hi).map f = cut (l.map f) lo hi := by
  unfold cut
  simp [List.map_take, List.map_drop]
theorem prim_slc {lo hi : Option Int} (hK : X.K = K) (s : StR K F H W φ L S σ) (hx : RepP K H φ W x v) (h : dSlc x lo hi R) (q : Fin K F H W φ L S σ R Q) : SlX X v lo hi H Q := by
  subst hK
  unfold dSlc at h
  split at h
  · obtain ⟨a, vs, rfl, e, r⟩ := hx.tup
    refine ⟨_, sl_tupA, a, vs, rfl, e, fun z => ?_, fun _ p hp => q.newT s h (cut_rep r) hp⟩
    have ec : cutV vs lo hi = vs := by unfold cutV; rw [z.1, z.2]; simp
    have hc := cut_rep (lo := lo) (hi := hi) r
    rw [ec] at hc
    exact q.same s h (by simp only [Rep]; exact ⟨a, vs, rfl, e, hc⟩)
  · obtain ⟨a, vs, rfl, _, e, r⟩ := hx.lst
    exact ⟨_, sl_list, a, vs, rfl, SqL.of e, fun p hp => q.newL s h (cut_rep r) hp⟩
  · obtain ⟨a, rfl, e⟩ := hx.scr
    refine ⟨_, sl_list, a, _, rfl, scr_sq e, fun p hp => q.newL s h ?_ hp⟩
    rw [cut_map]
    exact cut_rep (Reps.ints _)
  · exact h.elim
theorem allB_rep : ∀ {l : List D} {bs : List Bool} {vs : List V}, allB l = some bs → Reps K H φ W l vs → vs = bs.map V.bl
  | [], _, [], h, _ => by simp [allB] at h; subst h; rfl
  | .bl b :: l, bs, v :: vs, h, r => by
    simp only [allB] at h
    cases e : allB l with
    | none => rw [e] at h; simp at h
    | some cs =>
      rw [e] at h; simp at h; subst h
      simp only [Reps, Rep] at r
      rw [r.1, allB_rep e r.2]; rfl
  | [], _, _ :: _, h, r => by simp [Reps] at r
  | .bl _ :: _, _, [], h, r => by simp [Reps] at r
  | .non :: _, _, _, h, r => by simp [allB] at h
  | .int _ :: _, _, _, h, r => by simp [allB] at h
  | .str _ :: _, _, _, h, r => by simp [allB] at h
  | .tup _ :: _, _, _, h, r => by simp [allB] at h
  | .lst _ :: _, _, _, h, r => by simp [allB] at h
  | .dct _ _ :: _, _, _, h, r => by simp [allB] at h
  | .scr _ :: _, _, _, h, r => by simp [allB] at h
  | .obj _ :: _, _, _, h, r => by simp [allB] at h
theorem allI_rep : ∀ {l : List D} {bs : List Int} {vs : List V}, allI l = some bs → Reps K H φ W l vs → vs = bs.map V.int
  | [], _, [], h, _ => by simp [allI] at h; subst h; rfl
  | .int b :: l, bs, v :: vs, h, r => by
    simp only [allI] at h
    cases e : allI l with
    | none => rw [e] at h; simp at h
    | some cs =>
      rw [e] at h; simp at h; subst h
      simp only [Reps, Rep] at r
      rw [r.1, allI_rep e r.2]; rfl
  | [], _, _ :: _, h, r => by simp [Reps] at r
  | .int _ :: _, _, [], h, r => by simp [Reps] at r
  | .non :: _, _, _, h, r => by simp [allI] at h
  | .bl _ :: _, _, _, h, r => by simp [allI] at h
  | .str _ :: _, _, _, h, r => by simp [allI] at h
  | .tup _ :: _, _, _, h, r => by simp [allI] at h
  | .lst _ :: _, _, _, h, r => by simp [allI] at h
  | .dct _ _ :: _, _, _, h, r => by simp [allI] at h
  | .scr _ :: _, _, _, h, r => by simp [allI] at h
  | .obj _ :: _, _, _, h, r => by simp [allI] at h
inductive RepPs (K : PySem.W.Frag) (H : Hp) (φ : List Addr) (W : Addr → Prop) : List D → List V → Prop where
  | nil : RepPs K H φ W [] []
  | cons {d : D} {v : V} {ds : List D} {vs : List V} (h : RepP K H φ W d v) (r : RepPs K H φ W ds vs) : RepPs K H φ W (d :: ds) (v :: vs)
theorem RepPs.one {d : D} {vs : List V} (h : RepPs K H φ W [d] vs) : ∃ v, vs = [v] ∧ RepP K H φ W d v := by
  cases h with
  | cons h r => cases r; exact ⟨_, rfl, h⟩
theorem RepPs.two {d e : D} {vs : List V} (h : RepPs K H φ W [d, e] vs) : ∃ v u, vs = [v, u] ∧ RepP K H φ W d v ∧ RepP K H φ W e u := by
  cases h with
  | cons h r =>
    cases r with
    | cons h2 r => cases r; exact ⟨_, _, rfl, h, h2⟩
theorem RepPs.go {H' : Hp} {φ' : List Addr} {W' : Addr → Prop} (t : Tr false H φ W H' φ' W') : ∀ {ds : List D} {vs : List V}, RepPs K H φ W ds vs → RepPs K H' φ' W' ds vs
  | _, _, .nil => .nil
  | _, _, .cons h r => .cons (h.go t) (r.go t)
theorem call_lenDr : CallR X (.builtin "len") (fun xs H Q => ∃ a kvs, xs = [V.ref a] ∧ Rd H a (.dK kvs) ∧ Q (.int kvs.length) H) := by
  intro pins s σ H xs us Q I r h
  obtain ⟨a, kvs, rfl, e, q⟩ := h
  rw [Vals.ref1 r]
  exact d_len I e fun t s' I' => ⟨.int _, H, I', ⟨_, rfl⟩, q⟩
def bltV (T : String) : Value := if types1.contains T then .type T else .builtin T
theorem prim_blt {T : String} {ds : List D} {vs : List V} (hK : X.K = K) (hc : X.calm = true) (s : StR K F H W φ L S σ) (r : RepPs K H φ W ds vs) (h : dBlt S T ds R) (q : Fin K F H W φ L S σ R Q) : CaX X (bltV T) vs H Q := by
  subst hK
  unfold dBlt at h
  split at h
  · obtain ⟨v, rfl, h1⟩ := r.one
    obtain ⟨a, vs, rfl, e, r⟩ := h1.tup
    refine ⟨_, call_len, _, _, rfl, .inr ⟨vs, e, rfl⟩, q.same s h (by simp only [Rep]; rw [r.len])⟩
  · obtain ⟨v, rfl, h1⟩ := r.one
    obtain ⟨a, vs, rfl, _, e, r⟩ := h1.lst
    refine ⟨_, call_len, _, _, rfl, .inl ⟨vs, SqL.of e, rfl⟩, q.same s h (by simp only [Rep]; rw [r.len])⟩
  · obtain ⟨v, rfl, h1⟩ := r.one
    obtain ⟨a, rfl, e⟩ := h1.scr
    refine ⟨_, call_len, _, _, rfl, .inl ⟨_, scr_sq e, rfl⟩, q.same s h (by simp only [Rep, List.length_map])⟩
  · obtain ⟨v, rfl, h1⟩ := r.one
    have := h1.str; subst this
    exact ⟨_, call_len, _, _, rfl, ⟨h.1, rfl⟩, q.same s h.2 (by simp only [Rep])⟩
  · obtain ⟨v, rfl, h1⟩ := r.one
    obtain ⟨a, kvs, rfl, _, e, k, r⟩ := h1.dct
    refine ⟨_, call_lenDr, _, _, rfl, e, q.same s h ?_⟩
    simp only [Rep]
    have := congrArg List.length k
    simp only [List.length_map] at this
    rw [this]
  · obtain ⟨v, rfl, h1⟩ := r.one
    obtain ⟨a, rfl, e⟩ := h1.obj
    obtain ⟨l, h0, h⟩ := h
    obtain ⟨vs, hq, _, r⟩ := s.st.at_ _ _ _ e h0
    refine ⟨_, call_len, _, _, rfl, .inl ⟨vs, SqL.of hq, rfl⟩, q.same s h (by simp only [Rep]; rw [r.len])⟩
  · obtain ⟨v, rfl, h1⟩ := r.one
    obtain ⟨a, vs, rfl, _, e, r⟩ := h1.lst
    obtain ⟨bs, h0, h⟩ := h
    have := allB_rep h0 r; subst this
    exact ⟨_, cr_all hc, _, _, rfl, SqL.of e, q.same s h (by simp only [Rep])⟩
  · obtain ⟨v, rfl, h1⟩ := r.one
    obtain ⟨a, vs, rfl, _, e, r⟩ := h1.lst
    obtain ⟨bs, h0, h⟩ := h
    have := allB_rep h0 r; subst this
    exact ⟨_, cr_any hc, _, _, rfl, SqL.of e, q.same s h (by simp only [Rep])⟩
  · obtain ⟨v, rfl, h1⟩ := r.one
    obtain ⟨a, vs, rfl, _, e, r⟩ := h1.lst
    obtain ⟨bs, h0, h⟩ := h
    have := allI_rep h0 r; subst this
    exact ⟨_, cr_sum hc, _, _, rfl, SqL.of e, q.same s h (by simp only [Rep])⟩
  · obtain ⟨v, rfl, h1⟩ := r.one
    obtain ⟨a, vs, rfl, _, e, r⟩ := h1.lst
    exact ⟨_, call_tuple_of, _, _, rfl, .inl ⟨SqL.of e, fun p hp => q.newT s h r hp⟩⟩
  · obtain ⟨v, rfl, h1⟩ := r.one
    obtain ⟨a, vs, rfl, e, r⟩ := h1.tup
    exact ⟨_, call_tuple_of, _, _, rfl, .inr ⟨e, q.same s h (by simp only [Rep]; exact ⟨a, vs, rfl, e, r⟩)⟩⟩
  · obtain ⟨v, rfl, h1⟩ := r.one
    obtain ⟨a, vs, rfl, _, e, r⟩ := h1.lst
    exact ⟨_, call_list_of, _, _, rfl, .inl (SqL.of e), fun p hp => q.newL s h r hp⟩
  · obtain ⟨v, rfl, h1⟩ := r.one
    obtain ⟨a, vs, rfl, e, r⟩ := h1.tup
    exact ⟨_, call_list_of, _, _, rfl, .inr e, fun p hp => q.newL s h r hp⟩
  · obtain ⟨v, rfl, h1⟩ := r.one
    obtain ⟨a, rfl, e⟩ := h1.scr
    exact ⟨_, call_list_of, _, _, rfl, .inl (scr_sq e), fun p hp => q.newL s h (Reps.ints _) hp⟩
  · obtain ⟨v, rfl, h1⟩ := r.one
    have := h1.int; subst this
    exact ⟨_, call_int1, .inl ⟨_, rfl, q.same s h (by simp only [Rep])⟩⟩
  · obtain ⟨v, u, rfl, h1, h2⟩ := r.two
    have := h1.int; have := h2.int; subst_vars
    exact ⟨_, call_min2 hc, _, _, rfl, q.same s h (by simp only [Rep])⟩
  · obtain ⟨v, u, rfl, h1, h2⟩ := r.two
    have := h1.int; have := h2.int; subst_vars
    exact ⟨_, call_max2 hc, _, _, rfl, q.same s h (by simp only [Rep])⟩
  · obtain ⟨v, rfl, h1⟩ := r.one
    obtain ⟨a, vs, rfl, _, e, r⟩ := h1.lst
    obtain ⟨ns, m, h0, hm, h⟩ := h
    have := allI_rep h0 r; subst this
    rw [List.min?_eq_some_iff] at hm
    refine ⟨_, cr_min hc, _, ns, rfl, SqL.of e, List.length_pos_of_mem hm.1, fun m' h1 h2 => ?_⟩
    have : m' = m := Int.le_antisymm (h2 m hm.1) (hm.2 m' h1)
    rw [this]
    exact q.same s h (by simp only [Rep])
  · obtain ⟨v, rfl, h1⟩ := r.one
    obtain ⟨a, vs, rfl, _, e, r⟩ := h1.lst
    obtain ⟨ns, m, h0, hm, h⟩ := h
    have := allI_rep h0 r; subst this
    rw [List.max?_eq_some_iff] at hm
    refine ⟨_, cr_max hc, _, ns, rfl, SqL.of e, List.length_pos_of_mem hm.1, fun m' h1 h2 => ?_⟩
    have : m' = m := Int.le_antisymm (hm.2 m' h1) (h2 m hm.1)
    rw [this]
    exact q.same s h (by simp only [Rep])
  · obtain ⟨v, rfl, h1⟩ := r.one
    obtain ⟨a, kvs, rfl, _, e, ek, r⟩ := h1.dct
    exact ⟨_, call_dictD, a, kvs, rfl, e, fun p hp => q.newD s h ek r hp⟩
  · obtain ⟨v, rfl, h1⟩ := r.one
    obtain ⟨a, kvs, rfl, _, e, ek, r⟩ := h1.dct
    refine ⟨_, call_listD hc, a, kvs, rfl, e, fun p hp => q.newL s h ?_ hp⟩
    have : kvs.map (fun kv => kV kv.1) = (kvs.map (·.1)).map kV := by rw [List.map_map]; rfl
    rw [this, ek, List.map_map]
    exact Reps.strs _
  · exact h.elim
end
end Q
/-! Soundness: expressions. -/
namespace Q
open PySem PySem.Spec PyProof.Rows L2

def liftP (K : PySem.W.Frag) (t : Lo → Sto → KP → Prop) : TE := fun σ H Q => ∃ F W φ L S P, StR K F H W φ L S σ ∧ t L S P ∧
  ∀ d L' S' H' W' φ' v, P d L' S' → StR K F H' W' φ' L' S' σ → Tr false H φ W H' φ' W' → RepP K H' φ' W' d v → Q v H'
/-- a list of values, each kept for good -/
def liftA (K : PySem.W.Frag) (t : Lo → Sto → (List D → Lo → Sto → Prop) → Prop) : TA := fun σ H Q => ∃ F W φ L S P, StR K F H W φ L S σ ∧ t L S P ∧
  ∀ ds L' S' H' W' φ' vs, P ds L' S' → StR K F H' W' φ' L' S' σ → Tr false H φ W H' φ' W' → Reps K H' φ' W' ds vs → Q vs H'
/-- .. each looked at -/
def liftQ (K : PySem.W.Frag) (t : Lo → Sto → (List D → Lo → Sto → Prop) → Prop) : TA := fun σ H Q => ∃ F W φ L S P, StR K F H W φ L S σ ∧ t L S P ∧
  ∀ ds L' S' H' W' φ' vs, P ds L' S' → StR K F H' W' φ' L' S' σ → Tr false H φ W H' φ' W' → RepPs K H' φ' W' ds vs → Q vs H'
/-- what is lent -/
def LentR (K : PySem.W.Frag) (H : Hp) (φ : List Addr) (W : Addr → Prop) (σ : Sg) (bs : List Nat) (ds : List D) (vs : List V) : Prop :=
  Reps K H φ (fun a => W a ∧ ∀ i ∈ bs, σ[i]? ≠ some (some (.ref a))) ds vs
def liftC (K : PySem.W.Frag) (t : List Nat → Lo → Sto → (List D → List Nat → Lo → Sto → Prop) → Prop) : TA := fun σ H Q => ∃ bs0 F W φ L S P, StR K F H W φ L S σ ∧ t bs0 L S P ∧
  ∀ ds bs L' S' H' W' φ' vs, P ds bs L' S' → StR K F H' W' φ' L' S' σ → Tr false H φ W H' φ' W' → (∀ i, i ∈ bs0 → i ∈ bs) → LentR K H' φ' W' σ bs ds vs → Q vs H'

theorem PE.imp {X : Cx} {e : Expr} {t u : TE} (h : PE X e t) (k : ∀ σ H Q, u σ H Q → t σ H Q) : PE X e u := ⟨fun pins s σ H Q I hw => h.run pins s σ H Q I (k σ H Q hw)⟩
theorem PA.imp {X : Cx} {e : List Expr} {t u : TA} (h : PA X e t) (k : ∀ σ H Q, u σ H Q → t σ H Q) : PA X e u := ⟨fun pos pins s σ H Q I hw => h.run pos pins s σ H Q I (k σ H Q hw)⟩
theorem PT.imp {X : Cx} {e : Expr} {t u : TT} (h : PT X e t) (k : ∀ σ H Q, u σ H Q → t σ H Q) : PT X e u := ⟨fun pins s σ H Q I hw => h.run pins s σ H Q I (k σ H Q hw)⟩
theorem PW.imp {X : Cx} {e : Expr} {t u : TT} (h : PW X e t) (k : ∀ σ H Q, u σ H Q → t σ H Q) : PW X e u := ⟨fun wh pins s σ H Q I hw => h.run wh pins s σ H Q I (k σ H Q hw)⟩
theorem PI.imp {X : Cx} {tg e : Expr} {t u : TI} (h : PI X tg e t) (k : ∀ σ H Q, u σ H Q → t σ H Q) : PI X tg e u := ⟨fun pins s σ H Q I hw => h.run pins s σ H Q I (k σ H Q hw)⟩
theorem PO.imp {X : Cx} {e : Option Expr} {t u : TO} (h : PO X e t) (k : ∀ σ H Q, u σ H Q → t σ H Q) : PO X e u := by
  refine ⟨?_⟩
  intro pins s σ H Q I hw
  exact h.run pins s σ H Q I (k σ H Q hw)

/-- what a call promises: the meaning C of the def f with np parameters -/
def SpQ (K : PySem.W.Frag) (C : Calls) (f : Str) (np : Nat) : Sp := fun vs H Q _ => vs.length = np ∧ ∃ W φ S ds P,
  (∀ a, W a → ∃ o, H a = some o ∧ isM o = true) ∧ φ.Nodup ∧ (∀ a, a ∈ φ → ¬ W a) ∧ StoR K H W φ S ∧ Reps K H φ W ds vs ∧ C f ds S P ∧
  ∀ r S' H' φ' v, P r S' → Tr false H φ W H' φ' W → StoR K H' W φ' S' → φ'.Nodup → (∀ a, a ∈ φ' → ¬ W a) → Rep K H' φ' W r v → Q v H'

def bnames : List String := ["len", "all", "any", "sum", "tuple", "list", "int", "str", "bool", "dict", "isinstance", "range", "zip", "min", "max", "sorted", "set", "repr", "enumerate"]
structure GX (c : TC) (C : Calls) (sc : Scope) (X : Cx) : Prop where
  N : X.N = c.N
  nd : c.N.Nodup
  calm : X.calm = true
  xe : X.xe = fun _ _ => False
  fn : ∀ x, sc.names.lookup x = some NameKind.cell → X.fn x = true
  sc : ∀ x, X.env.scope.names.lookup x = sc.names.lookup x ∨ (sc.names.lookup x = some .free ∧ X.env.scope.names.lookup x = some .cell)
  kind : X.env.scope.kind = .function
  hu : X.A.units + 200 < cLine
  bi : ∀ b ∈ bnames, X.mg (b : Str) = none
  gl : ∀ x d, c.gl.lookup x = some d → ∃ u v, X.mg x = some u ∧ RelV v u ∧ ∀ H φ W, Rep X.K H φ W d v
  fs : ∀ f np dv, c.fs.lookup f = some (np, dv) → ∃ (a : Addr) (fd : FuncData) (ps : List Str) (k : Nat), X.mg f = some (.ref a) ∧ PySem.W.keepIn X.K (.ref a) = true ∧ ps.length = np ∧
    Room k X.A ∧ FnOk X.prog X.w X.K X.mg X.base CX0 k a fd ps (SpQ X.K C f np) ∧
    ∀ n, n ≤ dv.length → ∃ us ws, Binds X.K fd ps us ∧ Vals ws us ∧ ∀ H φ W, Reps X.K H φ W (dv.drop n) ws
/-- an expression's meaning holds -/
structure SE (X : Cx) (C : Calls) (e : Expr) (i : IE) : Prop where
  l : ∀ j, i = .loc j → PE X e (tVar j)
  v : PE X e (liftE X.K (wE C i))
  p : PE X e (liftP X.K (pk i (wE C i)))
def IE.isLoc : IE → Bool
  | .loc _ => true
  | _ => false
section
variable {X : Cx} {C : Calls} {c : TC} {sc : Scope}
theorem SE.of {e : Expr} {i : IE} (hn : i.isLoc = false) (h : PE X e (liftE X.K (wE C i))) : SE X C e i := by
  refine ⟨fun j e => (by rw [e] at hn; cases hn), h, PE.imp h fun σ H Q ⟨F, W, φ, L, S, P, s, ht, q⟩ => ?_⟩
  refine ⟨F, W, φ, L, S, fun d _ L' S' => P d L' S', s, ?_, fun d f L' S' H' W' φ' v hP s' t vr => q d L' S' H' W' φ' v hP s' t (vr.repP s')⟩
  cases i <;> first | exact ht | cases hn
theorem GX.vis (G : GX c C sc X) {x : Str} (h : vis sc x = true) : Vis X.env.scope x := by
  unfold Q.vis at h
  have := G.sc x
  unfold Vis
  cases e : sc.names.lookup x with
  | none => rw [e] at h; cases h
  | some k =>
    rw [e] at h this
    cases k <;> simp_all
    rcases this with z | z
    · exact .inr (.inr z)
    · exact .inr (.inl z)
theorem GX.gl_ (G : GX c C sc X) {x : Str} (h : glb sc x = true) : Gl X x := by
  unfold glb at h
  have := G.sc x
  unfold Gl Env.kindOf
  cases e : sc.names.lookup x with
  | none => rw [e] at h; cases h
  | some k =>
    rw [e] at h this
    cases k <;> simp_all
theorem idx_get {l : List Str} {x : Str} {i : Nat} (h : l.idxOf? x = some i) : l[i]? = some x := by
  rw [List.idxOf?_eq_some_iff] at h
  obtain ⟨h, e, _⟩ := h
  rw [List.getElem?_eq_getElem h]
  have : l[i] = x := by simpa using e
  rw [this]
theorem fine_of {x : Str} (h : fine x = true) : (x == ("__debug__" : Str)) = false ∧ (x == ("__classdict__" : Str)) = false ∧ x ≠ "__name__" := by
  unfold fine at h
  simp only [Bool.and_eq_true, Bool.not_eq_true'] at h
  refine ⟨h.1.1, h.1.2, fun z => ?_⟩
  have := h.2
  rw [z] at this
  simp at this
/-- a name of the def -/
theorem se_loc (G : GX c C sc X) {x : Str} {i : Nat} {pos : Pos} (hf : fine x = true) (hv : vis sc x = true) (hi : c.N.idxOf? x = some i) : SE X C (.Name x pos) (.loc i) := by
  have hN : X.N[i]? = some x := by rw [G.N]; exact idx_get hi
  obtain ⟨f1, f2, f3⟩ := fine_of hf
  have h := pe_var (pos := pos) hN (G.vis hv) f1 f2
  refine ⟨fun j e => (by cases e; exact h), PE.imp h fun σ H Q ⟨F, W, φ, L, S, P, s, ht, q⟩ => ?_, PE.imp h fun σ H Q ⟨F, W, φ, L, S, P, s, ht, q⟩ => ?_⟩
  · simp only [wE] at ht
    split at ht
    · rename_i d e
      obtain ⟨v, e1, r⟩ := s.val e
      exact ⟨v, e1, q d false L S H W φ v ht s Tr.refl r⟩
    · rename_i d e
      obtain ⟨W', v, s', t, e1, r⟩ := s.freeze e
      exact ⟨v, e1, q d false _ S H W' φ v ht s' t r⟩
    · exact ht.elim
  · simp only [pk] at ht
    split at ht
    · rename_i d e
      obtain ⟨v, e1, r⟩ := s.val e
      exact ⟨v, e1, q d L S H W φ v ht s Tr.refl (.inl r)⟩
    · rename_i d e
      obtain ⟨a, e1, w, _, p, t⟩ := s.own e
      exact ⟨.ref a, e1, q d L S H W φ _ ht s Tr.refl (.inr ⟨a, rfl, p, t⟩)⟩
    · exact ht.elim
theorem se_cst {e : Expr} {d : D} {v : V} (h : PE X e (tC v)) (r : ∀ H φ W, Rep X.K H φ W d v) : SE X C e (.cst d) :=
  SE.of rfl (PE.imp h fun σ H Q ⟨F, W, φ, L, S, P, s, ht, q⟩ => q d false L S H W φ v ht s Tr.refl (r _ _ _))
theorem bin_go {a b : Expr} {ia ib : IE} {K : PySem.W.Frag} {r : R2} {P : D → D → Lo → Sto → Prop} {σ : Sg} {H : Hp} {Q : VK} {F : Fr} {W : Addr → Prop} {φ : List Addr} {L : Lo} {S : Sto} {C : Calls} (s : StR K F H W φ L S σ)
    (ht : pk ia (wE C ia) L S fun x L1 S1 => pk ib (wE C ib) L1 S1 fun y L2 S2 => P x y L2 S2)
    (q : ∀ x y L2 S2 H2 W2 φ2 v u, P x y L2 S2 → StR K F H2 W2 φ2 L2 S2 σ → Tr false H φ W H2 φ2 W2 → RepP K H2 φ2 W2 x v → RepP K H2 φ2 W2 y u → r v u H2 Q) :
    tOp r (liftP K (pk ia (wE C ia))) (liftP K (pk ib (wE C ib))) σ H Q :=
  ⟨F, W, φ, L, S, _, s, ht, fun x L1 S1 H1 W1 φ1 v h1 s1 t1 r1 => ⟨F, W1, φ1, L1, S1, _, s1, h1, fun y L2 S2 H2 W2 φ2 u h2 s2 t2 r2 => q x y L2 S2 H2 W2 φ2 v u h2 s2 (t1.trans t2) (r1.go t2) r2⟩⟩
theorem se_bin {a b : Expr} {ia ib : IE} {op : Operator} {bo : BO} {pos : Pos} (hop : toBO op = some bo) (ha : SE X C a ia) (hb : SE X C b ib) : SE X C (.BinOp a op b pos) (.bin bo ia ib) := by
  have e : op = opOf bo := by cases op <;> simp [toBO] at hop <;> subst hop <;> rfl
  subst e
  refine SE.of rfl (PE.imp (pe_op (opX X _) ha.p hb.p) fun σ H Q ⟨F, W, φ, L, S, P, s, ht, q⟩ => ?_)
  simp only [wE] at ht
  exact bin_go (a := a) (b := b) s ht fun x y L2 S2 H2 W2 φ2 v u h2 s2 t2 rx ry => prim_bin rfl s2 rx ry h2 fun d f w H3 W3 hr s3 t3 vr => q d f L2 S2 H3 W3 φ2 w hr s3 (t2.trans t3) vr
theorem se_neg {a : Expr} {ia : IE} {pos : Pos} (ha : SE X C a ia) : SE X C (.UnaryOp .USub a pos) (.neg ia) := by
  refine SE.of rfl (PE.imp (pe_un un_neg ha.p) fun σ H Q ⟨F, W, φ, L, S, P, s, ht, q⟩ => ?_)
  simp only [wE] at ht
  refine ⟨F, W, φ, L, S, _, s, ht, fun x L1 S1 H1 W1 φ1 v h1 s1 t1 r1 => ?_⟩
  obtain ⟨i, rfl, h1⟩ := h1
  have := r1.int; subst this
  exact ⟨i, rfl, q _ _ L1 S1 H1 W1 φ1 _ h1 s1 t1 (by show Rep _ _ _ _ _ _; simp only [Rep])⟩
theorem co_eq (op : CmpOp) : coOf (toCO op) = op := by cases op <;> rfl
theorem cmp_mark {op : CmpOp} {b : Expr} (h : cmpFine op b = true) : behindInMarks op b = false := by
  cases b <;> first | rfl | (cases op <;> first | rfl | (simp [cmpFine, isSetE] at h; done) | simp [behindInMarks])
theorem se_cmp {a b : Expr} {ia ib : IE} {op : CmpOp} {pos : Pos} (G : GX c C sc X) (hf : cmpFine op b = true) (ha : SE X C a ia) (hb : SE X C b ib) : SE X C (.Compare a [op] [b] pos) (.cmp (toCO op) ia ib) := by
  refine SE.of rfl (PE.imp (pe_cmpR (opX X _) ha.p hb.p (cmp_mark hf)) fun σ H Q ⟨F, W, φ, L, S, P, s, ht, q⟩ => ?_)
  simp only [wE] at ht
  refine bin_go (a := a) (b := b) s ht fun x y L2 S2 H2 W2 φ2 v u h2 s2 t2 rx ry => ?_
  have := prim_cmp (X := X) rfl G.hu rx ry h2 (Q := Q) fun k hk => q _ _ L2 S2 H2 W2 φ2 _ hk s2 t2 (by show Rep _ _ _ _ _ _; simp only [Rep])
  rw [co_eq] at this
  exact this
theorem pt_cmp_ {a b : Expr} {ia ib : IE} {op : CmpOp} {pos : Pos} (G : GX c C sc X) (hf : cmpFine op b = true) (ha : SE X C a ia) (hb : SE X C b ib) : PT X (.Compare a [op] [b] pos) (liftT X.K (wT C (.cmp (toCO op) ia ib))) := by
  refine PT.imp (pt_cmpR (opX X _) ha.p hb.p (cmp_mark hf)) fun σ H Q ⟨F, W, φ, L, S, P, s, ht, q⟩ => ?_
  simp only [wT] at ht
  refine bin_go (a := a) (b := b) s ht fun x y L2 S2 H2 W2 φ2 v u h2 s2 t2 rx ry => ?_
  have := prim_cmp (X := X) rfl G.hu rx ry h2 (Q := fun x H' => ∃ k, x = .bl k ∧ Q k H') fun k hk => ⟨k, rfl, q _ L2 S2 H2 W2 φ2 hk s2 t2⟩
  rw [co_eq] at this
  exact this
end
end Q
/-! Soundness: the other expressions. -/
namespace Q
open PySem PySem.Spec PyProof.Rows L2
section
variable {X : Cx} {C : Calls} {c : TC} {sc : Scope}
theorem last_marks {o1 o2 : CmpOp} {b d : Expr} (h : cmpFine o2 d = true) : lastMarks [o1, o2] [b, d] = false := cmp_mark h
theorem chain_go {a b d : Expr} {ia ib id : IE} {o1 o2 : CmpOp} {P : Bool → Lo → Sto → Prop} {σ : Sg} {H : Hp} {Q : VK} {F : Fr} {W : Addr → Prop} {φ : List Addr} {L : Lo} {S : Sto} (hu : X.A.units + 200 < cLine) (s : StR X.K F H W φ L S σ)
    (ht : pk ia (wE C ia) L S fun x L1 S1 => pk ib (wE C ib) L1 S1 fun y L2 S2 => dCmp (toCO o1) x y fun k =>
      if k = true then pk id (wE C id) L2 S2 fun z L3 S3 => dCmp (toCO o2) y z fun k2 => P k2 L3 S3 else P false L2 S2)
    (q : ∀ k L2 S2 H2 W2 φ2, P k L2 S2 → StR X.K F H2 W2 φ2 L2 S2 σ → Tr false H φ W H2 φ2 W2 → Q (.bl k) H2) :
    tChain (OpX X (compareOp o1)) (OpX X (compareOp o2)) (liftP X.K (pk ia (wE C ia))) (liftP X.K (pk ib (wE C ib))) (liftP X.K (pk id (wE C id))) σ H Q := by
  refine ⟨F, W, φ, L, S, _, s, ht, fun x L1 S1 H1 W1 φ1 v h1 s1 t1 r1 => ⟨F, W1, φ1, L1, S1, _, s1, h1, fun y L2 S2 H2 W2 φ2 u h2 s2 t2 r2 => ?_⟩⟩
  have t12 := t1.trans t2
  have := prim_cmp (X := X) rfl hu (r1.go t2) r2 h2 (Q := fun z H3 => ∃ k, z = .bl k ∧ (if k = true then liftP X.K (pk id (wE C id)) σ H3 (fun w' H4 => OpX X (compareOp o2) u w' H4 Q) else Q (.bl false) H3)) fun k hk => ?_
  · rw [co_eq] at this; exact this
  · refine ⟨k, rfl, ?_⟩
    cases k with
    | true =>
      rw [if_pos rfl] at hk ⊢
      refine ⟨F, W2, φ2, L2, S2, _, s2, hk, fun z L3 S3 H3 W3 φ3 w h3 s3 t3 r3 => ?_⟩
      have := prim_cmp (X := X) rfl hu (r2.go t3) r3 h3 (Q := Q) fun k hk => q k L3 S3 H3 W3 φ3 hk s3 (t12.trans t3)
      rw [co_eq] at this; exact this
    | false =>
      rw [if_neg (by decide)] at hk ⊢
      exact q _ _ _ _ _ _ hk s2 t12
theorem se_chain {a b d : Expr} {ia ib id : IE} {o1 o2 : CmpOp} {pos : Pos} (G : GX c C sc X) (hf : cmpFine o2 d = true) (ha : SE X C a ia) (hb : SE X C b ib) (hd : SE X C d id) : SE X C (.Compare a [o1, o2] [b, d] pos) (.chain (toCO o1) (toCO o2) ia ib id) := by
  refine SE.of rfl (PE.imp (pe_chain (opX X _) (opX X _) ha.p hb.p hd.p (last_marks hf)) fun σ H Q ⟨F, W, φ, L, S, P, s, ht, q⟩ => ?_)
  simp only [wE] at ht
  exact chain_go (a := a) (b := b) (d := d) (P := fun k L S => P (.bl k) false L S) G.hu s ht fun k L2 S2 H2 W2 φ2 h2 s2 t2 => q _ _ L2 S2 H2 W2 φ2 _ h2 s2 t2 (by show Rep _ _ _ _ _ _; simp only [Rep])
theorem pt_chain_ {a b d : Expr} {ia ib id : IE} {o1 o2 : CmpOp} {pos : Pos} (G : GX c C sc X) (hf : cmpFine o2 d = true) (ha : SE X C a ia) (hb : SE X C b ib) (hd : SE X C d id) : PT X (.Compare a [o1, o2] [b, d] pos) (liftT X.K (wT C (.chain (toCO o1) (toCO o2) ia ib id))) := by
  refine PT.imp (pt_chain (opX X _) (opX X _) ha.p hb.p hd.p (last_marks hf)) fun σ H Q ⟨F, W, φ, L, S, P, s, ht, q⟩ => ?_
  simp only [wT] at ht
  exact chain_go (a := a) (b := b) (d := d) (P := P) G.hu s ht fun k L2 S2 H2 W2 φ2 h2 s2 t2 => ⟨k, rfl, q _ L2 S2 H2 W2 φ2 h2 s2 t2⟩
theorem VR.settle {K : PySem.W.Frag} {F : Fr} {H : Hp} {W : Addr → Prop} {φ : List Addr} {L : Lo} {S : Sto} {σ : Sg} {f : Bool} {d : D} {v : V} (s : StR K F H W φ L S σ) (h : VR K F H W φ L σ f d v) : ∃ W', StR K F H W' φ L S σ ∧ Tr false H φ W H φ W' ∧ Rep K H φ W' d v := Q.settle s h
theorem se_not {a : Expr} {ia : IE} {pos : Pos} (ha : SE X C a ia) : SE X C (.UnaryOp .Not a pos) (.not ia) := by
  refine SE.of rfl (PE.imp (pe_notT ha.v) fun σ H Q ⟨F, W, φ, L, S, P, s, ht, q⟩ => ?_)
  simp only [wE] at ht
  refine ⟨F, W, φ, L, S, _, s, ht, fun d f L1 S1 H1 W1 φ1 v h1 s1 t1 vr => ?_⟩
  obtain ⟨k, hk, hp⟩ := prim_truth (vr.repP s1) h1
  exact ⟨k, hk, q _ _ L1 S1 H1 W1 φ1 _ hp s1 t1 (by show Rep _ _ _ _ _ _; simp only [Rep])⟩
theorem se_and {a b : Expr} {r : List Expr} {ia ib : IE} {pos : Pos} (ha : SE X C a ia) (hb : SE X C (.BoolOp .And (b :: r) pos) ib) : SE X C (.BoolOp .And (a :: b :: r) pos) (.and ia ib) := by
  refine SE.of rfl (PE.imp (pe_andT ha.v hb.v) fun σ H Q ⟨F, W, φ, L, S, P, s, ht, q⟩ => ?_)
  simp only [wE] at ht
  refine ⟨F, W, φ, L, S, _, s, ht, fun d f L1 S1 H1 W1 φ1 v h1 s1 t1 vr => ?_⟩
  obtain ⟨k, hk, hp⟩ := prim_truth (vr.repP s1) h1
  refine ⟨k, hk, ?_⟩
  cases k with
  | true =>
    rw [if_pos rfl] at hp ⊢
    exact ⟨F, W1, φ1, L1, S1, P, s1, hp, fun d f L2 S2 H2 W2 φ2 u h2 s2 t2 vr => q d f L2 S2 H2 W2 φ2 u h2 s2 (t1.trans t2) vr⟩
  | false =>
    rw [if_neg (by decide)] at hp ⊢
    obtain ⟨W2, s2, t2, r⟩ := vr.settle s1
    exact q d false L1 S1 H1 W2 φ1 v hp s2 (t1.trans t2) r
theorem se_or {a b : Expr} {r : List Expr} {ia ib : IE} {pos : Pos} (ha : SE X C a ia) (hb : SE X C (.BoolOp .Or (b :: r) pos) ib) : SE X C (.BoolOp .Or (a :: b :: r) pos) (.or ia ib) := by
  refine SE.of rfl (PE.imp (pe_orT ha.v hb.v) fun σ H Q ⟨F, W, φ, L, S, P, s, ht, q⟩ => ?_)
  simp only [wE] at ht
  refine ⟨F, W, φ, L, S, _, s, ht, fun d f L1 S1 H1 W1 φ1 v h1 s1 t1 vr => ?_⟩
  obtain ⟨k, hk, hp⟩ := prim_truth (vr.repP s1) h1
  refine ⟨k, hk, ?_⟩
  cases k with
  | false =>
    rw [if_neg (by decide)] at hp ⊢
    exact ⟨F, W1, φ1, L1, S1, P, s1, hp, fun d f L2 S2 H2 W2 φ2 u h2 s2 t2 vr => q d f L2 S2 H2 W2 φ2 u h2 s2 (t1.trans t2) vr⟩
  | true =>
    rw [if_pos rfl] at hp ⊢
    obtain ⟨W2, s2, t2, r⟩ := vr.settle s1
    exact q d false L1 S1 H1 W2 φ1 v hp s2 (t1.trans t2) r
theorem se_one {a : Expr} {op : BoolOp} {ia : IE} {pos : Pos} (ha : SE X C a ia) : SE X C (.BoolOp op [a] pos) ia := ⟨fun j e => pe_one (ha.l j e), pe_one ha.v, pe_one ha.p⟩
theorem se_ite {t a b : Expr} {it : IC} {ia ib : IE} {pos : Pos} (hc : PT X t (liftT X.K (wT C it))) (ha : SE X C a ia) (hb : SE X C b ib) : SE X C (.IfExp t a b pos) (.ite it ia ib) := by
  refine SE.of rfl (PE.imp (pe_ifExp hc ha.v hb.v) fun σ H Q ⟨F, W, φ, L, S, P, s, ht, q⟩ => ?_)
  simp only [wE] at ht
  refine ⟨F, W, φ, L, S, _, s, ht, fun k L1 S1 H1 W1 φ1 h1 s1 t1 => ?_⟩
  cases k with
  | true =>
    rw [if_pos rfl] at h1 ⊢
    exact ⟨F, W1, φ1, L1, S1, P, s1, h1, fun d f L2 S2 H2 W2 φ2 u h2 s2 t2 vr => q d f L2 S2 H2 W2 φ2 u h2 s2 (t1.trans t2) vr⟩
  | false =>
    rw [if_neg (by decide)] at h1 ⊢
    exact ⟨F, W1, φ1, L1, S1, P, s1, h1, fun d f L2 S2 H2 W2 φ2 u h2 s2 t2 vr => q d f L2 S2 H2 W2 φ2 u h2 s2 (t1.trans t2) vr⟩
/-! tests -/
theorem pt_v {e : Expr} {i : IE} (h : SE X C e i) (he : ∀ whole, isTrue e X.env whole = (do let v ← whole; standAt e.pos; holding [v] (truthy v))) : PT X e (liftT X.K (wT C (.v i))) := by
  refine PT.imp (pt_truth h.p he) fun σ H Q ⟨F, W, φ, L, S, P, s, ht, q⟩ => ?_
  simp only [wT] at ht
  refine ⟨F, W, φ, L, S, _, s, ht, fun d L1 S1 H1 W1 φ1 v h1 s1 t1 r => ?_⟩
  obtain ⟨k, hk, hp⟩ := prim_truth r h1
  exact ⟨k, hk, q k L1 S1 H1 W1 φ1 hp s1 t1⟩
theorem pt_not_ {a : Expr} {ia : IC} {pos : Pos} (ha : PT X a (liftT X.K (wT C ia))) : PT X (.UnaryOp .Not a pos) (liftT X.K (wT C (.not ia))) := by
  refine PT.imp (pt_not ha) fun σ H Q ⟨F, W, φ, L, S, P, s, ht, q⟩ => ?_
  simp only [wT] at ht
  exact ⟨F, W, φ, L, S, _, s, ht, fun b L1 S1 H1 W1 φ1 hb s1 t1 => q _ L1 S1 H1 W1 φ1 hb s1 t1⟩
theorem pw_and1_ {a : Expr} {ia : IC} {pos : Pos} (ha : PT X a (liftT X.K (wT C ia))) : PW X (.BoolOp .And [a] pos) (liftT X.K (wT C ia)) := pw_and1 ha
theorem pw_or1_ {a : Expr} {ia : IC} {pos : Pos} (ha : PT X a (liftT X.K (wT C ia))) : PW X (.BoolOp .Or [a] pos) (liftT X.K (wT C ia)) := pw_or1 ha
theorem pw_and_ {a b : Expr} {r : List Expr} {ia ib : IC} {pos : Pos} (ha : PT X a (liftT X.K (wT C ia))) (hb : PW X (.BoolOp .And (b :: r) pos) (liftT X.K (wT C ib))) : PW X (.BoolOp .And (a :: b :: r) pos) (liftT X.K (wT C (.and ia ib))) := by
  refine PW.imp (pw_and ha hb) fun σ H Q ⟨F, W, φ, L, S, P, s, ht, q⟩ => ?_
  simp only [wT] at ht
  refine ⟨F, W, φ, L, S, _, s, ht, fun k L1 S1 H1 W1 φ1 h1 s1 t1 => ?_⟩
  cases k with
  | true =>
    rw [if_pos rfl] at h1 ⊢
    exact ⟨F, W1, φ1, L1, S1, P, s1, h1, fun b L2 S2 H2 W2 φ2 h2 s2 t2 => q b L2 S2 H2 W2 φ2 h2 s2 (t1.trans t2)⟩
  | false =>
    rw [if_neg (by decide)] at h1 ⊢
    exact q _ _ _ _ _ _ h1 s1 t1
theorem pw_or_ {a b : Expr} {r : List Expr} {ia ib : IC} {pos : Pos} (ha : PT X a (liftT X.K (wT C ia))) (hb : PW X (.BoolOp .Or (b :: r) pos) (liftT X.K (wT C ib))) : PW X (.BoolOp .Or (a :: b :: r) pos) (liftT X.K (wT C (.or ia ib))) := by
  refine PW.imp (pw_or ha hb) fun σ H Q ⟨F, W, φ, L, S, P, s, ht, q⟩ => ?_
  simp only [wT] at ht
  refine ⟨F, W, φ, L, S, _, s, ht, fun k L1 S1 H1 W1 φ1 h1 s1 t1 => ?_⟩
  cases k with
  | true =>
    rw [if_pos rfl] at h1 ⊢
    exact q _ _ _ _ _ _ h1 s1 t1
  | false =>
    rw [if_neg (by decide)] at h1 ⊢
    exact ⟨F, W1, φ1, L1, S1, P, s1, h1, fun b L2 S2 H2 W2 φ2 h2 s2 t2 => q b L2 S2 H2 W2 φ2 h2 s2 (t1.trans t2)⟩
/-! lists of expressions -/
theorem pas_nil : PA X [] (liftA X.K (wEs C .nil)) := PA.imp pa_nil fun σ H Q ⟨F, W, φ, L, S, P, s, ht, q⟩ => by
  simp only [wEs] at ht
  exact q [] L S H W φ [] ht s Tr.refl Reps.nil
theorem pas_cons {e : Expr} {es : List Expr} {i : IE} {l : IEs} (h : SE X C e i) (hr : PA X es (liftA X.K (wEs C l))) (hs : starEach (e :: es) X.env = (false, eval e X.env) :: starEach es X.env) : PA X (e :: es) (liftA X.K (wEs C (.cons i l))) := by
  refine PA.imp (pa_cons h.v hr hs) fun σ H Q ⟨F, W, φ, L, S, P, s, ht, q⟩ => ?_
  simp only [wEs] at ht
  refine ⟨F, W, φ, L, S, _, s, ht, fun d f L1 S1 H1 W1 φ1 v h1 s1 t1 vr => ?_⟩
  obtain ⟨W2, s2, t2, r⟩ := vr.settle s1
  refine ⟨F, W2, φ1, L1, S1, _, s2, h1, fun ds L2 S2 H3 W3 φ3 vs h3 s3 t3 rs => ?_⟩
  exact q _ L2 S2 H3 W3 φ3 _ h3 s3 ((t1.trans t2).trans t3) (Reps.cons (r.go t3) rs)
theorem pps_nil : PA X [] (liftQ X.K (wPs C .nil)) := PA.imp pa_nil fun σ H Q ⟨F, W, φ, L, S, P, s, ht, q⟩ => by
  simp only [wPs] at ht
  exact q [] L S H W φ [] ht s Tr.refl .nil
theorem pps_cons {e : Expr} {es : List Expr} {i : IE} {l : IEs} (h : SE X C e i) (hr : PA X es (liftQ X.K (wPs C l))) (hs : starEach (e :: es) X.env = (false, eval e X.env) :: starEach es X.env) : PA X (e :: es) (liftQ X.K (wPs C (.cons i l))) := by
  refine PA.imp (pa_cons h.p hr hs) fun σ H Q ⟨F, W, φ, L, S, P, s, ht, q⟩ => ?_
  simp only [wPs] at ht
  refine ⟨F, W, φ, L, S, _, s, ht, fun d L1 S1 H1 W1 φ1 v h1 s1 t1 r => ?_⟩
  refine ⟨F, W1, φ1, L1, S1, _, s1, h1, fun ds L2 S2 H3 W3 φ3 vs h3 s3 t3 rs => ?_⟩
  exact q _ L2 S2 H3 W3 φ3 _ h3 s3 (t1.trans t3) (.cons (r.go t3) rs)
theorem Rep.lessW {K : PySem.W.Frag} {H : Hp} {φ : List Addr} {W W' : Addr → Prop} {d : D} {v : V} (h : Rep K H φ W d v) (hw : ∀ a, W' a → W a) : Rep K H φ W' d v := h.go (S := false) (Tr.less hw)
abbrev wA (C : Calls) (l : IEs) : List Nat → Lo → Sto → (List D → List Nat → Lo → Sto → Prop) → Prop := fun bs L S P => wAs C l L S bs P
theorem pcs_nil : PA X [] (liftC X.K (wA C .nil)) := PA.imp pa_nil fun σ H Q ⟨bs, F, W, φ, L, S, P, s, ht, q⟩ => by
  simp only [wA, wAs] at ht
  exact q [] bs L S H W φ [] ht s Tr.refl (fun _ h => h) Reps.nil
theorem wAs_cons {i : IE} {l : IEs} {L : Lo} {S : Sto} {bs : List Nat} {P : List D → List Nat → Lo → Sto → Prop} (hn : i.isLoc = false) : wAs C (.cons i l) L S bs P = wE C i L S fun d _ L1 S1 => wAs C l L1 S1 bs fun ds bs' L2 S2 => P (d :: ds) bs' L2 S2 := by
  cases i <;> first | rfl | cases hn
theorem pcs_cons {e : Expr} {es : List Expr} {i : IE} {l : IEs} (h : SE X C e i) (hr : PA X es (liftC X.K (wA C l))) (hs : starEach (e :: es) X.env = (false, eval e X.env) :: starEach es X.env) : PA X (e :: es) (liftC X.K (wA C (.cons i l))) := by
  cases hl : i.isLoc with
  | false =>
    refine PA.imp (pa_cons h.v hr hs) fun σ H Q ⟨bs0, F, W, φ, L, S, P, s, ht, q⟩ => ?_
    simp only [wA] at ht
    rw [wAs_cons hl] at ht
    refine ⟨F, W, φ, L, S, _, s, ht, fun d f L1 S1 H1 W1 φ1 v h1 s1 t1 vr => ?_⟩
    obtain ⟨W2, s2, t2, r⟩ := vr.settle s1
    refine ⟨bs0, F, W2, φ1, L1, S1, _, s2, h1, fun ds bs L2 S2 H3 W3 φ3 vs h3 s3 t3 hb rs => ?_⟩
    exact q _ bs L2 S2 H3 W3 φ3 _ h3 s3 ((t1.trans t2).trans t3) hb (Reps.cons ((r.go t3).lessW fun a z => z.1) rs)
  | true =>
    cases i <;> try cases hl
    rename_i j
    refine PA.imp (pa_cons (h.l j rfl) hr hs) fun σ H Q ⟨bs0, F, W, φ, L, S, P, s, ht, q⟩ => ?_
    simp only [wA, wAs] at ht
    split at ht
    · rename_i d e
      obtain ⟨v, e1, r⟩ := s.val e
      refine ⟨v, e1, bs0, F, W, φ, L, S, _, s, ht, fun ds bs L2 S2 H3 W3 φ3 vs h3 s3 t3 hb rs => ?_⟩
      exact q _ bs L2 S2 H3 W3 φ3 _ h3 s3 t3 hb (Reps.cons ((r.go t3).lessW fun a z => z.1) rs)
    · rename_i d e
      obtain ⟨a, e1, w, _, p, t⟩ := s.own e
      refine ⟨.ref a, e1, _, F, W, φ, L, S, _, s, ht, fun ds bs L2 S2 H3 W3 φ3 vs h3 s3 t3 hb rs => ?_⟩
      refine q _ bs L2 S2 H3 W3 φ3 _ h3 s3 t3 (fun k hk => hb k (List.mem_cons_of_mem _ hk)) (Reps.cons ?_ rs)
      have hj : j ∈ bs := hb j List.mem_cons_self
      obtain ⟨o, eo, _⟩ := t.there
      have p3 : a ∉ φ3 := fun z => (t3.phi a z).elim p (isM_none eo)
      have tp := (t.go t3 p).go (Tr.less (W' := fun a => W3 a ∧ ∀ i ∈ bs, σ[i]? ≠ some (some (.ref a))) fun b hb => hb.1) p3
      exact tp.rep (fun z => z.2 j hj e1) p3
    · exact ht.elim
theorem cst_tail {dv : List D} {L : Lo} {S : Sto} {bs : List Nat} : ∀ {P : List D → List Nat → Lo → Sto → Prop}, wAs C (addD .nil dv) L S bs P = P dv bs L S := by
  show ∀ {P}, wAs C (cstS dv) L S bs P = P dv bs L S
  induction dv with
  | nil => intro P; simp only [cstS, wAs]
  | cons d r ih => intro P; simp only [cstS, wAs, wE]; rw [ih]
theorem wAs_addD {dv : List D} : ∀ {l : IEs} {L : Lo} {S : Sto} {bs : List Nat} {P : List D → List Nat → Lo → Sto → Prop}, wAs C (addD l dv) L S bs P = wAs C l L S bs fun ds bs' L' S' => P (ds ++ dv) bs' L' S'
  | .nil, L, S, bs, P => by rw [cst_tail]; simp only [wAs, List.nil_append]
  | .cons i r, L, S, bs, P => by
    cases hl : i.isLoc with
    | false =>
      rw [show addD (.cons i r) dv = .cons i (addD r dv) by rfl, wAs_cons hl, wAs_cons hl]
      congr 1
      funext d f L1 S1
      exact wAs_addD
    | true =>
      cases i <;> try cases hl
      rename_i j
      rw [show addD (.cons (.loc j) r) dv = .cons (.loc j) (addD r dv) by rfl]
      simp only [wAs]
      split
      · rw [wAs_addD]; simp only [List.cons_append]
      · rw [wAs_addD]; simp only [List.cons_append]
      · rfl
mutual
theorem Rep.flat {K : PySem.W.Frag} {H : Hp} {φ : List Addr} {W W' : Addr → Prop} : ∀ {d : D} {v : V}, d.flat = true → Rep K H φ W d v → Rep K H φ W' d v
  | .non, v, _, h => by simp only [Rep] at h ⊢; exact h
  | .bl b, v, _, h => by simp only [Rep] at h ⊢; exact h
  | .int b, v, _, h => by simp only [Rep] at h ⊢; exact h
  | .str b, v, _, h => by simp only [Rep] at h ⊢; exact h
  | .tup l, v, f, h => by
    simp only [Rep] at h ⊢
    obtain ⟨a, vs, e, q, r⟩ := h
    exact ⟨a, vs, e, q, Reps.flat (by simpa only [D.flat] using f) r⟩
  | .lst l, v, f, _ => by simp [D.flat] at f
  | .dct _ _, v, f, _ => by simp [D.flat] at f
  | .scr _, v, f, _ => by simp [D.flat] at f
  | .obj _, v, f, _ => by simp [D.flat] at f
theorem Reps.flat {K : PySem.W.Frag} {H : Hp} {φ : List Addr} {W W' : Addr → Prop} : ∀ {d : List D} {v : List V}, D.flats d = true → Reps K H φ W d v → Reps K H φ W' d v
  | [], [], _, _ => Reps.nil
  | d :: ds, v :: vs, f, h => by
    simp only [D.flats, Bool.and_eq_true] at f
    simp only [Reps] at h
    exact Reps.cons (Rep.flat f.1 h.1) (Reps.flat f.2 h.2)
  | [], _ :: _, _, h => by simp [Reps] at h
  | _ :: _, [], _, h => by simp [Reps] at h
end
/-- lent lists are let go for good -/
theorem StR.freezeL {K : PySem.W.Frag} {F : Fr} {H : Hp} {φ : List Addr} {S : Sto} {σ : Sg} : ∀ {bs : List Nat} {W : Addr → Prop} {L : Lo}, StR K F H W φ L S σ → (∀ i, i ∈ bs → ∃ d, L[i]? = some (.own d) ∨ L[i]? = some (.val d)) →
    ∃ W', StR K F H W' φ (freezeAll L bs) S σ ∧ Tr false H φ W H φ W' ∧ ∀ a, W' a → W a ∧ ∀ i ∈ bs, (∃ d, L[i]? = some (.own d)) → σ[i]? ≠ some (some (.ref a))
  | [], W, L, s, h => ⟨W, s, Tr.refl, fun a w => ⟨w, by simp⟩⟩
  | i :: bs, W, L, s, h => by
    obtain ⟨d, hd⟩ := h i List.mem_cons_self
    have key : ∃ W1, StR K F H W1 φ (freezeAt L i) S σ ∧ Tr false H φ W H φ W1 ∧ ∀ a, W1 a → W a ∧ ((∃ d, L[i]? = some (.own d)) → σ[i]? ≠ some (some (.ref a))) := by
      unfold freezeAt
      rcases hd with hd | hd
      · rw [hd]
        obtain ⟨a, e1, w, h0, tp⟩ := s.lo.at_ i _ hd
        obtain ⟨W1, v, s1, t1, e2, r⟩ := s.freeze hd
        refine ⟨W1, s1, t1, fun b wb => ⟨?_, fun _ e3 => ?_⟩⟩
        · rcases t1.w b wb with z | z
          · exact z
          · obtain ⟨o, eo, _⟩ := s1.wt b wb
            rw [z] at eo; cases eo
        · rw [e3] at e2; cases e2
          rw [e1] at e3; cases e3
          cases d with
          | lst l => simp only [Rep] at r; obtain ⟨c, ec, nw, _⟩ := r; cases ec; exact nw wb
          | dct _ _ => simp only [Rep] at r; obtain ⟨c, ec, nw, _⟩ := r; cases ec; exact nw wb
          | _ => exact tp.elim
      · rw [hd]
        exact ⟨W, s, Tr.refl, fun a w => ⟨w, fun ⟨d', e⟩ => by cases e⟩⟩
    obtain ⟨W1, s1, t1, k1⟩ := key
    have hv : ∀ j, j ∈ bs → ∃ d, (freezeAt L i)[j]? = some (.own d) ∨ (freezeAt L i)[j]? = some (.val d) := fun j hj => by
      obtain ⟨e, he⟩ := h j (List.mem_cons_of_mem _ hj)
      unfold freezeAt
      split
      · rename_i d' hd'
        by_cases hij : i = j
        · subst hij
          exact ⟨d', .inr (List.getElem?_set_self (List.getElem?_eq_some_iff.mp hd').1)⟩
        · rw [List.getElem?_set_ne hij]; exact ⟨e, he⟩
      · exact ⟨e, he⟩
    obtain ⟨W2, s2, t2, k2⟩ := StR.freezeL s1 hv
    refine ⟨W2, s2, t1.trans t2, fun a w => ?_⟩
    obtain ⟨w1, n1⟩ := k2 a w
    obtain ⟨w0, n0⟩ := k1 a w1
    refine ⟨w0, fun j hj ho => ?_⟩
    rcases List.mem_cons.mp hj with rfl | hj
    · exact n0 ho
    · by_cases hij : i = j
      · subst hij; exact n0 ho
      · refine n1 j hj ?_
        obtain ⟨d', ho⟩ := ho
        unfold freezeAt
        split
        · rw [List.getElem?_set_ne hij]; exact ⟨d', ho⟩
        · exact ⟨d', ho⟩
/-- a call of a def -/
theorem se_call {f : Str} {e : Expr} {es : List Expr} {l : IEs} {np : Nat} {dv : List D} {n : Nat} {p pos : Pos} (G : GX c C sc X) (hg : glb sc f = true) (hf : fine f = true) (hl : c.fs.lookup f = some (np, dv)) (hn : n ≤ dv.length)
    (ha : PA X (e :: es) (liftC X.K (wA C l))) (hlen : (addD l (dv.drop n)).len = np) (hs : starEach (e :: es) X.env = (false, eval e X.env) :: starEach es X.env) (hpl : (backTo pos (starEach es X.env)).any (·.1) = false) : SE X C (.Call (.Name f p) (e :: es) [] pos) (.call f (addD l (dv.drop n))) := by
  obtain ⟨a, fd, ps, k, hm, hk, hps, hr, hF, hb⟩ := G.fs f np dv hl
  obtain ⟨us, ws, hB, hV, hD⟩ := hb n hn
  obtain ⟨f1, f2, f3⟩ := fine_of hf
  have hx : Passes CX0 X (fun _ _ _ => False) := pass0
  refine SE.of rfl (PE.imp (pe_call (E := fun _ _ _ => False) hF hr (G.gl_ hg) hm hk hB hV hx ha f1 hs hpl) fun σ H Q ⟨F, W, φ, L, S, P, s, ht, q⟩ => ?_)
  simp only [wE] at ht
  rw [wAs_addD] at ht
  refine ⟨[], F, W, φ, L, S, _, s, ht, fun ds bs L1 S1 H1 W1 φ1 vs h1 s1 t1 _ rs => ?_⟩
  obtain ⟨hdl, hown, h1⟩ := h1
  have hWl : ∀ a, (W1 a ∧ ∀ i ∈ bs, σ[i]? ≠ some (some (.ref a))) → W1 a := fun a z => z.1
  refine ⟨?_, fun a => W1 a ∧ ∀ i ∈ bs, σ[i]? ≠ some (some (.ref a)), φ1, S1, ds ++ dv.drop n, _, fun a w => s1.wt a w.1, s1.nd, fun a z w => s1.phw a z w.1, s1.st.go (S' := false) (Tr.less hWl) (fun _ _ => rfl), Reps.append rs (hD _ _ _), h1, fun r S2 H2 φ2 v hp t2 st2 nd2 phw2 rr => ?_⟩
  · rw [List.length_append, ← rs.len, ← (hD H1 φ1 W1).len, ← List.length_append, hdl]; exact hlen
  · have kp : ∀ {W' : Addr → Prop}, ∀ (a : Addr) (o : HO), H1 a = some o → (isM o = true → a ∉ φ1 ∧ (false = true → ¬ W' a)) → H2 a = some o := fun a o h m => t2.keep a o h fun k => ⟨(m k).1, fun z => nomatch z⟩
    have keep : ∀ {W' : Addr → Prop}, (∀ a, W' a → W1 a) → Tr false H1 φ1 W1 H2 φ2 W' := fun hw => ⟨kp, fun a z => .inl (hw a z), t2.dom, t2.pre, t2.phi⟩
    have go : ∀ {W' : Addr → Prop} {L' : Lo}, StR X.K F H1 W' φ1 L' S1 σ → (∀ a, W' a → W1 a) → (∀ a, a ∈ φ2 → ¬ W' a) → StoR X.K H2 W' φ2 S2 → StR X.K F H2 W' φ2 L' S2 σ := fun {W' L'} s' hw hph hst => by
      have tt : Tr false H1 φ1 W' H2 φ2 W' := ⟨kp, fun _ z => .inl z, t2.dom, t2.pre, t2.phi⟩
      exact {
        ext := fun a o h0 hM => by
          have e1 := s'.ext a o h0 hM
          refine t2.keep a o e1 fun m => ⟨fun z => ?_, fun z => nomatch z⟩
          exact (s'.phi a z).elim (hM m) (fun z => by rw [h0] at z; cases z)
        dom := fun a z => s'.dom a (t2.dom a z)
        wc := s'.wc
        wnew := s'.wnew
        wt := fun a w => by
          obtain ⟨o, eo, m⟩ := s'.wt a w
          exact ⟨o, t2.keep a o eo fun _ => ⟨s'.phO w, fun z => nomatch z⟩, m⟩
        pre := s'.pre.trans t2.pre
        phi := fun a z => (t2.phi a z).elim (s'.phi a) fun z => .inr (s'.dom a z)
        phw := hph
        nd := nd2
        st := hst
        lo := s'.lo.go tt fun i a hh => by
          obtain ⟨⟨d, e⟩, e2⟩ := hh
          obtain ⟨a', e3, w, _, p, _⟩ := s'.own e
          rw [e2] at e3; cases e3; exact ⟨p, w⟩ }
    have phwW : ∀ a, a ∈ φ2 → ¬ W1 a := fun a z w => by
      rcases t2.phi a z with z | z
      · exact s1.phw a z w
      · obtain ⟨o, eo, _⟩ := s1.wt a w
        rw [z] at eo; cases eo
    by_cases hc : bs = [] ∨ (r.flat = true ∧ Sto.flat S2 = true)
    · rw [if_pos hc] at hp
      rcases hc with rfl | ⟨hrf, hSf⟩
      · have hWe : (fun a => W1 a ∧ ∀ i ∈ ([] : List Nat), σ[i]? ≠ some (some (.ref a))) = W1 := by funext a; simp
        rw [hWe] at st2 rr
        exact q r false L1 S2 H2 W1 φ2 v hp (go s1 (fun _ h => h) phwW st2) (t1.trans (keep fun _ h => h)) rr
      · refine q r false L1 S2 H2 W1 φ2 v hp (go s1 (fun _ h => h) phwW ⟨st2.len, fun m b l e1 e2 => ?_⟩) (t1.trans (keep fun _ h => h)) (rr.flat hrf)
        obtain ⟨vs', q', z', r'⟩ := st2.at_ m b l e1 e2
        exact ⟨vs', q', z', r'.flat (List.all_eq_true.mp hSf l (List.mem_of_getElem? e2))⟩
    · rw [if_neg hc] at hp
      obtain ⟨W3, s3, t3, k3⟩ := s1.freezeL (bs := bs) fun i hi => ⟨_, .inl (hown i hi).choose_spec⟩
      have hw3 : ∀ a, W3 a → W1 a ∧ ∀ i ∈ bs, σ[i]? ≠ some (some (.ref a)) := fun a w => ⟨(k3 a w).1, fun i hi => (k3 a w).2 i hi (hown i hi)⟩
      refine q r false _ S2 H2 W3 φ2 v hp (go s3 (fun a w => (hw3 a w).1) (fun a z w => phwW a z (hw3 a w).1) ?_) (t1.trans (keep fun a w => (hw3 a w).1)) (rr.lessW hw3)
      exact st2.go (S' := false) (Tr.less hw3) fun _ _ => rfl
end
end Q
/-! Soundness: displays, subscripts, built-ins, targets, what is walked. -/
namespace Q
open PySem PySem.Spec PyProof.Rows L2
section
variable {X : Cx} {C : Calls} {c : TC} {sc : Scope}
section
variable {K : PySem.W.Frag} {F : Fr} {H H1 : Hp} {W W1 : Addr → Prop} {φ φ1 : List Addr} {L L1 : Lo} {S S1 : Sto} {σ : Sg} {P : KE} {Q : VK}
theorem fin_of (t1 : Tr false H φ W H1 φ1 W1) (q : ∀ d f L' S' H' W' φ' v, P d f L' S' → StR K F H' W' φ' L' S' σ → Tr false H φ W H' φ' W' → VR K F H' W' φ' L' σ f d v → Q v H') : Fin K F H1 W1 φ1 L1 S1 σ (fun d f => P d f L1 S1) Q :=
  fun d f w H' W' hr s' t' vr => q d f L1 S1 H' W' φ1 w hr s' (t1.trans t') vr
/-- a new cell -/
theorem StR.growS (s : StR K F H W φ L S σ) {p : Addr} {l : List D} {vs : List V} (hp : H p = none) (hz : vs.length ≤ sizeLine) (r : Reps K H φ W l vs) :
    StR K F (upd H p (.lst vs)) W (φ ++ [p]) L (S ++ [l]) σ ∧ Tr false H φ W (upd H p (.lst vs)) (φ ++ [p]) W := by
  have t : Tr false H φ W (upd H p (.lst vs)) (φ ++ [p]) W := ⟨fun a u h _ => by rw [upd_ne (ne_of_none h hp)]; exact h, fun _ h => .inl h, fun a z => by
    unfold upd at z; split at z
    · cases z
    · exact z, List.prefix_append _ _, fun a z => by
      rcases List.mem_append.mp z with z | z
      · exact .inl z
      · simp at z; subst z; exact .inr hp⟩
  have g := s.grow (o := .lst vs) hp
  have hpn := s.phN hp
  refine ⟨⟨g.ext, g.dom, s.wc, s.wnew, g.wt, s.pre.trans (List.prefix_append _ _), fun a z => ?_, fun a z w => ?_, ?_, ⟨by simp [s.st.len], fun n a l' e1 e2 => ?_⟩, s.lo.go t fun i a ⟨⟨d, e⟩, e2⟩ => ?_⟩, t⟩
  · rcases List.mem_append.mp z with z | z
    · exact s.phi a z
    · simp at z; subst z; exact .inr (s.dom _ hp)
  · rcases List.mem_append.mp z with z | z
    · exact s.phw a z w
    · simp at z; subst z
      obtain ⟨o, eo, _⟩ := s.wt _ w
      rw [hp] at eo; cases eo
  · rw [List.nodup_append]
    refine ⟨s.nd, by simp, fun a ha b hb => ?_⟩
    simp at hb; subst hb
    intro e; subst e; exact hpn ha
  · by_cases hn : n < φ.length
    · rw [List.getElem?_append_left hn] at e1
      rw [List.getElem?_append_left (by rw [s.st.len]; exact hn)] at e2
      obtain ⟨us, q, z, r'⟩ := s.st.at_ n a l' e1 e2
      exact ⟨us, by rw [upd_ne (ne_of_none q hp)]; exact q, z, r'.go t⟩
    · have hn' : n = φ.length := by
        have := (List.getElem?_eq_some_iff.mp e1).1
        simp at this; omega
      subst hn'
      rw [List.getElem?_append_right (Nat.le_refl _)] at e1
      rw [← s.st.len, List.getElem?_append_right (Nat.le_refl _)] at e2
      simp at e1 e2
      subst e1 e2
      exact ⟨vs, upd_same, hz, r.go t⟩
  · obtain ⟨a', e3, w, _, p, _⟩ := s.own e
    rw [e2] at e3; cases e3; exact ⟨p, w⟩
end
theorem se_tup {es : List Expr} {l : IEs} {k : Nat} {pos : Pos} (h : PA X es (liftA X.K (wEs C l))) : SE X C (.Tuple es k pos) (.tup l) := by
  refine SE.of rfl (PE.imp (pe_tup h) fun σ H Q ⟨F, W, φ, L, S, P, s, ht, q⟩ => ?_)
  simp only [wE] at ht
  refine ⟨F, W, φ, L, S, _, s, ht, fun ds L1 S1 H1 W1 φ1 vs h1 s1 t1 r => ⟨by rw [← r.len]; exact h1.1, fun p hp => ?_⟩⟩
  exact (fin_of t1 q).newT s1 h1.2 r hp
theorem se_lst {es : List Expr} {l : IEs} {pos : Pos} (h : PA X es (liftA X.K (wEs C l))) : SE X C (.List es pos) (.lst l) := by
  refine SE.of rfl (PE.imp (pe_lst h) fun σ H Q ⟨F, W, φ, L, S, P, s, ht, q⟩ => ?_)
  simp only [wE] at ht
  refine ⟨F, W, φ, L, S, _, s, ht, fun ds L1 S1 H1 W1 φ1 vs h1 s1 t1 r => ⟨by rw [← r.len]; exact h1.1, fun p hp => ?_⟩⟩
  exact (fin_of t1 q).newL s1 h1.2 r hp
theorem se_new {es : List Expr} {l : IEs} {pos : Pos} (h : PA X es (liftA X.K (wEs C l))) : SE X C (.List es pos) (.new l) := by
  refine SE.of rfl (PE.imp (pe_lst h) fun σ H Q ⟨F, W, φ, L, S, P, s, ht, q⟩ => ?_)
  simp only [wE] at ht
  refine ⟨F, W, φ, L, S, _, s, ht, fun ds L1 S1 H1 W1 φ1 vs h1 s1 t1 r => ⟨by rw [← r.len]; exact h1.1, fun p hp => ?_⟩⟩
  obtain ⟨s2, t2⟩ := s1.growS hp (by rw [← r.len]; exact h1.1) r
  refine q _ false L1 _ _ W1 _ (.ref p) h1.2 s2 (t1.trans t2) ?_
  show Rep _ _ _ _ _ _
  simp only [Rep]
  exact ⟨p, rfl, by rw [← s1.st.len.symm]; simp⟩
theorem se_idx {a i : Expr} {ia ii : IE} {pos : Pos} (G : GX c C sc X) (ha : SE X C a ia) (hi : SE X C i ii) (hp : PlainIx i) : SE X C (.Subscript a i pos) (.idx ia ii) := by
  refine SE.of rfl (PE.imp (pe_ix (ixX X) ha.p hi.p hp) fun σ H Q ⟨F, W, φ, L, S, P, s, ht, q⟩ => ?_)
  simp only [wE] at ht
  refine bin_go (a := a) (b := i) s ht fun x y L2 S2 H2 W2 φ2 v u h2 s2 t2 rx ry => ?_
  exact prim_idx rfl G.hu s2 rx ry h2 fun d w hd r => q d false L2 S2 H2 W2 φ2 w hd s2 t2 r
def liftO (K : PySem.W.Frag) (t : Lo → Sto → (Option Int → Lo → Sto → Prop) → Prop) : TO := fun σ H Q => ∃ F W φ L S P, StR K F H W φ L S σ ∧ t L S P ∧
  ∀ o L' S' H' W' φ', P o L' S' → StR K F H' W' φ' L' S' σ → Tr false H φ W H' φ' W' → Q o H'
theorem so_none : PO X none (liftO X.K (wEo C .no)) := PO.imp po_none fun σ H Q ⟨F, W, φ, L, S, P, s, ht, q⟩ => by
  simp only [wEo] at ht
  exact q none L S H W φ ht s Tr.refl
theorem so_some {e : Expr} {i : IE} (h : SE X C e i) : PO X (some e) (liftO X.K (wEo C (.so i))) := PO.imp (po_some h.p) fun σ H Q ⟨F, W, φ, L, S, P, s, ht, q⟩ => by
  simp only [wEo] at ht
  refine ⟨F, W, φ, L, S, _, s, ht, fun x L1 S1 H1 W1 φ1 v h1 s1 t1 r => ?_⟩
  obtain ⟨j, rfl, h1⟩ := h1
  exact ⟨j, r.int, q _ L1 S1 H1 W1 φ1 h1 s1 t1⟩
theorem se_slc {a : Expr} {lo hi : Option Expr} {ia : IE} {il ih : IEo} {p2 pos : Pos} (ha : SE X C a ia) (hl : PO X lo (liftO X.K (wEo C il))) (hh : PO X hi (liftO X.K (wEo C ih))) : SE X C (.Subscript a (.Slice lo hi none p2) pos) (.slcE ia il ih) := by
  refine SE.of rfl (PE.imp (pe_slice (slX X) ha.p hl hh) fun σ H Q ⟨F, W, φ, L, S, P, s, ht, q⟩ => ?_)
  simp only [wE] at ht
  refine ⟨F, W, φ, L, S, _, s, ht, fun x L1 S1 H1 W1 φ1 v h1 s1 t1 r1 => ⟨F, W1, φ1, L1, S1, _, s1, h1, fun l L2 S2 H2 W2 φ2 h2 s2 t2 => ⟨F, W2, φ2, L2, S2, _, s2, h2, fun h L3 S3 H3 W3 φ3 h3 s3 t3 => ?_⟩⟩⟩
  exact prim_slc rfl s3 ((r1.go t2).go t3) h3 (fin_of ((t1.trans t2).trans t3) q)
theorem bootB : ∀ T ∈ ["len", "all", "any", "sum", "min", "max", "isinstance"], bootBuiltins (T : Str) = some (.builtin T) := by decide +kernel
theorem bootT : ∀ T ∈ ["tuple", "list", "int", "str", "bool", "dict"], bootBuiltins (T : Str) = some (.type T) := by decide +kernel
theorem se_blt {f : Str} {T : String} {e : Expr} {es : List Expr} {l : IEs} {p pos : Pos} (G : GX c C sc X) (hg : glb sc f = true) (hf : fine f = true) (hT : f = (T : Str)) (hm : T ∈ ["len", "all", "any", "sum", "min", "max", "tuple", "list", "int", "dict"])
    (ha : PA X (e :: es) (liftQ X.K (wPs C l))) (hs : starEach (e :: es) X.env = (false, eval e X.env) :: starEach es X.env) (hpl : (backTo pos (starEach es X.env)).any (·.1) = false) : SE X C (.Call (.Name f p) (e :: es) [] pos) (.blt T l) := by
  obtain ⟨f1, f2, f3⟩ := fine_of hf
  subst hT
  have hb : X.mg (T : Str) = none := G.bi T (by revert hm; simp only [bnames, List.mem_cons, List.not_mem_nil]; grind)
  have key : PE X (.Call (.Name (T : Str) p) (e :: es) [] pos) (tCB (CaX X (bltV T)) (liftQ X.K (wPs C l))) := by
    by_cases ht : T ∈ types1
    · have e1 : bltV T = .type T := by unfold bltV; rw [if_pos (by simpa using ht)]
      rw [e1]
      exact pe_callTy (caX X _) (G.gl_ hg) hb (bootT T (by revert ht; simp only [types1, List.mem_cons, List.not_mem_nil]; grind)) ha f3 f1 hs hpl
    · have e1 : bltV T = .builtin T := by unfold bltV; rw [if_neg (by simpa using ht)]
      rw [e1]
      exact pe_callB (caX X _) (G.gl_ hg) hb (bootB T (by revert hm ht; simp only [types1, List.mem_cons, List.not_mem_nil]; grind)) ha f3 f1 hs hpl
  refine SE.of rfl (PE.imp key fun σ H Q ⟨F, W, φ, L, S, P, s, ht, q⟩ => ?_)
  simp only [wE] at ht
  refine ⟨F, W, φ, L, S, _, s, ht, fun ds L1 S1 H1 W1 φ1 vs h1 s1 t1 r => ?_⟩
  exact prim_blt rfl G.calm s1 r h1 (fin_of t1 q)
theorem se_isa {T : String} {a : Expr} {ia : IE} {f t : Str} {p p2 pos : Pos} (G : GX c C sc X) (hg : glb sc f = true) (hf : fine f = true) (hfe : f = ("isinstance" : Str)) (hT : T ∈ isTys) (hte : t = (T : Str)) (htg : glb sc t = true) (ha : SE X C a ia)
    (hs : starEach [a, .Name t p2] X.env = (false, eval a X.env) :: starEach [.Name t p2] X.env) : SE X C (.Call (.Name f p) [a, .Name t p2] [] pos) (.isa ia T) := by
  obtain ⟨f1, f2, f3⟩ := fine_of hf
  subst hfe hte
  have hT' : T = "str" ∨ T = "int" ∨ T = "bool" ∨ T = "tuple" ∨ T = "list" ∨ T = "dict" := by simpa [isTys] using hT
  have hTb : T ∈ bnames := by simp only [bnames, List.mem_cons, List.not_mem_nil]; grind
  have pt : PE X (.Name (T : Str) p2) (tC (.ty T)) := pe_bltn (u := .type T) (G.gl_ htg) (G.bi T hTb) (bootT T (by simp only [List.mem_cons, List.not_mem_nil]; grind)) rfl (by rcases hT' with rfl | rfl | rfl | rfl | rfl | rfl <;> decide) (by rcases hT' with rfl | rfl | rfl | rfl | rfl | rfl <;> decide)
  have key := pe_callB (pos := pos) (p := p) (caX X (.builtin "isinstance")) (G.gl_ hg) (G.bi "isinstance" (by simp [bnames])) (bootB "isinstance" (by simp)) (pa_cons ha.p (pa_cons pt pa_nil rfl) hs) f3 f1 hs rfl
  refine SE.of rfl (PE.imp key fun σ H Q ⟨F, W, φ, L, S, P, s, ht, q⟩ => ?_)
  simp only [wE] at ht
  refine ⟨F, W, φ, L, S, _, s, ht, fun d L1 S1 H1 W1 φ1 v h1 s1 t1 r => ?_⟩
  obtain ⟨b, hb, hp⟩ := h1
  exact prim_isa rfl hT hb r (q _ _ L1 S1 H1 W1 φ1 _ hp s1 t1 (by show Rep _ _ _ _ _ _; simp only [Rep]))
end
end Q
/-! Soundness: targets, what is walked, comprehensions. -/
namespace Q
open PySem PySem.Spec PyProof.Rows L2
section
variable {K : PySem.W.Frag} {F : Fr} {H : Hp} {W : Addr → Prop} {φ : List Addr} {L : Lo} {S : Sto} {σ : Sg}
theorem own_set {i j : Nat} {s : Sl} {x : Option V} {a : Addr} (h : ownAt (L.set i s) (σ.set i x) j a) : (j = i ∧ (∃ d, s = .own d) ∧ x = some (.ref a)) ∨ (j ≠ i ∧ ownAt L σ j a) := by
  obtain ⟨⟨d, e⟩, e2⟩ := h
  rcases set_cases e with ⟨rfl, rfl⟩ | ⟨hn, e⟩
  · rcases set_cases e2 with ⟨_, h⟩ | ⟨hn, _⟩
    · exact .inl ⟨rfl, ⟨d, rfl⟩, h.symm⟩
    · exact (hn rfl).elim
  · rcases set_cases e2 with ⟨h, _⟩ | ⟨_, e2⟩
    · exact (hn h).elim
    · exact .inr ⟨hn, ⟨d, e⟩, e2⟩
theorem get_set_self {α : Type} {l : List α} {m : List (Option V)} {i : Nat} {a b : α} {x : Option V} (hl : l.length = m.length) (e : (l.set i a)[i]? = some b) : (m.set i x)[i]? = some x := by
  have := (List.getElem?_eq_some_iff.mp e).1
  simp at this
  exact List.getElem?_set_self (by omega)
/-- a slot is set -/
theorem StR.setVal (s : StR K F H W φ L S σ) {i : Nat} {d : D} {v : V} (r : Rep K H φ W d v) : StR K F H W φ (L.set i (.val d)) S (σ.set i (some v)) where
  ext := s.ext
  dom := s.dom
  wc := s.wc
  wnew := s.wnew
  wt := s.wt
  pre := s.pre
  phi := s.phi
  phw := s.phw
  nd := s.nd
  st := s.st
  lo := by
    refine ⟨by simp [s.lo.len], fun j t e => ?_, fun j k a hj hk => ?_⟩
    · rcases set_cases e with ⟨rfl, rfl⟩ | ⟨hn, h⟩
      · exact ⟨v, get_set_self s.lo.len e, r⟩
      · rw [List.getElem?_set_ne (Ne.symm hn)]; exact s.lo.at_ j t h
    · rcases own_set hj with ⟨rfl, ⟨_, h⟩, _⟩ | ⟨hn, hj⟩
      · cases h
      · rcases own_set hk with ⟨rfl, ⟨_, h⟩, _⟩ | ⟨hn, hk⟩
        · cases h
        · exact s.lo.apart j k a hj hk
theorem StR.setFlag (s : StR K F H W φ L S σ) {i : Nat} {f : Bool} {d : D} {v : V} (r : VR K F H W φ L σ f d v) : StR K F H W φ (L.set i (flag f d)) S (σ.set i (some v)) := by
  cases f with
  | false => exact s.setVal r
  | true =>
    obtain ⟨a, rfl, w, h0, t, no⟩ := r
    refine ⟨s.ext, s.dom, s.wc, s.wnew, s.wt, s.pre, s.phi, s.phw, s.nd, s.st, by simp [s.lo.len], fun j t' e => ?_, fun j k b hj hk => ?_⟩
    · rcases set_cases e with ⟨rfl, rfl⟩ | ⟨hn, h⟩
      · exact ⟨a, get_set_self s.lo.len e, w, h0, t⟩
      · rw [List.getElem?_set_ne (Ne.symm hn)]; exact s.lo.at_ j t' h
    · rcases own_set hj with ⟨hji, _, e1⟩ | ⟨hn, hj'⟩
      · rcases own_set hk with ⟨hki, _, _⟩ | ⟨hn, hk'⟩
        · rw [hji, hki]
        · cases e1; exact (no k hk').elim
      · rcases own_set hk with ⟨hki, _, e1⟩ | ⟨hn, hk'⟩
        · cases e1; exact (no j hj').elim
        · exact s.lo.apart j k b hj' hk'
end
def liftG (K : PySem.W.Frag) (ix : List Nat) (t : D → Lo → (Lo → Prop) → Prop) : TG := fun v σ H Q => ∃ F W φ L S d P, StR K F H W φ L S σ ∧ Rep K H φ W d v ∧ t d L P ∧
  ∀ L' σ', P L' → StR K F H W φ L' S σ' → σ'.length = σ.length → (∀ j, j ∉ ix → σ'[j]? = σ[j]?) → (∀ j, j ∉ ix → L'[j]? = L[j]?) → Q σ' H
def liftGs (K : PySem.W.Frag) (ix : List Nat) (t : List D → Lo → (Lo → Prop) → Prop) : TGs := fun vs σ H Q => ∃ F W φ L S ds P, StR K F H W φ L S σ ∧ Reps K H φ W ds vs ∧ t ds L P ∧
  ∀ L' σ', P L' → StR K F H W φ L' S σ' → σ'.length = σ.length → (∀ j, j ∉ ix → σ'[j]? = σ[j]?) → (∀ j, j ∉ ix → L'[j]? = L[j]?) → Q σ' H
theorem PG.imp {X : Cx} {e : Expr} {t u : TG} (h : PG X e t) (k : ∀ v σ H Q, u v σ H Q → t v σ H Q) : PG X e u := ⟨fun pins s σ H v uu Q I r hw => h.run pins s σ H v uu Q I r (k v σ H Q hw)⟩
theorem PGs.imp {X : Cx} {e : List Expr} {t u : TGs} (h : PGs X e t) (k : ∀ v σ H Q, u v σ H Q → t v σ H Q) : PGs X e u := ⟨fun pins s σ H v uu Q I r hw => h.run pins s σ H v uu Q I r (k v σ H Q hw)⟩
section
variable {X : Cx} {C : Calls} {c : TC} {sc : Scope}
theorem GX.loc (G : GX c C sc X) {x : Str} (h : (loc sc x || (sc.names.lookup x == some .cell)) = true) : Loc X.env.scope x ∧ (X.fn x = true ∨ X.env.scope.names.lookup x = some .local) := by
  have := G.sc x
  rw [Bool.or_eq_true] at h
  rcases h with h | h
  · unfold Q.loc at h
    split at h
    · rename_i e
      rw [e] at this
      rcases this with z | z
      · exact ⟨.inl z, .inr z⟩
      · cases z.1
    · cases h
  · have h : sc.names.lookup x = some .cell := by simpa using h
    have hf := G.fn x h
    rw [h] at this
    rcases this with z | z
    · exact ⟨.inr z, .inl hf⟩
    · cases z.1
structure TrTs (X : Cx) (es : List Expr) (ts : List IT) : Prop where
  pg : PGs X es (liftGs X.K (IT.ix.ixs ts) (wG.wGs ts))
  n : (assignEach es X.env).length = ts.length
  st : (assignEach es X.env).findIdx? (·.1) = none
mutual
theorem wG_ex : ∀ {t : IT} {d : D} {L : Lo} {P : Lo → Prop}, wG t d L P → ∃ L', P L'
  | .nm i, d, L, P, h => by simp only [wG] at h; exact ⟨_, h⟩
  | .tp ts, d, L, P, h => by
    simp only [wG] at h
    obtain ⟨ds, _, h⟩ := h
    exact (wGs_ex h).2
theorem wGs_ex : ∀ {ts : List IT} {ds : List D} {L : Lo} {P : Lo → Prop}, wG.wGs ts ds L P → ds.length = ts.length ∧ ∃ L', P L'
  | [], [], L, P, h => by simp only [wG.wGs] at h; exact ⟨rfl, _, h⟩
  | [], _ :: _, _, _, h => by simp [wG.wGs] at h
  | _ :: _, [], _, _, h => by simp [wG.wGs] at h
  | t :: ts, d :: ds, L, P, h => by
    simp only [wG.wGs] at h
    obtain ⟨L1, h⟩ := wG_ex h
    obtain ⟨h1, h2⟩ := wGs_ex h
    exact ⟨by simp [h1], h2⟩
end
theorem tr_sound (G : GX c C sc X) : ∀ (n : Nat), (∀ tg t, trT c sc n tg = some t → PG X tg (liftG X.K t.ix (wG t)) ∧ ∀ es, assignEach (tg :: es) X.env = (false, assign tg X.env) :: assignEach es X.env) ∧ (∀ es ts, trTs c sc n es = some ts → TrTs X es ts) := by
  intro n
  induction n with
  | zero =>
    refine ⟨fun tg t h => by simp [trT] at h, fun es ts h => ?_⟩
    cases es with
    | nil =>
      simp [trTs] at h; subst h
      exact ⟨PGs.imp pgs_nil fun vs σ H Q ⟨F, W, φ, L, S, ds, P, s, r, ht, q⟩ => by
        cases ds with
        | cons _ _ => simp [wG.wGs] at ht
        | nil =>
          simp only [wG.wGs] at ht
          cases vs with
          | cons _ _ => simp [Reps] at r
          | nil => exact ⟨rfl, q L σ ht s rfl (fun _ _ => rfl) fun _ _ => rfl⟩, rfl, rfl⟩
    | cons e es => simp [trTs] at h
  | succ n ih =>
    obtain ⟨ih1, ih2⟩ := ih
    refine ⟨fun tg t h => ?_, fun es ts h => ?_⟩
    · cases tg <;> try (simp [trT] at h; done)
      · rename_i x pos
        simp only [trT] at h
        split at h
        · rename_i hl
          obtain ⟨i, hi, rfl⟩ := Option.map_eq_some_iff.mp h
          obtain ⟨l1, l2⟩ := G.loc hl
          refine ⟨PG.imp (pg_name (i := i) (by rw [G.N]; exact G.nd) (by rw [G.N]; exact idx_get hi) l1 l2) fun v σ H Q ⟨F, W, φ, L, S, d, P, s, r, ht, q⟩ => ?_, fun _ => rfl⟩
          simp only [wG] at ht
          refine q _ _ ht (s.setVal r) (by simp) (fun j hj => ?_) fun j hj => ?_
          all_goals
            rw [List.getElem?_set_ne]
            intro e; subst e; exact hj (by simp [IT.ix])
        · cases h
      · rename_i es k pos
        simp only [trT] at h
        obtain ⟨ts, hts, rfl⟩ := Option.map_eq_some_iff.mp h
        have T := ih2 es ts hts
        refine ⟨PG.imp (pg_tup G.calm T.pg T.n T.st) fun v σ H Q ⟨F, W, φ, L, S, d, P, s, r, ht, q⟩ => ?_, fun _ => rfl⟩
        simp only [wG] at ht
        obtain ⟨ds, rfl, ht⟩ := ht
        simp only [Rep] at r
        obtain ⟨a, xs, rfl, hq, r⟩ := r
        exact ⟨a, xs, rfl, hq, by rw [← r.len]; exact (wGs_ex ht).1, F, W, φ, L, S, ds, P, s, r, ht, q⟩
    · cases es with
      | nil =>
        simp [trTs] at h; subst h
        exact ⟨PGs.imp pgs_nil fun vs σ H Q ⟨F, W, φ, L, S, ds, P, s, r, ht, q⟩ => by
          cases ds with
          | cons _ _ => simp [wG.wGs] at ht
          | nil =>
            simp only [wG.wGs] at ht
            cases vs with
            | cons _ _ => simp [Reps] at r
            | nil => exact ⟨rfl, q L σ ht s rfl (fun _ _ => rfl) fun _ _ => rfl⟩, rfl, rfl⟩
      | cons e es =>
        simp only [trTs, Option.bind_eq_bind, Option.bind_eq_some_iff] at h
        obtain ⟨t, ht, ts, hts, h⟩ := h
        cases h
        obtain ⟨p1, st1⟩ := ih1 e t ht
        have T := ih2 es ts hts
        refine ⟨PGs.imp (pgs_cons p1 T.pg (by rw [st1]; rfl)) fun vs σ H Q ⟨F, W, φ, L, S, ds, P, s, r, hw, q⟩ => ?_, ?_, ?_⟩
        · cases ds with
          | nil => simp [wG.wGs] at hw
          | cons d ds =>
            simp only [wG.wGs] at hw
            cases vs with
            | nil => simp [Reps] at r
            | cons v vs =>
              simp only [Reps] at r
              refine ⟨v, vs, rfl, F, W, φ, L, S, d, _, s, r.1, hw, fun L1 σ1 h1 s1 n1 k1 m1 => ⟨F, W, φ, L1, S, ds, P, s1, r.2, h1, fun L2 σ2 h2 s2 n2 k2 m2 => q L2 σ2 h2 s2 (n2.trans n1) (fun j hj => ?_) fun j hj => ?_⟩⟩
              · simp only [IT.ix.ixs, List.mem_append, not_or] at hj
                exact (k2 j hj.2).trans (k1 j hj.1)
              · simp only [IT.ix.ixs, List.mem_append, not_or] at hj
                exact (m2 j hj.2).trans (m1 j hj.1)
        · rw [st1]; simp [T.n]
        · rw [st1]; simp [List.findIdx?_cons, T.st]
end
end Q
/-! Soundness: what is walked, comprehensions. -/
namespace Q
open PySem PySem.Spec PyProof.Rows L2
/-- the i-th of ds comes -/
def ItemR (K : PySem.W.Frag) (H : Hp) (φ : List Addr) (W : Addr → Prop) (ds : List D) (i : Nat) (x : V) (H' : Hp) : Prop :=
  ∃ d, ds[i]? = some d ∧ ((H' = H ∧ Rep K H φ W d x) ∨ ∃ p u v du dv, x = .ref p ∧ H p = none ∧ H' = upd H p (.tup [u, v]) ∧ d = .tup [du, dv] ∧ Rep K H φ W du u ∧ Rep K H φ W dv v)
structure Wk (K : PySem.W.Frag) (ds : List D) (J : It) (H : Hp) (φ : List Addr) (W : Addr → Prop) : Prop where
  ex : ∃ G Y, Walk J ds.length G Y ∧ (∀ H2 φ2 W2, Tr true H φ W H2 φ2 W2 → G H2) ∧ ∀ i H2 φ2 W2 x H3, i < ds.length → Tr true H φ W H2 φ2 W2 → Y i H2 x H3 → ItemR K H2 φ2 W2 ds i x H3
def liftI (K : PySem.W.Frag) (t : Lo → Sto → (List D → Lo → Sto → Prop) → Prop) : TI := fun σ H R => ∃ F W φ L S P, StR K F H W φ L S σ ∧ t L S P ∧
  ∀ ds L' S' H' W' φ' J, P ds L' S' → StR K F H' W' φ' L' S' σ → Tr false H φ W H' φ' W' → Wk K ds J H' φ' W' → R J H'
section
variable {K : PySem.W.Frag} {F : Fr} {H H' : Hp} {W : Addr → Prop} {φ : List Addr} {L : Lo} {S : Sto} {σ : Sg}
theorem ItemR.go {ds : List D} {i : Nat} {x : V} (h : ItemR K H φ W ds i x H') (s : StR K F H W φ L S σ) : ∃ d, ds[i]? = some d ∧ StR K F H' W φ L S σ ∧ Tr false H φ W H' φ W ∧ Rep K H' φ W d x := by
  obtain ⟨d, e, h⟩ := h
  rcases h with ⟨rfl, r⟩ | ⟨p, u, v, du, dv, rfl, hp, rfl, rfl, r1, r2⟩
  · exact ⟨d, e, s, Tr.refl, r⟩
  · refine ⟨_, e, s.grow hp, Tr.new hp, ?_⟩
    simp only [Rep]
    exact ⟨p, [u, v], rfl, .inl (.inl upd_same), Reps.cons (r1.go (S := false) (Tr.new hp)) (Reps.cons (r2.go (S := false) (Tr.new hp)) Reps.nil)⟩
theorem wk_list {a : Addr} {l : List D} {vs : List V} (e : H a = some (.lst vs)) (hw : ¬ W a) (hp : a ∉ φ) (r : Reps K H φ W l vs) : Wk K l (Itl K a) H φ W := by
  refine ⟨_, _, by rw [r.len]; exact walk_list (K := K) (a := a) (xs := vs), fun H2 φ2 W2 t => SqL.of (t.keep _ _ e fun _ => ⟨hp, fun _ => hw⟩), fun i H2 φ2 W2 x H3 hi t y => ?_⟩
  obtain ⟨rfl, hx⟩ := y
  obtain ⟨d, hd, rd⟩ := r.getv hx
  exact ⟨d, hd, .inl ⟨rfl, rd.go t⟩⟩
theorem wk_tup {a : Addr} {l : List D} {vs : List V} (e : SqT K H a vs) (r : Reps K H φ W l vs) : Wk K l (Itt K a) H φ W := by
  refine ⟨_, _, by rw [r.len]; exact walk_tup (K := K) (a := a) (xs := vs), fun H2 φ2 W2 t => SqT.go t e, fun i H2 φ2 W2 x H3 hi t y => ?_⟩
  obtain ⟨rfl, hx⟩ := y
  obtain ⟨d, hd, rd⟩ := r.getv hx
  exact ⟨d, hd, .inl ⟨rfl, rd.go t⟩⟩
theorem wk_scr {a : Addr} {ns : List Int} (e : (∃ o, H a = some (.frz o (.lst (ns.map V.int)))) ∨ SqL K (fun _ => none) a (ns.map V.int)) : Wk K (ns.map .int) (Itl K a) H φ W := by
  refine ⟨_, _, by rw [List.length_map, ← List.length_map (f := V.int)]; exact walk_list (K := K) (a := a) (xs := ns.map V.int), fun H2 φ2 W2 t => (show SqL K H2 a (ns.map V.int) from scr_sq (e.elim (fun ⟨o, e⟩ => .inl ⟨o, t.keep _ _ e (by intro z; cases z)⟩) .inr)), fun i H2 φ2 W2 x H3 hi t y => ?_⟩
  obtain ⟨rfl, hx⟩ := y
  rw [List.getElem?_map] at hx
  obtain ⟨n, hn, rfl⟩ := Option.map_eq_some_iff.mp hx
  exact ⟨.int n, by rw [List.getElem?_map, hn]; rfl, .inl ⟨rfl, by simp only [Rep]⟩⟩
theorem wk_str {z : Str} : Wk K (z.cps.toList.map fun c => .str ⟨#[c]⟩) (Its z) H φ W := by
  refine ⟨_, _, by rw [List.length_map]; exact walk_str (z := z), fun _ _ _ _ => trivial, fun i H2 φ2 W2 x H3 hi t y => ?_⟩
  obtain ⟨rfl, ch, hc, rfl⟩ := y
  refine ⟨.str ⟨#[ch]⟩, ?_, .inl ⟨rfl, by simp only [Rep]⟩⟩
  rw [List.getElem?_map, Array.getElem?_toList, hc]; rfl
theorem wk_rng {lo : Int} {n : Nat} : Wk K (rngList lo n) (Itr lo n) H φ W := by
  refine ⟨_, _, by unfold rngList; rw [List.length_map, List.length_range]; exact walk_range, fun _ _ _ _ => trivial, fun i H2 φ2 W2 x H3 hi t y => ?_⟩
  obtain ⟨rfl, rfl⟩ := y
  have hi : i < n := by simpa [rngList] using hi
  exact ⟨.int (lo + i), by unfold rngList; rw [List.getElem?_map, List.getElem?_range hi]; rfl, .inl ⟨rfl, by simp only [Rep]⟩⟩
theorem zip_get {l m : List D} {i : Nat} {a b : D} (h1 : l[i]? = some a) (h2 : m[i]? = some b) : (List.zipWith (fun u v => D.tup [u, v]) l m)[i]? = some (.tup [a, b]) := by
  rw [List.getElem?_zipWith, h1, h2]
theorem wk_zipL {a b : Addr} {l m : List D} {vs us : List V} (hl : l.length = m.length) (e : H a = some (.lst vs)) (hw : ¬ W a) (hp : a ∉ φ) (r : Reps K H φ W l vs) (e2 : H b = some (.lst us)) (hw2 : ¬ W b) (hp2 : b ∉ φ) (r2 : Reps K H φ W m us) :
    Wk K (List.zipWith (fun u v => .tup [u, v]) l m) (Itz K a b) H φ W := by
  refine ⟨_, _, walk_zip (xs := vs) (ys := us) (by rw [List.length_zipWith, r.len, r2.len]), fun H2 φ2 W2 t => ⟨SqL.of (t.keep _ _ e fun _ => ⟨hp, fun _ => hw⟩), SqL.of (t.keep _ _ e2 fun _ => ⟨hp2, fun _ => hw2⟩)⟩, fun i H2 φ2 W2 x H3 hi t y => ?_⟩
  obtain ⟨T, u, v, rfl, hT, rfl, hu, hv⟩ := y
  obtain ⟨d1, h1, rd1⟩ := r.getv hu
  obtain ⟨d2, h2, rd2⟩ := r2.getv hv
  exact ⟨_, zip_get h1 h2, .inr ⟨T, u, v, d1, d2, rfl, hT, rfl, rfl, rd1.go t, rd2.go t⟩⟩
theorem wk_zipT {a b : Addr} {l m : List D} {vs us : List V} (hl : l.length = m.length) (e : SqT K H a vs) (r : Reps K H φ W l vs) (e2 : SqT K H b us) (r2 : Reps K H φ W m us) :
    Wk K (List.zipWith (fun u v => .tup [u, v]) l m) (RZ.ItzT K a b) H φ W := by
  have hn : (List.zipWith (fun u v => D.tup [u, v]) l m).length = vs.length := by rw [List.length_zipWith, ← r.len, ← hl]; simp
  refine ⟨fun H => SqT K H a vs ∧ SqT K H b us, YPair (fun i => vs[i]?) (fun i => us[i]?), ⟨fun i H hi g => ?_, fun H g => ?_, fun i H x H' hi g y => ?_⟩, fun H2 φ2 W2 t => ⟨SqT.go t e, SqT.go t e2⟩, fun i H2 φ2 W2 x H3 hi t y => ?_⟩
  · rw [hn] at hi
    have hi2 : i < us.length := by rw [← r2.len, ← hl, r.len]; exact hi
    exact ⟨vs, us, vs[i], us[i], g.1, g.2, List.getElem?_eq_getElem hi, List.getElem?_eq_getElem hi2⟩
  · exact ⟨vs, us, g.1, g.2, .inl (by rw [hn]; exact Nat.le_refl _)⟩
  · obtain ⟨T, u, v, h1, h2, h3, h4, h5⟩ := y
    exact ⟨T, u, v, h1, h2, h3, h4 vs g.1, h5 us g.2⟩
  · obtain ⟨T, u, v, rfl, hT, rfl, hu, hv⟩ := y
    obtain ⟨d1, h1, rd1⟩ := r.getv hu
    obtain ⟨d2, h2, rd2⟩ := r2.getv hv
    exact ⟨_, zip_get h1 h2, .inr ⟨T, u, v, d1, d2, rfl, hT, rfl, rfl, rd1.go t, rd2.go t⟩⟩
end
section
variable {X : Cx} {C : Calls} {c : TC} {sc : Scope}
def iAny (K : PySem.W.Frag) (te : TE) : TI := fun σ H R => te σ H fun v H1 => (∃ a, v = .ref a ∧ (∃ xs, SqL K H1 a xs) ∧ R (Itl K a) H1) ∨ (∃ a, v = .ref a ∧ (∃ xs, SqT K H1 a xs) ∧ R (Itt K a) H1) ∨ ∃ z, v = .str z ∧ R (Its z) H1
theorem pi_any {tg e : Expr} {te : TE} (h : PE X e te) : PI X tg e (iAny X.K te) := by
  constructor
  intro pins s0 σ0 H0 R0 I0 h0
  refine thn (h.run pins s0 σ0 H0 _ I0 h0) fun v s1 ⟨x, H1, I1, r1, q1⟩ => ?_
  rcases q1 with ⟨a, rfl, hq, q⟩ | ⟨a, rfl, hq, q⟩ | ⟨z, rfl, q⟩
  · cases (show v = Value.ref a from r1)
    obtain ⟨xs, hq⟩ := hq
    obtain ⟨us, _, lp, _⟩ := I1.list hq
    exact wpAny_pyIter_list lp.isList (pi_one (tk := s1.toks) I1 _ (turn_list a _) ⟨_, Heap.get?_push_size _ rfl, rfl, rfl⟩ q)
  · cases (show v = Value.ref a from r1)
    obtain ⟨xs, hq⟩ := hq
    obtain ⟨us, _, tp, _⟩ := I1.tuple hq
    exact wpAny_pyIter_tuple (items := us.toArray) tp (pi_one (tk := s1.toks) I1 _ (turn_tuple a _) ⟨_, Heap.get?_push_size _ rfl, rfl, rfl⟩ q)
  · obtain ⟨t, e⟩ := (show ∃ t, v = Value.str z t from r1)
    subst e
    cases asc : z.cps.all (· < 128) with
    | true => exact wpAny_pyIter_ascii asc (pi_one (tk := s1.toks) I1 _ (turn_str _ z t _ (.inl rfl)) ⟨_, Heap.get?_push_size _ rfl, rfl, rfl⟩ q)
    | false => exact wpAny_pyIter_wide asc (pi_one (tk := s1.toks) I1 _ (turn_str _ z t _ (.inr rfl)) ⟨_, Heap.get?_push_size _ rfl, rfl, rfl⟩ q)
theorem pi_seq {tg e : Expr} {i : IE} (h : SE X C e i) : PI X tg e (liftI X.K (wI C (.seq i))) := by
  refine PI.imp (pi_any h.v) fun σ H R ⟨F, W, φ, L, S, P, s, ht, q⟩ => ?_
  simp only [wI] at ht
  refine ⟨F, W, φ, L, S, _, s, ht, fun d f L1 S1 H1 W1 φ1 v h1 s1 t1 vr => ?_⟩
  obtain ⟨W2, s2, t2, r⟩ := vr.settle s1
  split at h1
  · simp only [Rep] at r
    obtain ⟨a, vs, rfl, e, r⟩ := r
    exact .inr (.inl ⟨a, rfl, ⟨vs, e⟩, q _ L1 S1 H1 W2 φ1 _ h1 s2 (t1.trans t2) (wk_tup e r)⟩)
  · simp only [Rep] at r
    obtain ⟨a, rfl, w, p, vs, e, r⟩ := r
    exact .inl ⟨a, rfl, ⟨vs, SqL.of e⟩, q _ L1 S1 H1 W2 φ1 _ h1 s2 (t1.trans t2) (wk_list e w p r)⟩
  · simp only [Rep] at r
    obtain ⟨a, rfl, e⟩ := r
    exact .inl ⟨a, rfl, ⟨_, scr_sq e⟩, q _ L1 S1 H1 W2 φ1 _ h1 s2 (t1.trans t2) (wk_scr e)⟩
  · simp only [Rep] at r
    exact .inr (.inr ⟨_, r, q _ L1 S1 H1 W2 φ1 _ h1 s2 (t1.trans t2) wk_str⟩)
  · exact h1.elim
theorem vr_int {K : PySem.W.Frag} {F : Fr} {H : Hp} {W : Addr → Prop} {φ : List Addr} {L : Lo} {S : Sto} {σ : Sg} {f : Bool} {i : Int} {v : V} (s : StR K F H W φ L S σ) (h : VR K F H W φ L σ f (.int i) v) : v = .int i := (h.repP s).int
theorem pi_rng1 {tg a : Expr} {ia : IE} {f : Str} {p pos : Pos} (G : GX c C sc X) (hg : glb sc f = true) (hf : f = ("range" : Str)) (ha : SE X C a ia) (hs : ∀ es, starEach (a :: es) X.env = (false, eval a X.env) :: starEach es X.env) :
    PI X tg (.Call (.Name f p) [a] [] pos) (liftI X.K (wI C (.rng (.cst (.int 0)) ia))) := by
  subst hf
  refine PI.imp (pi_range1 (G.gl_ hg) (G.bi "range" (by simp [bnames])) (pa_cons ha.v pa_nil (hs [])) (hs [])) fun σ H R ⟨F, W, φ, L, S, P, s, ht, q⟩ => ?_
  simp only [wI, wE] at ht
  refine ⟨F, W, φ, L, S, _, s, ht, fun d f L1 S1 H1 W1 φ1 v h1 s1 t1 vr => ?_⟩
  obtain ⟨i, j, e, rfl, _, l2, h1⟩ := h1
  cases e
  have e := vr_int s1 vr
  subst e
  refine ⟨j, rfl, l2.1, l2.2, ?_⟩
  have := q _ L1 S1 H1 W1 φ1 (Itr 0 (j - 0).toNat) h1 s1 t1 wk_rng
  rwa [Int.sub_zero] at this
theorem pi_rng2 {tg a b : Expr} {ia ib : IE} {f : Str} {p pos : Pos} (G : GX c C sc X) (hg : glb sc f = true) (hf : f = ("range" : Str)) (ha : SE X C a ia) (hb : SE X C b ib) (hs : ∀ es, starEach (a :: es) X.env = (false, eval a X.env) :: starEach es X.env) (hs2 : ∀ es, starEach (b :: es) X.env = (false, eval b X.env) :: starEach es X.env) :
    PI X tg (.Call (.Name f p) [a, b] [] pos) (liftI X.K (wI C (.rng ia ib))) := by
  subst hf
  refine PI.imp (pi_range2 (G.gl_ hg) (G.bi "range" (by simp [bnames])) (pa_cons ha.v (pa_cons hb.v pa_nil (hs2 [])) (hs [b])) (by rw [hs, hs2]; rfl) (hs2 [])) fun σ H R ⟨F, W, φ, L, S, P, s, ht, q⟩ => ?_
  simp only [wI] at ht
  refine ⟨F, W, φ, L, S, _, s, ht, fun d f L1 S1 H1 W1 φ1 v h1 s1 t1 vr => ⟨F, W1, φ1, L1, S1, _, s1, h1, fun d2 f2 L2 S2 H2 W2 φ2 v2 h2 s2 t2 vr2 => ?_⟩⟩
  obtain ⟨i, j, rfl, rfl, l1, l2, h2⟩ := h2
  have e := vr_int s1 vr
  have e2 := vr_int s2 vr2
  subst e e2
  exact ⟨i, j, rfl, ⟨l1.1, l1.2, l2.1, l2.2⟩, q _ L2 S2 H2 W2 φ2 _ h2 s2 (t1.trans t2) wk_rng⟩
theorem pi_zip_ {a b : Expr} {elts : List Expr} {kk : Nat} {tpos : Pos} {ia ib : IE} {f : Str} {p pos : Pos} (G : GX c C sc X) (hg : glb sc f = true) (hf : f = ("zip" : Str)) (ha : SE X C a ia) (hb : SE X C b ib) (hs : ∀ es, starEach (a :: es) X.env = (false, eval a X.env) :: starEach es X.env) (hs2 : ∀ es, starEach (b :: es) X.env = (false, eval b X.env) :: starEach es X.env) :
    PI X (.Tuple elts kk tpos) (.Call (.Name f p) [a, b] [] pos) (liftI X.K (wI C (.zip ia ib))) := by
  subst hf
  refine PI.imp (RZ.pi_zipA (G.gl_ hg) (G.bi "zip" (by simp [bnames])) (pa_cons ha.v (pa_cons hb.v pa_nil (hs2 [])) (hs [b])) (hs [b]) (by rw [hs2]; rfl)) fun σ H R ⟨F, W, φ, L, S, P, s, ht, q⟩ => ?_
  simp only [wI] at ht
  refine ⟨F, W, φ, L, S, _, s, ht, fun d f L1 S1 H1 W1 φ1 v h1 s1 t1 vr => ?_⟩
  obtain ⟨W1', s1', t1', r1⟩ := vr.settle s1
  refine ⟨F, W1', φ1, L1, S1, _, s1', h1, fun d2 f2 L2 S2 H2 W2 φ2 v2 h2 s2 t2 vr2 => ?_⟩
  obtain ⟨W2', s2', t2', r2⟩ := vr2.settle s2
  have r1 := (r1.go t2).go t2'
  have tt := (t1.trans t1').trans (t2.trans t2')
  split at h2
  · simp only [Rep] at r1 r2
    obtain ⟨x, vs, rfl, e1, r1⟩ := r1
    obtain ⟨y, us, rfl, e2, r2⟩ := r2
    exact ⟨x, y, vs, us, rfl, .inr ⟨e1, e2, q _ L2 S2 H2 W2' φ2 _ h2.2 s2' tt (wk_zipT h2.1 e1 r1 e2 r2)⟩⟩
  · simp only [Rep] at r1 r2
    obtain ⟨x, rfl, w1, p1, vs, e1, r1⟩ := r1
    obtain ⟨y, rfl, w2, p2, us, e2, r2⟩ := r2
    exact ⟨x, y, vs, us, rfl, .inl ⟨SqL.of e1, SqL.of e2, q _ L2 S2 H2 W2' φ2 _ h2.2 s2' tt (wk_zipL h2.1 e1 w1 p1 r1 e2 w2 p2 r2)⟩⟩
  · exact h2.elim
end
end Q
/-! Soundness: comprehensions. -/
namespace Q
open PySem PySem.Spec PyProof.Rows L2
section
variable {K : PySem.W.Frag} {F : Fr} {H H' : Hp} {W : Addr → Prop} {φ : List Addr} {L : Lo} {S : Sto} {σ : Sg}
theorem wipeL_get : ∀ {vs : List Nat} {L : Lo} {j : Nat}, (wipeL L vs)[j]? = if j ∈ vs then L[j]?.map (fun _ => Sl.no) else L[j]?
  | [], L, j => by simp [wipeL]
  | v :: vs, L, j => by
    unfold wipeL
    by_cases hj : v = j
    · subst hj
      rw [if_pos List.mem_cons_self]
      by_cases hl : v < L.length
      · rw [List.getElem?_set_self (by rw [wipeL_len]; exact hl), List.getElem?_eq_getElem hl]; rfl
      · rw [List.getElem?_eq_none (by simp [wipeL_len]; omega), List.getElem?_eq_none (by omega)]; rfl
    · rw [List.getElem?_set_ne hj, wipeL_get]
      simp only [List.mem_cons, show ¬ j = v from fun e => hj e.symm, false_or]
where
  wipeL_len : ∀ {vs : List Nat} {L : Lo}, (wipeL L vs).length = L.length
  | [], L => rfl
  | v :: vs, L => by unfold wipeL; rw [List.length_set, wipeL_len]
theorem wipe_get : ∀ {vs : List Nat} {σ : Sg} {j : Nat}, (wipe σ vs)[j]? = if j ∈ vs then σ[j]?.map (fun _ => none) else σ[j]?
  | [], σ, j => by simp [wipe]
  | v :: vs, σ, j => by
    unfold wipe
    by_cases hj : v = j
    · subst hj
      rw [if_pos List.mem_cons_self]
      by_cases hl : v < σ.length
      · rw [List.getElem?_set_self (by rw [wipe_length]; exact hl), List.getElem?_eq_getElem hl]; rfl
      · rw [List.getElem?_eq_none (by simp [wipe_length]; omega), List.getElem?_eq_none (by omega)]; rfl
    · rw [List.getElem?_set_ne hj, wipe_get]
      simp only [List.mem_cons, show ¬ j = v from fun e => hj e.symm, false_or]
theorem wipe_eq {vs : List Nat} {σ σ' : Sg} (hl : σ'.length = (wipe σ vs).length) (h : ∀ j, j ∉ vs → σ'[j]? = (wipe σ vs)[j]?) : wipe σ' vs = wipe σ vs := by
  apply List.ext_getElem?
  intro j
  rw [wipe_get, wipe_get]
  by_cases hj : j ∈ vs
  · rw [if_pos hj, if_pos hj]
    rw [wipe_length] at hl
    by_cases hlt : j < σ.length
    · rw [List.getElem?_eq_getElem hlt, List.getElem?_eq_getElem (by omega)]; rfl
    · rw [List.getElem?_eq_none (by omega), List.getElem?_eq_none (by omega)]
  · rw [if_neg hj, if_neg hj, h j hj, wipe_get, if_neg hj]
theorem StR.wipe (s : StR K F H W φ L S σ) (vs : List Nat) : StR K F H W φ (wipeL L vs) S (L2.wipe σ vs) where
  ext := s.ext
  dom := s.dom
  wc := s.wc
  wnew := s.wnew
  wt := s.wt
  pre := s.pre
  phi := s.phi
  phw := s.phw
  nd := s.nd
  st := s.st
  lo := by
    refine ⟨by rw [wipeL_get.wipeL_len, wipe_length]; exact s.lo.len, fun j t e => ?_, fun j k a hj hk => ?_⟩
    · rw [wipeL_get] at e
      by_cases hj : j ∈ vs
      · rw [if_pos hj] at e
        obtain ⟨_, _, rfl⟩ := Option.map_eq_some_iff.mp e
        trivial
      · rw [if_neg hj] at e
        rw [wipe_get, if_neg hj]
        exact s.lo.at_ j t e
    · have get : ∀ j, ownAt (wipeL L vs) (L2.wipe σ vs) j a → ownAt L σ j a := fun j ⟨⟨d, e⟩, e2⟩ => by
        rw [wipeL_get] at e
        by_cases hj : j ∈ vs
        · rw [if_pos hj] at e
          obtain ⟨_, _, z⟩ := Option.map_eq_some_iff.mp e
          cases z
        · rw [if_neg hj] at e
          rw [wipe_get, if_neg hj] at e2
          exact ⟨⟨d, e⟩, e2⟩
      exact s.lo.apart j k a (get j hj) (get k hk)
/-- behind the block: the slots as they were -/
theorem StR.unwipe {H1 : Hp} {W1 : Addr → Prop} {φ1 : List Addr} {S1 : Sto} {vs : List Nat} (s : StR K F H W φ (wipeL L vs) S (L2.wipe σ vs)) (s1 : StR K F H1 W1 φ1 L S1 σ) (t : Tr false H1 φ1 W1 H φ W) (no : ∀ i, i ∈ vs → ∀ d, L[i]? ≠ some (.own d)) : StR K F H W φ L S σ where
  ext := s.ext
  dom := s.dom
  wc := s.wc
  wnew := s.wnew
  wt := s.wt
  pre := s.pre
  phi := s.phi
  phw := s.phw
  nd := s.nd
  st := s.st
  lo := by
    refine ⟨s1.lo.len, fun j x e => ?_, s1.lo.apart⟩
    cases x with
    | no => trivial
    | val d => obtain ⟨v, e1, r⟩ := s1.val e; exact ⟨v, e1, r.go t⟩
    | own d =>
      have hj : j ∉ vs := fun h => no j h d e
      have := s.lo.at_ j (.own d) (by rw [wipeL_get, if_neg hj]; exact e)
      rw [wipe_get, if_neg hj] at this
      exact this
def Fr.guard (F : Fr) (p : Addr) : Fr := { F with Wc := fun a => F.Wc a ∨ a = p }
theorem StR.guard (s : StR K F H W φ L S σ) {p : Addr} (hw : W p) (no : ∀ i, ¬ ownAt L σ i p) : StR K (F.guard p) H W φ L S σ where
  ext := s.ext
  dom := s.dom
  wc := fun a h => h.elim (s.wc a) fun e => by rw [e]; exact hw
  wnew := fun a h => (s.wnew a h).elim (fun z => .inl (.inl z)) .inr
  wt := s.wt
  pre := s.pre
  phi := s.phi
  phw := s.phw
  nd := s.nd
  st := s.st
  lo := by
    refine ⟨s.lo.len, fun j t e => ?_, s.lo.apart⟩
    cases t with
    | no => trivial
    | val d => exact s.lo.at_ j _ e
    | own d =>
      obtain ⟨a, e1, w, fr, tp⟩ := s.lo.at_ j _ e
      exact ⟨a, e1, w, ⟨fr.1, fun z => z.elim fr.2 fun z => no j ⟨⟨d, e⟩, by rw [← z]; exact e1⟩⟩, tp⟩
theorem StR.unguard {p : Addr} (s : StR K (F.guard p) H W φ L S σ) (hp : F.H0 p = none) : StR K F H W φ L S σ ∧ ∀ i, ¬ ownAt L σ i p := by
  refine ⟨⟨s.ext, s.dom, fun a h => s.wc a (.inl h), fun a h => (s.wnew a h).elim (fun z => z.elim .inl fun e => .inr (by rw [e]; exact hp)) .inr, s.wt, s.pre, s.phi, s.phw, s.nd, s.st, s.lo.len, fun j t e => ?_, s.lo.apart⟩, fun i ⟨⟨d, e⟩, e2⟩ => ?_⟩
  · cases t with
    | no => trivial
    | val d => exact s.lo.at_ j _ e
    | own d =>
      obtain ⟨a, e1, w, fr, tp⟩ := s.lo.at_ j _ e
      exact ⟨a, e1, w, ⟨fr.1, fun z => fr.2 (.inl z)⟩, tp⟩
  · obtain ⟨a, e1, w, fr, tp⟩ := s.lo.at_ i _ e
    rw [e2] at e1; cases e1
    exact fr.2 (.inr rfl)
theorem Tr.updW {p : Addr} {o u : HO} (hw : W p) (h : H p = some u) (hm : isM u = true) : Tr true H φ W (upd H p o) φ W :=
  ⟨fun a x e q => by
    by_cases ha : a = p
    · subst ha; rw [h] at e; cases e; exact ((q hm).2 rfl hw).elim
    · rw [upd_ne ha]; exact e, fun _ h => .inl h, fun a z => by
    unfold upd at z; split at z
    · cases z
    · exact z, List.prefix_refl _, fun _ h => .inl h⟩
theorem Top.upd {p a : Addr} {o u : HO} {d : D} (t : Top K H φ W d a) (ha : a ≠ p) (hw : W p) (h : H p = some u) (hm : isM u = true) : Top K (L2.upd H p o) φ W d a := by
  cases d with
  | lst l => obtain ⟨vs, q, r⟩ := t; exact ⟨vs, by rw [upd_ne ha]; exact q, r.go (Tr.updW hw h hm)⟩
  | dct ks l => obtain ⟨vs, q, k, r⟩ := t; exact ⟨vs, by rw [upd_ne ha]; exact q, k, r.go (Tr.updW hw h hm)⟩
  | _ => exact t.elim
/-- what is written at an address that the code holds alone, in no slot -/
theorem StR.updW (s : StR K F H W φ L S σ) {p : Addr} {o u : HO} (hw : W p) (h : H p = some u) (hm : isM u = true) (ho : isM o = true) (h0 : F.H0 p = none) (no : ∀ i, ¬ ownAt L σ i p) : StR K F (upd H p o) W φ L S σ where
  ext := fun a x e q => by
    have ha : a ≠ p := fun z => by rw [z, h0] at e; cases e
    rw [upd_ne ha]; exact s.ext a x e q
  dom := fun a z => s.dom a (by
    unfold upd at z; split at z
    · cases z
    · exact z)
  wc := s.wc
  wnew := s.wnew
  wt := fun a w => by
    by_cases ha : a = p
    · subst ha; exact ⟨o, upd_same, ho⟩
    · obtain ⟨x, e, m⟩ := s.wt a w; exact ⟨x, by rw [upd_ne ha]; exact e, m⟩
  pre := s.pre
  phi := s.phi
  phw := s.phw
  nd := s.nd
  st := ⟨s.st.len, fun n a l e1 e2 => by
    obtain ⟨vs, q, z, r⟩ := s.st.at_ n a l e1 e2
    have ha : a ≠ p := fun z => s.phw a (List.mem_of_getElem? e1) (by rw [z]; exact hw)
    exact ⟨vs, by rw [upd_ne ha]; exact q, z, r.go (Tr.updW hw h hm)⟩⟩
  lo := by
    refine ⟨s.lo.len, fun j t e => ?_, s.lo.apart⟩
    cases t with
    | no => trivial
    | val d => obtain ⟨v, e1, r⟩ := s.val e; exact ⟨v, e1, r.go (Tr.updW hw h hm)⟩
    | own d =>
      obtain ⟨a, e1, w, fr, tp⟩ := s.lo.at_ j _ e
      have ha : a ≠ p := fun z => no j ⟨⟨d, e⟩, by rw [← z]; exact e1⟩
      exact ⟨a, e1, w, fr, tp.upd ha hw h hm⟩
end
end Q
/-! Soundness: comprehensions, the loops. -/
namespace Q
open PySem PySem.Spec PyProof.Rows L2
section
variable {K : PySem.W.Frag} {F : Fr} {H H1 : Hp} {W W1 : Addr → Prop} {φ φ1 : List Addr} {L L1 : Lo} {S : Sto} {σ : Sg} {p : Addr}
theorem Tr.updF {b : Bool} {W' : Addr → Prop} {o : HO} (t : Tr b H1 φ1 W1 H φ W) (hp : H1 p = none) (hw : ∀ a, W' a → W a) : Tr b H1 φ1 W1 (upd H p o) φ W' :=
  ⟨fun a u e q => by rw [upd_ne (ne_of_none e hp)]; exact t.keep a u e q, fun a z => t.w a (hw a z), fun a z => t.dom a (by
    unfold upd at z; split at z
    · cases z
    · exact z), t.pre, t.phi⟩
theorem app_step {f : Bool} {d : D} {y : V} {accD : List D} {accV : List V} (s : StR K (F.guard p) H W φ L S σ) (h0 : F.H0 p = none) (hD : H p = some (.lst accV)) (ra : Reps K H φ W accD accV) (vr : VR K (F.guard p) H W φ L σ f d y) :
    ∃ W', StR K (F.guard p) (upd H p (.lst (accV ++ [y]))) W' φ L S σ ∧ Reps K (upd H p (.lst (accV ++ [y]))) φ W' (accD ++ [d]) (accV ++ [y]) ∧ ∀ a, W' a → W a := by
  obtain ⟨W2, s2, t2, r⟩ := vr.settle s
  have hw : W2 p := s2.wc p (.inr rfl)
  have no := (s2.unguard h0).2
  have tw : Tr true H φ W2 (upd H p (.lst (accV ++ [y]))) φ W2 := Tr.updW hw hD rfl
  refine ⟨W2, s2.updW hw hD rfl rfl h0 no, ((ra.go t2).append (Reps.cons r Reps.nil)).go tw, fun a w => ?_⟩
  rcases t2.w a w with z | z
  · exact z
  · obtain ⟨o, e, _⟩ := s2.wt a w; rw [z] at e; cases e
end
section
variable {X : Cx}
theorem drop_cons {α : Type} {l : List α} {i : Nat} {a : α} (h : l[i]? = some a) : l.drop i = a :: l.drop (i + 1) := by
  obtain ⟨hi, e⟩ := List.getElem?_eq_some_iff.mp h
  rw [List.drop_eq_getElem_cons hi, e]
/-- one clause -/
theorem comp_go {K : PySem.W.Frag} {F : Fr} {H1 : Hp} {W1 : Addr → Prop} {φ1 : List Addr} {L1 : Lo} {S1 : Sto} {σ : Sg} {vs ix : List Nat} {ds : List D} {J : It} {t : D → Lo → (Lo → Prop) → Prop} {cn : Lo → Sto → KT → Prop} {e : Lo → Sto → KE → Prop} {Pend : List D → Sto → Prop} {Q : VK} {p : Addr}
    (s1 : StR K F H1 W1 φ1 L1 S1 σ) (wk : Wk K ds J H1 φ1 W1) (hix : ∀ i, i ∈ ix → i ∈ vs) (no : ∀ i, i ∈ vs → ∀ d, L1[i]? ≠ some (.own d)) (hp : H1 p = none)
    (hc : compL t cn e (wipeL L1 vs) ds S1 [] Pend)
    (q : ∀ acc S' H' W' φ' , Pend acc S' → StR K F H' W' φ' L1 S' σ → Tr false H1 φ1 W1 H' φ' W' → VR K F H' W' φ' L1 σ true (.lst acc) (.ref p) → Q (.ref p) H') :
    ∃ W : Nat → Nat → Hp → Prop, (∃ m, W 0 m (upd H1 p (.lst []))) ∧ ∀ i m H, W i m H →
      (J.stop i H ∧ Q (.ref p) H) ∨ (J.go i H ∧ ∃ Nx : Hp → Prop, (∀ H', Nx H' → ∃ m', m' < m ∧ W (i + 1) m' H') ∧ ∀ x H', J.yld i H x H' → liftG K ix t x (wipe σ vs) H' fun σ2 H2 => wipe σ2 vs = wipe σ vs ∧ liftT K cn σ2 H2 fun b H3 =>
        if b = true then liftE K e σ2 H3 fun y H4 => ∃ acc, H4 p = some (.lst acc) ∧ acc.length < sizeLine ∧ Nx (upd H4 p (.lst (acc ++ [y]))) else Nx H3) := by
  obtain ⟨G, Y, hwalk, hG, hY⟩ := wk.ex
  have h0 : F.H0 p = none := s1.dom p hp
  refine lc_it hwalk (fun i H => ∃ W φ S accD accV, StR K (F.guard p) H W φ (wipeL L1 vs) S (wipe σ vs) ∧ Tr false H1 φ1 W1 H φ W ∧ H p = some (.lst accV) ∧ Reps K H φ W accD accV ∧ compL t cn e (wipeL L1 vs) (ds.drop i) S accD Pend) ?_ ?_ ?_ ?_
  · have sw := s1.wipe vs
    have sg := sw.growW (o := .lst []) hp rfl (sw.phN hp)
    exact ⟨_, φ1, S1, [], [], sg.guard (.inr rfl) (by intro i hi; exact sw.noOwn hp i hi), Tr.newW hp, upd_same, Reps.nil, hc⟩
  · rintro i H hi ⟨W, φ, S, accD, accV, s, tr, hD, ra, hcc⟩
    exact hG H φ W tr.weak
  · rintro i x H H' hi ⟨W, φ, S, accD, accV, s, tr, hD, ra, hcc⟩ hy
    obtain ⟨d, hd, s', t', rd⟩ := (hY i H φ W x H' hi tr.weak hy).go s
    rw [drop_cons hd] at hcc
    simp only [compL] at hcc
    have hpp : p ∉ φ := s.phO (s.wc p (.inr rfl))
    have hD' : H' p = some (.lst accV) := t'.keep p _ hD fun _ => ⟨hpp, fun z => nomatch z⟩
    refine ⟨F.guard p, W, φ, wipeL L1 vs, S, d, _, s', rd, hcc, fun L' σ' hP sg hlen hσ hL => ?_⟩
    have ew : wipe σ' vs = wipe σ vs := wipe_eq hlen fun j hj => hσ j fun z => hj (hix j z)
    refine ⟨ew, F.guard p, W, φ, L', S, _, sg, hP, fun b L2 S2 H3 W3 φ3 hb s3 t3 => ?_⟩
    obtain ⟨rfl, hb⟩ := hb
    have hpp3 : p ∉ φ3 := s3.phO (s3.wc p (.inr rfl))
    have hD3 : H3 p = some (.lst accV) := t3.keep p _ hD' fun _ => ⟨hpp, fun z => nomatch z⟩
    have eL : wipeL L2 vs = wipeL L1 vs := by
      apply List.ext_getElem?
      intro j
      rw [wipeL_get, wipeL_get]
      have hl : L2.length = L1.length := by
        have e1 := sg.lo.len
        rw [hlen] at e1
        rw [e1, wipe_length]; exact s1.lo.len.symm
      by_cases hj : j ∈ vs
      · rw [if_pos hj, if_pos hj]
        by_cases hlt : j < L1.length
        · rw [List.getElem?_eq_getElem hlt, List.getElem?_eq_getElem (by omega)]; rfl
        · rw [List.getElem?_eq_none (by omega), List.getElem?_eq_none (by omega)]
      · rw [if_neg hj, if_neg hj, hL j (fun z => hj (hix j z)), wipeL_get, if_neg hj]
    have back : ∀ {H W φ S}, StR K (F.guard p) H W φ L2 S σ' → StR K (F.guard p) H W φ (wipeL L1 vs) S (wipe σ vs) := fun {H W φ S} sx => by
      have := sx.wipe vs
      rw [eL, ew] at this
      exact this
    cases b with
    | false =>
      rw [if_neg (by decide)] at hb ⊢
      exact ⟨W3, φ3, S2, accD, accV, back s3, (tr.trans t').trans t3, hD3, (ra.go t').go t3, hb⟩
    | true =>
      rw [if_pos rfl] at hb ⊢
      refine ⟨F.guard p, W3, φ3, L2, S2, _, s3, hb, fun r f L3 S3 H4 W4 φ4 y hr s4 t4 vr => ?_⟩
      obtain ⟨rfl, hz, hr⟩ := hr
      have hD4 : H4 p = some (.lst accV) := t4.keep p _ hD3 fun _ => ⟨hpp3, fun z => nomatch z⟩
      have ra4 := ((ra.go t').go t3).go t4
      obtain ⟨W5, s5, r5, w5⟩ := app_step s4 h0 hD4 ra4 vr
      refine ⟨accV, hD4, by rw [← ra.len]; exact hz, W5, φ4, S3, _, _, back s5, (((tr.trans t').trans t3).trans t4).updF hp w5, upd_same, r5, hr⟩
  · rintro H ⟨W, φ, S, accD, accV, s, tr, hD, ra, hcc⟩
    rw [List.drop_length] at hcc
    simp only [compL] at hcc
    obtain ⟨su, nou⟩ := s.unguard h0
    have sx := su.unwipe s1 tr no
    refine q accD S H W φ hcc sx tr ⟨p, rfl, s.wc p (.inr rfl), ⟨h0, fun z => ?_⟩, ⟨accV, hD, ra⟩, fun i hi => ?_⟩
    · obtain ⟨o, eo, _⟩ := s1.wt p (s1.wc p z)
      rw [hp] at eo; cases eo
    · exact s1.noOwn hp i hi
end
end Q
/-! Soundness: comprehensions, the rules. -/
namespace Q
open PySem PySem.Spec PyProof.Rows L2
section
variable {K : PySem.W.Frag} {F : Fr} {H H1 : Hp} {W W1 : Addr → Prop} {φ φ1 : List Addr} {L L1 : Lo} {S S1 : Sto} {σ σ1 : Sg} {p : Addr}
/-- the slots as they were, but for some that hold no list alone -/
theorem StR.restore {b : Bool} {ix : List Nat} (s : StR K F H W φ L S σ) (s1 : StR K F H1 W1 φ1 L1 S1 σ1) (t : Tr b H1 φ1 W1 H φ W) (hL : ∀ j, j ∉ ix → L[j]? = L1[j]?) (hσ : ∀ j, j ∉ ix → σ[j]? = σ1[j]?) (no : ∀ i, i ∈ ix → ∀ d, L1[i]? ≠ some (.own d)) : StR K F H W φ L1 S σ1 where
  ext := s.ext
  dom := s.dom
  wc := s.wc
  wnew := s.wnew
  wt := s.wt
  pre := s.pre
  phi := s.phi
  phw := s.phw
  nd := s.nd
  st := s.st
  lo := by
    refine ⟨s1.lo.len, fun j x e => ?_, s1.lo.apart⟩
    cases x with
    | no => trivial
    | val d => obtain ⟨v, e1, r⟩ := s1.val e; exact ⟨v, e1, r.go t⟩
    | own d =>
      have hj : j ∉ ix := fun h => no j h d e
      have := s.lo.at_ j (.own d) (by rw [hL j hj]; exact e)
      rw [hσ j hj] at this
      exact this
end
/-- two clauses -/
theorem comp2_go {K : PySem.W.Frag} {F : Fr} {H1 : Hp} {W1 : Addr → Prop} {φ1 : List Addr} {L1 : Lo} {S1 : Sto} {σ : Sg} {vs ix ix1 : List Nat} {ds : List D} {J : It} {t t1 : D → Lo → (Lo → Prop) → Prop} {src : Lo → Sto → (List D → Lo → Sto → Prop) → Prop} {e : Lo → Sto → KE → Prop} {Pend : List D → Sto → Prop} {Q : VK} {p : Addr}
    (s1 : StR K F H1 W1 φ1 L1 S1 σ) (wk : Wk K ds J H1 φ1 W1) (hix : ∀ i, i ∈ ix → i ∈ vs) (hix1 : ∀ i, i ∈ ix1 → i ∈ vs) (no : ∀ i, i ∈ vs → ∀ d, L1[i]? ≠ some (.own d)) (hp : H1 p = none)
    (hval : ∀ d L P, t d L P → t d L fun L' => (∀ i d', i ∈ vs → L'[i]? = some (.own d') → L[i]? = some (.own d')) ∧ P L')
    (hc : compL2 t1 src e t ix1 (wipeL L1 vs) ds S1 [] Pend)
    (q : ∀ acc S' H' W' φ' , Pend acc S' → StR K F H' W' φ' L1 S' σ → Tr false H1 φ1 W1 H' φ' W' → VR K F H' W' φ' L1 σ true (.lst acc) (.ref p) → Q (.ref p) H') :
    ∃ W : Nat → Nat → Hp → Prop, (∃ m, W 0 m (upd H1 p (.lst []))) ∧ ∀ i m H, W i m H →
      (J.stop i H ∧ Q (.ref p) H) ∨ (J.go i H ∧ ∃ Nx : Hp → Prop, (∀ H', Nx H' → ∃ m', m' < m ∧ W (i + 1) m' H') ∧ ∀ x H', J.yld i H x H' → liftG K ix t x (wipe σ vs) H' fun σ2 H2 => wipe σ2 vs = wipe σ vs ∧ tYes σ2 H2 fun b H3 =>
        if b = true then liftI K src σ2 H3 fun J1 H4 => ∃ W1 : Nat → Nat → Hp → Prop, (∃ m, W1 0 m H4) ∧ ∀ j k H, W1 j k H →
          (J1.stop j H ∧ Nx H) ∨ (J1.go j H ∧ ∃ Nx1 : Hp → Prop, (∀ H', Nx1 H' → ∃ k', k' < k ∧ W1 (j + 1) k' H') ∧ ∀ x H', J1.yld j H x H' → liftG K ix1 t1 x (wipe σ2 ix1) H' fun σ3 H5 => wipe σ3 ix1 = wipe σ2 ix1 ∧ tYes σ3 H5 fun b H6 =>
            if b = true then liftE K e σ3 H6 fun y H7 => ∃ acc, H7 p = some (.lst acc) ∧ acc.length < sizeLine ∧ Nx1 (upd H7 p (.lst (acc ++ [y]))) else Nx1 H6)
        else Nx H3) := by
  obtain ⟨G, Y, hwalk, hG, hY⟩ := wk.ex
  have h0 : F.H0 p = none := s1.dom p hp
  let Pv : Nat → Hp → Prop := fun i H => ∃ W φ S accD accV, StR K (F.guard p) H W φ (wipeL L1 vs) S (wipe σ vs) ∧ Tr false H1 φ1 W1 H φ W ∧ H p = some (.lst accV) ∧ Reps K H φ W accD accV ∧ compL2 t1 src e t ix1 (wipeL L1 vs) (ds.drop i) S accD Pend
  have nowipe : ∀ i, i ∈ vs → ∀ d, (wipeL L1 vs)[i]? ≠ some (.own d) := fun i hi d z => by
    rw [wipeL_get, if_pos hi] at z
    obtain ⟨_, _, h⟩ := Option.map_eq_some_iff.mp z
    cases h
  refine ⟨fun i m H => m = ds.length - i ∧ i ≤ ds.length ∧ Pv i H, ⟨ds.length, by simp, Nat.zero_le _, ?_⟩, ?_⟩
  · have sw := s1.wipe vs
    have sg := sw.growW (o := .lst []) hp rfl (sw.phN hp)
    exact ⟨_, φ1, S1, [], [], sg.guard (.inr rfl) (by intro i hi; exact sw.noOwn hp i hi), Tr.newW hp, upd_same, Reps.nil, hc⟩
  · rintro i m H ⟨rfl, hi, W, φ, S, accD, accV, s, tr, hD, ra, hcc⟩
    have g := hG H φ W tr.weak
    by_cases hlt : i < ds.length
    · refine .inr ⟨hwalk.goes i H hlt g, Pv (i + 1), fun H' pv => ⟨ds.length - (i + 1), by omega, rfl, hlt, pv⟩, fun x H' y => ?_⟩
      obtain ⟨d, hd, s', t', rd⟩ := (hY i H φ W x H' hlt tr.weak (hwalk.yields i H x H' hlt g y)).go s
      rw [drop_cons hd] at hcc
      simp only [compL2] at hcc
      have hpp : p ∉ φ := s.phO (s.wc p (.inr rfl))
      have hD' : H' p = some (.lst accV) := t'.keep p _ hD fun _ => ⟨hpp, fun z => nomatch z⟩
      refine ⟨F.guard p, W, φ, wipeL L1 vs, S, d, _, s', rd, hval _ _ _ hcc, fun L' σ' hP sg hlen hσ hL => ?_⟩
      obtain ⟨hno, hP⟩ := hP
      have noL' : ∀ i, i ∈ vs → ∀ d, L'[i]? ≠ some (.own d) := fun i hi d z => nowipe i hi d (hno i d hi z)
      refine ⟨wipe_eq hlen fun j hj => hσ j fun z => hj (hix j z), ?_⟩
      unfold tYes
      dsimp only
      rw [if_pos rfl]
      refine ⟨F.guard p, W, φ, L', S, _, sg, hP, fun xs L2 S2 H4 W4 φ4 J1 hx s4 t4 wk1 => ?_⟩
      obtain ⟨rfl, hx⟩ := hx
      obtain ⟨G1, Y1, hwalk1, hG1, hY1⟩ := wk1.ex
      have hD4 : H4 p = some (.lst accV) := t4.keep p _ hD' fun _ => ⟨hpp, fun z => nomatch z⟩
      let Pv1 : Nat → Hp → Prop := fun j H => ∃ W φ S accD accV, StR K (F.guard p) H W φ (wipeL L2 ix1) S (wipe σ' ix1) ∧ Tr false H1 φ1 W1 H φ W ∧ Tr true H4 φ4 W4 H φ W ∧ H p = some (.lst accV) ∧ Reps K H φ W accD accV ∧ compL t1 (fun L S k => k true L S) e (wipeL L2 ix1) (xs.drop j) S accD (fun acc' S3 => compL2 t1 src e t ix1 (wipeL L1 vs) (ds.drop (i + 1)) S3 acc' Pend)
      refine ⟨fun j k H => k = xs.length - j ∧ j ≤ xs.length ∧ Pv1 j H, ⟨xs.length, by simp, Nat.zero_le _, W4, φ4, S2, accD, accV, s4.wipe ix1, (tr.trans t').trans t4, Tr.refl, hD4, (ra.go t').go t4, hx⟩, ?_⟩
      rintro j k H5 ⟨rfl, hj, W5, φ5, S5, accD5, accV5, s5, tr5, tt5, hD5, ra5, hcc5⟩
      have g1 := hG1 H5 φ5 W5 tt5
      by_cases hlt1 : j < xs.length
      · refine .inr ⟨hwalk1.goes j H5 hlt1 g1, Pv1 (j + 1), fun H' pv => ⟨xs.length - (j + 1), by omega, rfl, hlt1, pv⟩, fun x1 H6 y1 => ?_⟩
        obtain ⟨d1, hd1, s6, t6, rd1⟩ := (hY1 j H5 φ5 W5 x1 H6 hlt1 tt5 (hwalk1.yields j H5 x1 H6 hlt1 g1 y1)).go s5
        rw [drop_cons hd1] at hcc5
        simp only [compL] at hcc5
        have hpp5 : p ∉ φ5 := s5.phO (s5.wc p (.inr rfl))
        have hD6 : H6 p = some (.lst accV5) := t6.keep p _ hD5 fun _ => ⟨hpp5, fun z => nomatch z⟩
        refine ⟨F.guard p, W5, φ5, wipeL L2 ix1, S5, d1, _, s6, rd1, hcc5, fun L3 σ3 hP3 sg3 hlen3 hσ3 hL3 => ?_⟩
        have ew : wipe σ3 ix1 = wipe σ' ix1 := wipe_eq hlen3 hσ3
        refine ⟨ew, ?_⟩
        rw [if_pos rfl]
        obtain ⟨_, hP3⟩ := hP3
        rw [if_pos trivial] at hP3
        refine ⟨F.guard p, W5, φ5, L3, S5, _, sg3, hP3, fun r f L6 S6 H7 W7 φ7 yv hr s7 t7 vr => ?_⟩
        obtain ⟨rfl, hz, hr⟩ := hr
        have hD7 : H7 p = some (.lst accV5) := t7.keep p _ hD6 fun _ => ⟨hpp5, fun z => nomatch z⟩
        have ra7 := (ra5.go t6).go t7
        obtain ⟨W8, s8, r8, w8⟩ := app_step s7 h0 hD7 ra7 vr
        have tt8 : Tr true H4 φ4 W4 (upd H7 p (.lst (accV5 ++ [yv]))) φ7 W8 := by
          have a1 := (tt5.trans t6.weak).trans t7.weak
          refine ⟨fun a o ea qa => ?_, fun a w => a1.w a (w8 a w), fun a z => a1.dom a (by
            unfold upd at z; split at z
            · cases z
            · exact z), a1.pre, a1.phi⟩
          by_cases hap : a = p
          · subst hap
            rw [hD4] at ea; cases ea
            exact ((qa rfl).2 rfl (s4.wc a (.inr rfl))).elim
          · rw [upd_ne hap]; exact a1.keep a o ea qa
        refine ⟨accV5, hD7, by rw [← ra5.len]; exact hz, W8, φ7, S6, _, _, s8.restore (s4.wipe ix1) tt8 hL3 hσ3 (fun i hi d z => by
          rw [wipeL_get, if_pos hi] at z
          obtain ⟨_, _, h⟩ := Option.map_eq_some_iff.mp z
          cases h), (((tr5.trans t6).trans t7)).updF hp w8, tt8, upd_same, r8, hr⟩
      · have e : j = xs.length := by omega
        subst e
        rw [List.drop_length] at hcc5
        simp only [compL] at hcc5
        refine .inl ⟨hwalk1.stops H5 g1, W5, φ5, S5, accD5, accV5, ?_, tr5, hD5, ra5, hcc5⟩
        have tt' : Tr true H φ W H5 φ5 W5 := ((t'.weak).trans t4.weak).trans tt5
        refine s5.restore s tt' (ix := vs) (fun j hj => ?_) (fun j hj => ?_) nowipe
        · rw [wipeL_get, if_neg fun z => hj (hix1 j z)]; exact hL j fun z => hj (hix j z)
        · rw [wipe_get, if_neg fun z => hj (hix1 j z)]; exact hσ j fun z => hj (hix j z)
    · have e : i = ds.length := by omega
      subst e
      rw [List.drop_length] at hcc
      simp only [compL2] at hcc
      obtain ⟨su, nou⟩ := s.unguard h0
      have sx := su.unwipe s1 tr no
      refine .inl ⟨hwalk.stops H g, q accD S H W φ hcc sx tr ⟨p, rfl, s.wc p (.inr rfl), ⟨h0, fun z => ?_⟩, ⟨accV, hD, ra⟩, fun i hi => ?_⟩⟩
      · obtain ⟨o, eo, _⟩ := s1.wt p (s1.wc p z)
        rw [hp] at eo; cases eo
      · exact s1.noOwn hp i hi
mutual
theorem wG_mono : ∀ {t : IT} {d : D} {L : Lo} {P P' : Lo → Prop}, (∀ L, P L → P' L) → wG t d L P → wG t d L P'
  | .nm i, d, L, P, P', k, h => by simp only [wG] at h ⊢; exact k _ h
  | .tp ts, d, L, P, P', k, h => by
    simp only [wG] at h ⊢
    obtain ⟨ds, e, h⟩ := h
    exact ⟨ds, e, wGs_mono k h⟩
theorem wGs_mono : ∀ {ts : List IT} {ds : List D} {L : Lo} {P P' : Lo → Prop}, (∀ L, P L → P' L) → wG.wGs ts ds L P → wG.wGs ts ds L P'
  | [], [], L, P, P', k, h => by simp only [wG.wGs] at h ⊢; exact k _ h
  | [], _ :: _, _, _, _, k, h => by simp [wG.wGs] at h
  | _ :: _, [], _, _, _, k, h => by simp [wG.wGs] at h
  | t :: ts, d :: ds, L, P, P', k, h => by
    simp only [wG.wGs] at h ⊢
    exact wG_mono (fun L1 h1 => wGs_mono k h1) h
end
mutual
/-- a target makes no list its own -/
theorem wG_val : ∀ {t : IT} {d : D} {L : Lo} {P : Lo → Prop}, wG t d L P → wG t d L fun L' => (∀ (i : Nat) d', L'[i]? = some (.own d') → L[i]? = some (.own d')) ∧ P L'
  | .nm i, d, L, P, h => by
    simp only [wG] at h ⊢
    refine ⟨fun j d' e => ?_, h⟩
    rcases set_cases e with ⟨_, h⟩ | ⟨_, h⟩
    · cases h
    · exact h
  | .tp ts, d, L, P, h => by
    simp only [wG] at h ⊢
    obtain ⟨ds, e, h⟩ := h
    exact ⟨ds, e, wGs_val h⟩
theorem wGs_val : ∀ {ts : List IT} {ds : List D} {L : Lo} {P : Lo → Prop}, wG.wGs ts ds L P → wG.wGs ts ds L fun L' => (∀ (i : Nat) d', L'[i]? = some (.own d') → L[i]? = some (.own d')) ∧ P L'
  | [], [], L, P, h => by simp only [wG.wGs] at h ⊢; exact ⟨fun _ _ e => e, h⟩
  | [], _ :: _, _, _, h => by simp [wG.wGs] at h
  | _ :: _, [], _, _, h => by simp [wG.wGs] at h
  | t :: ts, d :: ds, L, P, h => by
    simp only [wG.wGs] at h ⊢
    exact wG_mono (fun L1 h1 => wGs_mono (fun L2 h2 => ⟨fun i d' e => h1.1 i d' (h2.1 i d' e), h2.2⟩) (wGs_val h1.2)) (wG_val h)
end
end Q
/-! Soundness: displays of dicts. -/
namespace Q
open PySem PySem.Spec PyProof.Rows L2
theorem putK_app {acc kvs : List (Key × V)} (h : ((acc ++ kvs).map (·.1)).Nodup) : mergeK acc kvs = acc ++ kvs := by
  induction kvs generalizing acc with
  | nil => simp [mergeK]
  | cons kv kvs ih =>
    have hn : valV acc kv.1 = none := by
      cases e : valV acc kv.1 with
      | none => rfl
      | some v =>
        have := valV_in e
        rw [List.map_append, List.nodup_append] at h
        exact (h.2.2 _ this _ (by simp) rfl).elim
    show mergeK (putK acc kv.1 kv.2) kvs = _
    rw [putK_new kv.2 hn, ih (by simpa using h)]
    simp
section
variable {X : Cx} {C : Calls} {c : TC} {sc : Scope}
/-- the pairs of a display -/
structure Dsp (X : Cx) (C : Calls) (pos : Pos) (keys : List (Option Expr)) (ks : List Str) (vs : List Expr) (l : IEs) : Prop where
  ex : ∃ trs, PPs X pos keys vs trs ∧ ∀ σ H (Q : List (V × V) → Hp → Prop) F W φ L S P, StR X.K F H W φ L S σ → wEs C l L S P →
    (∀ ds L' S' H' W' φ' us, P ds L' S' → StR X.K F H' W' φ' L' S' σ → Tr false H φ W H' φ' W' → Reps X.K H' φ' W' ds us → us.length = ks.length → Q (List.zipWith (fun k u => (V.str k, u)) ks us) H') → tPairs trs σ H Q
theorem dsp_nil {pos : Pos} : Dsp X C pos [] [] [] .nil := ⟨[], L2.pps_nil, fun σ H Q F W φ L S P s h q => by
  simp only [wEs] at h
  exact q [] L S H W φ [] h s Tr.refl Reps.nil rfl⟩
theorem dsp_cons {pos p : Pos} {j : Nat} {k : Str} {keys : List (Option Expr)} {ks : List Str} {e : Expr} {vs : List Expr} {i : IE} {l : IEs} (h : SE X C e i) (hr : Dsp X C pos keys ks vs l) : Dsp X C pos (some (.Constant (.str k) j p) :: keys) (k :: ks) (e :: vs) (.cons i l) := by
  obtain ⟨trs, hp, hs⟩ := hr.ex
  refine ⟨(tC (.str k), liftE X.K (wE C i)) :: trs, L2.pps_cons pe_str h.v hp, fun σ H Q F W φ L S P s ht q => ?_⟩
  simp only [wEs] at ht
  refine ⟨F, W, φ, L, S, _, s, ht, fun d f L1 S1 H1 W1 φ1 v h1 s1 t1 vr => ?_⟩
  obtain ⟨W2, s2, t2, r⟩ := vr.settle s1
  refine hs σ H1 _ F W2 φ1 L1 S1 _ s2 h1 fun ds L2 S2 H3 W3 φ3 us h3 s3 t3 rs hl => ?_
  exact q _ L2 S2 H3 W3 φ3 (v :: us) h3 s3 ((t1.trans t2).trans t3) (Reps.cons (r.go t3) rs) (by simp [hl])
theorem zip_kv : ∀ {ks : List Str} {us : List V}, us.length = ks.length → List.zipWith (fun k u => (V.str k, u)) ks us = (List.zipWith (fun k u => ((Sum.inr k : Key), u)) ks us).map fun kv => (kV kv.1, kv.2)
  | [], [], _ => rfl
  | k :: ks, u :: us, h => by simp only [List.zipWith_cons_cons, List.map_cons]; rw [zip_kv (by simpa using h)]; rfl
  | [], _ :: _, h => by simp at h
  | _ :: _, [], h => by simp at h
theorem zip_k : ∀ {ks : List Str} {us : List V}, us.length = ks.length → (List.zipWith (fun k u => ((Sum.inr k : Key), u)) ks us).map (·.1) = ks.map Sum.inr
  | [], [], _ => rfl
  | k :: ks, u :: us, h => by simp only [List.zipWith_cons_cons, List.map_cons]; rw [zip_k (by simpa using h)]
  | [], _ :: _, h => by simp at h
  | _ :: _, [], h => by simp at h
theorem zip_v : ∀ {ks : List Str} {us : List V}, us.length = ks.length → (List.zipWith (fun k u => ((Sum.inr k : Key), u)) ks us).map (·.2) = us
  | [], [], _ => rfl
  | k :: ks, u :: us, h => by simp only [List.zipWith_cons_cons, List.map_cons]; rw [zip_v (by simpa using h)]
  | [], _ :: _, h => by simp at h
  | _ :: _, [], h => by simp at h
theorem se_dct0 {pos : Pos} : SE X C (.Dict [] [] pos) (.dct [] .nil) := by
  refine SE.of rfl (PE.imp pe_dnewK fun σ H Q ⟨F, W, φ, L, S, P, s, ht, q⟩ => ?_)
  simp only [wE, wEs] at ht
  intro p hp
  exact Fin.newD (kvs := []) (R := fun d f => P d f L S) (fun d f w H' W' hr s' t' vr => q d f L S H' W' φ w hr s' t' vr) s ht.2 rfl Reps.nil hp
theorem se_dct {keys : List (Option Expr)} {ks : List Str} {vs : List Expr} {l : IEs} {pos : Pos} (h : Dsp X C pos keys ks vs l) (hall : keys.all (·.isSome) = true) (hl : keys.length = vs.length) (h0 : keys ≠ []) (h15 : keys.length ≤ 15) : SE X C (.Dict keys vs pos) (.dct ks l) := by
  obtain ⟨trs, hp, hs⟩ := h.ex
  refine SE.of rfl (PE.imp (pe_disp hp hall hl h0 h15) fun σ H Q ⟨F, W, φ, L, S, P, s, ht, q⟩ => ?_)
  simp only [wE] at ht
  intro p hpn
  have fp : F.H0 p = none := s.dom p hpn
  have sg := (s.growW (o := .dK []) hpn rfl (s.phN hpn)).guard (p := p) (.inr rfl) (by intro i hi; exact s.noOwn hpn i hi)
  refine hs σ _ _ (F.guard p) _ φ L S _ sg ht fun ds L' S' H' W' φ' us hP s2 t2 rs hlu => ?_
  obtain ⟨⟨e1, e2, e3⟩, hP⟩ := hP
  have hH2 : H' p = some (.dK []) := t2.keep p _ upd_same fun _ => ⟨s.phN hpn, fun z => nomatch z⟩
  have hw : W' p := s2.wc p (.inr rfl)
  have no := (s2.unguard fp).2
  refine ⟨hH2, List.zipWith (fun k u => ((Sum.inr k : Key), u)) ks us, zip_kv hlu, ?_, ?_⟩
  · rw [List.length_zipWith]; omega
  · rw [putK_app (acc := []) (by
      rw [List.nil_append, zip_k hlu]
      exact e3.map _ fun a b h z => h (by cases z; rfl)), List.nil_append]
    have s3 := (s2.updW (o := .dK (List.zipWith (fun k u => ((Sum.inr k : Key), u)) ks us)) hw hH2 rfl rfl fp no)
    have tt := (Tr.newW (S := false) (φ := φ) (W := W) (o := .dK []) hpn).trans t2
    refine q _ true L' S' _ W' φ' (.ref p) hP (s3.unguard fp).1 (tt.updF hpn fun _ h => h) ⟨p, rfl, hw, ⟨fp, fun z => ?_⟩, ⟨_, upd_same, zip_k hlu, ?_⟩, no⟩
    · obtain ⟨o, eo, _⟩ := s.wt p (s.wc p z)
      rw [hpn] at eo; cases eo
    · rw [zip_v hlu]
      exact rs.go (Tr.updW hw hH2 rfl)
end
end Q
/-! Soundness: dict comprehensions. -/
namespace Q
open PySem PySem.Spec PyProof.Rows L2
section
variable {K : PySem.W.Frag} {F : Fr} {H H1 : Hp} {W W1 : Addr → Prop} {φ φ1 : List Addr} {L L1 : Lo} {S : Sto} {σ : Sg} {p : Addr}
theorem put_keys {kvs : List (Key × V)} {ks : List Str} (e : kvs.map (·.1) = ks.map Sum.inr) (k : Str) (z : V) : (putK kvs (Sum.inr k) z).map (·.1) = (putKs ks k).map Sum.inr := by
  have ha : (kvs.any fun kv => decide (kv.1 = (Sum.inr k : Key))) = ks.any fun x => decide (x = k) := by
    have : ∀ (kvs : List (Key × V)) (ks : List Str), kvs.map (·.1) = ks.map Sum.inr → (kvs.any fun kv => decide (kv.1 = (Sum.inr k : Key))) = ks.any fun x => decide (x = k) := by
      intro kvs
      induction kvs with
      | nil => intro ks e; cases ks <;> simp at e ⊢
      | cons kv kvs ih =>
        intro ks e
        cases ks with
        | nil => simp at e
        | cons x ks =>
          simp only [List.map_cons, List.cons.injEq] at e
          simp only [List.any_cons, ih ks e.2, e.1]
          congr 1
          by_cases h : x = k
          · subst h; simp
          · have : ¬ (Sum.inr x : Key) = Sum.inr k := fun z => by cases z; exact h rfl
            simp [h, this]
    exact this kvs ks e
  unfold putK putKs
  rw [ha]
  cases (ks.any fun x => decide (x = k)) with
  | true =>
    rw [if_pos rfl, if_pos rfl, ← e, List.map_map]
    apply List.map_congr_left
    intro kv _
    simp only [Function.comp]
    split <;> rfl
  | false => rw [if_neg (by decide), if_neg (by decide), List.map_append, List.map_append, e]; rfl
theorem put_vals {kvs : List (Key × V)} {ks : List Str} {ds : List D} {d : D} (e : kvs.map (·.1) = ks.map Sum.inr) (r : Reps K H φ W ds (kvs.map (·.2))) (k : Str) {z : V} (rz : Rep K H φ W d z) : Reps K H φ W (putVs ks ds k d) ((putK kvs (Sum.inr k) z).map (·.2)) := by
  have ha : (kvs.any fun kv => decide (kv.1 = (Sum.inr k : Key))) = ks.any fun x => decide (x = k) := by
    have h1 := congrArg (fun l => l.any fun x => decide (x = (Sum.inr k : Key))) e
    simp only [List.any_map] at h1
    have h2 : (ks.any ((fun x => decide (x = (Sum.inr k : Key))) ∘ Sum.inr)) = ks.any fun x => decide (x = k) := by
      congr 1; funext x
      simp only [Function.comp]
      by_cases h : x = k
      · subst h; simp
      · have : ¬ (Sum.inr x : Key) = Sum.inr k := fun z => by cases z; exact h rfl
        simp [h, this]
    rw [← h2, ← h1]; rfl
  unfold putK putVs
  rw [ha]
  cases (ks.any fun x => decide (x = k)) with
  | true =>
    rw [if_pos rfl, if_pos rfl, List.map_map]
    clear ha
    induction kvs generalizing ks ds with
    | nil => cases ks <;> cases ds <;> simp_all [Reps]
    | cons kv kvs ih =>
      cases ks with
      | nil => simp at e
      | cons x ks =>
        cases ds with
        | nil => simp [Reps] at r
        | cons d' ds =>
          simp only [List.map_cons, List.cons.injEq] at e
          simp only [List.map_cons, Reps] at r
          simp only [List.zipWith_cons_cons, List.map_cons]
          refine Reps.cons ?_ (ih e.2 r.2)
          by_cases h : x = k
          · have : kv.1 = (Sum.inr k : Key) := by rw [e.1, h]
            simp only [Function.comp, if_pos h, if_pos this]; exact rz
          · have : ¬ kv.1 = (Sum.inr k : Key) := by rw [e.1]; intro z; cases z; exact h rfl
            simp only [Function.comp, if_neg h, if_neg this]; exact r.1
  | false =>
    rw [if_neg (by decide), if_neg (by decide), List.map_append]
    exact r.append (Reps.cons rz Reps.nil)
theorem put_step {f : Bool} {d : D} {y : V} {ks : List Str} {accD : List D} {kvs : List (Key × V)} {k : Str} (s : StR K (F.guard p) H W φ L S σ) (h0 : F.H0 p = none) (hD : H p = some (.dK kvs)) (ek : kvs.map (·.1) = ks.map Sum.inr) (ra : Reps K H φ W accD (kvs.map (·.2))) (vr : VR K (F.guard p) H W φ L σ f d y) :
    ∃ W', StR K (F.guard p) (upd H p (.dK (putK kvs (Sum.inr k) y))) W' φ L S σ ∧ Reps K (upd H p (.dK (putK kvs (Sum.inr k) y))) φ W' (putVs ks accD k d) ((putK kvs (Sum.inr k) y).map (·.2)) ∧ ∀ a, W' a → W a := by
  obtain ⟨W2, s2, t2, r⟩ := vr.settle s
  have hw : W2 p := s2.wc p (.inr rfl)
  have no := (s2.unguard h0).2
  have tw : Tr true H φ W2 (upd H p (.dK (putK kvs (Sum.inr k) y))) φ W2 := Tr.updW hw hD rfl
  refine ⟨W2, s2.updW hw hD rfl rfl h0 no, (put_vals ek (ra.go t2) k r).go tw, fun a w => ?_⟩
  rcases t2.w a w with z | z
  · exact z
  · obtain ⟨o, e, _⟩ := s2.wt a w; rw [z] at e; cases e
end
/-- one clause -/
theorem dcomp_go {K : PySem.W.Frag} {F : Fr} {H1 : Hp} {W1 : Addr → Prop} {φ1 : List Addr} {L1 : Lo} {S1 : Sto} {σ : Sg} {vs ix : List Nat} {ds : List D} {J : It} {t : D → Lo → (Lo → Prop) → Prop} {cn : Lo → Sto → KT → Prop} {ek ev : Lo → Sto → KE → Prop} {Pend : List Str → List D → Sto → Prop} {Q : VK} {p : Addr}
    (s1 : StR K F H1 W1 φ1 L1 S1 σ) (wk : Wk K ds J H1 φ1 W1) (hix : ∀ i, i ∈ ix → i ∈ vs) (no : ∀ i, i ∈ vs → ∀ d, L1[i]? ≠ some (.own d)) (hp : H1 p = none)
    (hc : compD t cn ek ev (wipeL L1 vs) ds S1 [] [] Pend)
    (q : ∀ ks acc S' H' W' φ' , Pend ks acc S' → StR K F H' W' φ' L1 S' σ → Tr false H1 φ1 W1 H' φ' W' → VR K F H' W' φ' L1 σ true (.dct ks acc) (.ref p) → Q (.ref p) H') :
    ∃ W : Nat → Nat → Hp → Prop, (∃ m, W 0 m (upd H1 p (.dK []))) ∧ ∀ i m H, W i m H →
      (J.stop i H ∧ Q (.ref p) H) ∨ (J.go i H ∧ ∃ Nx : Hp → Prop, (∀ H', Nx H' → ∃ m', m' < m ∧ W (i + 1) m' H') ∧ ∀ x H', J.yld i H x H' → liftG K ix t x (wipe σ vs) H' fun σ2 H2 => wipe σ2 vs = wipe σ vs ∧ liftT K cn σ2 H2 fun b H3 =>
        if b = true then liftE K ek σ2 H3 fun y H4 => liftE K ev σ2 H4 fun z H5 => ∃ kvs k, y = kV k ∧ H5 p = some (.dK kvs) ∧ kvs.length < sizeLine ∧ Nx (upd H5 p (.dK (putK kvs k z))) else Nx H3) := by
  obtain ⟨G, Y, hwalk, hG, hY⟩ := wk.ex
  have h0 : F.H0 p = none := s1.dom p hp
  let Pv : Nat → Hp → Prop := fun i H => ∃ W φ S ks accD kvs, StR K (F.guard p) H W φ (wipeL L1 vs) S (wipe σ vs) ∧ Tr false H1 φ1 W1 H φ W ∧ H p = some (.dK kvs) ∧ kvs.map (·.1) = ks.map Sum.inr ∧ Reps K H φ W accD (kvs.map (·.2)) ∧ compD t cn ek ev (wipeL L1 vs) (ds.drop i) S ks accD Pend
  refine ⟨fun i m H => m = ds.length - i ∧ i ≤ ds.length ∧ Pv i H, ⟨ds.length, by simp, Nat.zero_le _, ?_⟩, ?_⟩
  · have sw := s1.wipe vs
    have sg := sw.growW (o := .dK []) hp rfl (sw.phN hp)
    exact ⟨_, φ1, S1, [], [], [], sg.guard (.inr rfl) (by intro i hi; exact sw.noOwn hp i hi), Tr.newW hp, upd_same, rfl, Reps.nil, hc⟩
  · rintro i m H ⟨rfl, hi, W, φ, S, ks, accD, kvs, s, tr, hD, hk, ra, hcc⟩
    have g := hG H φ W tr.weak
    by_cases hlt : i < ds.length
    · refine .inr ⟨hwalk.goes i H hlt g, Pv (i + 1), fun H' pv => ⟨ds.length - (i + 1), by omega, rfl, hlt, pv⟩, fun x H' y => ?_⟩
      obtain ⟨d, hd, s', t', rd⟩ := (hY i H φ W x H' hlt tr.weak (hwalk.yields i H x H' hlt g y)).go s
      rw [drop_cons hd] at hcc
      simp only [compD] at hcc
      have hpp : p ∉ φ := s.phO (s.wc p (.inr rfl))
      have hD' : H' p = some (.dK kvs) := t'.keep p _ hD fun _ => ⟨hpp, fun z => nomatch z⟩
      refine ⟨F.guard p, W, φ, wipeL L1 vs, S, d, _, s', rd, hcc, fun L' σ' hP sg hlen hσ hL => ?_⟩
      have ew : wipe σ' vs = wipe σ vs := wipe_eq hlen fun j hj => hσ j fun z => hj (hix j z)
      refine ⟨ew, F.guard p, W, φ, L', S, _, sg, hP, fun b L2 S2 H3 W3 φ3 hb s3 t3 => ?_⟩
      obtain ⟨rfl, hb⟩ := hb
      have hpp3 : p ∉ φ3 := s3.phO (s3.wc p (.inr rfl))
      have hD3 : H3 p = some (.dK kvs) := t3.keep p _ hD' fun _ => ⟨hpp, fun z => nomatch z⟩
      have eL : wipeL L2 vs = wipeL L1 vs := by
        apply List.ext_getElem?
        intro j
        rw [wipeL_get, wipeL_get]
        have hl : L2.length = L1.length := by
          have e1 := sg.lo.len
          rw [hlen] at e1
          rw [e1, wipe_length]; exact s1.lo.len.symm
        by_cases hj : j ∈ vs
        · rw [if_pos hj, if_pos hj]
          by_cases hlt : j < L1.length
          · rw [List.getElem?_eq_getElem hlt, List.getElem?_eq_getElem (by omega)]; rfl
          · rw [List.getElem?_eq_none (by omega), List.getElem?_eq_none (by omega)]
        · rw [if_neg hj, if_neg hj, hL j (fun z => hj (hix j z)), wipeL_get, if_neg hj]
      have back : ∀ {H W φ S}, StR K (F.guard p) H W φ L2 S σ' → StR K (F.guard p) H W φ (wipeL L1 vs) S (wipe σ vs) := fun {H W φ S} sx => by
        have := sx.wipe vs
        rw [eL, ew] at this
        exact this
      cases b with
      | false =>
        rw [if_neg (by decide)] at hb ⊢
        exact ⟨W3, φ3, S2, ks, accD, kvs, back s3, (tr.trans t').trans t3, hD3, hk, (ra.go t').go t3, hb⟩
      | true =>
        rw [if_pos rfl] at hb ⊢
        refine ⟨F.guard p, W3, φ3, L2, S2, _, s3, hb, fun r f L3 S3 H4 W4 φ4 y hr s4 t4 vr => ?_⟩
        obtain ⟨k, rfl, rfl, hr⟩ := hr
        have ey : y = .str k := by
          have := vr.repP s4
          exact this.str
        have hpp4 : p ∉ φ4 := s4.phO (s4.wc p (.inr rfl))
        have hD4 : H4 p = some (.dK kvs) := t4.keep p _ hD3 fun _ => ⟨hpp3, fun z => nomatch z⟩
        refine ⟨F.guard p, W4, φ4, L3, S3, _, s4, hr, fun r2 f2 L4 S4 H5 W5 φ5 z hr2 s5 t5 vr2 => ?_⟩
        obtain ⟨rfl, hz, hr2⟩ := hr2
        have hD5 : H5 p = some (.dK kvs) := t5.keep p _ hD4 fun _ => ⟨hpp4, fun z => nomatch z⟩
        have ra5 := (((ra.go t').go t3).go t4).go t5
        obtain ⟨W6, s6, r6, w6⟩ := put_step (k := k) s5 h0 hD5 hk ra5 vr2
        have hkl : kvs.length = ks.length := by
          have := congrArg List.length hk
          simpa using this
        exact ⟨kvs, Sum.inr k, by rw [ey]; rfl, hD5, by rw [hkl]; exact hz, W6, φ5, S4, _, _, _, back s6, ((((tr.trans t').trans t3).trans t4).trans t5).updF hp w6, upd_same, put_keys hk k z, r6, hr2⟩
    · have e : i = ds.length := by omega
      subst e
      rw [List.drop_length] at hcc
      simp only [compD] at hcc
      obtain ⟨su, nou⟩ := s.unguard h0
      have sx := su.unwipe s1 tr no
      refine .inl ⟨hwalk.stops H g, q ks accD S H W φ hcc sx tr ⟨p, rfl, s.wc p (.inr rfl), ⟨h0, fun z => ?_⟩, ⟨kvs, hD, hk, ra⟩, fun i hi => ?_⟩⟩
      · obtain ⟨o, eo, _⟩ := s1.wt p (s1.wc p z)
        rw [hp] at eo; cases eo
      · exact s1.noOwn hp i hi
end Q
/-! Soundness: the translator, expressions. -/
namespace Q
open PySem PySem.Spec PyProof.Rows L2
section
variable {X : Cx} {C : Calls} {c : TC} {sc scope : Scope}
theorem rel_lookup {env : Env} : ∀ {names : List (Str × NameKind)} (x : Str), (relS ⟨.function, names, false, false, []⟩ env.scope).names.lookup x = names.lookup x ∨ (names.lookup x = some .free ∧ (relS ⟨.function, names, false, false, []⟩ env.scope).names.lookup x = some .cell)
  | [], x => .inl rfl
  | (n, k) :: r, x => by
    have ih := @rel_lookup env r x
    unfold relS at ih ⊢
    simp only [List.map_cons] at ih ⊢
    cases hx : x == n with
    | true =>
      by_cases hc : (k == NameKind.free && env.scope.kind == .function && env.scope.names.lookup n == some .cell) = true
      · rw [if_pos hc]
        simp only [List.lookup_cons, hx]
        simp only [Bool.and_eq_true, beq_iff_eq] at hc
        exact .inr ⟨by rw [hc.1.1], by trivial⟩
      · rw [if_neg hc]
        simp only [List.lookup_cons, hx]
        exact .inl (by trivial)
    | false =>
      have e1 : ((n, k) :: r).lookup x = r.lookup x := by simp only [List.lookup_cons, hx]
      rw [e1]
      by_cases hc : (k == NameKind.free && env.scope.kind == .function && env.scope.names.lookup n == some .cell) = true
      · rw [if_pos hc]
        simp only [List.lookup_cons, hx]; exact ih
      · rw [if_neg hc]
        simp only [List.lookup_cons, hx]; exact ih
theorem GX.blk (G : GX c C sc X) (hk : scope.kind = .function) (s : Shared) (H : Hp) (cl : List (Str × Addr)) (A : Addr) (fp : List Addr) : GX c C scope (X.blk s H scope (compEnvC scope cl A X.env) fp) where
  N := G.N
  nd := G.nd
  calm := G.calm
  xe := rfl
  fn := fun x h => by show (scope.names.lookup x == some .cell) = true; rw [h]; rfl
  sc := fun x => @rel_lookup X.env scope.names x
  kind := hk
  hu := G.hu
  bi := G.bi
  gl := G.gl
  fs := G.fs
theorem blk_ok (G : GX c C sc X) {own : List (Str × Nat)} (h : L2.blkC c.N sc scope own = true) : BlkOk X.N X.env.scope scope own := by
  have b := blkOk_by h
  rw [G.N]
  refine ⟨b.kind, b.uniq, b.ix, fun y hy e => ?_, b.own⟩
  have := b.free y hy e
  have h2 := G.sc y.1
  rcases this with z | z
  · rw [z] at h2
    rcases h2 with h2 | h2
    · exact .inl h2
    · cases h2.1
  · rw [z] at h2
    rcases h2 with h2 | h2
    · exact .inr h2
    · exact .inl h2.2
/-- one clause -/
theorem se_comp {elt tg iter : Expr} {ifs : List Expr} {ie : IE} {it : IT} {src : II} {ic : IC} {pos : Pos} {n : Nat} (G : GX c C sc X) (hb : L2.blkC c.N sc scope (ownOf c.N scope) = true) (ht : trT c scope n tg = some it) (hix : ∀ i, i ∈ it.ix → i ∈ (ownOf c.N scope).map (·.2))
    (he : ∀ X', GX c C scope X' → SE X' C elt ie) (hi : PI X tg iter (liftI X.K (wI C src))) (hc : ∀ X', GX c C scope X' → PTs X' ifs (liftT X'.K (wT C ic))) (hs : ∀ x, foldedSetIterable iter X.env x = pure x) :
    SE X C (.ListComp elt [⟨tg, iter, ifs, 0⟩] scope pos) (.comp ie it src ic ((ownOf c.N scope).map (·.2))) := by
  have ok := blk_ok G hb
  have gb := fun s H A cl fp => G.blk ok.kind s H cl A fp
  have key := pe_lc (pos := pos) G.calm (by rw [G.N]; exact G.nd) hi ok (g := liftG X.K it.ix (wG it)) (tt := liftT X.K (wT C ic)) (te := liftE X.K (wE C ie))
    (fun s H A cl fp => ((tr_sound (gb s H A cl fp) n).1 tg it ht).1) (fun s H A cl fp => hc _ (gb s H A cl fp)) (fun s H A cl fp => (he _ (gb s H A cl fp)).v) hs
  refine SE.of rfl (PE.imp key fun σ H Q ⟨F, W, φ, L, S, P, s, h, q⟩ => ?_)
  simp only [wE] at h
  refine ⟨F, W, φ, L, S, _, s, h, fun ds L1 S1 H1 W1 φ1 J h1 s1 t1 wk D hD => ?_⟩
  exact comp_go s1 wk hix h1.1 hD h1.2 fun acc S' H' W' φ' hp s' t' vr => q _ true L1 S' H' W' φ' _ hp s' (t1.trans t') vr
theorem se_comp2 {elt tg iter tg1 iter1 : Expr} {ie : IE} {it it1 : IT} {src src1 : II} {pos : Pos} {n : Nat} (G : GX c C sc X) (hb : L2.blkC c.N sc scope (ownOf c.N scope) = true) (ht : trT c scope n tg = some it) (hix : ∀ i, i ∈ it.ix → i ∈ (ownOf c.N scope).map (·.2))
    (ht1 : trT c scope n tg1 = some it1) (hix1 : ∀ i, i ∈ it1.ix → i ∈ (ownOf c.N scope).map (·.2)) (he : ∀ X', GX c C scope X' → SE X' C elt ie) (hi : PI X tg iter (liftI X.K (wI C src))) (hi1 : ∀ X', GX c C scope X' → PI X' tg1 iter1 (liftI X'.K (wI C src1)))
    (hs : ∀ x, foldedSetIterable iter X.env x = pure x) (hs1 : ∀ env x, foldedSetIterable iter1 env x = pure x) :
    SE X C (.ListComp elt [⟨tg, iter, [], 0⟩, ⟨tg1, iter1, [], 0⟩] scope pos) (.comp2 ie it src it1 src1 ((ownOf c.N scope).map (·.2))) := by
  have ok := blk_ok G hb
  have gb := fun s H A cl fp => G.blk ok.kind s H cl A fp
  have key := pe_lc2 (pos := pos) (vs1 := it1.ix) G.calm (by rw [G.N]; exact G.nd) hi ok hix1 (g := liftG X.K it.ix (wG it)) (tt := tYes) (wi1 := liftI X.K (wI C src1)) (g1 := liftG X.K it1.ix (wG it1)) (tt1 := tYes) (te := liftE X.K (wE C ie))
    (fun s H A cl fp => ((tr_sound (gb s H A cl fp) n).1 tg it ht).1) (fun s H A cl fp => pts_nil) (fun s H A cl fp => hi1 _ (gb s H A cl fp)) (fun s H A cl fp => ((tr_sound (gb s H A cl fp) n).1 tg1 it1 ht1).1) (fun s H A cl fp => pts_nil) (fun s H A cl fp => (he _ (gb s H A cl fp)).v) hs hs1
  refine SE.of rfl (PE.imp key fun σ H Q ⟨F, W, φ, L, S, P, s, h, q⟩ => ?_)
  simp only [wE] at h
  refine ⟨F, W, φ, L, S, _, s, h, fun ds L1 S1 H1 W1 φ1 J h1 s1 t1 wk D hD => ?_⟩
  exact comp2_go s1 wk hix hix1 h1.1 hD (fun d L P hg => wG_mono (fun L' h => ⟨fun i d' _ e => h.1 i d' e, h.2⟩) (wG_val hg)) h1.2 fun acc S' H' W' φ' hp s' t' vr => q _ true L1 S' H' W' φ' _ hp s' (t1.trans t') vr
theorem pts_of_nil : PTs X [] (liftT X.K (wT C .yes)) := ⟨fun pins s σ H Q I ⟨F, W, φ, L, S, P, st, ht, q⟩ => by
  simp only [wT] at ht
  exact pts_nil.run pins s σ H Q I (q _ _ _ _ _ _ ht st Tr.refl)⟩

/-- the translator keeps the meaning, to depth n -/
structure Snd (c : TC) (C : Calls) (n : Nat) : Prop where
  e : ∀ sc X e i, GX c C sc X → trE c n sc e = some i → SE X C e i
  b : ∀ sc X op es i pos, GX c C sc X → trB c n sc op es = some i → SE X C (.BoolOp op es pos) i
  es : ∀ sc X es l, GX c C sc X → trEs c n sc es = some l → PA X es (liftA X.K (wEs C l)) ∧ PA X es (liftQ X.K (wPs C l)) ∧ PA X es (liftC X.K (wA C l)) ∧ l.len = es.length
  o : ∀ sc X o i, GX c C sc X → trO c n sc o = some i → PO X o (liftO X.K (wEo C i))
  t : ∀ sc X e i, GX c C sc X → trC c n sc e = some i → PT X e (liftT X.K (wT C i))
  bt : ∀ sc X op es i pos, GX c C sc X → trBC c n sc op es = some i → PW X (.BoolOp op es pos) (liftT X.K (wT C i))
  d : ∀ sc X es l, GX c C sc X → trEs c n sc es = some l → ∀ pos keys kk, strKeys keys = some kk → keys.length = es.length → Dsp X C pos keys kk es l
  w : ∀ sc X tg e i, GX c C sc X → trW c n sc (isTup tg) e = some i → (∃ x px j, e = .Name x px ∧ i = .wk j ∧ fine x = true ∧ vis sc x = true ∧ c.N.idxOf? x = some j) ∨ (PI X tg e (liftI X.K (wI C i)) ∧ ∀ env x, foldedSetIterable e env x = pure x)
  i : ∀ sc X tg e i, GX c C sc X → trI c n sc (isTup tg) e = some i → PI X tg e (liftI X.K (wI C i)) ∧ ∀ env x, foldedSetIterable e env x = pure x
theorem star_of {n : Nat} {e : Expr} {i : IE} {env : Env} (h : trE c n sc e = some i) : ∀ es, starEach (e :: es) env = (false, eval e env) :: starEach es env := by
  intro es
  cases e <;> first | rfl | (cases n <;> simp [trE] at h)
theorem any_star {pos : Pos} {n : Nat} {env : Env} : ∀ {es : List Expr} {l : IEs} {n : Nat}, trEs c n sc es = some l → (backTo pos (starEach es env)).any (·.1) = false
  | [], l, n, h => rfl
  | e :: es, l, 0, h => by simp [trEs] at h
  | e :: es, l, n + 1, h => by
    simp only [trEs, Option.bind_eq_bind, Option.bind_eq_some_iff] at h
    obtain ⟨i, hi, l', hl, h⟩ := h
    rw [star_of hi]
    exact any_star (pos := pos) (n := n) (env := env) hl
theorem set_not {n : Nat} {e : Expr} {i : IE} (h : trE c n sc e = some i) : ∀ env x, foldedSetIterable e env x = pure x := by
  intro env x
  cases e <;> first | rfl | (cases n <;> simp [trE] at h)
theorem plain_ix {n : Nat} {e : Expr} {i : IE} (h : trE c n sc e = some i) : PlainIx e := by
  intro o v
  cases e <;> first | rfl | (cases n <;> simp [trE] at h)
theorem ofS_eq {l : List String} {x : Str} {T : String} (h : ofS l x = some T) : T ∈ l ∧ x = (T : Str) := by
  unfold ofS at h
  have h1 := List.mem_of_find?_eq_some h
  have h2 := List.find?_some h
  exact ⟨h1, by simpa using h2⟩
theorem isTup_eq {e : Expr} (h : isTup e = true) : ∃ es k p, e = .Tuple es k p := by
  cases e <;> first | exact ⟨_, _, _, rfl⟩ | cases h
theorem ixIn_of {n : Nat} {tg : Expr} {t : IT} (h : ixIn c scope n tg = true) (ht : trT c scope n tg = some t) : ∀ i, i ∈ t.ix → i ∈ (ownOf c.N scope).map (·.2) := by
  unfold ixIn at h
  rw [ht] at h
  intro i hi
  have := List.all_eq_true.mp h i hi
  simpa using this
end
end Q
/-! Soundness: walks over dicts, the dict being locked. -/
namespace Q
open PySem PySem.Spec PyProof.Rows L2
section
variable {K : PySem.W.Frag} {H H' : Hp} {φ : List Addr} {W : Addr → Prop} {a : Addr} {kvs : List (Key × V)}
theorem rd_one {k1 k2 : List (Key × V)} (h1 : Rd H a (.dK k1)) (h2 : Rd H a (.dK k2)) : k1 = k2 := by
  rcases h1 with h1 | ⟨o, h1⟩ <;> rcases h2 with h2 | ⟨o2, h2⟩ <;> rw [h1] at h2 <;> cases h2 <;> rfl
theorem rd_tup {vs : List V} (h1 : Rd H a (.dK kvs)) (h2 : H a = some (.tup vs)) : False := by
  rcases h1 with h1 | ⟨o, h1⟩ <;> rw [h1] at h2 <;> cases h2
theorem rd_tupF {vs : List V} {o2 : Obj} (h1 : Rd H a (.dK kvs)) (h2 : H a = some (.frz o2 (.tup vs))) : False := by
  rcases h1 with h1 | ⟨o, h1⟩ <;> rw [h1] at h2 <;> cases h2
theorem rd_lst {vs : List V} (h1 : Rd H a (.dK kvs)) (h2 : H a = some (.lst vs)) : False := by
  rcases h1 with h1 | ⟨o, h1⟩ <;> rw [h1] at h2 <;> cases h2
theorem rd_lstF {vs : List V} {o2 : Obj} (h1 : Rd H a (.dK kvs)) (h2 : H a = some (.frz o2 (.lst vs))) : False := by
  rcases h1 with h1 | ⟨o, h1⟩ <;> rw [h1] at h2 <;> cases h2
mutual
/-- the lock at a is put on or taken off -/
theorem Rep.sw (hn : ∀ x, x ≠ a → H' x = H x) (h1 : Rd H a (.dK kvs)) (h2 : Rd H' a (.dK kvs)) : ∀ {d : D} {v : V}, Rep K H φ W d v → Rep K H' φ W d v
  | .non, v, h => by simp only [Rep] at h ⊢; exact h
  | .bl b, v, h => by simp only [Rep] at h ⊢; exact h
  | .int b, v, h => by simp only [Rep] at h ⊢; exact h
  | .str b, v, h => by simp only [Rep] at h ⊢; exact h
  | .tup l, v, h => by
    simp only [Rep] at h ⊢
    obtain ⟨b, vs, e, q, r⟩ := h
    refine ⟨b, vs, e, ?_, Reps.sw hn h1 h2 r⟩
    rcases q with (q | ⟨o, q⟩) | q
    · exact .inl (.inl (by rw [hn b (fun z => rd_tup h1 (z ▸ q))]; exact q))
    · exact .inl (.inr ⟨o, by rw [hn b (fun z => rd_tupF h1 (z ▸ q))]; exact q⟩)
    · exact .inr q
  | .lst l, v, h => by
    simp only [Rep] at h ⊢
    obtain ⟨b, e, w, p, vs, q, r⟩ := h
    exact ⟨b, e, w, p, vs, by rw [hn b (fun z => rd_lst h1 (z ▸ q))]; exact q, Reps.sw hn h1 h2 r⟩
  | .dct ks ds, v, h => by
    simp only [Rep] at h ⊢
    obtain ⟨b, e, w, p, vs, q, k, r⟩ := h
    refine ⟨b, e, w, p, vs, ?_, k, Reps.sw hn h1 h2 r⟩
    by_cases hb : b = a
    · subst hb
      rw [rd_one q h1]; exact h2
    · rcases q with q | ⟨o, q⟩
      · exact .inl (by rw [hn b hb]; exact q)
      · exact .inr ⟨o, by rw [hn b hb]; exact q⟩
  | .scr ns, v, h => by
    simp only [Rep] at h ⊢
    obtain ⟨b, e, q⟩ := h
    exact ⟨b, e, q.elim (fun ⟨o, q⟩ => .inl ⟨o, by rw [hn b (fun z => rd_lstF h1 (z ▸ q))]; exact q⟩) .inr⟩
  | .obj n, v, h => by simp only [Rep] at h ⊢; exact h
theorem Reps.sw (hn : ∀ x, x ≠ a → H' x = H x) (h1 : Rd H a (.dK kvs)) (h2 : Rd H' a (.dK kvs)) : ∀ {d : List D} {v : List V}, Reps K H φ W d v → Reps K H' φ W d v
  | [], [], _ => Reps.nil
  | d :: ds, v :: vs, h => by simp only [Reps] at h; exact Reps.cons (Rep.sw hn h1 h2 h.1) (Reps.sw hn h1 h2 h.2)
  | [], _ :: _, h => by simp [Reps] at h
  | _ :: _, [], h => by simp [Reps] at h
end
theorem Top.sw (hn : ∀ x, x ≠ a → H' x = H x) (h1 : Rd H a (.dK kvs)) (h2 : Rd H' a (.dK kvs)) {d : D} {b : Addr} (hb : b ≠ a) (t : Top K H φ W d b) : Top K H' φ W d b := by
  cases d with
  | lst l => obtain ⟨vs, q, r⟩ := t; exact ⟨vs, by rw [hn b hb]; exact q, r.sw hn h1 h2⟩
  | dct ks l => obtain ⟨vs, q, k, r⟩ := t; exact ⟨vs, by rw [hn b hb]; exact q, k, r.sw hn h1 h2⟩
  | _ => exact t.elim
end
/-- the entry's heap, the lock put on -/
def Fr.lk (F : Fr) (a : Addr) (u : HO) : Fr := { F with H0 := fun x => if x = a then (F.H0 a).map (fun _ => u) else F.H0 x }
theorem Fr.lk_none {F : Fr} {a x : Addr} {u : HO} : (F.lk a u).H0 x = none ↔ F.H0 x = none := by
  unfold Fr.lk
  dsimp only
  by_cases h : x = a
  · subst h; rw [if_pos rfl]; simp
  · rw [if_neg h]
section
variable {K : PySem.W.Frag} {F : Fr} {H : Hp} {W : Addr → Prop} {φ : List Addr} {L : Lo} {S : Sto} {σ : Sg} {a : Addr} {kvs : List (Key × V)} {o : Obj}
theorem StR.noW (s : StR K F H W φ L S σ) (hd : H a = some (.frz o (.dK kvs))) : ¬ W a ∧ a ∉ φ := by
  refine ⟨fun w => ?_, fun z => ?_⟩
  · obtain ⟨u, e, m⟩ := s.wt a w
    rw [hd] at e; cases e; cases m
  · obtain ⟨n, hn⟩ := List.mem_iff_getElem?.mp z
    have hl : n < S.length := by rw [s.st.len]; exact (List.getElem?_eq_some_iff.mp hn).1
    obtain ⟨vs, q, _⟩ := s.st.at_ n a S[n] hn (List.getElem?_eq_getElem hl)
    rw [hd] at q; cases q
theorem StR.lock (s : StR K F H W φ L S σ) (hd : H a = some (.dK kvs)) (hw : ¬ W a) (hp : a ∉ φ) : StR K (F.lk a (.frz o (.dK kvs))) (upd H a (.frz o (.dK kvs))) W φ L S σ := by
  have hn : ∀ x, x ≠ a → upd H a (.frz o (.dK kvs)) x = H x := fun x hx => upd_ne hx
  have h1 : Rd H a (.dK kvs) := .inl hd
  have h2 : Rd (upd H a (.frz o (.dK kvs))) a (.dK kvs) := .inr ⟨o, upd_same⟩
  have hst : StoR K (upd H a (.frz o (.dK kvs))) W φ S := by
    refine ⟨s.st.len, fun n b l e1 e2 => ?_⟩
    obtain ⟨vs, q, z, r⟩ := s.st.at_ n b l e1 e2
    exact ⟨vs, by rw [hn b (fun e => hp (e ▸ List.mem_of_getElem? e1))]; exact q, z, r.sw hn h1 h2⟩
  have hlo : LoR K (F.lk a (.frz o (.dK kvs))) (upd H a (.frz o (.dK kvs))) W φ L σ := by
    refine ⟨s.lo.len, fun j t e => ?_, s.lo.apart⟩
    cases t with
    | no => trivial
    | val d => obtain ⟨v, e1, r⟩ := s.lo.at_ j _ e; exact ⟨v, e1, r.sw hn h1 h2⟩
    | own d =>
      obtain ⟨b, e1, w, f, t⟩ := s.lo.at_ j _ e
      exact ⟨b, e1, w, ⟨Fr.lk_none.mpr f.1, f.2⟩, t.sw hn h1 h2 fun z => hw (z ▸ w)⟩
  exact {
    ext := fun x u e q => by
      unfold Fr.lk at e
      dsimp only at e
      by_cases hx : x = a
      · subst hx
        rw [if_pos rfl] at e
        obtain ⟨_, _, rfl⟩ := Option.map_eq_some_iff.mp e
        exact upd_same
      · rw [if_neg hx] at e
        rw [hn x hx]; exact s.ext x u e q
    dom := fun x z => by
      rw [Fr.lk_none]
      by_cases hx : x = a
      · subst hx; rw [upd_same] at z; cases z
      · rw [hn x hx] at z; exact s.dom x z
    wc := s.wc
    wnew := fun x w => (s.wnew x w).imp id fun z => Fr.lk_none.mpr z
    wt := fun x w => by
      have hx : x ≠ a := fun z => hw (z ▸ w)
      obtain ⟨u, e, m⟩ := s.wt x w
      exact ⟨u, by rw [hn x hx]; exact e, m⟩
    pre := s.pre
    phi := fun x z => (s.phi x z).imp id fun z => Fr.lk_none.mpr z
    phw := s.phw
    nd := s.nd
    st := hst
    lo := hlo }
theorem StR.unlock (s : StR K (F.lk a (.frz o (.dK kvs))) H W φ L S σ) (hd : H a = some (.frz o (.dK kvs))) (hF : ∀ u, F.H0 a = some u → u = .dK kvs) : StR K F (upd H a (.dK kvs)) W φ L S σ := by
  obtain ⟨hw, hp⟩ := s.noW hd
  have hn : ∀ x, x ≠ a → upd H a (.dK kvs) x = H x := fun x hx => upd_ne hx
  have h1 : Rd H a (.dK kvs) := .inr ⟨o, hd⟩
  have h2 : Rd (upd H a (.dK kvs)) a (.dK kvs) := .inl upd_same
  have hst : StoR K (upd H a (.dK kvs)) W φ S := by
    refine ⟨s.st.len, fun n b l e1 e2 => ?_⟩
    obtain ⟨vs, q, z, r⟩ := s.st.at_ n b l e1 e2
    exact ⟨vs, by rw [hn b (fun e => hp (e ▸ List.mem_of_getElem? e1))]; exact q, z, r.sw hn h1 h2⟩
  have hlo : LoR K F (upd H a (.dK kvs)) W φ L σ := by
    refine ⟨s.lo.len, fun j t e => ?_, s.lo.apart⟩
    cases t with
    | no => trivial
    | val d => obtain ⟨v, e1, r⟩ := s.lo.at_ j _ e; exact ⟨v, e1, r.sw hn h1 h2⟩
    | own d =>
      obtain ⟨b, e1, w, f, t⟩ := s.lo.at_ j _ e
      exact ⟨b, e1, w, ⟨Fr.lk_none.mp f.1, f.2⟩, t.sw hn h1 h2 fun z => hw (z ▸ w)⟩
  exact {
    ext := fun x u e q => by
      by_cases hx : x = a
      · subst hx
        rw [hF u e]; exact upd_same
      · rw [hn x hx]
        exact s.ext x u (by unfold Fr.lk; dsimp only; rw [if_neg hx]; exact e) q
    dom := fun x z => by
      by_cases hx : x = a
      · subst hx; rw [upd_same] at z; cases z
      · rw [hn x hx] at z; exact Fr.lk_none.mp (s.dom x z)
    wc := s.wc
    wnew := fun x w => (s.wnew x w).imp id fun z => Fr.lk_none.mp z
    wt := fun x w => by
      have hx : x ≠ a := fun z => hw (z ▸ w)
      obtain ⟨u, e, m⟩ := s.wt x w
      exact ⟨u, by rw [hn x hx]; exact e, m⟩
    pre := s.pre
    phi := fun x z => (s.phi x z).imp id fun z => Fr.lk_none.mp z
    phw := s.phw
    nd := s.nd
    st := hst
    lo := hlo }
end
end Q
/-! Soundness: dict comprehensions, the rules. -/
namespace Q
open PySem PySem.Spec PyProof.Rows L2
theorem PE.or {X : Cx} {e : Expr} {t u : TE} (h : PE X e t) (h2 : PE X e u) : PE X e (fun σ H Q => t σ H Q ∨ u σ H Q) :=
  ⟨fun pins s σ H Q I hw => hw.elim (h.run pins s σ H Q I) (h2.run pins s σ H Q I)⟩
section
variable {X : Cx} {C : Calls} {c : TC} {sc scope : Scope}
theorem se_dcomp {kx vx tg iter : Expr} {ifs : List Expr} {ik iv : IE} {it : IT} {src : II} {ic : IC} {pos : Pos} {n : Nat} (G : GX c C sc X) (hb : L2.blkC c.N sc scope (ownOf c.N scope) = true) (ht : trT c scope n tg = some it) (hix : ∀ i, i ∈ it.ix → i ∈ (ownOf c.N scope).map (·.2))
    (hk : ∀ X', GX c C scope X' → SE X' C kx ik) (hv : ∀ X', GX c C scope X' → SE X' C vx iv) (hi : PI X tg iter (liftI X.K (wI C src))) (hc : ∀ X', GX c C scope X' → PTs X' ifs (liftT X'.K (wT C ic))) (hs : ∀ x, foldedSetIterable iter X.env x = pure x) :
    SE X C (.DictComp kx vx [⟨tg, iter, ifs, 0⟩] scope pos) (.dcomp ik iv it src ic ((ownOf c.N scope).map (·.2))) := by
  have ok := blk_ok G hb
  have gb := fun s H A cl fp => G.blk ok.kind s H cl A fp
  have key := pe_dc (pos := pos) G.calm (by rw [G.N]; exact G.nd) hi ok (g := liftG X.K it.ix (wG it)) (tt := liftT X.K (wT C ic)) (tk := liftE X.K (wE C ik)) (tv := liftE X.K (wE C iv))
    (fun s H A cl fp => ((tr_sound (gb s H A cl fp) n).1 tg it ht).1) (fun s H A cl fp => hc _ (gb s H A cl fp)) (fun s H A cl fp => (hk _ (gb s H A cl fp)).v) (fun s H A cl fp => (hv _ (gb s H A cl fp)).v) hs
  refine SE.of rfl (PE.imp key fun σ H Q ⟨F, W, φ, L, S, P, s, h, q⟩ => ?_)
  simp only [wE] at h
  refine ⟨F, W, φ, L, S, _, s, h, fun ds L1 S1 H1 W1 φ1 J h1 s1 t1 wk D hD => ?_⟩
  exact dcomp_go s1 wk hix h1.1 hD h1.2 fun ks acc S' H' W' φ' hp s' t' vr => q _ true L1 S' H' W' φ' _ hp s' (t1.trans t') vr
theorem keys_get {kvs : List (Key × V)} {ks : List Str} (e : kvs.map (·.1) = ks.map Sum.inr) {i : Nat} {k : Key} {v : V} (h : kvs[i]? = some (k, v)) : ∃ z, ks[i]? = some z ∧ k = Sum.inr z := by
  have h1 : (kvs.map (·.1))[i]? = some k := by rw [List.getElem?_map, h]; rfl
  rw [e, List.getElem?_map] at h1
  obtain ⟨z, hz, e2⟩ := Option.map_eq_some_iff.mp h1
  exact ⟨z, hz, e2.symm⟩
theorem wk_keys {K : PySem.W.Frag} {H : Hp} {φ : List Addr} {W : Addr → Prop} {a : Addr} {o : Obj} {kvs : List (Key × V)} {ks : List Str} (hd : H a = some (.frz o (.dK kvs))) (e : kvs.map (·.1) = ks.map Sum.inr) : Wk K (ks.map .str) (Itk a o kvs) H φ W := by
  have hl : (ks.map D.str).length = kvs.length := by
    have := congrArg List.length e
    simp at this; simp [this]
  refine ⟨fun H => H a = some (.frz o (.dK kvs)), fun i H x H' => H' = H ∧ ∃ k v, kvs[i]? = some (k, v) ∧ x = kV k, ⟨fun i H hi g => ⟨g, by omega⟩, fun H g => ⟨g, by omega⟩, fun i H x H' hi g y => y⟩, fun H2 φ2 W2 t => t.keep a _ hd (fun z => by cases z), fun i H2 φ2 W2 x H3 hi t y => ?_⟩
  obtain ⟨rfl, k, v, hk, rfl⟩ := y
  obtain ⟨z, hz, rfl⟩ := keys_get e hk
  exact ⟨.str z, by rw [List.getElem?_map, hz]; rfl, .inl ⟨rfl, by simp only [Rep]; rfl⟩⟩
theorem se_dcompW {kx vx tg : Expr} {x : Str} {px : Pos} {i : Nat} {ifs : List Expr} {ik iv : IE} {it : IT} {ic : IC} {pos : Pos} {n : Nat} (G : GX c C sc X) (hb : L2.blkC c.N sc scope (ownOf c.N scope) = true) (ht : trT c scope n tg = some it) (hix : ∀ i, i ∈ it.ix → i ∈ (ownOf c.N scope).map (·.2))
    (hk : ∀ X', GX c C scope X' → SE X' C kx ik) (hv : ∀ X', GX c C scope X' → SE X' C vx iv) (hf : fine x = true) (hvi : vis sc x = true) (hxi : c.N.idxOf? x = some i) (hc : ∀ X', GX c C scope X' → PTs X' ifs (liftT X'.K (wT C ic))) :
    SE X C (.DictComp kx vx [⟨tg, .Name x px, ifs, 0⟩] scope pos) (.dcomp ik iv it (.wk i) ic ((ownOf c.N scope).map (·.2))) := by
  have ok := blk_ok G hb
  have gb := fun s H A cl fp => G.blk ok.kind s H cl A fp
  have se := se_loc (C := C) (pos := px) G hf hvi hxi
  have mk := fun {wi : TI} (hi : PI X tg (.Name x px) wi) => pe_dc (pos := pos) G.calm (by rw [G.N]; exact G.nd) hi ok (g := liftG X.K it.ix (wG it)) (tt := liftT X.K (wT C ic)) (tk := liftE X.K (wE C ik)) (tv := liftE X.K (wE C iv))
    (fun s H A cl fp => ((tr_sound (gb s H A cl fp) n).1 tg it ht).1) (fun s H A cl fp => hc _ (gb s H A cl fp)) (fun s H A cl fp => (hk _ (gb s H A cl fp)).v) (fun s H A cl fp => (hv _ (gb s H A cl fp)).v) (fun _ => rfl)
  have k1 := mk (pi_seq se)
  have k2 := mk (pi_keys (se.l i rfl))
  refine SE.of rfl (PE.imp (PE.or (PE.or k1 k2) (pe_lock k2)) fun σ H Q ⟨F, W, φ, L, S, P, s, h, q⟩ => ?_)
  simp only [wE, wI] at h
  -- a dict, kept for good
  have dict : ∀ {L : Lo} {W : Addr → Prop} {ks : List Str} {vs : List D}, StR X.K F H W φ L S σ → L[i]? = some (.val (.dct ks vs)) → (∀ d f L' S' H' W' φ' v, P d f L' S' → StR X.K F H' W' φ' L' S' σ → Tr false H φ W H' φ' W' → VR X.K F H' W' φ' L' σ f d v → Q v H') →
      (∀ j, j ∈ (ownOf c.N scope).map (·.2) → ∀ d, L[j]? ≠ some (.own d)) → compD (wG it) (wT C ic) (wE C ik) (wE C iv) (wipeL L ((ownOf c.N scope).map (·.2))) (ks.map .str) S [] [] (fun ks vs S2 => P (.dct ks vs) true L S2) →
      (tDc (iKeys (tVar i)) (liftG X.K it.ix (wG it)) (liftT X.K (wT C ic)) (liftE X.K (wE C ik)) (liftE X.K (wE C iv)) ((ownOf c.N scope).map (·.2))) σ H Q ∨ tLockE (tDc (iKeys (tVar i)) (liftG X.K it.ix (wG it)) (liftT X.K (wT C ic)) (liftE X.K (wE C ik)) (liftE X.K (wE C iv)) ((ownOf c.N scope).map (·.2))) σ H Q := by
    intro L W ks vs s e q no hcc
    obtain ⟨v, e1, r⟩ := s.val e
    simp only [Rep] at r
    obtain ⟨a, rfl, hw, hp, kvs, hd, ek, r⟩ := r
    rcases hd with hd | ⟨o, hd⟩
    · right
      refine ⟨a, .dK kvs, hd, trivial, fun od => ⟨_, e1, a, od, rfl, .inl ⟨kvs, upd_same, fun D hD => ?_⟩⟩⟩
      have sl := s.lock (o := od) hd hw hp
      have hDa : D ≠ a := fun z => by subst z; rw [upd_same] at hD; cases hD
      refine dcomp_go (Q := fun v H' => H' a = some (.frz od (.dK kvs)) ∧ Q v (upd H' a (.dK kvs))) sl (wk_keys upd_same ek) hix no hD hcc fun ks2 acc S' H' W' φ' hP s' t' vr => ?_
      have hda : H' a = some (.frz od (.dK kvs)) := t'.keep a _ upd_same fun z => by cases z
      have hF : ∀ u, F.H0 a = some u → u = .dK kvs := fun u hu => by
        by_cases hm : isM u = true
        · by_cases hpa : a ∈ F.φ0
          · exact (hp (s.pre.subset hpa)).elim
          · have := s.ext a u hu fun _ => hpa
            rw [hd] at this; cases this; rfl
        · have := s.ext a u hu fun z => (hm z).elim
          rw [hd] at this; cases this; rfl
      have su := s'.unlock hda hF
      refine ⟨hda, q _ true L S' _ W' φ' _ hP su ?_ ?_⟩
      · refine ⟨fun b u hb m => ?_, fun b z => ?_, fun b z => ?_, t'.pre, fun b z => ?_⟩
        · by_cases hba : b = a
          · subst hba
            rw [hd] at hb; cases hb; exact upd_same
          · rw [upd_ne hba]
            exact t'.keep b u (by rw [upd_ne hba]; exact hb) m
        · rcases t'.w b z with z | z
          · exact .inl z
          · by_cases hba : b = a
            · subst hba; rw [upd_same] at z; cases z
            · rw [upd_ne hba] at z; exact .inr z
        · by_cases hba : b = a
          · subst hba; rw [upd_same] at z; cases z
          · rw [upd_ne hba] at z
            have := t'.dom b z
            rwa [upd_ne hba] at this
        · rcases t'.phi b z with z | z
          · exact .inl z
          · by_cases hba : b = a
            · subst hba; rw [upd_same] at z; cases z
            · rw [upd_ne hba] at z; exact .inr z
      · obtain ⟨b, hb, w, f, tp, no2⟩ := vr
        cases hb
        refine ⟨D, rfl, w, ⟨Fr.lk_none.mp f.1, f.2⟩, tp.sw (a := a) (kvs := kvs) (fun y hy => upd_ne hy) (.inr ⟨od, hda⟩) (.inl upd_same) hDa, no2⟩
    · left
      refine ⟨_, e1, a, o, rfl, .inl ⟨kvs, hd, fun D hD => ?_⟩⟩
      exact dcomp_go s (wk_keys hd ek) hix no hD hcc fun ks2 acc S' H' W' φ' hP s' t' vr => q _ true L S' H' W' φ' _ hP s' t' vr
  have seq : ∀ {ds : List D} {L1 : Lo}, wI C (.seq (.loc i)) L S (fun ds' L1' S1 => ds' = ds ∧ L1' = L1 ∧ S1 = S) → ((∀ j, j ∈ (ownOf c.N scope).map (·.2) → ∀ d, L1[j]? ≠ some (.own d)) ∧ compD (wG it) (wT C ic) (wE C ik) (wE C iv) (wipeL L1 ((ownOf c.N scope).map (·.2))) ds S [] [] fun ks vs S2 => P (.dct ks vs) true L1 S2) →
      tDc (liftI X.K (wI C (.seq (.loc i)))) (liftG X.K it.ix (wG it)) (liftT X.K (wT C ic)) (liftE X.K (wE C ik)) (liftE X.K (wE C iv)) ((ownOf c.N scope).map (·.2)) σ H Q := by
    intro ds L1 h1 h2
    refine ⟨F, W, φ, L, S, _, s, h1, fun ds' L1' S1 H1 W1 φ1 J h3 s1 t1 wk D hD => ?_⟩
    obtain ⟨rfl, rfl, rfl⟩ := h3
    exact dcomp_go s1 wk hix h2.1 hD h2.2 fun ks acc S' H' W' φ' hp s' t' vr => q _ true _ S' H' W' φ' _ hp s' (t1.trans t') vr
  split at h
  · rename_i l e
    exact .inl (.inl (seq (by simp [wI, wE, e]) h))
  · rename_i l e
    exact .inl (.inl (seq (by simp [wI, wE, e]) h))
  · rename_i l e
    exact .inl (.inl (seq (by simp [wI, wE, e]) h))
  · rename_i ks vs e
    rcases dict s e q h.1 h.2 with z | z
    · exact .inl (.inr z)
    · exact .inr z
  · rename_i ks vs e
    obtain ⟨W2, v, s2, t2, _, _⟩ := s.freeze e
    have e2 : (L.set i (.val (.dct ks vs)))[i]? = some (.val (.dct ks vs)) := List.getElem?_set_self (List.getElem?_eq_some_iff.mp e).1
    rcases dict s2 e2 (fun d f L' S' H' W' φ' v hp s' t' vr => q d f L' S' H' W' φ' v hp s' (t2.trans t') vr) h.1 h.2 with z | z
    · exact .inl (.inr z)
    · exact .inr z
  · exact h.elim
end
end Q
/-! Soundness: the translator's induction, expressions. -/
namespace Q
open PySem PySem.Spec PyProof.Rows L2
section
variable {c : TC} {C : Calls}
theorem snd_zero : Snd c C 0 where
  e := fun sc X e i G h => by simp [trE] at h
  b := fun sc X op es i pos G h => by simp [trB] at h
  es := fun sc X es l G h => by
    cases es with
    | nil =>
      simp only [trEs] at h; cases h
      exact ⟨pas_nil, pps_nil, pcs_nil, rfl⟩
    | cons _ _ => simp [trEs] at h
  o := fun sc X o i G h => by
    cases o with
    | none => simp only [trO] at h; cases h; exact so_none
    | some _ => simp [trO] at h
  t := fun sc X e i G h => by simp [trC] at h
  bt := fun sc X op es i pos G h => by simp [trBC] at h
  d := fun sc X es l G h pos keys kk hk hl => by
    cases es with
    | nil =>
      cases keys with
      | nil =>
        simp only [trEs] at h; cases h
        simp only [strKeys] at hk; cases hk
        exact dsp_nil
      | cons _ _ => simp at hl
    | cons _ _ => simp [trEs] at h
  w := fun sc X tg e i G h => by simp [trW] at h
  i := fun sc X tg e i G h => by simp [trI] at h
theorem addD_len (dv : List D) : ∀ l : IEs, (addD l dv).len = l.len + dv.length
  | .nil => by
    show (cstS dv).len = _
    induction dv with
    | nil => rfl
    | cons d r ih => simp only [cstS, IEs.len, List.length_cons] at ih ⊢; omega
  | .cons e r => by
    show (IEs.cons e (addD r dv)).len = _
    simp only [IEs.len]
    rw [addD_len dv r]; omega
theorem snd_b {n : Nat} (ih : Snd c C n) (sc : Scope) (X : Cx) (op : BoolOp) (es : List Expr) (i : IE) (pos : Pos) (G : GX c C sc X) (h : trB c (n + 1) sc op es = some i) : SE X C (.BoolOp op es pos) i := by
  cases es with
  | nil => simp [trB] at h
  | cons e r =>
    cases r with
    | nil => simp only [trB] at h; exact se_one (ih.e sc X e i G h)
    | cons b r =>
      cases op with
      | And =>
        simp only [trB, Option.bind_eq_bind, Option.bind_eq_some_iff] at h
        obtain ⟨ia, ha, ib, hb, h⟩ := h
        cases h
        exact se_and (ih.e sc X e ia G ha) (ih.b sc X _ _ _ _ G hb)
      | Or =>
        simp only [trB, Option.bind_eq_bind, Option.bind_eq_some_iff] at h
        obtain ⟨ia, ha, ib, hb, h⟩ := h
        cases h
        exact se_or (ih.e sc X e ia G ha) (ih.b sc X _ _ _ _ G hb)
theorem snd_es {n : Nat} (ih : Snd c C n) (sc : Scope) (X : Cx) (es : List Expr) (l : IEs) (G : GX c C sc X) (h : trEs c (n + 1) sc es = some l) : PA X es (liftA X.K (wEs C l)) ∧ PA X es (liftQ X.K (wPs C l)) ∧ PA X es (liftC X.K (wA C l)) ∧ l.len = es.length := by
  cases es with
  | nil =>
    simp only [trEs] at h; cases h
    exact ⟨pas_nil, pps_nil, pcs_nil, rfl⟩
  | cons e r =>
    simp only [trEs, Option.bind_eq_bind, Option.bind_eq_some_iff] at h
    obtain ⟨i, hi, l', hl, h⟩ := h
    cases h
    have s := ih.e sc X e i G hi
    obtain ⟨h1, h2, h3, h4⟩ := ih.es sc X r l' G hl
    exact ⟨pas_cons s h1 (star_of hi r), pps_cons s h2 (star_of hi r), pcs_cons s h3 (star_of hi r), by simp [IEs.len, h4]⟩
theorem snd_d {n : Nat} (ih : Snd c C n) (sc : Scope) (X : Cx) (es : List Expr) (l : IEs) (G : GX c C sc X) (h : trEs c (n + 1) sc es = some l) (pos : Pos) (keys : List (Option Expr)) (kk : List Str) (hk : strKeys keys = some kk) (hl : keys.length = es.length) : Dsp X C pos keys kk es l := by
  cases es with
  | nil =>
    cases keys with
    | nil =>
      simp only [trEs] at h; cases h
      simp only [strKeys] at hk; cases hk
      exact dsp_nil
    | cons _ _ => simp at hl
  | cons e r =>
    cases keys with
    | nil => simp at hl
    | cons k keys =>
      simp only [trEs, Option.bind_eq_bind, Option.bind_eq_some_iff] at h
      obtain ⟨i, hi, l', hl', h⟩ := h
      cases h
      unfold strKeys at hk
      split at hk
      · rename_i he; cases he
      · rename_i he
        cases he
        obtain ⟨kk', hkk, rfl⟩ := Option.map_eq_some_iff.mp hk
        exact dsp_cons (ih.e sc X e i G hi) (ih.d sc X r l' G hl' pos _ kk' hkk (by simpa using hl))
      · cases hk
theorem snd_w {n : Nat} (ih : Snd c C n) (sc : Scope) (X : Cx) (tg e : Expr) (i : II) (G : GX c C sc X) (h : trW c (n + 1) sc (isTup tg) e = some i) : (∃ x px j, e = .Name x px ∧ i = .wk j ∧ fine x = true ∧ vis sc x = true ∧ c.N.idxOf? x = some j) ∨ (PI X tg e (liftI X.K (wI C i)) ∧ ∀ env x, foldedSetIterable e env x = pure x) := by
  unfold trW at h
  split at h
  · split at h
    · rename_i hc
      simp only [Bool.and_eq_true] at hc
      obtain ⟨j, hj, rfl⟩ := Option.map_eq_some_iff.mp h
      exact .inl ⟨_, _, j, rfl, rfl, hc.1, hc.2, hj⟩
    · cases h
  · exact .inr (ih.i sc X tg e i G h)
theorem snd_o {n : Nat} (ih : Snd c C n) (sc : Scope) (X : Cx) (o : Option Expr) (i : IEo) (G : GX c C sc X) (h : trO c (n + 1) sc o = some i) : PO X o (liftO X.K (wEo C i)) := by
  cases o with
  | none => simp only [trO] at h; cases h; exact so_none
  | some e =>
    simp only [trO, Option.bind_eq_bind, Option.bind_eq_some_iff] at h
    obtain ⟨j, hj, h⟩ := h
    cases h
    exact so_some (ih.e sc X e j G hj)
theorem snd_bt {n : Nat} (ih : Snd c C n) (sc : Scope) (X : Cx) (op : BoolOp) (es : List Expr) (i : IC) (pos : Pos) (G : GX c C sc X) (h : trBC c (n + 1) sc op es = some i) : PW X (.BoolOp op es pos) (liftT X.K (wT C i)) := by
  cases es with
  | nil => simp [trBC] at h
  | cons e r =>
    cases r with
    | nil =>
      simp only [trBC] at h
      cases op with
      | And => exact pw_and1_ (ih.t sc X e i G h)
      | Or => exact pw_or1_ (ih.t sc X e i G h)
    | cons b r =>
      cases op with
      | And =>
        simp only [trBC, Option.bind_eq_bind, Option.bind_eq_some_iff] at h
        obtain ⟨ia, ha, ib, hb, h⟩ := h
        cases h
        exact pw_and_ (ih.t sc X e ia G ha) (ih.bt sc X _ _ _ _ G hb)
      | Or =>
        simp only [trBC, Option.bind_eq_bind, Option.bind_eq_some_iff] at h
        obtain ⟨ia, ha, ib, hb, h⟩ := h
        cases h
        exact pw_or_ (ih.t sc X e ia G ha) (ih.bt sc X _ _ _ _ G hb)
theorem snd_v {n : Nat} (ih : Snd c C n) {sc : Scope} {X : Cx} {e : Expr} {i : IC} (G : GX c C sc X) (he : ∀ whole, isTrue e X.env whole = (do let v ← whole; standAt e.pos; holding [v] (truthy v))) (h : (do some (IC.v (← trE c n sc e))) = some i) : PT X e (liftT X.K (wT C i)) := by
  simp only [Option.bind_eq_bind, Option.bind_eq_some_iff] at h
  obtain ⟨j, hj, h⟩ := h
  cases h
  exact pt_v (ih.e sc X e j G hj) he
theorem snd_t {n : Nat} (ih : Snd c C n) (sc : Scope) (X : Cx) (e : Expr) (i : IC) (G : GX c C sc X) (h : trC c (n + 1) sc e = some i) : PT X e (liftT X.K (wT C i)) := by
  unfold trC at h
  split at h
  · simp only [Option.bind_eq_bind, Option.bind_eq_some_iff] at h
    obtain ⟨j, hj, h⟩ := h
    cases h
    exact pt_not_ (ih.t sc X _ j G hj)
  · exact (ih.bt sc X _ _ i _ G h).pt
  · split at h
    · rename_i hf
      simp only [Option.bind_eq_bind, Option.bind_eq_some_iff] at h
      obtain ⟨ia, ha, ib, hb, h⟩ := h
      cases h
      exact pt_cmp_ G hf (ih.e sc X _ ia G ha) (ih.e sc X _ ib G hb)
    · cases h
  · split at h
    · rename_i hf
      simp only [Bool.and_eq_true] at hf
      simp only [Option.bind_eq_bind, Option.bind_eq_some_iff] at h
      obtain ⟨ia, ha, ib, hb, id, hd, h⟩ := h
      cases h
      exact pt_chain_ G hf.1.1.1.1.2 (ih.e sc X _ ia G ha) (ih.e sc X _ ib G hb) (ih.e sc X _ id G hd)
    · cases h
  · cases h
  · rename_i h1 h2 h3 h4 h5
    cases e <;> try exact snd_v ih G (fun _ => rfl) h
    · exact (h2 _ _ _ rfl).elim
    · rename_i op a p
      cases op <;> first | exact (h1 _ _ rfl).elim | exact snd_v ih G (fun _ => rfl) h
    · exact (h5 _ _ _ _ rfl).elim
    · exfalso
      simp only [Option.bind_eq_bind, Option.bind_eq_some_iff] at h
      obtain ⟨j, hj, h⟩ := h
      cases n with
      | zero => simp [trE] at hj
      | succ n =>
        unfold trE at hj
        split at hj <;> first | (rename_i h6; cases h6; done) | skip
        all_goals first
          | (exact h3 _ _ _ _ (by assumption))
          | (exact h4 _ _ _ _ _ _ (by assumption))
          | (cases hj; done)
          | trace_state
end
end Q
/-! Soundness: the translator's induction, the end. -/
namespace Q
open PySem PySem.Spec PyProof.Rows L2
section
variable {c : TC} {C : Calls}
theorem snd_i {n : Nat} (ih : Snd c C n) (sc : Scope) (X : Cx) (tg e : Expr) (i : II) (G : GX c C sc X) (h : trI c (n + 1) sc (isTup tg) e = some i) : PI X tg e (liftI X.K (wI C i)) ∧ ∀ env x, foldedSetIterable e env x = pure x := by
  have seq : ∀ {e : Expr}, (do some (II.seq (← trE c n sc e))) = some i → PI X tg e (liftI X.K (wI C i)) ∧ ∀ env x, foldedSetIterable e env x = pure x := fun {e} h => by
    simp only [Option.bind_eq_bind, Option.bind_eq_some_iff] at h
    obtain ⟨j, hj, h⟩ := h
    cases h
    exact ⟨pi_seq (ih.e sc X e j G hj), set_not hj⟩
  unfold trI at h
  split at h
  · split at h
    · rename_i hc
      simp only [Bool.and_eq_true, beq_iff_eq] at hc
      simp only [Option.bind_eq_bind, Option.bind_eq_some_iff] at h
      obtain ⟨j, hj, h⟩ := h
      cases h
      exact ⟨pi_rng1 G hc.1 hc.2 (ih.e sc X _ j G hj) (star_of hj), fun _ _ => rfl⟩
    · exact seq h
  · split at h
    · rename_i hc
      simp only [Bool.and_eq_true, beq_iff_eq] at hc
      simp only [Option.bind_eq_bind, Option.bind_eq_some_iff] at h
      obtain ⟨j, hj, k, hk, h⟩ := h
      cases h
      exact ⟨pi_rng2 G hc.1 hc.2 (ih.e sc X _ j G hj) (ih.e sc X _ k G hk) (star_of hj) (star_of hk), fun _ _ => rfl⟩
    · split at h
      · rename_i hc
        simp only [Bool.and_eq_true, beq_iff_eq] at hc
        simp only [Option.bind_eq_bind, Option.bind_eq_some_iff] at h
        obtain ⟨j, hj, k, hk, h⟩ := h
        cases h
        obtain ⟨es, kk, p, rfl⟩ := isTup_eq hc.1.1
        exact ⟨pi_zip_ G hc.1.2 hc.2 (ih.e sc X _ j G hj) (ih.e sc X _ k G hk) (star_of hj) (star_of hk), fun _ _ => rfl⟩
      · exact seq h
  · exact seq h
theorem fold_ok {n : Nat} {sc : Scope} {tt : Bool} {e : Expr} {i : II} (h : trI c (n + 1) sc tt e = some i) : ∀ env x, foldedSetIterable e env x = pure x := by
  intro env x
  cases e <;> first | rfl | (exfalso; simp only [trI, Option.bind_eq_bind, Option.bind_eq_some_iff] at h; obtain ⟨j, hj, _⟩ := h; cases n <;> simp [trE] at hj)
theorem strKeys_all : ∀ {keys : List (Option Expr)} {kk : List Str}, strKeys keys = some kk → keys.all (·.isSome) = true
  | [], _, _ => rfl
  | k :: keys, kk, h => by
    unfold strKeys at h
    split at h
    · rename_i e; cases e
    · rename_i e
      cases e
      obtain ⟨k', h1, _⟩ := Option.map_eq_some_iff.mp h
      simp [strKeys_all h1]
    · cases h
theorem snd_e {n : Nat} (ih : Snd c C n) (sc : Scope) (X : Cx) (e : Expr) (i : IE) (G : GX c C sc X) (h : trE c (n + 1) sc e = some i) : SE X C e i := by
  unfold trE at h
  split at h
  · -- a name
    split at h
    · rename_i hf
      split at h
      · rename_i hv
        obtain ⟨j, hj, rfl⟩ := Option.map_eq_some_iff.mp h
        exact se_loc G hf hv hj
      · split at h
        · rename_i hg
          obtain ⟨d, hd, rfl⟩ := Option.map_eq_some_iff.mp h
          obtain ⟨u, v, hm, r, rp⟩ := G.gl _ d hd
          exact se_cst (pe_glob (G.gl_ hg) hm r (fine_of hf).1) rp
        · cases h
    · cases h
  · cases h; exact se_cst pe_int fun _ _ _ => by simp only [Rep]
  · cases h; exact se_cst pe_bl fun _ _ _ => by simp only [Rep]
  · cases h; exact se_cst pe_str fun _ _ _ => by simp only [Rep]
  · cases h; exact se_cst pe_non fun _ _ _ => by simp only [Rep]
  · simp only [Option.bind_eq_bind, Option.bind_eq_some_iff] at h
    obtain ⟨o, ho, ia, ha, ib, hb, h⟩ := h
    cases h
    exact se_bin ho (ih.e sc X _ ia G ha) (ih.e sc X _ ib G hb)
  · simp only [Option.bind_eq_bind, Option.bind_eq_some_iff] at h
    obtain ⟨ia, ha, h⟩ := h
    cases h
    exact se_neg (ih.e sc X _ ia G ha)
  · simp only [Option.bind_eq_bind, Option.bind_eq_some_iff] at h
    obtain ⟨ia, ha, h⟩ := h
    cases h
    exact se_not (ih.e sc X _ ia G ha)
  · exact ih.b sc X _ _ i _ G h
  · simp only [Option.bind_eq_bind, Option.bind_eq_some_iff] at h
    obtain ⟨it, ht, ia, ha, ib, hb, h⟩ := h
    cases h
    exact se_ite (ih.t sc X _ it G ht) (ih.e sc X _ ia G ha) (ih.e sc X _ ib G hb)
  · split at h
    · rename_i hf
      simp only [Option.bind_eq_bind, Option.bind_eq_some_iff] at h
      obtain ⟨ia, ha, ib, hb, h⟩ := h
      cases h
      exact se_cmp G hf (ih.e sc X _ ia G ha) (ih.e sc X _ ib G hb)
    · cases h
  · split at h
    · rename_i hf
      simp only [Bool.and_eq_true] at hf
      simp only [Option.bind_eq_bind, Option.bind_eq_some_iff] at h
      obtain ⟨ia, ha, ib, hb, id, hd, h⟩ := h
      cases h
      exact se_chain G hf.1.1.1.1.2 (ih.e sc X _ ia G ha) (ih.e sc X _ ib G hb) (ih.e sc X _ id G hd)
    · cases h
  · obtain ⟨l, hl, rfl⟩ := Option.map_eq_some_iff.mp h
    exact se_tup (ih.es sc X _ l G hl).1
  · obtain ⟨l, hl, h⟩ := Option.map_eq_some_iff.mp h
    split at h <;> subst h
    · exact se_new (ih.es sc X _ l G hl).1
    · exact se_lst (ih.es sc X _ l G hl).1
  · -- a dict
    split at h
    · rename_i hc
      simp only [Bool.and_eq_true, beq_iff_eq, decide_eq_true_eq] at hc
      simp only [Option.bind_eq_bind, Option.bind_eq_some_iff] at h
      obtain ⟨kk, hkk, l, hl, h⟩ := h
      cases h
      rename_i keys vs pos
      cases keys with
      | nil =>
        have : vs = [] := by
          have := hc.1
          simp at this
          exact List.length_eq_zero_iff.mp this.symm
        subst this
        simp only [strKeys] at hkk; cases hkk
        have : l = .nil := by cases n <;> simp [trEs] at hl <;> exact hl.symm
        subst this
        exact se_dct0
      | cons k keys =>
        refine se_dct (ih.d sc X vs l G hl pos (k :: keys) kk hkk hc.1) (strKeys_all hkk) hc.1 (by simp) hc.2
    · cases h
  · split at h
    · rename_i kx vx tg iter ifs scope pos hc
      simp only [Bool.and_eq_true] at hc
      simp only [Option.bind_eq_bind, Option.bind_eq_some_iff] at h
      obtain ⟨ik, hk, iv, hv, it, ht, src, hi, ic, hc2, h⟩ := h
      cases h
      have hc3 : ∀ X', GX c C scope X' → PTs X' ifs (liftT X'.K (wT C ic)) := fun X' G' => by
        split at hc2
        · cases hc2; exact pts_of_nil
        · exact pts_one (ih.t _ X' _ ic G' hc2)
        · cases hc2
      rcases ih.w sc X _ _ src G hi with ⟨x, px, j, rfl, rfl, hf, hvi, hj⟩ | ⟨h1, h2⟩
      · exact se_dcompW (n := n) G hc.1 ht (ixIn_of hc.2 ht) (fun X' G' => ih.e _ X' _ ik G' hk) (fun X' G' => ih.e _ X' _ iv G' hv) hf hvi hj hc3
      · exact se_dcomp (n := n) G hc.1 ht (ixIn_of hc.2 ht) (fun X' G' => ih.e _ X' _ ik G' hk) (fun X' G' => ih.e _ X' _ iv G' hv) h1 hc3 (h2 X.env)
    · cases h
  · split at h
    · simp only [Option.bind_eq_bind, Option.bind_eq_some_iff] at h
      obtain ⟨ia, ha, il, hl, ih', hh, h⟩ := h
      cases h
      exact se_slc (ih.e sc X _ ia G ha) (ih.o sc X _ il G hl) (ih.o sc X _ ih' G hh)
    · simp only [Option.bind_eq_bind, Option.bind_eq_some_iff] at h
      obtain ⟨ia, ha, ii, hi, h⟩ := h
      cases h
      exact se_idx G (ih.e sc X _ ia G ha) (ih.e sc X _ ii G hi) (plain_ix hi)
  · -- a call
    rename_i f p args pos
    split at h
    · rename_i hgf
      simp only [Bool.and_eq_true] at hgf
      obtain ⟨hg, hf⟩ := hgf
      split at h
      · rename_i np dv hl
        split at h
        · rename_i hc
          simp only [Bool.and_eq_true, decide_eq_true_eq] at hc
          obtain ⟨⟨⟨h1, h2⟩, h3⟩, h4⟩ := hc
          simp only [Option.bind_eq_bind, Option.bind_eq_some_iff] at h
          obtain ⟨l, hl', h⟩ := h
          cases h
          cases args with
          | nil => simp at h3
          | cons a r =>
            have T := ih.es sc X _ l G hl'
            refine se_call G hg hf hl (by omega) T.2.2.1 ?_ ?_ ?_
            · rw [addD_len, T.2.2.2, List.length_drop]; omega
            · cases n with
              | zero => simp [trEs] at hl'
              | succ n =>
                simp only [trEs, Option.bind_eq_bind, Option.bind_eq_some_iff] at hl'
                obtain ⟨i1, hi1, _⟩ := hl'
                exact star_of hi1 r
            · cases n with
              | zero => simp [trEs] at hl'
              | succ n =>
                simp only [trEs, Option.bind_eq_bind, Option.bind_eq_some_iff] at hl'
                obtain ⟨i1, hi1, l1, hl1, _⟩ := hl'
                exact any_star (n := n) hl1
        · cases h
      · have two : ∀ {a b : Expr} {T : String}, f = (T : Str) → T ∈ ["len", "all", "any", "sum", "min", "max", "tuple", "list", "int", "dict"] → (do some (IE.blt T (← trEs c n sc [a, b]))) = some i → SE X C (.Call (.Name f p) [a, b] [] pos) i := fun {a b T} hT hm h => by
          simp only [Option.bind_eq_bind, Option.bind_eq_some_iff] at h
          obtain ⟨l, hl, h⟩ := h
          cases h
          cases n with
          | zero => simp [trEs] at hl
          | succ n =>
            have hl2 := hl
            simp only [trEs, Option.bind_eq_bind, Option.bind_eq_some_iff] at hl2
            obtain ⟨i1, hi1, l1, hl1, _⟩ := hl2
            exact se_blt G hg hf hT hm (ih.es sc X _ l G hl).2.1 (star_of hi1 _) (any_star (n := n) hl1)
        have one : ∀ {a : Expr} {T : String}, f = (T : Str) → T ∈ ["len", "all", "any", "sum", "min", "max", "tuple", "list", "int", "dict"] → (do some (IE.blt T (← trEs c n sc [a]))) = some i → SE X C (.Call (.Name f p) [a] [] pos) i := fun {a T} hT hm h => by
          simp only [Option.bind_eq_bind, Option.bind_eq_some_iff] at h
          obtain ⟨l, hl, h⟩ := h
          cases h
          cases n with
          | zero => simp [trEs] at hl
          | succ n =>
            have hl2 := hl
            simp only [trEs, Option.bind_eq_bind, Option.bind_eq_some_iff] at hl2
            obtain ⟨i1, hi1, l1, hl1, _⟩ := hl2
            exact se_blt G hg hf hT hm (ih.es sc X _ l G hl).2.1 (star_of hi1 _) rfl
        split at h
        · split at h
          · rename_i hi
            split at h
            · rename_i T hT
              obtain ⟨hT1, hT2⟩ := ofS_eq hT
              split at h
              · rename_i htg
                simp only [Option.bind_eq_bind, Option.bind_eq_some_iff] at h
                obtain ⟨ia, ha, h⟩ := h
                cases h
                exact se_isa G hg hf (by simpa using hi) hT1 hT2 htg (ih.e sc X _ ia G ha) (star_of ha _)
              · cases h
            · cases h
          · split at h
            · rename_i hi
              exact two (by simpa using hi) (by simp) h
            · split at h
              · rename_i hi
                exact two (by simpa using hi) (by simp) h
              · cases h
        · split at h
          · rename_i hi
            exact two (by simpa using hi) (by simp) h
          · split at h
            · rename_i hi
              exact two (by simpa using hi) (by simp) h
            · cases h
        · split at h
          · rename_i T hT
            obtain ⟨hT1, hT2⟩ := ofS_eq hT
            exact one hT2 (by revert hT1; simp only [builtins1, List.mem_cons, List.not_mem_nil]; grind) h
          · split at h
            · rename_i T hT
              obtain ⟨hT1, hT2⟩ := ofS_eq hT
              exact one hT2 (by revert hT1; simp only [types1, List.mem_cons, List.not_mem_nil]; grind) h
            · cases h
        · cases h
    · cases h
  · split at h
    · rename_i elt tg iter ifs scope pos hc
      simp only [Bool.and_eq_true] at hc
      simp only [Option.bind_eq_bind, Option.bind_eq_some_iff] at h
      obtain ⟨ie, he, it, ht, src, hi, ic, hc2, h⟩ := h
      cases h
      obtain ⟨hi1, hi2⟩ := ih.i sc X tg iter src G hi
      refine se_comp (n := n) G hc.1 ht (ixIn_of hc.2 ht) (fun X' G' => ih.e _ X' elt ie G' he) hi1 (fun X' G' => ?_) (hi2 X.env)
      split at hc2
      · cases hc2; exact pts_of_nil
      · exact pts_one (ih.t _ X' _ ic G' hc2)
      · cases hc2
    · cases h
  · split at h
    · rename_i hc
      simp only [Bool.and_eq_true] at hc
      simp only [Option.bind_eq_bind, Option.bind_eq_some_iff] at h
      obtain ⟨ie, he, it, ht, src, hi, it1, ht1, src1, hi1, h⟩ := h
      cases h
      obtain ⟨hi1', hi2⟩ := ih.i sc X _ _ src G hi
      exact se_comp2 (n := n) G hc.1.1 ht (ixIn_of hc.1.2 ht) ht1 (ixIn_of hc.2 ht1) (fun X' G' => ih.e _ X' _ ie G' he) hi1' (fun X' G' => (ih.i _ X' _ _ src1 G' hi1).1) (hi2 X.env) (fun env x => by
        cases n with
        | zero => simp [trI] at hi1
        | succ n => exact fold_ok hi1 env x)
    · cases h
  · cases h
theorem snd_all : ∀ n, Snd c C n
  | 0 => snd_zero
  | n + 1 => ⟨snd_e (snd_all n), snd_b (snd_all n), snd_es (snd_all n), snd_o (snd_all n), snd_t (snd_all n), snd_bt (snd_all n), snd_d (snd_all n), snd_w (snd_all n), snd_i (snd_all n)⟩
end
end Q
/-! Soundness: statements. -/
namespace Q
open PySem PySem.Spec PyProof.Rows L2
abbrev Zends := Q.Ends
def liftS (K : PySem.W.Frag) (t : Lo → Sto → Q.Ends → Prop) : TS := fun D σ H => ∃ F W φ L S, ∃ Z : Q.Ends, StR K F H W φ L S σ ∧ t L S Z ∧
  (∀ L' S' σ' H' W' φ', Z.nx L' S' → StR K F H' W' φ' L' S' σ' → Tr true H φ W H' φ' W' → D.nx σ' H') ∧
  (∀ d L' S' σ' H' W' φ' v, Z.rt d S' → StR K F H' W' φ' L' S' σ' → Tr true H φ W H' φ' W' → Rep K H' φ' W' d v → D.rt v H') ∧
  (∀ L' S' σ' H' W' φ', Z.bk L' S' → StR K F H' W' φ' L' S' σ' → Tr true H φ W H' φ' W' → D.bk σ' H') ∧
  (∀ L' S' σ' H' W' φ', Z.ct L' S' → StR K F H' W' φ' L' S' σ' → Tr true H φ W H' φ' W' → D.ct σ' H')
theorem PS.imp {X : Cx} {s : Stmt} {t u : TS} (h : PS X s t) (k : ∀ D σ H, u D σ H → t D σ H) : PS X s u := ⟨fun pins s σ H D I hw => h.run pins s σ H D I (k D σ H hw)⟩
theorem PSs.imp {X : Cx} {s : List Stmt} {t u : TS} (h : PSs X s t) (k : ∀ D σ H, u D σ H → t D σ H) : PSs X s u := ⟨fun pins s σ H D I hw => h.run pins s σ H D I (k D σ H hw)⟩
section
variable {X : Cx} {C : Calls} {c : TC} {sc : Scope}
theorem ss_nil : PSs X [] (liftS X.K (wSs C .nil)) := PSs.imp pss_nil fun D σ H ⟨F, W, φ, L, S, Z, s, ht, n, _⟩ => by
  simp only [wSs] at ht
  exact n L S σ H W φ ht s Tr.refl
theorem ss_cons {st : Stmt} {r : List Stmt} {i : IS} {l : ISs} (h : PS X st (liftS X.K (wS C i))) (hr : PSs X r (liftS X.K (wSs C l))) : PSs X (st :: r) (liftS X.K (wSs C (.cons i l))) := by
  refine PSs.imp (pss_cons h hr) fun D σ H ⟨F, W, φ, L, S, Z, s, ht, n, rt, bk, ct⟩ => ?_
  simp only [wSs] at ht
  refine ⟨F, W, φ, L, S, _, s, ht, fun L1 S1 σ1 H1 W1 φ1 h1 s1 t1 => ?_, rt, bk, ct⟩
  exact ⟨F, W1, φ1, L1, S1, Z, s1, h1, fun L' S' σ' H' W' φ' z s' t' => n L' S' σ' H' W' φ' z s' (t1.trans t'), fun d L' S' σ' H' W' φ' v z s' t' r => rt d L' S' σ' H' W' φ' v z s' (t1.trans t') r,
    fun L' S' σ' H' W' φ' z s' t' => bk L' S' σ' H' W' φ' z s' (t1.trans t'), fun L' S' σ' H' W' φ' z s' t' => ct L' S' σ' H' W' φ' z s' (t1.trans t')⟩
theorem s_pass {p : Pos} : PS X (.Pass p) (liftS X.K (wS C .pass)) := PS.imp ps_pass fun D σ H ⟨F, W, φ, L, S, Z, s, ht, n, _⟩ => by
  simp only [wS] at ht
  exact n L S σ H W φ ht s Tr.refl
theorem s_doc {x : Str} {j : Nat} {p p2 : Pos} : PS X (.Expr (.Constant (.str x) j p) p2) (liftS X.K (wS C .pass)) := PS.imp ps_doc fun D σ H ⟨F, W, φ, L, S, Z, s, ht, n, _⟩ => by
  simp only [wS] at ht
  exact n L S σ H W φ ht s Tr.refl
theorem s_cont {p : Pos} : PS X (.Continue p) (liftS X.K (wS C .cont)) := PS.imp ps_continue fun D σ H ⟨F, W, φ, L, S, Z, s, ht, n, _, _, ct⟩ => by
  simp only [wS] at ht
  exact ct L S σ H W φ ht s Tr.refl
theorem s_brk {p : Pos} : PS X (.Break p) (liftS X.K (wS C .brk)) := PS.imp ps_break fun D σ H ⟨F, W, φ, L, S, Z, s, ht, n, _, bk, _⟩ => by
  simp only [wS] at ht
  exact bk L S σ H W φ ht s Tr.refl
theorem s_never {st : Stmt} : PS X st (liftS X.K (wS C .never)) := PS.imp ps_never fun D σ H ⟨F, W, φ, L, S, Z, s, ht, _⟩ => by
  simp only [wS] at ht
theorem s_ret {e : Expr} {i : IE} {p : Pos} (h : SE X C e i) : PS X (.Return (some e) p) (liftS X.K (wS C (.ret i))) := by
  refine PS.imp (ps_ret h.v) fun D σ H ⟨F, W, φ, L, S, Z, s, ht, n, rt, bk, ct⟩ => ?_
  simp only [wS] at ht
  refine ⟨F, W, φ, L, S, _, s, ht, fun d f L1 S1 H1 W1 φ1 v h1 s1 t1 vr => ?_⟩
  obtain ⟨W2, s2, t2, r⟩ := vr.settle s1
  exact rt d L1 S1 σ H1 W2 φ1 v h1 s2 (t1.trans t2).weak r
theorem s_retN {p : Pos} : PS X (.Return none p) (liftS X.K (wS C (.ret (.cst .non)))) := by
  refine PS.imp ps_retN fun D σ H ⟨F, W, φ, L, S, Z, s, ht, n, rt, bk, ct⟩ => ?_
  simp only [wS, wE] at ht
  exact rt .non L S σ H W φ .non ht s Tr.refl (by simp only [Rep])
theorem s_if {t : Expr} {a b : List Stmt} {it : IC} {ia ib : ISs} {p : Pos} (h : PT X t (liftT X.K (wT C it))) (ha : PSs X a (liftS X.K (wSs C ia))) (hb : PSs X b (liftS X.K (wSs C ib))) : PS X (.If t a b p) (liftS X.K (wS C (.ifs it ia ib))) := by
  refine PS.imp (ps_if h ha hb) fun D σ H ⟨F, W, φ, L, S, Z, s, ht, n, rt, bk, ct⟩ => ?_
  simp only [wS] at ht
  refine ⟨F, W, φ, L, S, _, s, ht, fun k L1 S1 H1 W1 φ1 h1 s1 t1 => ?_⟩
  have fin : ∀ {u : ISs}, wSs C u L1 S1 Z → liftS X.K (wSs C u) D σ H1 := fun hu => ⟨F, W1, φ1, L1, S1, Z, s1, hu, fun L' S' σ' H' W' φ' z s' t' => n L' S' σ' H' W' φ' z s' (t1.weak.trans t'), fun d L' S' σ' H' W' φ' v z s' t' r => rt d L' S' σ' H' W' φ' v z s' (t1.weak.trans t') r,
    fun L' S' σ' H' W' φ' z s' t' => bk L' S' σ' H' W' φ' z s' (t1.weak.trans t'), fun L' S' σ' H' W' φ' z s' t' => ct L' S' σ' H' W' φ' z s' (t1.weak.trans t')⟩
  cases k with
  | true => dsimp only at h1 ⊢; rw [if_pos rfl] at h1 ⊢; exact fin h1
  | false => dsimp only at h1 ⊢; rw [if_neg (by decide)] at h1 ⊢; exact fin h1
theorem own_pass : PassesOwn (model X.prog X.w) X.A X.env (fun _ _ => False) := PassesOwn.never
theorem s_while {t : Expr} {a : List Stmt} {it : IC} {ia : ISs} {p : Pos} (G : GX c C sc X) (h : PT X t (liftT X.K (wT C it))) (ha : PSs X a (liftS X.K (wSs C ia))) : PS X (.While t a [] p) (liftS X.K (wS C (.whl it ia))) := by
  have hp : PassesOwn (model X.prog X.w) X.A X.env X.xe := by rw [G.xe]; exact PassesOwn.never
  refine PS.imp (ps_while hp h ha) fun D σ H ⟨F, W, φ, L, S, Z, s, ht, n, rt, bk, ct⟩ => ?_
  simp only [wS, whlL] at ht
  obtain ⟨V, ⟨m0, v0⟩, turn⟩ := ht
  refine ⟨fun m σ1 H1 => ∃ W1 φ1 L1 S1, StR X.K F H1 W1 φ1 L1 S1 σ1 ∧ Tr true H φ W H1 φ1 W1 ∧ V m L1 S1, ⟨m0, W, φ, L, S, s, Tr.refl, v0⟩, ?_⟩
  rintro m σ1 H1 ⟨W1, φ1, L1, S1, s1, t1, v1⟩
  refine ⟨F, W1, φ1, L1, S1, _, s1, turn m L1 S1 v1, fun k L2 S2 H2 W2 φ2 h2 s2 t2 => ?_⟩
  have t12 := t1.trans t2.weak
  cases k with
  | true =>
    dsimp only at h2 ⊢
    rw [if_pos rfl] at h2 ⊢
    have next : ∀ L' S' σ' H' W' φ', (∃ m', m' < m ∧ V m' L' S') → StR X.K F H' W' φ' L' S' σ' → Tr true H2 φ2 W2 H' φ' W' → ∃ m', m' < m ∧ ∃ W1 φ1 L1 S1, StR X.K F H' W1 φ1 L1 S1 σ' ∧ Tr true H φ W H' φ1 W1 ∧ V m' L1 S1 :=
      fun L' S' σ' H' W' φ' ⟨m', hm, hv⟩ s' t' => ⟨m', hm, W', φ', L', S', s', t12.trans t', hv⟩
    exact ⟨fun σ' H' => ∃ m', m' < m ∧ ∃ W1 φ1 L1 S1, StR X.K F H' W1 φ1 L1 S1 σ' ∧ Tr true H φ W H' φ1 W1 ∧ V m' L1 S1, fun σ' H' h => h, F, W2, φ2, L2, S2, _, s2, h2, next,
      fun d L' S' σ' H' W' φ' v z s' t' r => rt d L' S' σ' H' W' φ' v z s' (t12.trans t') r, fun L' S' σ' H' W' φ' z s' t' => n L' S' σ' H' W' φ' z s' (t12.trans t'), next⟩
  | false =>
    dsimp only at h2 ⊢
    rw [if_neg (by decide)] at h2 ⊢
    exact n L2 S2 σ1 H2 W2 φ2 h2 s2 t12
theorem s_for {tg it : Expr} {a : List Stmt} {ig : IT} {ii : II} {ia : ISs} {n0 : Nat} {p : Pos} (G : GX c C sc X) (hg : trT c sc n0 tg = some ig) (hi : PI X tg it (liftI X.K (wI C ii))) (hs : ∀ x, foldedSetIterable it X.env x = pure x) (ha : PSs X a (liftS X.K (wSs C ia))) :
    PS X (.For tg it a [] p) (liftS X.K (wS C (.fors ig ii ia))) := by
  have hp : PassesOwn (model X.prog X.w) X.A X.env X.xe := by rw [G.xe]; exact PassesOwn.never
  refine PS.imp (ps_for hp G.calm hi ((tr_sound G n0).1 tg ig hg).1 ha hs) fun D σ H ⟨F, W, φ, L, S, Z, s, ht, n, rt, bk, ct⟩ => ?_
  simp only [wS] at ht
  refine ⟨F, W, φ, L, S, _, s, ht, fun ds L1 S1 H1 W1 φ1 J h1 s1 t1 wk => ?_⟩
  obtain ⟨G', Y, hwalk, hG, hY⟩ := wk.ex
  refine for_it hwalk (fun i σ2 H2 => ∃ W2 φ2 L2 S2, StR X.K F H2 W2 φ2 L2 S2 σ2 ∧ Tr true H1 φ1 W1 H2 φ2 W2 ∧ forL (wG ig) (wSs C ia) Z (ds.drop i) L2 S2) ⟨W1, φ1, L1, S1, s1, Tr.refl, h1⟩ ?_ ?_ ?_
  · rintro i σ2 H2 hi ⟨W2, φ2, L2, S2, s2, t2, _⟩
    exact hG H2 φ2 W2 t2
  · rintro i x σ2 H2 H3 hi ⟨W2, φ2, L2, S2, s2, t2, hf⟩ hy
    obtain ⟨d, hd, s3, t3, rd⟩ := (hY i H2 φ2 W2 x H3 hi t2 hy).go s2
    rw [drop_cons hd] at hf
    simp only [forL] at hf
    refine ⟨F, W2, φ2, L2, S2, d, _, s3, rd, hf, fun L' σ' hP s4 _ _ _ => ?_⟩
    have t23 := t2.trans t3.weak
    have tt := t1.weak.trans t23
    have next : ∀ L' S' σ' H' W' φ', forL (wG ig) (wSs C ia) Z (ds.drop (i + 1)) L' S' → StR X.K F H' W' φ' L' S' σ' → Tr true H3 φ2 W2 H' φ' W' → ∃ W2 φ2 L2 S2, StR X.K F H' W2 φ2 L2 S2 σ' ∧ Tr true H1 φ1 W1 H' φ2 W2 ∧ forL (wG ig) (wSs C ia) Z (ds.drop (i + 1)) L2 S2 :=
      fun L' S' σ' H' W' φ' z s' t' => ⟨W', φ', L', S', s', t23.trans t', z⟩
    exact ⟨F, W2, φ2, L', S2, _, s4, hP, next, fun d L' S' σ' H' W' φ' v z s' t' r => rt d L' S' σ' H' W' φ' v z s' (tt.trans t') r, fun L' S' σ' H' W' φ' z s' t' => n L' S' σ' H' W' φ' z s' (tt.trans t'), next⟩
  · rintro σ2 H2 ⟨W2, φ2, L2, S2, s2, t2, hf⟩
    rw [List.drop_length] at hf
    simp only [forL] at hf
    exact n L2 S2 σ2 H2 W2 φ2 hf s2 (t1.weak.trans t2)
end
end Q
/-! Soundness: stores. -/
namespace Q
open PySem PySem.Spec PyProof.Rows L2
section
variable {K : PySem.W.Frag} {F : Fr} {H H1 : Hp} {W W1 : Addr → Prop} {φ φ1 : List Addr} {L L1 : Lo} {S S1 : Sto} {σ σ1 : Sg} {p : Addr}
/-- a slot's own list is written -/
theorem StR.updOwn (s : StR K F H W φ L S σ) {i : Nat} {d d' : D} {a : Addr} {o : HO} (e : L[i]? = some (.own d)) (e1 : σ[i]? = some (some (.ref a))) (ho : isM o = true) (t : Top K (upd H a o) φ W d' a) :
    StR K F (upd H a o) W φ (L.set i (.own d')) S σ ∧ Tr true H φ W (upd H a o) φ W := by
  obtain ⟨a', e2, w, fr, p, tp⟩ := s.own e
  rw [e1] at e2; cases e2
  obtain ⟨u, hu, hm⟩ := tp.there
  have tw : Tr true H φ W (upd H a o) φ W := Tr.updW w hu hm
  have s1 : StR K F H W φ (L.set i .no) S σ := s.slots (by simp) fun j t et => by
    rcases set_cases et with ⟨_, rfl⟩ | ⟨_, h⟩
    · exact .inr (.inl rfl)
    · exact .inl h
  have no : ∀ j, ¬ ownAt (L.set i .no) σ j a := fun j ⟨⟨d', e'⟩, e2⟩ => by
    rcases set_cases e' with ⟨_, h⟩ | ⟨hn, h⟩
    · cases h
    · exact hn (s.lo.apart j i a ⟨⟨d', h⟩, e2⟩ ⟨⟨d, e⟩, e1⟩)
  have s2 := s1.updW (o := o) w hu hm ho fr.1 no
  refine ⟨⟨s2.ext, s2.dom, s2.wc, s2.wnew, s2.wt, s2.pre, s2.phi, s2.phw, s2.nd, s2.st, by simp [s.lo.len], fun j x ex => ?_, fun j k b hj hk => ?_⟩, tw⟩
  · rcases set_cases ex with ⟨rfl, rfl⟩ | ⟨hn, h⟩
    · exact ⟨a, e1, w, fr, t⟩
    · exact s2.lo.at_ j x (by rw [List.getElem?_set_ne (Ne.symm hn)]; exact h)
  · have get : ∀ j, ownAt (L.set i (.own d')) σ j b → ownAt L σ j b := fun j ⟨⟨d2, e2⟩, e3⟩ => by
      rcases set_cases e2 with ⟨rfl, h⟩ | ⟨_, h⟩
      · exact ⟨⟨d, e⟩, e3⟩
      · exact ⟨⟨d2, h⟩, e3⟩
    exact s.lo.apart j k b (get j hj) (get k hk)
/-- a cell is written -/
theorem StR.updCell (s : StR K F H W φ L S σ) {n : Nat} {a : Addr} {l l' : List D} {vs us : List V} (e : φ[n]? = some a) (el : S[n]? = some l) (hq : H a = some (.lst vs)) (hz : us.length ≤ sizeLine) (r : Reps K H φ W l' us) :
    StR K F (upd H a (.lst us)) W φ L (S.set n l') σ ∧ Tr true H φ W (upd H a (.lst us)) φ W := by
  have ha : a ∈ φ := List.mem_of_getElem? e
  have hna : ¬ W a := s.phw a ha
  have dm : ∀ b, upd H a (.lst us) b = none → H b = none := fun b z => by
    unfold upd at z; split at z
    · cases z
    · exact z
  have kp : ∀ {b o}, H b = some o → b ≠ a → upd H a (.lst us) b = some o := fun {b o} h hn => by rw [upd_ne hn]; exact h
  have t : Tr true H φ W (upd H a (.lst us)) φ W := ⟨fun b o h q => by
    by_cases hb : b = a
    · subst hb; rw [hq] at h; cases h; exact ((q rfl).1 ha).elim
    · exact kp h hb, fun _ h => .inl h, dm, List.prefix_refl _, fun _ h => .inl h⟩
  have t0 : Tr false H φ W (upd H a (.lst us)) φ W := ⟨fun b o h q => by
    by_cases hb : b = a
    · subst hb; rw [hq] at h; cases h; exact ((q rfl).1 ha).elim
    · exact kp h hb, fun _ h => .inl h, dm, List.prefix_refl _, fun _ h => .inl h⟩
  refine ⟨⟨fun b o h q => ?_, fun b z => s.dom b (dm b z), s.wc, s.wnew, fun b w => ?_, s.pre, s.phi, s.phw, s.nd, ⟨by simp [s.st.len], fun m b x e1 e2 => ?_⟩, s.lo.go t0 fun i b hb => ?_⟩, t⟩
  · by_cases hb : b = a
    · subst hb
      have h1 := s.ext b o h q
      rw [hq] at h1; cases h1
      exact ((s.phi b ha).elim (q rfl) fun z => by rw [h] at z; cases z).elim
    · exact kp (s.ext b o h q) hb
  · obtain ⟨o, eo, m⟩ := s.wt b w
    exact ⟨o, kp eo fun z => hna (z ▸ w), m⟩
  · by_cases hmn : n = m
    · subst hmn
      rw [e] at e1; cases e1
      have hl : n < S.length := (List.getElem?_eq_some_iff.mp el).1
      rw [List.getElem?_set_self hl] at e2; cases e2
      exact ⟨us, upd_same, hz, r.go t⟩
    · rw [List.getElem?_set_ne hmn] at e2
      obtain ⟨ws, q, z, r'⟩ := s.st.at_ m b x e1 e2
      refine ⟨ws, kp q fun z => ?_, z, r'.go t⟩
      subst z
      have h1 := (List.getElem?_eq_some_iff.mp e)
      have h2 := (List.getElem?_eq_some_iff.mp e1)
      exact hmn ((List.getElem_inj s.nd).mp (h1.2.trans h2.2.symm))
  · obtain ⟨⟨d, e1⟩, e2⟩ := hb
    obtain ⟨a', e3, w, _, p, _⟩ := s.own e1
    rw [e2] at e3; cases e3; exact ⟨p, w⟩
end
section
variable {X : Cx} {C : Calls} {c : TC} {sc : Scope}
theorem s_expr {e : Expr} {i : IE} {p : Pos} (h : SE X C e i) (hs : swapsWith e none p.line X.env = pure false) : PS X (.Expr e p) (liftS X.K (wS C (.expr i))) := by
  refine PS.imp (ps_expr h.v hs) fun D σ H ⟨F, W, φ, L, S, Z, s, ht, n, rt, bk, ct⟩ => ?_
  simp only [wS] at ht
  exact ⟨F, W, φ, L, S, _, s, ht, fun d f L1 S1 H1 W1 φ1 v h1 s1 t1 vr => n L1 S1 σ H1 W1 φ1 h1 s1 t1.weak⟩
/-- x = e, told as a store of e's meaning -/
theorem s_asg {st : Stmt} {i : Nat} {ie : IE} (h : PS X st (tAsg (liftE X.K (wE C ie)) (gName i))) : PS X st (liftS X.K (wS C (.asg (.nm i) ie))) := by
  refine PS.imp h fun D σ H ⟨F, W, φ, L, S, Z, s, ht, n, rt, bk, ct⟩ => ?_
  simp only [wS, asgF] at ht
  refine ⟨F, W, φ, L, S, _, s, ht, fun d f L1 S1 H1 W1 φ1 v h1 s1 t1 vr => ?_⟩
  exact n _ S1 _ H1 W1 φ1 h1 (s1.setFlag vr) t1.weak
theorem swN {e : Expr} {t : Option Expr} {l : Nat} {env : Env} (h1 : lcScope e = none) (h2 : isSDComp e = false) : swapsWith e t l env = pure false := by
  cases e <;> first | rfl | (exfalso; simp [isSDComp] at h2; done) | (exfalso; simp [lcScope] at h1; done)
theorem kindLoc (G : GX c C sc X) {x : Str} : (X.env.kindOf x == some .local) = loc sc x := by
  unfold Env.kindOf loc
  rcases G.sc x with h | ⟨h1, h2⟩
  · rw [h]
    cases sc.names.lookup x with
    | none => rfl
    | some k => cases k <;> rfl
  · rw [h1, h2]; rfl
theorem blkF (G : GX c C sc X) : X.env.blockKind = .function := by unfold Env.blockKind; rw [G.kind]; rfl
theorem sw_eq (G : GX c C sc X) {x : Str} {px : Pos} {e : Expr} {l : Nat} (h2 : isSDComp e = false) : swapsWith e (some (.Name x px)) l X.env = pure (swB sc x px e) := by
  cases e <;> try (first | rfl | cases h2)
  rename_i elt gs scope pos
  show (pure (X.env.blockKind == .function && X.env.kindOf x == some .local && px.line == pos.line && !(scope.names.any fun (n, k) => n == x && (k == .local || k == .cell))) : Sem Bool) = _
  rw [blkF G, kindLoc G]
  rfl
theorem s_asgPlain {x : Str} {px pos : Pos} {e : Expr} {i : Nat} {ie : IE} (G : GX c C sc X) (ht : tgt sc x = true) (h2 : isSDComp e = false) (hi : c.N.idxOf? x = some i) (h : SE X C e ie) (hsw : swB sc x px e = false) : PS X (.Assign [.Name x px] e pos) (liftS X.K (wS C (.asg (.nm i) ie))) := by
  obtain ⟨l1, l2⟩ := G.loc ht
  refine s_asg (ps_set (pos' := px) (by rw [G.N]; exact G.nd) (by rw [G.N]; exact idx_get hi) l1 h.v ?_ l2)
  rw [sw_eq G h2, hsw]
/-- x = [..], the list laid straight into x -/
theorem s_asgLc {x : Str} {px pos p : Pos} {n i : Nat} {elt : Expr} {gs : List Comprehension} {scope : Scope} {ie : IE} (G : GX c C sc X) (hi : c.N.idxOf? x = some i) (h : trE c n sc (.ListComp elt gs scope p) = some ie) (hsw : swB sc x px (.ListComp elt gs scope p) = true) :
    PS X (.Assign [.Name x px] (.ListComp elt gs scope p) pos) (liftS X.K (wS C (.asg (.nm i) ie))) := by
  have hloc : X.env.scope.names.lookup x = some .local := by
    have : (X.env.kindOf x == some .local) = true := by
      rw [kindLoc G]
      unfold swB at hsw
      simp only [lcScope, Bool.and_eq_true] at hsw
      exact hsw.1.1
    simpa [Env.kindOf] using this
  have hs2 : swapsWith (.ListComp elt gs scope p) (some (.Name x px)) pos.line X.env = pure true := by rw [sw_eq G rfl, hsw]
  have hN : X.N.Nodup := by rw [G.N]; exact G.nd
  have hy : X.N[i]? = some x := by rw [G.N]; exact idx_get hi
  cases n with
  | zero => simp [trE] at h
  | succ n =>
    have ih := snd_all (c := c) (C := C) n
    unfold trE at h
    split at h <;> first | (rename_i h6; cases h6; done) | skip
    all_goals try (simp at *; done)
    · rename_i elt tg iter ifs scope pos h6
      cases h6
      split at h
      · rename_i hc
        simp only [Bool.and_eq_true] at hc
        simp only [Option.bind_eq_bind, Option.bind_eq_some_iff] at h
        obtain ⟨ie, he, it, ht, src, hi, ic, hc2, h⟩ := h
        cases h
        obtain ⟨hi1, hi2⟩ := ih.i sc X tg iter src G hi
        have ok := blk_ok G hc.1
        have gb := fun s H A cl fp => G.blk ok.kind s H cl A fp
        have hcs : ∀ X', GX c C scope X' → PTs X' ifs (liftT X'.K (wT C ic)) := fun X' G' => by
          split at hc2
          · cases hc2; exact pts_of_nil
          · exact pts_one (ih.t _ X' _ ic G' hc2)
          · cases hc2
        have key := ps_setLc (py := px) (spos := pos) G.calm hN hy hloc hs2 hi1 ok (g := liftG X.K it.ix (wG it)) (tt := liftT X.K (wT C ic)) (te := liftE X.K (wE C ie))
          (fun s H A cl fp => ((tr_sound (gb s H A cl fp) n).1 tg it ht).1) (fun s H A cl fp => hcs _ (gb s H A cl fp)) (fun s H A cl fp => (ih.e _ _ elt ie (gb s H A cl fp) he).v) (hi2 X.env)
        refine s_asg (PS.imp key fun D σ H ⟨F, W, φ, L, S, P, s, hh, q⟩ => ?_)
        simp only [wE] at hh
        refine ⟨F, W, φ, L, S, _, s, hh, fun ds L1 S1 H1 W1 φ1 J h1 s1 t1 wk pD hD => ?_⟩
        exact comp_go (Q := fun y H1 => gName i y σ H1 D.nx) s1 wk (ixIn_of hc.2 ht) h1.1 hD h1.2 fun acc S' H' W' φ' hp s' t' vr => q _ true L1 S' H' W' φ' _ hp s' (t1.trans t') vr
      · cases h
    · rename_i elt tg iter tg1 iter1 scope pos h6
      cases h6
      split at h
      · rename_i hc
        simp only [Bool.and_eq_true] at hc
        simp only [Option.bind_eq_bind, Option.bind_eq_some_iff] at h
        obtain ⟨ie, he, it, ht, src, hi, it1, ht1, src1, hi1, h⟩ := h
        cases h
        obtain ⟨hi1', hi2⟩ := ih.i sc X _ _ src G hi
        have ok := blk_ok G hc.1.1
        have gb := fun s H A cl fp => G.blk ok.kind s H cl A fp
        have key := ps_setLc2 (py := px) (spos := pos) (vs1 := it1.ix) G.calm hN hy hloc hs2 hi1' ok (ixIn_of hc.2 ht1) (g := liftG X.K it.ix (wG it)) (tt := tYes) (wi1 := liftI X.K (wI C src1)) (g1 := liftG X.K it1.ix (wG it1)) (tt1 := tYes) (te := liftE X.K (wE C ie))
          (fun s H A cl fp => ((tr_sound (gb s H A cl fp) n).1 tg it ht).1) (fun s H A cl fp => pts_nil) (fun s H A cl fp => (ih.i _ _ _ _ src1 (gb s H A cl fp) hi1).1) (fun s H A cl fp => ((tr_sound (gb s H A cl fp) n).1 tg1 it1 ht1).1) (fun s H A cl fp => pts_nil) (fun s H A cl fp => (ih.e _ _ elt ie (gb s H A cl fp) he).v) (hi2 X.env) (fun env x => by
            cases n with
            | zero => simp [trI] at hi1
            | succ n => exact fold_ok hi1 env x)
        refine s_asg (PS.imp key fun D σ H ⟨F, W, φ, L, S, P, s, hh, q⟩ => ?_)
        simp only [wE] at hh
        refine ⟨F, W, φ, L, S, _, s, hh, fun ds L1 S1 H1 W1 φ1 J h1 s1 t1 wk pD hD => ?_⟩
        exact comp2_go (Q := fun y H1 => gName i y σ H1 D.nx) s1 wk (ixIn_of hc.1.2 ht) (ixIn_of hc.2 ht1) h1.1 hD (fun d L P hg => wG_mono (fun L' h => ⟨fun i d' _ e => h.1 i d' e, h.2⟩) (wG_val hg)) h1.2 fun acc S' H' W' φ' hp s' t' vr => q _ true L1 S' H' W' φ' _ hp s' (t1.trans t') vr
      · cases h
end
end Q
/-! Soundness: more stores. -/
namespace Q
open PySem PySem.Spec PyProof.Rows L2
section
variable {X : Cx} {C : Calls} {c : TC} {sc : Scope}
theorem s_asgTup {ts : List Expr} {k : Nat} {tp pos : Pos} {e : Expr} {it : List IT} {ie : IE} {n : Nat} (G : GX c C sc X) (he : isTupE e = false) (ht : trT c sc n (.Tuple ts k tp) = some (.tp it)) (h : SE X C e ie) : PS X (.Assign [.Tuple ts k tp] e pos) (liftS X.K (wS C (.asg (.tp it) ie))) := by
  have hg := ((tr_sound G n).1 _ _ ht).1
  have hs : swapsWithSole [.Tuple ts k tp] e pos.line X.env = pure false := by cases e <;> rfl
  have hw : swappedStores [.Tuple ts k tp] e X.env = pure none := by cases e <;> first | rfl | cases he
  refine PS.imp (ps_asg h.v hg hs hw rfl) fun D σ H ⟨F, W, φ, L, S, Z, s, hh, n, rt, bk, ct⟩ => ?_
  simp only [wS, asgF] at hh
  refine ⟨F, W, φ, L, S, _, s, hh, fun d f L1 S1 H1 W1 φ1 v h1 s1 t1 vr => ?_⟩
  obtain ⟨W2, s2, t2, r⟩ := vr.settle s1
  exact ⟨F, W2, φ1, L1, S1, d, _, s2, r, h1, fun L' σ' hP s' _ _ _ => n L' S1 σ' H1 W2 φ1 hP s' (t1.trans t2).weak⟩
theorem par_ok (G : GX c C sc X) {x y : Str} {px py pt p2 : Pos} {k k2 : Nat} {a b : Expr} (h : parOk sc x y px py pt a b = true) : swappedStores [.Tuple [.Name x px, .Name y py] k pt] (.Tuple [a, b] k2 p2) X.env = pure (some [x, y]) := by
  unfold parOk at h
  simp only [Bool.and_eq_true, Bool.not_eq_true', beq_iff_eq, beq_eq_false_iff_ne] at h
  obtain ⟨⟨⟨⟨⟨⟨⟨h1, h2⟩, h3⟩, h4⟩, h5⟩, h6⟩, h7⟩, h8⟩ := h
  have e1 : (X.env.kindOf x == some .local) = true := by rw [kindLoc G]; exact h1
  have e2 : (X.env.kindOf y == some .local) = true := by rw [kindLoc G]; exact h2
  have e3 : (x == y) = false := by simpa using h3
  have e4 : (y == x) = false := by simpa using fun e => h3 e.symm
  unfold swappedStores
  simp only [blkF G, List.length_cons, List.length_nil, List.head?_cons, Option.map_some, Option.getD_some, Expr.pos, List.filterMap_cons, List.filterMap_nil, e1, e2, h4, beq_self_eq_true, Bool.and_self, if_true, List.all_cons, List.all_nil, Bool.and_true, h7, h8]
  have nd : ([x, y] : List Str).eraseDups.length = 2 := by
    simp [List.eraseDups_cons, e4, h3, fun e : y = x => h3 e.symm]
  rw [if_neg (by decide)]
  split
  · rename_i h
    exfalso
    simp only [List.any_cons, List.any_nil, Bool.or_false, Bool.or_eq_true] at h
    rcases h with h | h
    · split at h
      · simp [parOk.isPlain] at h5
      · cases h
    · split at h
      · simp [parOk.isPlain] at h6
      · cases h
  · rw [nd]
    rfl
end
end Q
/-! Soundness: stores, the statements' induction. -/
namespace Q
open PySem PySem.Spec PyProof.Rows L2
theorem StR.guardIf {K : PySem.W.Frag} {F : Fr} {H : Hp} {W : Addr → Prop} {φ : List Addr} {L : Lo} {S : Sto} {σ : Sg} {f : Bool} {d : D} {v : V} (s : StR K F H W φ L S σ) (vr : VR K F H W φ L σ f d v) :
    ∃ F2 : Fr, StR K F2 H W φ L S σ ∧ ∀ {H2 : Hp} {W2 : Addr → Prop} {φ2 : List Addr} {L2 : Lo} {S2 : Sto}, StR K F2 H2 W2 φ2 L2 S2 σ → Tr false H φ W H2 φ2 W2 → StR K F H2 W2 φ2 L2 S2 σ ∧ VR K F H2 W2 φ2 L2 σ f d v ∧ ∀ g y u, VR K F2 H2 W2 φ2 L2 σ g y u → VR K F H2 W2 φ2 L2 σ g y u ∧ ∀ a b, f = true → g = true → v = .ref a → u = .ref b → a ≠ b := by
  cases f with
  | false => exact ⟨F, s, fun s2 t => ⟨s2, vr.go t, fun g y u h => ⟨h, fun a b z => nomatch z⟩⟩⟩
  | true =>
    obtain ⟨a, rfl, w, fr, tp, no⟩ := vr
    refine ⟨F.guard a, s.guard w no, fun {H2 W2 φ2 L2 S2} s2 t => ?_⟩
    obtain ⟨su, nou⟩ := s2.unguard fr.1
    refine ⟨su, ⟨a, rfl, s2.wc a (.inr rfl), fr, tp.go t (s.phO w), nou⟩, fun g y u h => ?_⟩
    cases g with
    | false => exact ⟨h, fun _ _ _ z => nomatch z⟩
    | true =>
      obtain ⟨b, rfl, wb, fb, tb, nb⟩ := h
      refine ⟨⟨b, rfl, wb, ⟨fb.1, fun z => fb.2 (.inl z)⟩, tb, nb⟩, fun a' b' _ _ e1 e2 => ?_⟩
      cases e1; cases e2
      intro e; exact fb.2 (.inr e.symm)
section
variable {X : Cx} {C : Calls} {c : TC} {sc : Scope}
theorem s_par {x y : Str} {px py pt p2 pos : Pos} {k k2 i j : Nat} {a b : Expr} {ia ib : IE} {n : Nat} (G : GX c C sc X) (h : parOk sc x y px py pt a b = true) (hi : c.N.idxOf? x = some i) (hj : c.N.idxOf? y = some j) (ha : trE c n sc a = some ia) (hb : trE c n sc b = some ib) :
    PS X (.Assign [.Tuple [.Name x px, .Name y py] k pt] (.Tuple [a, b] k2 p2) pos) (liftS X.K (wS C (.par i j ia ib))) := by
  have hw := par_ok (p2 := p2) (k := k) (k2 := k2) G h
  have h' := h
  unfold parOk at h'
  simp only [Bool.and_eq_true, Bool.not_eq_true', beq_iff_eq, beq_eq_false_iff_ne] at h'
  obtain ⟨⟨⟨⟨⟨⟨⟨h1, h2⟩, h3⟩, h4⟩, h5⟩, h6⟩, h7⟩, h8⟩ := h'
  have lk : ∀ {z : Str}, loc sc z = true → X.env.scope.names.lookup z = some .local := fun {z} hz => by
    have : (X.env.kindOf z == some .local) = true := by rw [kindLoc G]; exact hz
    simpa [Env.kindOf] using this
  have gi := idx_get hi
  have gj := idx_get hj
  have hij : i ≠ j := fun e => by subst e; rw [gi] at gj; cases gj; exact h3 rfl
  have sa := (snd_all (c := c) (C := C) n).e sc X a ia G ha
  have sb := (snd_all (c := c) (C := C) n).e sc X b ib G hb
  refine PS.imp (ps_par (i := i) (j := j) G.calm (by rw [G.N]; exact G.nd) (by rw [G.N]; exact gi) (by rw [G.N]; exact gj) hij (lk h1) (lk h2) (pa_cons sa.v (pa_cons sb.v pa_nil (star_of hb [])) (star_of ha [b])) hw) fun D σ H ⟨F, W, φ, L, S, Z, s, ht, n, rt, bk, ct⟩ => ?_
  simp only [wS] at ht
  refine ⟨F, W, φ, L, S, _, s, ht, fun d f L1 S1 H1 W1 φ1 v h1 s1 t1 vr => ?_⟩
  obtain ⟨F2, sg, back⟩ := s1.guardIf vr
  refine ⟨F2, W1, φ1, L1, S1, _, sg, h1, fun d2 g L2 S2 H2 W2 φ2 u h2 s2 t2 vr2 => ⟨v, u, rfl, ?_⟩⟩
  obtain ⟨s3, vr3, vb⟩ := back s2 t2
  obtain ⟨vr4, hne⟩ := vb g d2 u vr2
  have s4 := s3.setFlag (i := i) vr3
  have vr5 : VR X.K F H2 W2 φ2 (L2.set i (flag f d)) (σ.set i (some v)) g d2 u := by
    cases g with
    | false => exact vr4
    | true =>
      obtain ⟨b', rfl, wb, fb, tb, nb⟩ := vr4
      refine ⟨b', rfl, wb, fb, tb, fun m hm => ?_⟩
      rcases own_set hm with ⟨_, ⟨d', e1⟩, e2⟩ | ⟨_, hm⟩
      · cases f with
        | false => cases e1
        | true =>
          cases e2
          exact hne b' b' rfl rfl rfl rfl rfl
      · exact nb m hm
  exact n _ S2 _ H2 W2 φ2 h2 (s4.setFlag (i := j) vr5) (t1.trans t2).weak
theorem s_asg2 {x y : Str} {px py pos : Pos} {i j : Nat} {e : Expr} {ie : IE} (G : GX c C sc X) (hx : tgt sc x = true) (hy : tgt sc y = true) (he : isSub e = true) (hi : c.N.idxOf? x = some i) (hj : c.N.idxOf? y = some j) (h : SE X C e ie) : PS X (.Assign [.Name x px, .Name y py] e pos) (liftS X.K (wS C (.asg2 i j ie))) := by
  obtain ⟨l1, l2⟩ := G.loc hx
  obtain ⟨m1, m2⟩ := G.loc hy
  have hw : swappedStores [.Name x px, .Name y py] e X.env = pure none := by cases e <;> first | rfl | cases he
  have g1 := pg_name (X := X) (x := x) (pos := px) (i := i) (by rw [G.N]; exact G.nd) (by rw [G.N]; exact idx_get hi) l1 l2
  have g2 := pg_name (X := X) (x := y) (pos := py) (i := j) (by rw [G.N]; exact G.nd) (by rw [G.N]; exact idx_get hj) m1 m2
  refine PS.imp (ps_asg2 h.v g1 g2 rfl hw) fun D σ H ⟨F, W, φ, L, S, Z, s, ht, n, rt, bk, ct⟩ => ?_
  simp only [wS] at ht
  refine ⟨F, W, φ, L, S, _, s, ht, fun d f L1 S1 H1 W1 φ1 v h1 s1 t1 vr => ?_⟩
  obtain ⟨W2, s2, t2, r⟩ := vr.settle s1
  exact n _ S1 _ H1 W2 φ1 h1 ((s2.setVal (i := i) r).setVal (i := j) r) (t1.trans t2).weak
theorem s_aug {x : Str} {px pos : Pos} {i : Nat} {e : Expr} {ie : IE} {op : Operator} {bo : BO} (G : GX c C sc X) (htg : tgt sc x = true) (hi : c.N.idxOf? x = some i) (ho : toBO op = some bo) (hb : bo = .add ∨ bo = .sub ∨ bo = .mul) (h : SE X C e ie) : PS X (.AugAssign (.Name x px) op e pos) (liftS X.K (wS C (.aug i bo ie))) := by
  obtain ⟨l1, l2⟩ := G.loc htg
  refine PS.imp (ps_aug (i := i) (by rw [G.N]; exact G.nd) (by rw [G.N]; exact idx_get hi) l1 h.v (show PIp X op (OpX X (inplaceOp op)) from opX X _) l2) fun D σ H ⟨F, W, φ, L, S, Z, s, ht, n, rt, bk, ct⟩ => ?_
  simp only [wS] at ht
  obtain ⟨d, hd, ht⟩ := ht
  obtain ⟨v, e1, r⟩ := s.val hd
  refine ⟨v, e1, F, W, φ, L, S, _, s, ht, fun d2 f L1 S1 H1 W1 φ1 u h1 s1 t1 vr => ?_⟩
  have rp := vr.repP s1
  have rd := r.go t1
  have e2 : op = opOf bo := by cases op <;> simp [toBO] at ho <;> subst ho <;> rfl
  split at h1
  · have := rp.int
    simp only [Rep] at rd
    subst this rd
    have q : ∀ k : Int, Z.nx (L1.set i (.val (.int k))) S1 → D.nx (σ.set i (some (.int k))) H1 := fun k hz => n _ S1 _ H1 W1 φ1 hz (s1.setVal (by simp only [Rep])) t1.weak
    rcases hb with rfl | rfl | rfl
    · subst e2; simp only [dBin, dAdd] at h1
      exact ⟨_, iop_add, _, _, rfl, rfl, q _ h1⟩
    · subst e2; simp only [dBin] at h1
      exact ⟨_, iop_sub, _, _, rfl, rfl, q _ h1⟩
    · subst e2; simp only [dBin, dMul] at h1
      obtain ⟨hs, h1⟩ := h1
      rcases hs with hs | hs | ⟨hs1, hs2⟩
      · exact ⟨_, iop_mul, _, _, rfl, rfl, .inl hs, q _ h1⟩
      · exact ⟨_, iop_mul, _, _, rfl, rfl, .inr hs, q _ h1⟩
      · have ok := (wide_mul hs1 hs2 (by decide) (by decide) (by decide)).ok
        exact ⟨_, (opI (C := CMulW) fun _ _ _ _ _ _ _ hc q => imul_int q hc.ok : OpR X (inplaceOp .Mult) (rI CMulW fun i j => .int (i * j))), _, _, rfl, rfl, wide_mul hs1 hs2 (by decide) (by decide) (by decide), q _ h1⟩
  · have := rp.str
    simp only [Rep] at rd
    subst this rd
    rcases hb with rfl | rfl | rfl
    · subst e2; simp only [dBin, dAdd] at h1
      exact ⟨_, iop_add_str, _, _, rfl, rfl, h1.1, n _ S1 _ H1 W1 φ1 h1.2 (s1.setVal (by simp only [Rep])) t1.weak⟩
    · simp only [dBin] at h1
    · simp only [dBin, dMul] at h1
  · exact h1.elim
theorem slot_v {K : PySem.W.Frag} {F : Fr} {H : Hp} {W : Addr → Prop} {φ : List Addr} {L : Lo} {S : Sto} {σ : Sg} {i : Nat} (s : StR K F H W φ L S σ) (h : ∃ d, L[i]? = some (.own d) ∨ L[i]? = some (.val d)) : ∃ v, σ[i]? = some (some v) := by
  obtain ⟨d, h | h⟩ := h
  · obtain ⟨a, e, _⟩ := s.own h; exact ⟨_, e⟩
  · obtain ⟨v, e, _⟩ := s.val h; exact ⟨_, e⟩
theorem set_both (hu : X.A.units + 1 < cLine) : PSet X (fun o i v H Q => rSetL o i v H Q ∨ ∃ a H4, o = .ref a ∧ DPut H a i v H4 ∧ Q H4) := by
  intro pins s σ H o i v ov iv u Q I ro ri rv h
  rcases h with h | ⟨a, H4, rfl, g, q⟩
  · exact set_list pins s σ H o i v ov iv u Q I ro ri rv h
  · cases ro
    exact d_setItem hu I g ri rv fun s' I' => ⟨H4, I', q⟩
theorem s_setI {x : Str} {px sp pos : Pos} {i : Nat} {e k : Expr} {ie ik : IE} {n0 : Nat} (G : GX c C sc X) (hf : fine x = true) (hv : vis sc x = true) (hi : c.N.idxOf? x = some i) (h : SE X C e ie) (hk : SE X C k ik) (hk2 : trE c n0 sc k = some ik) :
    PS X (.Assign [.Subscript (.Name x px) k sp] e pos) (liftS X.K (wS C (.setI i ik ie))) := by
  have ho := (se_loc (C := C) (pos := px) G hf hv hi).l i rfl
  have hs : swapsWithSole [.Subscript (.Name x px) k sp] e pos.line X.env = pure false := by cases e <;> rfl
  have hw : swappedStores [.Subscript (.Name x px) k sp] e X.env = pure none := by cases e <;> rfl
  have hg := pg_sub (pos := sp) ho hk.p (set_both (X := X) (by have := G.hu; omega)) (by
    intro v
    cases k <;> first | rfl | (exfalso; cases n0 <;> simp [trE] at hk2; done))
  refine PS.imp (ps_asg h.v hg hs hw rfl) fun D σ H ⟨F, W, φ, L, S, Z, s, ht, n, rt, bk, ct⟩ => ?_
  simp only [wS] at ht
  obtain ⟨hsl, ht⟩ := ht
  obtain ⟨vo, evo⟩ := slot_v s hsl
  refine ⟨F, W, φ, L, S, _, s, ht, fun d f L1 S1 H1 W1 φ1 v h1 s1 t1 vr => ?_⟩
  obtain ⟨W2, s2, t2, rv⟩ := vr.settle s1
  refine ⟨vo, evo, F, W2, φ1, L1, S1, _, s2, h1, fun y L3 S3 H3 W3 φ3 u h3 s3 t3 ru => ?_⟩
  have rv3 := rv.go t3
  have tt := (t1.trans t2).trans t3
  split at h3
  · rename_i m z e3
    have eu := ru.int
    subst eu
    obtain ⟨l, j, hl, hj, h3⟩ := h3
    obtain ⟨w, e4, r4⟩ := s3.val e3
    rw [evo] at e4; cases e4
    simp only [Rep] at r4
    obtain ⟨a, rfl, e5⟩ := r4
    obtain ⟨vs, hq, hz, r6⟩ := s3.st.at_ m a l e5 hl
    have hj' : L2.ixN vs.length z = some j := by rw [← r6.len]; exact hj
    obtain ⟨s5, t5⟩ := s3.updCell e5 hl hq (us := vs.set j v) (by simpa using hz) (r6.set j rv3)
    exact .inl ⟨a, vs, z, j, rfl, rfl, hq, hj', n L3 _ σ _ W3 φ3 h3 s5 (tt.weak.trans t5)⟩
  · rename_i l z e3
    have eu := ru.int
    subst eu
    obtain ⟨j, hj, h3⟩ := h3
    obtain ⟨a, e4, w4, f4, p4, vs, hq, r6⟩ := s3.own e3
    rw [evo] at e4; cases e4
    have hj' : L2.ixN vs.length z = some j := by rw [← r6.len]; exact hj
    obtain ⟨s5, t5⟩ := s3.updOwn (o := .lst (vs.set j v)) (d' := .lst (l.set j d)) e3 evo rfl ⟨_, upd_same, (r6.set j rv3).go (Tr.updW w4 hq rfl)⟩
    exact .inl ⟨a, vs, z, j, rfl, rfl, hq, hj', n _ S3 σ _ W3 φ3 h3 s5 (tt.weak.trans t5)⟩
  · rename_i ks vs0 k0 e3
    have eu := ru.str
    subst eu
    obtain ⟨⟨hl, hz⟩, h3⟩ := h3
    obtain ⟨a, e4, w4, f4, p4, kvs, hq, ek, r6⟩ := s3.own e3
    rw [evo] at e4; cases e4
    have hkl : kvs.length = ks.length := by
      have := congrArg List.length ek
      simpa using this
    obtain ⟨s5, t5⟩ := s3.updOwn (o := .dK (putK kvs (Sum.inr k0) v)) (d' := .dct (putKs ks k0) (putVs ks vs0 k0 d)) e3 evo rfl ⟨_, upd_same, put_keys ek k0 v, (put_vals ek r6 k0 rv3).go (Tr.updW w4 hq rfl)⟩
    exact .inr ⟨a, _, rfl, .inl ⟨kvs, Sum.inr k0, hq, rfl, by rw [hkl]; exact hz, rfl⟩, n _ S3 σ _ W3 φ3 h3 s5 (tt.weak.trans t5)⟩
  · exact h3.elim
theorem tyL {K : PySem.W.Frag} {H : Hp} {a : Addr} {vs : List V} (h : H a = some (.lst vs)) : tyV K "list" (.ref a) H := Or.inl ⟨rfl, _, Or.inl (Or.inl h)⟩
theorem s_app {y : Str} {py apos cpos pos : Pos} {i : Nat} {e : Expr} {ie : IE} {n0 : Nat} (G : GX c C sc X) (hf : fine y = true) (hv : vis sc y = true) (hi : c.N.idxOf? y = some i) (hl : (apos.endLine == cpos.line) = true) (h : SE X C e ie) (he : trE c n0 sc e = some ie) :
    PS X (.Expr (.Call (.Attribute (.Name y py) "append" apos) [e] [] cpos) pos) (liftS X.K (wS C (.app i ie))) := by
  have ho := (se_loc (C := C) (pos := py) G hf hv hi).l i rfl
  have st := star_of (c := c) (sc := sc) he (env := X.env) []
  have key := pe_bm (cpos := cpos) PySem.F.plainAttrs_list PySem.F.slot_list_append PySem.F.type_list_append (mt_append (X := X)) ho (pa_cons h.v pa_nil st) rfl (by rw [st]; rfl) hl st rfl
  refine PS.imp (ps_expr key rfl) fun D σ H ⟨F, W, φ, L, S, Z, s, ht, n, rt, bk, ct⟩ => ?_
  simp only [wS] at ht
  obtain ⟨⟨l0, e0⟩, ht⟩ := ht
  obtain ⟨a, e1, w, fr, p, vs0, hq0, r0⟩ := s.own e0
  refine ⟨.ref a, e1, tyL hq0, F, W, φ, L, S, _, s, ht, fun d f L1 S1 H1 W1 φ1 v h1 s1 t1 vr => ?_⟩
  obtain ⟨W2, s2, t2, rv⟩ := vr.settle s1
  obtain ⟨l, e2, hz, h1⟩ := h1
  obtain ⟨a', e3, w3, f3, p3, vs, hq, r3⟩ := s2.own e2
  rw [e1] at e3; cases e3
  obtain ⟨s5, t5⟩ := s2.updOwn (o := .lst (vs ++ [v])) (d' := .lst (l ++ [d])) e2 e1 rfl ⟨_, upd_same, (r3.append (Reps.cons rv Reps.nil)).go (Tr.updW w3 hq rfl)⟩
  exact ⟨a, vs, v, rfl, rfl, hq, by rw [← r3.len]; exact hz, n _ S1 σ _ W2 φ1 h1 s5 ((t1.trans t2).weak.trans t5)⟩
theorem s_ext {y : Str} {py apos cpos pos : Pos} {i : Nat} {e : Expr} {ie : IE} {n0 : Nat} (G : GX c C sc X) (hf : fine y = true) (hv : vis sc y = true) (hi : c.N.idxOf? y = some i) (hl : (apos.endLine == cpos.line) = true) (h : SE X C e ie) (he : trE c n0 sc e = some ie) :
    PS X (.Expr (.Call (.Attribute (.Name y py) "extend" apos) [e] [] cpos) pos) (liftS X.K (wS C (.ext i ie))) := by
  have ho := (se_loc (C := C) (pos := py) G hf hv hi).l i rfl
  have st := star_of (c := c) (sc := sc) he (env := X.env) []
  have key := pe_bm (cpos := cpos) PySem.F.plainAttrs_list PySem.F.slot_list_extend PySem.F.type_list_extend (mt_extend (X := X)) ho (pa_cons h.v pa_nil st) rfl (by rw [st]; rfl) hl st rfl
  refine PS.imp (ps_expr key rfl) fun D σ H ⟨F, W, φ, L, S, Z, s, ht, n, rt, bk, ct⟩ => ?_
  simp only [wS] at ht
  obtain ⟨⟨l0, e0⟩, ht⟩ := ht
  obtain ⟨a, e1, w, fr, p, vs0, hq0, r0⟩ := s.own e0
  refine ⟨.ref a, e1, tyL hq0, F, W, φ, L, S, _, s, ht, fun d f L1 S1 H1 W1 φ1 v h1 s1 t1 vr => ?_⟩
  obtain ⟨W2, s2, t2, rv⟩ := vr.settle s1
  obtain ⟨l, m, e2, rfl, hz, h1⟩ := h1
  obtain ⟨a', e3, w3, f3, p3, vs, hq, r3⟩ := s2.own e2
  rw [e1] at e3; cases e3
  simp only [Rep] at rv
  obtain ⟨b, rfl, _, _, us, hb, rb⟩ := rv
  obtain ⟨s5, t5⟩ := s2.updOwn (o := .lst (vs ++ us)) (d' := .lst (l ++ m)) e2 e1 rfl ⟨_, upd_same, (r3.append rb).go (Tr.updW w3 hq rfl)⟩
  exact ⟨a, b, vs, us, rfl, rfl, hq, hb, by rw [← r3.len, ← rb.len]; exact hz, n _ S1 σ _ W2 φ1 h1 s5 ((t1.trans t2).weak.trans t5)⟩
theorem getLast_rep {K : PySem.W.Frag} {H : Hp} {φ : List Addr} {W : Addr → Prop} {l : List D} {vs : List V} {d : D} (r : Reps K H φ W l vs) (h : l[l.length - 1]? = some d) : ∃ v, vs[vs.length - 1]? = some v ∧ Rep K H φ W d v := by
  rw [← r.len]; exact r.get h
theorem pop_go {te : TE} {tg : TG} {t : IT} {i : Nat} {y : Str} {py apos cpos : Pos} (G : GX c C sc X) (hf : fine y = true) (hv : vis sc y = true) (hi : c.N.idxOf? y = some i) (hl : (apos.endLine == cpos.line) = true) :
    ∃ te, PE X (.Call (.Attribute (.Name y py) "pop" apos) [] [] cpos) te ∧ ∀ D σ H, liftS X.K (wS C (.pop t i)) D σ H → tAsg te (liftG X.K t.ix (wG t)) D σ H := by
  have ho := (se_loc (C := C) (pos := py) G hf hv hi).l i rfl
  refine ⟨_, pe_bm0 PySem.F.plainAttrs_list PySem.F.slot_list_pop PySem.F.type_list_pop (mt_pop (X := X)) ho rfl hl, fun D σ H ⟨F, W, φ, L, S, Z, s, ht, n, rt, bk, ct⟩ => ?_⟩
  simp only [wS] at ht
  obtain ⟨l, d, e0, hd, ht⟩ := ht
  obtain ⟨a, e1, w, fr, p, vs, hq, r⟩ := s.own e0
  obtain ⟨v, hv, rv⟩ := getLast_rep r hd
  have tw : Tr true H φ W (upd H a (.lst vs.dropLast)) φ W := Tr.updW w hq rfl
  obtain ⟨s5, t5⟩ := s.updOwn (o := .lst vs.dropLast) (d' := .lst l.dropLast) e0 e1 rfl ⟨_, upd_same, r.dropLast.go tw⟩
  exact ⟨.ref a, e1, tyL hq, a, vs, v, rfl, rfl, hq, hv, F, W, φ, _, S, d, _, s5, rv.go tw, ht, fun L' σ' hP s' _ _ _ => n L' S σ' _ W φ hP s' t5⟩
end
end Q
/-! Soundness: the statements' induction; defs. -/
namespace Q
open PySem PySem.Spec PyProof.Rows L2
section
variable {X : Cx} {C : Calls} {c : TC} {sc : Scope}
theorem asg_name {x : Str} {px pos : Pos} {e : Expr} {i : Nat} {ie : IE} {n : Nat} (G : GX c C sc X) (ht : (tgt sc x && !isSDComp e) = true) (hi : c.N.idxOf? x = some i) (h : trE c n sc e = some ie) : PS X (.Assign [.Name x px] e pos) (liftS X.K (wS C (.asg (.nm i) ie))) := by
  simp only [Bool.and_eq_true, Bool.not_eq_true'] at ht
  cases hsw : swB sc x px e with
  | false => exact s_asgPlain G ht.1 ht.2 hi ((snd_all n).e sc X e ie G h) hsw
  | true =>
    cases e <;> first | exact s_asgLc G hi h hsw | (exfalso; simp [swB, lcScope] at hsw; done)
theorem ss_all (G : GX c C sc X) : ∀ n, (∀ st i, trS c sc n st = some i → PS X st (liftS X.K (wS C i))) ∧ (∀ ss l, trSs c sc n ss = some l → PSs X ss (liftS X.K (wSs C l))) := by
  intro n
  induction n with
  | zero =>
    refine ⟨fun st i h => by simp [trS] at h, fun ss l h => ?_⟩
    cases ss with
    | nil => simp only [trSs] at h; cases h; exact ss_nil
    | cons _ _ => simp [trSs] at h
  | succ n ih =>
    obtain ⟨ih1, ih2⟩ := ih
    have E := snd_all (c := c) (C := C) n
    refine ⟨fun st i h => ?_, fun ss l h => ?_⟩
    · unfold trS at h
      split at h
      · cases h
      · -- x = e
        rename_i n' x px e pos hn
        cases hn
        split at h
        · split at h
          · rename_i hc
            simp only [Bool.and_eq_true, beq_iff_eq] at hc
            obtain ⟨⟨⟨⟨hm, hf⟩, hv⟩, hl⟩, ht⟩ := hc
            simp only [Option.bind_eq_bind, Option.bind_eq_some_iff] at h
            obtain ⟨i1, h1, j, h2, h⟩ := h
            cases h
            subst hm
            obtain ⟨te, hpe, himp⟩ := pop_go (X := X) (C := C) (te := fun _ _ _ => False) (tg := fun _ _ _ _ => False) (t := .nm i1) G hf hv h2 (by simpa using hl)
            obtain ⟨l1, l2⟩ := G.loc ht
            have hg := pg_name (pos := px) (i := i1) (by rw [G.N]; exact G.nd) (by rw [G.N]; exact idx_get h1) l1 l2
            refine PS.imp (ps_asg hpe (PG.imp hg fun v σ H Q hh => ?_) rfl rfl rfl) himp
            obtain ⟨F, W, φ, L, S, d, P, s, r, ht, q⟩ := hh
            simp only [wG] at ht
            refine q _ _ ht (s.setVal r) (by simp) (fun j hj => ?_) fun j hj => ?_
            all_goals
              rw [List.getElem?_set_ne]
              intro e; subst e; exact hj (by simp [IT.ix])
          · cases h
        · split at h
          · rename_i hc
            simp only [Option.bind_eq_bind, Option.bind_eq_some_iff] at h
            obtain ⟨i1, h1, ie, h2, h⟩ := h
            cases h
            exact asg_name G hc h1 h2
          · cases h
      · -- a = b = e
        rename_i n' x px y py e pos hn
        cases hn
        split at h
        · rename_i hc
          simp only [Bool.and_eq_true] at hc
          simp only [Option.bind_eq_bind, Option.bind_eq_some_iff] at h
          obtain ⟨i1, h1, j1, h2, ie, h3, h⟩ := h
          cases h
          exact s_asg2 G hc.1.1 hc.1.2 hc.2 h1 h2 (E.e sc X _ ie G h3)
        · cases h
      · -- a, b = e
        rename_i n' ts k tp e pos hn
        cases hn
        split at h
        · split at h
          · rename_i hc
            simp only [Option.bind_eq_bind, Option.bind_eq_some_iff] at h
            obtain ⟨i1, h1, j1, h2, ia, ha, ib, hb, h⟩ := h
            cases h
            exact s_par G hc h1 h2 ha hb
          · cases h
        · split at h
          · rename_i hc
            simp only [Bool.and_eq_true, beq_iff_eq] at hc
            obtain ⟨⟨⟨hm, hf⟩, hv⟩, hl⟩ := hc
            simp only [Option.bind_eq_bind, Option.bind_eq_some_iff] at h
            obtain ⟨it, h1, j, h2, h⟩ := h
            cases h
            subst hm
            obtain ⟨te, hpe, himp⟩ := pop_go (X := X) (C := C) (te := fun _ _ _ => False) (tg := fun _ _ _ _ => False) (t := it) G hf hv h2 (by simpa using hl)
            exact PS.imp (ps_asg hpe ((tr_sound G n).1 _ _ h1).1 rfl rfl rfl) himp
          · cases h
        · split at h
          · rename_i hc
            simp only [Bool.not_eq_true'] at hc
            simp only [Option.bind_eq_bind, Option.bind_eq_some_iff] at h
            obtain ⟨it, h1, ie, h2, h⟩ := h
            cases h
            have hit : ∃ its, it = .tp its := by
              cases n with
              | zero => simp [trT] at h1
              | succ n =>
                simp only [trT] at h1
                obtain ⟨its, _, rfl⟩ := Option.map_eq_some_iff.mp h1
                exact ⟨its, rfl⟩
            obtain ⟨its, rfl⟩ := hit
            exact s_asgTup G hc h1 (E.e sc X _ ie G h2)
          · cases h
      · -- x[k] = e
        rename_i n' x px k sp e pos hn
        cases hn
        split at h
        · rename_i hc
          simp only [Bool.and_eq_true] at hc
          simp only [Option.bind_eq_bind, Option.bind_eq_some_iff] at h
          obtain ⟨i1, h1, ik, h2, ie, h3, h⟩ := h
          cases h
          exact s_setI G hc.1 hc.2 h1 (E.e sc X _ ie G h3) (E.e sc X _ ik G h2) h2
        · cases h
      · -- x op= e
        rename_i n' x px op e pos hn
        cases hn
        split at h
        · rename_i hc
          simp only [Option.bind_eq_bind, Option.bind_eq_some_iff] at h
          obtain ⟨bo, hb, h⟩ := h
          split at h <;> first | cases h | skip
          all_goals
            simp only [Option.bind_eq_some_iff] at h
            obtain ⟨i1, h1, bo', hb', ie, h3, h⟩ := h
            cases h
            rw [hb] at hb'
            cases hb'
            exact s_aug G hc h1 hb (by simp) (E.e sc X _ ie G h3)
        · cases h
      · -- an expression
        rename_i n' e pos hn
        cases hn
        split at h
        · rename_i y py m apos a cpos
          split at h
          · rename_i hc
            simp only [Bool.and_eq_true] at hc
            obtain ⟨⟨hf, hv⟩, hl⟩ := hc
            split at h
            · rename_i hm
              have hm : m = ("append" : Str) := by simpa using hm
              subst hm
              simp only [Option.bind_eq_bind, Option.bind_eq_some_iff] at h
              obtain ⟨i1, h1, ie, h2, h⟩ := h
              cases h
              exact s_app G hf hv h1 hl (E.e sc X _ ie G h2) h2
            · split at h
              · rename_i hm
                have hm : m = ("extend" : Str) := by simpa using hm
                subst hm
                simp only [Option.bind_eq_bind, Option.bind_eq_some_iff] at h
                obtain ⟨i1, h1, ie, h2, h⟩ := h
                cases h
                exact s_ext G hf hv h1 hl (E.e sc X _ ie G h2) h2
              · cases h
          · cases h
        · simp only [Option.bind_eq_bind, Option.bind_eq_some_iff] at h
          obtain ⟨ie, h2, h⟩ := h
          cases h
          exact s_expr (E.e sc X _ ie G h2) rfl
        · cases h; exact s_doc
        · cases h
      · simp only [Option.bind_eq_bind, Option.bind_eq_some_iff] at h
        rename_i n' e pos hn
        cases hn
        obtain ⟨ie, h2, h⟩ := h
        cases h
        exact s_ret (E.e sc X _ ie G h2)
      · cases h; exact s_retN
      · rename_i n' t a b pos hn
        cases hn
        simp only [Option.bind_eq_bind, Option.bind_eq_some_iff] at h
        obtain ⟨it, h1, ia, h2, ib, h3, h⟩ := h
        cases h
        exact s_if (E.t sc X _ it G h1) (ih2 _ _ h2) (ih2 _ _ h3)
      · rename_i n' t a pos hn
        cases hn
        simp only [Option.bind_eq_bind, Option.bind_eq_some_iff] at h
        obtain ⟨it, h1, ia, h2, h⟩ := h
        cases h
        exact s_while G (E.t sc X _ it G h1) (ih2 _ _ h2)
      · rename_i n' tg it a pos hn
        cases hn
        simp only [Option.bind_eq_bind, Option.bind_eq_some_iff] at h
        obtain ⟨ig, h1, ii, h2, ia, h3, h⟩ := h
        cases h
        obtain ⟨p1, p2⟩ := E.i sc X tg it ii G h2
        exact s_for G h1 p1 (p2 X.env) (ih2 _ _ h3)
      · cases h; exact s_cont
      · cases h; exact s_brk
      · cases h; exact s_pass
      · cases h; exact s_never
      · cases h
    · cases ss with
      | nil => simp only [trSs] at h; cases h; exact ss_nil
      | cons s r =>
        simp only [trSs, Option.bind_eq_bind, Option.bind_eq_some_iff] at h
        obtain ⟨i, hi, l', hl, h⟩ := h
        cases h
        exact ss_cons (ih1 s i hi) (ih2 r l' hl)
end
end Q
/-! Defs keep what their meaning says. -/
namespace Q
open PySem PySem.Spec PyProof.Rows L2
/-- a def of the text: its name, its slots, its parameters, its defaults -/
structure FE where
  name : Str
  st : Stmt
  N : List Str
  ps : List Str
  dv : List D
  mu : Bool
abbrev FE.args (e : FE) : Arguments := match e.st with
  | .FunctionDef _ a _ _ _ _ _ _ _ _ => a
  | _ => ⟨[], [], none, [], [], none, []⟩
abbrev FE.body (e : FE) : List Stmt := match e.st with
  | .FunctionDef _ _ b _ _ _ _ _ _ _ => b
  | _ => []
abbrev FE.scope (e : FE) : Scope := match e.st with
  | .FunctionDef _ _ _ _ _ _ s _ _ _ => s
  | _ => ⟨.module, [], false, false, []⟩
/-- the program: constants, defs -/
structure PG_ where
  gl : List (Str × D)
  fes : List FE
def PG_.sig (g : PG_) : List (Str × Nat × List D) := g.fes.map fun e => (e.name, e.ps.length, e.dv)
def PG_.tc (g : PG_) (e : FE) : TC := ⟨e.N, g.gl, g.sig, e.mu⟩
def fuel : Nat := 60
def PG_.fd (g : PG_) (e : FE) : Option FD := (trSs (g.tc e) e.scope fuel e.body).map fun b => ⟨e.ps.length, e.N.length, b⟩
def PG_.T (g : PG_) (f : Str) : Option FD := match g.fes.find? fun e => e.name == f with
  | some e => g.fd e
  | none => none
def nodupB (l : List Str) : Bool := decide l.Nodup
def scB (N ps : List Str) (sc : Scope) : Bool := (match sc.kind with | .function => true | _ => false) && !sc.isCoroutine && !sc.isGenerator && decide N.Nodup && decide (N.take ps.length = ps) && (ps.all fun x => sc.names.lookup x == some .local || sc.names.lookup x == some .cell) && sc.names.all fun y => y.2 != .free
theorem scB_ok {N ps : List Str} {sc : Scope} (h : scB N ps sc = true) : FnScope N ps sc := by
  unfold scB at h
  simp only [Bool.and_eq_true, Bool.not_eq_true', decide_eq_true_eq, List.all_eq_true, Bool.or_eq_true, beq_iff_eq, bne_iff_ne] at h
  obtain ⟨⟨⟨⟨⟨⟨h1, h2⟩, h3⟩, h4⟩, h5⟩, h6⟩, h7⟩ := h
  refine ⟨?_, h2, h3, h4, h5, h6, h7⟩
  cases hk : sc.kind <;> rw [hk] at h1 <;> first | rfl | cases h1
def PG_.ok (g : PG_) : Bool := (g.fes.all fun e => scB e.N e.ps e.scope) && decide (g.fes.map (·.name)).Nodup
section
variable {P : Program} {w : World} {K : PySem.W.Frag} {mg : Str → Option Value} {base : Heap}
/-- the facts of the module -/
structure Facts (g : PG_) (P : Program) (w : World) (K : PySem.W.Frag) (mg : Str → Option Value) : Prop where
  fn : ∀ e ∈ g.fes, ∃ (dvs : List V) (a : Addr) (fd : FuncData), FunD K e.name e.name e.args e.body e.scope dvs [] a fd ∧ mg e.name = some (.ref a) ∧ (∀ H φ W, Reps K H φ W e.dv dvs) ∧
    ∀ n, n ≤ dvs.length → ∃ us, Vals (dvs.drop n) us ∧ Binds K fd e.ps us
  gl : ∀ x d, g.gl.lookup x = some d → ∃ u v, mg x = some u ∧ RelV v u ∧ ∀ H φ W, Rep K H φ W d v
  bi : ∀ b ∈ bnames, mg (b : Str) = none
theorem lo0_len (ds : List D) (n : Nat) (h : ds.length ≤ n) : (lo0 ds n).length = n := by
  unfold lo0; rw [List.length_append, List.length_map, List.length_replicate]; omega
theorem start_len (N : List Str) (vs : List V) (h : vs.length ≤ N.length) : (L2.start N vs).length = N.length := by
  unfold L2.start; rw [List.length_append, List.length_map, List.length_replicate]; omega
theorem start_st {H : Hp} {φ : List Addr} {W : Addr → Prop} {S : Sto} {ds : List D} {vs : List V} {N : List Str} (hw : ∀ a, W a → ∃ o, H a = some o ∧ isM o = true) (nd : φ.Nodup) (pw : ∀ a, a ∈ φ → ¬ W a) (st : StoR K H W φ S) (r : Reps K H φ W ds vs) (hl : vs.length ≤ N.length) :
    StR K ⟨H, W, φ⟩ H W φ (lo0 ds N.length) S (L2.start N vs) where
  ext := fun _ _ h _ => h
  dom := fun _ h => h
  wc := fun _ h => h
  wnew := fun _ h => .inl h
  wt := hw
  pre := List.prefix_refl _
  phi := fun _ h => .inl h
  phw := pw
  nd := nd
  st := st
  lo := by
    have hl2 : ds.length ≤ N.length := by rw [r.len]; exact hl
    have own : ∀ (i : Nat) (d : D), (lo0 ds N.length)[i]? ≠ some (Sl.own d) := fun i d e => by
      unfold lo0 at e
      by_cases hi : i < ds.length
      · rw [List.getElem?_append_left (by simpa using hi), List.getElem?_map] at e
        obtain ⟨_, _, z⟩ := Option.map_eq_some_iff.mp e
        cases z
      · rw [List.getElem?_append_right (by simpa using hi), List.getElem?_replicate] at e
        split at e <;> cases e
    refine ⟨by rw [lo0_len _ _ hl2, start_len _ _ hl], fun i s e => ?_, fun i j a hi hj => ?_⟩
    · cases s with
      | no => trivial
      | own d => exact (own i d e).elim
      | val d =>
        unfold lo0 at e
        by_cases hi : i < ds.length
        · rw [List.getElem?_append_left (by simpa using hi), List.getElem?_map] at e
          obtain ⟨d', e1, z⟩ := Option.map_eq_some_iff.mp e
          cases z
          obtain ⟨v, e2, rv⟩ := r.get e1
          refine ⟨v, ?_, rv⟩
          unfold L2.start
          rw [List.getElem?_append_left (by rw [List.length_map, ← r.len]; exact hi), List.getElem?_map, e2]; rfl
        · rw [List.getElem?_append_right (by simpa using hi), List.getElem?_replicate] at e
          split at e <;> cases e
    · obtain ⟨⟨d, e⟩, _⟩ := hi
      exact (own i d e).elim
theorem find_mem {g : PG_} {f : Str} {e : FE} (h : g.fes.find? (fun e => e.name == f) = some e) : e ∈ g.fes ∧ e.name = f := ⟨List.mem_of_find?_eq_some h, by simpa using List.find?_some h⟩
theorem sig_look {g : PG_} {f : Str} {np : Nat} {dv : List D} (h : g.sig.lookup f = some (np, dv)) : ∃ e ∈ g.fes, e.name = f ∧ e.ps.length = np ∧ e.dv = dv := by
  have hm := PySem.mem_of_lookup h
  unfold PG_.sig at hm
  obtain ⟨e, he, hq⟩ := List.mem_map.mp hm
  cases hq
  exact ⟨e, he, rfl, rfl, rfl⟩
theorem T_of {g : PG_} {e : FE} (hok : g.ok = true) (he : e ∈ g.fes) : g.T e.name = g.fd e := by
  unfold PG_.ok at hok
  simp only [Bool.and_eq_true, decide_eq_true_eq] at hok
  have nd := hok.2
  unfold PG_.T
  cases hf : g.fes.find? (fun x => x.name == e.name) with
  | none =>
    have := List.find?_eq_none.mp hf e he
    simp at this
  | some x =>
    obtain ⟨hx, hn⟩ := find_mem hf
    have : x = e := by
      have hi := List.mem_iff_getElem.mp hx
      have hj := List.mem_iff_getElem.mp he
      obtain ⟨i, hi, ei⟩ := hi
      obtain ⟨j, hj, ej⟩ := hj
      have hij : (g.fes.map (·.name))[i]'(by simpa using hi) = (g.fes.map (·.name))[j]'(by simpa using hj) := by
        rw [List.getElem_map, List.getElem_map, ei, ej]; exact hn
      have := (List.getElem_inj nd).mp hij
      subst this
      rw [← ei, ← ej]
    rw [this]
theorem fns_ok {g : PG_} (hok : g.ok = true) (F : Facts g P w K mg) : ∀ (k : Nat) (e : FE), e ∈ g.fes → ∀ (dvs : List V) (a : Addr) (fd : FuncData), FunD K e.name e.name e.args e.body e.scope dvs [] a fd → mg e.name = some (.ref a) →
    FnOk P w K mg base CX0 k a fd e.ps (SpQ K (Cl g.T k) e.name e.ps.length)
  | 0, e, he, dvs, a, fd, FD, hm => ⟨fun vs H Q E h => h.1, fun A outer s H args us vs Q E _ _ _ _ h => by
      obtain ⟨_, W, φ, S, ds, P', _, _, _, _, _, hc, _⟩ := h
      exact hc.elim⟩
  | k + 1, e, he, dvs, a, fd, FD, hm => by
    have ih := fns_ok hok F k
    have hok' := hok
    unfold PG_.ok at hok'
    simp only [Bool.and_eq_true, decide_eq_true_eq, List.all_eq_true] at hok'
    have sco := scB_ok (hok'.1 e he)
    refine FD.ok sco (fun vs H Q E h => h.1) fun cdv A outer s H vs Q E hr hsp => ?_
    obtain ⟨hlen, W, φ, S, ds, P', hw, nd, pw, st, r, hc, q⟩ := hsp
    simp only [Cl] at hc
    obtain ⟨fd', hT, hdl, hb⟩ := hc
    rw [T_of hok he] at hT
    unfold PG_.fd at hT
    obtain ⟨b, hb1, hb2⟩ := Option.map_eq_some_iff.mp hT
    subst hb2
    have G : GX (g.tc e) (Cl g.T k) e.scope (cxOf CX0 P w K mg base e.N e.name e.scope a cdv A outer s H E).nox := {
      N := rfl
      nd := sco.nd
      calm := rfl
      xe := rfl
      fn := fun _ _ => rfl
      sc := fun _ => .inl rfl
      kind := sco.kind
      hu := by
        have := hr.un
        show (A.deeper (envOfC e.name e.scope s.heap.objs.size a cdv)).units + 200 < cLine
        omega
      bi := F.bi
      gl := F.gl
      fs := fun f np dv h => by
        obtain ⟨e', he', hn, hp, hd⟩ := sig_look h
        obtain ⟨dvs', a', fd1, D', hm', rd, hbd⟩ := F.fn e' he'
        subst hn hp hd
        refine ⟨a', fd1, e'.ps, k, hm', D'.kp, rfl, hr, ih e' he' dvs' a' fd1 D' hm', fun n hn => ?_⟩
        have rl := (rd (fun _ => none) [] (fun _ => False)).len
        obtain ⟨us, hv, hb'⟩ := hbd n (by omega)
        exact ⟨us, dvs'.drop n, hb', hv, fun H φ W => (rd H φ W).drop n⟩ }
    have PSb := ((ss_all G fuel).2 e.body b hb1)
    refine ⟨_, PSs.nox PSb, ?_⟩
    have hpl : e.ps.length ≤ e.N.length := by have := congrArg List.length sco.pre; rw [List.length_take] at this; omega
    have s0 := start_st (N := e.N) hw nd pw st r (by omega)
    have fin : ∀ {d : D} {L' : Lo} {S' : Sto} {σ' : Sg} {H' : Hp} {W' : Addr → Prop} {φ' : List Addr} {v : V}, P' d S' → StR K ⟨H, W, φ⟩ H' W' φ' L' S' σ' → Rep K H' φ' W' d v → Q v H' := fun hp s' rv => by
      refine q _ _ _ _ _ hp ⟨fun a o h m => s'.ext a o h fun z => (m z).1, fun a h => .inl h, fun a z => s'.dom a z, s'.pre, fun a z => s'.phi a z⟩ (s'.st.go (S' := false) (Tr.less s'.wc) fun _ _ => rfl) s'.nd (fun a z h => s'.phw a z (s'.wc a h)) (rv.lessW s'.wc)
    refine ⟨⟨H, W, φ⟩, W, φ, _, S, _, s0, hb, fun L' S' σ' H' W' φ' z s' t' => ?_, fun d L' S' σ' H' W' φ' v z s' t' rv => fin z s' rv, fun _ _ _ _ _ _ z => z.elim, fun _ _ _ _ _ _ z => z.elim⟩
    exact fin (d := .non) (v := .non) z s' (by simp only [Rep])
end
end Q
/-! From the head's facts to the law. -/
namespace Q
open PySem PySem.Spec PyProof.Rows L2
def toDv : D → He.Dv
  | .int i => .int i
  | .str s => .str s
  | .bl b => .bl b
  | _ => .non
def flat0 : D → Bool
  | .int _ => true
  | .str _ => true
  | .bl _ => true
  | .non => true
  | _ => false
def FE.dd (e : FE) : He.DefD := ⟨(e.name, none), e.name, e.name, e.args, e.body, e.scope, e.dv.map toDv, []⟩
def glB (K : PySem.W.Frag) : Str × D → Bool
  | (x, .int i) => (He.Fa.int x i).ok K
  | (x, .str s) => (He.Fa.str x s).ok K
  | (x, .tup l) => (He.Fa.glo x).ok K && (He.tupB K x (l.map toDv) && l.all flat0)
  | _ => false
def PG_.exB (g : PG_) (K : PySem.W.Frag) : Bool := g.gl.all (glB K)
def PG_.fa (g : PG_) : List He.Fa := g.fes.map (fun e => He.Fa.glo e.name) ++ bnames.map fun (b : String) => He.Fa.free (Str.ofString b)
def PG_.fn (g : PG_) : List He.DefD := g.fes.map FE.dd
theorem rep_dv {K : PySem.W.Frag} {d : D} (h : flat0 d = true) (H : Hp) (φ : List Addr) (W : Addr → Prop) : Rep K H φ W d ((toDv d).v K) := by
  cases d <;> first | (simp only [Rep, toDv, He.Dv.v]; done) | cases h
theorem reps_dv {K : PySem.W.Frag} : ∀ {l : List D}, (∀ d ∈ l, flat0 d = true) → ∀ (H : Hp) (φ : List Addr) (W : Addr → Prop), Reps K H φ W l ((l.map toDv).map (He.Dv.v K))
  | [], _, H, φ, W => Reps.nil
  | d :: l, h, H, φ, W => Reps.cons (rep_dv (h d List.mem_cons_self) H φ W) (reps_dv (fun x hx => h x (List.mem_cons_of_mem _ hx)) H φ W)
/-- how the defaults fill up -/
def BindsFor (e : FE) : Prop := ∀ (K : PySem.W.Frag) (dvs : List V) (a : Addr) (fd : FuncData), dvs.length = e.dv.length → FunD K e.name e.name e.args e.body e.scope dvs [] a fd → ∀ n, n ≤ dvs.length → ∃ us, Vals (dvs.drop n) us ∧ Binds K fd e.ps us
theorem facts_of {g : PG_} {P : Program} {w : World} {K : PySem.W.Frag} {mg : Str → Option Value} {h : Heap} {tf : List He.Defn} (hK : K.In h) (hg : h.Ns mainGlobals mg) (c : He.SaysX g.fa g.fn [] tf g.exB w h K) (hd : ∀ e ∈ g.fes, ∀ d ∈ e.dv, flat0 d = true) (hb : ∀ e ∈ g.fes, BindsFor e) : Facts g P w K mg := by
  have cd : He.SaysD g.fa g.fn K := c.t.d
  refine ⟨fun e he => ?_, fun x d hx => ?_, fun b hbn => ?_⟩
  · obtain ⟨fd, D⟩ := cd.defs (d := e.dd) (List.mem_map.mpr ⟨e, he, rfl⟩)
    have hm := He.glo_ok hK hg (cd.facts (f := .glo e.name) (List.mem_append_left _ (List.mem_map.mpr ⟨e, he, rfl⟩)))
    refine ⟨_, _, fd, D, hm, fun H φ W => reps_dv (hd e he) H φ W, hb e he K _ _ fd ?_ D⟩
    show ((e.dv.map toDv).map (He.Dv.v K)).length = _
    rw [List.length_map, List.length_map]
  · have hm := PySem.mem_of_lookup hx
    have ok := List.all_eq_true.mp c.more _ hm
    cases d with
    | int i =>
      obtain ⟨t, e⟩ := He.int_ok hK hg ok
      exact ⟨_, .int i, e, ⟨t, rfl⟩, fun _ _ _ => by simp only [Rep]⟩
    | str i =>
      obtain ⟨t, e⟩ := He.str_ok hK hg ok
      exact ⟨_, .str i, e, ⟨t, rfl⟩, fun _ _ _ => by simp only [Rep]⟩
    | tup l =>
      simp only [glB, Bool.and_eq_true] at ok
      obtain ⟨h1, h2, h3⟩ := ok
      refine ⟨_, .ref (He.ga K x), He.glo_ok hK hg h1, rfl, fun H φ W => ?_⟩
      simp only [Rep]
      exact ⟨_, _, rfl, He.tupB_ok h2 H, reps_dv (fun d hd => List.all_eq_true.mp h3 d hd) H φ W⟩
    | _ => simp [glB] at ok
  · exact He.free_ok hK hg (cd.facts (f := .free (b : Str)) (List.mem_append_right _ (List.mem_map.mpr ⟨b, hbn, rfl⟩)))
/-- the law's meaning, from an entry -/
theorem law_sp {K : PySem.W.Frag} {C : Calls} {f : Str} {n : Nat} (hl : ∀ ns : List Int, ns.length ≤ n → C f [.scr ns] [] fun r _ => r = .bl true) (H : Hp) (a : Addr) (ns : List Int) (hn : ns.length ≤ n) (ho : Only H) (hs : SqL K H a (ns.map V.int)) :
    SpQ K C f 1 [.ref a] H (fun v _ => v = .bl true) fun _ _ _ => False := by
  refine ⟨rfl, fun _ => False, [], [], [.scr ns], fun r _ => r = .bl true, fun _ z => z.elim, List.nodup_nil, fun _ z => (by cases z), ⟨rfl, fun n a l e _ => by simp at e⟩, Reps.cons ?_ Reps.nil, hl ns hn, fun r S' H' φ' v hr _ _ _ _ rv => ?_⟩
  · simp only [Rep]
    refine ⟨a, rfl, ?_⟩
    rcases hs with (h | ⟨o, h⟩) | h
    · rcases ho a with z | ⟨o, xs, z⟩
      · rw [h] at z; cases z
      · rw [h] at z; cases z
    · exact .inl ⟨o, h⟩
    · exact .inr (.inr h)
  · subst hr
    simpa only [Rep] using rv
end Q
/-! Rewriting rows for the meaning: they fire on constructors alone. -/
namespace Q
open PySem
theorem str_lit (a b : String) : (Str.ofString a == Str.ofString b) = (a == b) := by
  rw [Bool.eq_iff_iff, beq_iff_eq, beq_iff_eq, congrFun Str.ofString_eq_byList a, congrFun Str.ofString_eq_byList b]
  unfold Str.ofStringByList
  constructor
  · intro h
    have h := congrArg Array.toList (Str.mk.inj h)
    simp only at h
    have inj : ∀ (l m : List Char), l.map Char.toNat = m.map Char.toNat → l = m := by
      intro l
      induction l with
      | nil => intro m h; cases m <;> simp_all
      | cons c l ih =>
        intro m h
        cases m with
        | nil => simp at h
        | cons d m =>
          simp only [List.map_cons, List.cons.injEq] at h
          rw [ih m h.2, Char.toNat_inj.mp h.1]
    exact String.toList_inj.mp (inj _ _ h)
  · rintro rfl; rfl
def optP {α : Type} (o : Option α) (P : α → Prop) : Prop := match o with
  | some a => P a
  | none => False
theorem optP_some {α : Type} (a : α) (P : α → Prop) : optP (some a) P = P a := rfl
theorem optP_ex {α : Type} (o : Option α) (P : α → Prop) : (∃ d, o = some d ∧ P d) = optP o P := by
  cases o with
  | none => simp [optP]
  | some a => simp [optP]
def locE (o : Option Sl) (i : Nat) (L : Lo) (S : Sto) (P : KE) : Prop := match o with
  | some (.val d) => P d false L S
  | some (.own d) => P d false (L.set i (.val d)) S
  | _ => False
theorem locE_val (d : D) (i : Nat) (L : Lo) (S : Sto) (P : KE) : locE (some (.val d)) i L S P = P d false L S := rfl
theorem locE_own (d : D) (i : Nat) (L : Lo) (S : Sto) (P : KE) : locE (some (.own d)) i L S P = P d false (L.set i (.val d)) S := rfl
def locP (o : Option Sl) (L : Lo) (S : Sto) (P : KP) : Prop := match o with
  | some (.val d) => P d L S
  | some (.own d) => P d L S
  | _ => False
theorem locP_val (d : D) (L : Lo) (S : Sto) (P : KP) : locP (some (.val d)) L S P = P d L S := rfl
theorem locP_own (d : D) (L : Lo) (S : Sto) (P : KP) : locP (some (.own d)) L S P = P d L S := rfl
section
variable {C : Calls} {L : Lo} {S : Sto} {P : KE}
theorem wE_loc {i : Nat} : wE C (.loc i) L S P = locE L[i]? i L S P := rfl
theorem wE_cst {d : D} : wE C (.cst d) L S P = P d false L S := rfl
theorem wE_bin {op : BO} {a b : IE} : wE C (.bin op a b) L S P = pk a (wE C a) L S fun x L1 S1 => pk b (wE C b) L1 S1 fun y L2 S2 => dBin op x y fun r f => P r f L2 S2 := rfl
theorem wE_neg {a : IE} : wE C (.neg a) L S P = pk a (wE C a) L S fun x L1 S1 => ∃ i, x = .int i ∧ P (.int (-i)) false L1 S1 := rfl
theorem wE_not {a : IE} : wE C (.not a) L S P = wE C a L S fun x _ L1 S1 => x.truth fun b => P (.bl (!b)) false L1 S1 := rfl
theorem wE_and {a b : IE} : wE C (.and a b) L S P = wE C a L S fun x _ L1 S1 => x.truth fun k => if k = true then wE C b L1 S1 P else P x false L1 S1 := rfl
theorem wE_or {a b : IE} : wE C (.or a b) L S P = wE C a L S fun x _ L1 S1 => x.truth fun k => if k = true then P x false L1 S1 else wE C b L1 S1 P := rfl
theorem wE_ite {c : IC} {a b : IE} : wE C (.ite c a b) L S P = wT C c L S fun k L1 S1 => if k = true then wE C a L1 S1 P else wE C b L1 S1 P := rfl
theorem wE_cmp {op : CO} {a b : IE} : wE C (.cmp op a b) L S P = pk a (wE C a) L S fun x L1 S1 => pk b (wE C b) L1 S1 fun y L2 S2 => dCmp op x y fun k => P (.bl k) false L2 S2 := rfl
theorem wE_chain {o1 o2 : CO} {a b c : IE} : wE C (.chain o1 o2 a b c) L S P = pk a (wE C a) L S fun x L1 S1 => pk b (wE C b) L1 S1 fun y L2 S2 => dCmp o1 x y fun k =>
      if k = true then pk c (wE C c) L2 S2 fun z L3 S3 => dCmp o2 y z fun k2 => P (.bl k2) false L3 S3 else P (.bl false) false L2 S2 := rfl
theorem wE_tup {l : IEs} : wE C (.tup l) L S P = wEs C l L S fun ds L1 S1 => ds.length ≤ sizeLine ∧ P (.tup ds) false L1 S1 := rfl
theorem wE_lst {l : IEs} : wE C (.lst l) L S P = wEs C l L S fun ds L1 S1 => ds.length ≤ sizeLine ∧ P (.lst ds) true L1 S1 := rfl
theorem wE_new {l : IEs} : wE C (.new l) L S P = wEs C l L S fun ds L1 S1 => ds.length ≤ sizeLine ∧ P (.obj S1.length) false L1 (S1 ++ [ds]) := rfl
theorem wE_idx {a i : IE} : wE C (.idx a i) L S P = pk a (wE C a) L S fun x L1 S1 => pk i (wE C i) L1 S1 fun y L2 S2 => dIdx S2 x y fun r => P r false L2 S2 := rfl
theorem wE_slcE {a : IE} {lo hi : IEo} : wE C (.slcE a lo hi) L S P = pk a (wE C a) L S fun x L1 S1 => wEo C lo L1 S1 fun l L2 S2 => wEo C hi L2 S2 fun h L3 S3 => dSlc x l h fun r f => P r f L3 S3 := rfl
theorem wE_call {f : Str} {l : IEs} : wE C (.call f l) L S P = wAs C l L S [] fun ds bs L1 S1 => ds.length = l.len ∧ (∀ i, i ∈ bs → ∃ d, L1[i]? = some (.own d)) ∧ C f ds S1 fun r S2 => if bs = [] ∨ (r.flat = true ∧ Sto.flat S2 = true) then P r false L1 S2 else P r false (freezeAll L1 bs) S2 := rfl
theorem wE_blt {f : String} {l : IEs} : wE C (.blt f l) L S P = wPs C l L S fun ds L1 S1 => dBlt S1 f ds fun r g => P r g L1 S1 := rfl
theorem wE_isa {a : IE} {t : String} : wE C (.isa a t) L S P = pk a (wE C a) L S fun x L1 S1 => optP (x.isA t) fun b => P (.bl b) false L1 S1 := by
  show pk a (wE C a) L S _ = _
  congr 1; funext x L1 S1; exact optP_ex _ _
theorem wE_comp {e : IE} {t : IT} {src : II} {c : IC} {own : List Nat} : wE C (.comp e t src c own) L S P = wI C src L S fun ds L1 S1 => (∀ i, i ∈ own → ∀ d, L1[i]? ≠ some (.own d)) ∧ compL (wG t) (wT C c) (wE C e) (wipeL L1 own) ds S1 [] fun acc S2 => P (.lst acc) true L1 S2 := rfl
theorem wE_dct {ks : List Str} {l : IEs} : wE C (.dct ks l) L S P = wEs C l L S fun ds L1 S1 => (ks.length = ds.length ∧ ks.length ≤ 15 ∧ ks.Nodup) ∧ P (.dct ks ds) true L1 S1 := rfl
theorem wE_dcomp {k v : IE} {t : IT} {src : II} {c : IC} {own : List Nat} : wE C (.dcomp k v t src c own) L S P = wI C src L S fun ds L1 S1 => (∀ i, i ∈ own → ∀ d, L1[i]? ≠ some (.own d)) ∧ compD (wG t) (wT C c) (wE C k) (wE C v) (wipeL L1 own) ds S1 [] [] fun ks vs S2 => P (.dct ks vs) true L1 S2 := rfl
theorem wE_comp2 {e : IE} {t1 t2 : IT} {s1 s2 : II} {own : List Nat} : wE C (.comp2 e t1 s1 t2 s2 own) L S P = wI C s1 L S fun ds L1 S1 => (∀ i, i ∈ own → ∀ d, L1[i]? ≠ some (.own d)) ∧ compL2 (wG t2) (wI C s2) (wE C e) (wG t1) t2.ix (wipeL L1 own) ds S1 [] fun acc S2 => P (.lst acc) true L1 S2 := rfl
end
section
variable {t : Lo → Sto → KE → Prop} {L : Lo} {S : Sto} {P : KP}
theorem pk_loc {i : Nat} : pk (.loc i) t L S P = locP L[i]? L S P := rfl
theorem pk_cst {d : D} : pk (.cst d) t L S P = t L S fun d _ L' S' => P d L' S' := rfl
theorem pk_bin {op : BO} {a b : IE} : pk (.bin op a b) t L S P = t L S fun d _ L' S' => P d L' S' := rfl
theorem pk_neg {a : IE} : pk (.neg a) t L S P = t L S fun d _ L' S' => P d L' S' := rfl
theorem pk_not {a : IE} : pk (.not a) t L S P = t L S fun d _ L' S' => P d L' S' := rfl
theorem pk_and {a b : IE} : pk (.and a b) t L S P = t L S fun d _ L' S' => P d L' S' := rfl
theorem pk_or {a b : IE} : pk (.or a b) t L S P = t L S fun d _ L' S' => P d L' S' := rfl
theorem pk_ite {c : IC} {a b : IE} : pk (.ite c a b) t L S P = t L S fun d _ L' S' => P d L' S' := rfl
theorem pk_cmp {op : CO} {a b : IE} : pk (.cmp op a b) t L S P = t L S fun d _ L' S' => P d L' S' := rfl
theorem pk_chain {o1 o2 : CO} {a b c : IE} : pk (.chain o1 o2 a b c) t L S P = t L S fun d _ L' S' => P d L' S' := rfl
theorem pk_tup {l : IEs} : pk (.tup l) t L S P = t L S fun d _ L' S' => P d L' S' := rfl
theorem pk_lst {l : IEs} : pk (.lst l) t L S P = t L S fun d _ L' S' => P d L' S' := rfl
theorem pk_new {l : IEs} : pk (.new l) t L S P = t L S fun d _ L' S' => P d L' S' := rfl
theorem pk_idx {a b : IE} : pk (.idx a b) t L S P = t L S fun d _ L' S' => P d L' S' := rfl
theorem pk_slcE {a : IE} {l h : IEo} : pk (.slcE a l h) t L S P = t L S fun d _ L' S' => P d L' S' := rfl
theorem pk_call {f : Str} {l : IEs} : pk (.call f l) t L S P = t L S fun d _ L' S' => P d L' S' := rfl
theorem pk_blt {f : String} {l : IEs} : pk (.blt f l) t L S P = t L S fun d _ L' S' => P d L' S' := rfl
theorem pk_isa {a : IE} {f : String} : pk (.isa a f) t L S P = t L S fun d _ L' S' => P d L' S' := rfl
theorem pk_comp {e : IE} {t' : IT} {src : II} {c : IC} {own : List Nat} : pk (.comp e t' src c own) t L S P = t L S fun d _ L' S' => P d L' S' := rfl
theorem pk_dct {ks : List Str} {l : IEs} : pk (.dct ks l) t L S P = t L S fun d _ L' S' => P d L' S' := rfl
theorem pk_dcomp {k v : IE} {t' : IT} {src : II} {c : IC} {own : List Nat} : pk (.dcomp k v t' src c own) t L S P = t L S fun d _ L' S' => P d L' S' := rfl
theorem pk_comp2 {e : IE} {t1 t2 : IT} {s1 s2 : II} {own : List Nat} : pk (.comp2 e t1 s1 t2 s2 own) t L S P = t L S fun d _ L' S' => P d L' S' := rfl
end
section
variable {P : KF} {Q : Bool → Prop} {S : Sto} {R : D → Prop}
theorem add_int {a b : Int} : dBin .add (.int a) (.int b) P = P (.int (a + b)) false := rfl
theorem add_str {a b : Str} : dBin .add (.str a) (.str b) P = (a.length + b.length ≤ sizeLine ∧ P (.str (a ++ b)) false) := rfl
theorem add_tup {a b : List D} : dBin .add (.tup a) (.tup b) P = (a.length + b.length ≤ sizeLine ∧ P (.tup (a ++ b)) false) := rfl
theorem add_lst {a b : List D} : dBin .add (.lst a) (.lst b) P = (a.length + b.length ≤ sizeLine ∧ P (.lst (a ++ b)) true) := rfl
theorem sub_int {a b : Int} : dBin .sub (.int a) (.int b) P = P (.int (a - b)) false := rfl
theorem mul_int {a b : Int} : dBin .mul (.int a) (.int b) P = ((small64 a ∨ small64 b ∨ (a.natAbs < 2 ^ 4000 ∧ b.natAbs < 2 ^ 4000)) ∧ P (.int (a * b)) false) := rfl
theorem fdiv_int {a b : Int} : dBin .fdiv (.int a) (.int b) P = ((0 < b ∧ b.natAbs < 2 ^ 9000) ∧ P (.int (a / b)) false) := rfl
theorem mod_int {a b : Int} : dBin .mod (.int a) (.int b) P = (b ≠ 0 ∧ P (.int (a.fmod b)) false) := rfl
theorem pow_int {a b : Int} : dBin .pow (.int a) (.int b) P = ((0 ≤ b ∧ b ≤ 1000000 ∧ a.natAbs < 2 ^ 64) ∧ P (.int (a ^ b.toNat)) false) := rfl
theorem cmp_eq {x y : D} : dCmp .eq x y Q = (eqQ x y = true ∧ Q (x.eq y)) := rfl
theorem cmp_ne {x y : D} : dCmp .ne x y Q = (eqQ x y = true ∧ Q (!x.eq y)) := rfl
theorem eqQ_str {a b : Str} : eqQ (.str a) (.str b) = true := rfl
theorem eqQ_int {a b : Int} : eqQ (.int a) (.int b) = true := rfl
theorem eqQ_bl {a b : Bool} : eqQ (.bl a) (.bl b) = true := rfl
theorem eq_bl {a b : Bool} : D.eq (.bl a) (.bl b) = (a == b) := rfl
theorem cmp_lt {a b : Int} : dCmp .lt (.int a) (.int b) Q = Q (decide (a < b)) := rfl
theorem cmp_gt {a b : Int} : dCmp .gt (.int a) (.int b) Q = Q (decide (b < a)) := rfl
theorem cmp_le {a b : Int} : dCmp .le (.int a) (.int b) Q = Q (decide (a ≤ b)) := rfl
theorem cmp_ge {a b : Int} : dCmp .ge (.int a) (.int b) Q = Q (decide (b ≤ a)) := rfl
theorem cmp_is {x : D} : dCmp .is x .non Q = Q x.isNon := rfl
theorem cmp_isn {x : D} : dCmp .isn x .non Q = Q (!x.isNon) := rfl
theorem cmp_isb {x : D} {k : Bool} : dCmp .is x (.bl k) Q = Q (x.isBl k) := by cases x <;> rfl
theorem cmp_isnb {x : D} {k : Bool} : dCmp .isn x (.bl k) Q = Q (!x.isBl k) := by cases x <;> rfl
theorem cmp_gts {a b : Str} : dCmp .gt (.str a) (.str b) Q = Q (decide (b.cps.toList < a.cps.toList)) := rfl
theorem cmp_lts {a b : Str} : dCmp .lt (.str a) (.str b) Q = Q (decide (a.cps.toList < b.cps.toList)) := rfl
theorem cmp_les {a b : Str} : dCmp .le (.str a) (.str b) Q = Q (!decide (b.cps.toList < a.cps.toList)) := rfl
theorem mem_dct {k : Str} {ks : List Str} {vs : List D} : dMem (.str k) (.dct ks vs) Q = (ks.length = vs.length ∧ Q (dLook ks vs k).isSome) := rfl
theorem isB_non {k : Bool} : D.isBl k .non = false := rfl
theorem isB_bl {k b : Bool} : D.isBl k (.bl b) = (b == k) := rfl
theorem isB_tup {k : Bool} {l : List D} : D.isBl k (.tup l) = false := rfl
theorem isB_str {k : Bool} {l : Str} : D.isBl k (.str l) = false := rfl
theorem mul_tup {a : List D} {k : Int} : dBin .mul (.tup a) (.int k) P = ((a ≠ [] ∧ 0 ≤ k ∧ k ≤ 1000 ∧ a.length ≤ 1000) ∧ P (.tup (List.replicate k.toNat a).flatten) false) := rfl
theorem idx_dct {ks : List Str} {vs : List D} {k : Str} : dIdx S (.dct ks vs) (.str k) R = optP (dLook ks vs k) R := optP_ex _ _
theorem blt_minL {l : List D} : dBlt S "min" [.lst l] P = optP (allI l) fun ns => optP ns.min? fun m => P (.int m) false := by
  rw [← optP_ex]
  apply propext
  constructor
  · rintro ⟨ns, m, h1, h2, h3⟩; exact ⟨ns, h1, by rw [← optP_ex]; exact ⟨m, h2, h3⟩⟩
  · rintro ⟨ns, h1, h2⟩
    rw [← optP_ex] at h2
    obtain ⟨m, h2, h3⟩ := h2
    exact ⟨ns, m, h1, h2, h3⟩
theorem blt_maxL {l : List D} : dBlt S "max" [.lst l] P = optP (allI l) fun ns => optP ns.max? fun m => P (.int m) false := by
  rw [← optP_ex]
  apply propext
  constructor
  · rintro ⟨ns, m, h1, h2, h3⟩; exact ⟨ns, h1, by rw [← optP_ex]; exact ⟨m, h2, h3⟩⟩
  · rintro ⟨ns, h1, h2⟩
    rw [← optP_ex] at h2
    obtain ⟨m, h2, h3⟩ := h2
    exact ⟨ns, m, h1, h2, h3⟩
theorem blt_min2L {x y : Int} : dBlt S "min" [.lst [.int x, .int y]] P = P (.int (if y < x then y else x)) false := by
  rw [blt_minL]
  have e : [x, y].min? = some (if y < x then y else x) := by
    rw [List.min?_eq_some_iff]
    split <;> simp <;> omega
  have e0 : allI [.int x, .int y] = some [x, y] := rfl
  rw [e0, optP_some, e, optP_some]
theorem blt_max2L {x y : Int} : dBlt S "max" [.lst [.int x, .int y]] P = P (.int (if x < y then y else x)) false := by
  rw [blt_maxL]
  have e : [x, y].max? = some (if x < y then y else x) := by
    rw [List.max?_eq_some_iff]
    split <;> simp <;> omega
  have e0 : allI [.int x, .int y] = some [x, y] := rfl
  rw [e0, optP_some, e, optP_some]
theorem blt_dctD {ks : List Str} {vs : List D} : dBlt S "dict" [.dct ks vs] P = P (.dct ks vs) true := rfl
theorem blt_lstD {ks : List Str} {vs : List D} : dBlt S "list" [.dct ks vs] P = P (.lst (ks.map .str)) true := rfl
theorem len_dct {ks : List Str} {vs : List D} : dBlt S "len" [.dct ks vs] P = P (.int ks.length) false := rfl
theorem idx_str {z : Str} {i : Int} : dIdx S (.str z) (.int i) R = (z.length ≤ sizeLine ∧ optP (L2.atI z.cps.toList i) fun c => R (.str ⟨#[c]⟩)) := by
  apply propext
  constructor
  · rintro ⟨c, h0, h1, h2⟩; exact ⟨h0, by rw [← optP_ex]; exact ⟨c, h1, h2⟩⟩
  · rintro ⟨h0, h⟩
    rw [← optP_ex] at h
    obtain ⟨c, h1, h2⟩ := h
    exact ⟨c, h0, h1, h2⟩
theorem cmp_mem {x y : D} : dCmp .mem x y Q = dMem x y Q := rfl
theorem cmp_nmem {x y : D} : dCmp .nmem x y Q = dMem x y (fun b => Q (!b)) := rfl
theorem mem_lst {x : D} {l : List D} : dMem x (.lst l) Q = (x.eqOk = true ∧ (D.lst l).eqOk = true ∧ Q (l.any fun z => z.eq x)) := by
  cases x <;> rfl
theorem mem_tup {x : D} {l : List D} : dMem x (.tup l) Q = (x.eqOk = true ∧ (D.tup l).eqOk = true ∧ Q (l.any fun z => z.eq x)) := by
  cases x <;> rfl
theorem mem_str {x y : Str} : dMem (.str x) (.str y) Q = Q (strIn x y) := rfl
theorem eq_int {a b : Int} : D.eq (.int a) (.int b) = (a == b) := rfl
theorem eq_str {a b : Str} : D.eq (.str a) (.str b) = (a == b) := rfl
theorem ok_int {a : Int} : D.eqOk (.int a) = true := rfl
theorem ok_bl {a : Bool} : D.eqOk (.bl a) = true := rfl
theorem ok_non : D.eqOk .non = true := rfl
theorem tr_bl {b : Bool} : D.truth (.bl b) Q = Q b := rfl
theorem tr_int {b : Int} : D.truth (.int b) Q = Q (b != 0) := rfl
theorem tr_lst {b : List D} : D.truth (.lst b) Q = Q (!b.isEmpty) := rfl
theorem tr_tup {b : List D} : D.truth (.tup b) Q = Q (!b.isEmpty) := rfl
theorem tr_non : D.truth .non Q = Q false := rfl
theorem idx_tup {l : List D} {i : Int} : dIdx S (.tup l) (.int i) R = optP (L2.atI l i) R := optP_ex _ _
theorem idx_lst {l : List D} {i : Int} : dIdx S (.lst l) (.int i) R = optP (L2.atI l i) R := optP_ex _ _
theorem idx_obj {n : Nat} {i : Int} : dIdx S (.obj n) (.int i) R = optP S[n]? fun l => optP (L2.atI l i) R := by
  rw [← optP_ex]
  apply propext
  constructor
  · rintro ⟨l, d, h1, h2, h3⟩; exact ⟨l, h1, by rw [← optP_ex]; exact ⟨d, h2, h3⟩⟩
  · rintro ⟨l, h1, h2⟩
    rw [← optP_ex] at h2
    obtain ⟨d, h2, h3⟩ := h2
    exact ⟨l, d, h1, h2, h3⟩
theorem slc_tup {l : List D} {lo hi : Option Int} : dSlc (.tup l) lo hi P = P (.tup (cut l lo hi)) false := rfl
theorem slc_lst {l : List D} {lo hi : Option Int} : dSlc (.lst l) lo hi P = P (.lst (cut l lo hi)) true := rfl
theorem slc_scr {l : List Int} {lo hi : Option Int} : dSlc (.scr l) lo hi P = P (.lst ((cut l lo hi).map .int)) true := rfl
theorem len_tup {l : List D} : dBlt S "len" [.tup l] P = P (.int l.length) false := rfl
theorem len_lst {l : List D} : dBlt S "len" [.lst l] P = P (.int l.length) false := rfl
theorem len_str {s : Str} : dBlt S "len" [.str s] P = (s.length ≤ sizeLine ∧ P (.int s.length) false) := rfl
theorem blt_all {l : List D} : dBlt S "all" [.lst l] P = optP (allB l) fun bs => P (.bl (bs.all id)) false := optP_ex _ _
theorem blt_any {l : List D} : dBlt S "any" [.lst l] P = optP (allB l) fun bs => P (.bl (bs.any id)) false := optP_ex _ _
theorem blt_sum {l : List D} : dBlt S "sum" [.lst l] P = optP (allI l) fun bs => P (.int bs.sum) false := optP_ex _ _
theorem blt_tupL {l : List D} : dBlt S "tuple" [.lst l] P = P (.tup l) false := rfl
theorem blt_tupT {l : List D} : dBlt S "tuple" [.tup l] P = P (.tup l) false := rfl
theorem blt_lstL {l : List D} : dBlt S "list" [.lst l] P = P (.lst l) true := rfl
theorem blt_lstT {l : List D} : dBlt S "list" [.tup l] P = P (.lst l) true := rfl
theorem blt_lstS {l : List Int} : dBlt S "list" [.scr l] P = P (.lst (l.map .int)) true := rfl
theorem blt_int {i : Int} : dBlt S "int" [.int i] P = P (.int i) false := rfl
theorem blt_min {i j : Int} : dBlt S "min" [.int i, .int j] P = P (.int (if j < i then j else i)) false := rfl
theorem blt_max {i j : Int} : dBlt S "max" [.int i, .int j] P = P (.int (if j > i then j else i)) false := rfl
end
theorem isa_non_str : D.isA (.non) "str" = some false := rfl
theorem isa_non_int : D.isA (.non) "int" = some false := rfl
theorem isa_non_bool : D.isA (.non) "bool" = some false := rfl
theorem isa_non_tuple : D.isA (.non) "tuple" = some false := rfl
theorem isa_non_list : D.isA (.non) "list" = some false := rfl
theorem isa_non_dict : D.isA (.non) "dict" = some false := rfl
theorem isa_bl_str {b : Bool} : D.isA (.bl b) "str" = some false := rfl
theorem isa_bl_int {b : Bool} : D.isA (.bl b) "int" = some true := rfl
theorem isa_bl_bool {b : Bool} : D.isA (.bl b) "bool" = some true := rfl
theorem isa_bl_tuple {b : Bool} : D.isA (.bl b) "tuple" = some false := rfl
theorem isa_bl_list {b : Bool} : D.isA (.bl b) "list" = some false := rfl
theorem isa_bl_dict {b : Bool} : D.isA (.bl b) "dict" = some false := rfl
theorem isa_int_str {i : Int} : D.isA (.int i) "str" = some false := rfl
theorem isa_int_int {i : Int} : D.isA (.int i) "int" = some true := rfl
theorem isa_int_bool {i : Int} : D.isA (.int i) "bool" = some false := rfl
theorem isa_int_tuple {i : Int} : D.isA (.int i) "tuple" = some false := rfl
theorem isa_int_list {i : Int} : D.isA (.int i) "list" = some false := rfl
theorem isa_int_dict {i : Int} : D.isA (.int i) "dict" = some false := rfl
theorem isa_str_str {s : Str} : D.isA (.str s) "str" = some true := rfl
theorem isa_str_int {s : Str} : D.isA (.str s) "int" = some false := rfl
theorem isa_str_bool {s : Str} : D.isA (.str s) "bool" = some false := rfl
theorem isa_str_tuple {s : Str} : D.isA (.str s) "tuple" = some false := rfl
theorem isa_str_list {s : Str} : D.isA (.str s) "list" = some false := rfl
theorem isa_str_dict {s : Str} : D.isA (.str s) "dict" = some false := rfl
theorem isa_tup_str {l : List D} : D.isA (.tup l) "str" = some false := rfl
theorem isa_tup_int {l : List D} : D.isA (.tup l) "int" = some false := rfl
theorem isa_tup_bool {l : List D} : D.isA (.tup l) "bool" = some false := rfl
theorem isa_tup_tuple {l : List D} : D.isA (.tup l) "tuple" = some true := rfl
theorem isa_tup_list {l : List D} : D.isA (.tup l) "list" = some false := rfl
theorem isa_tup_dict {l : List D} : D.isA (.tup l) "dict" = some false := rfl
theorem isa_lst_str {l : List D} : D.isA (.lst l) "str" = some false := rfl
theorem isa_lst_int {l : List D} : D.isA (.lst l) "int" = some false := rfl
theorem isa_lst_bool {l : List D} : D.isA (.lst l) "bool" = some false := rfl
theorem isa_lst_tuple {l : List D} : D.isA (.lst l) "tuple" = some false := rfl
theorem isa_lst_list {l : List D} : D.isA (.lst l) "list" = some true := rfl
theorem isa_lst_dict {l : List D} : D.isA (.lst l) "dict" = some false := rfl
theorem sz0 : (0 ≤ sizeLine) = True := eq_true (by decide)
theorem sz1 : (1 ≤ sizeLine) = True := eq_true (by decide)
theorem sz2 : (2 ≤ sizeLine) = True := eq_true (by decide)
theorem sz3 : (3 ≤ sizeLine) = True := eq_true (by decide)
theorem sz4 : (4 ≤ sizeLine) = True := eq_true (by decide)
theorem sz5 : (5 ≤ sizeLine) = True := eq_true (by decide)
theorem sz6 : (6 ≤ sizeLine) = True := eq_true (by decide)
theorem sz7 : (7 ≤ sizeLine) = True := eq_true (by decide)
theorem sz8 : (8 ≤ sizeLine) = True := eq_true (by decide)
theorem sz9 : (9 ≤ sizeLine) = True := eq_true (by decide)
theorem nc0 : ((0 : Nat) : Int) = 0 := rfl
theorem nc1 : ((1 : Nat) : Int) = 1 := rfl
theorem nc2 : ((2 : Nat) : Int) = 2 := rfl
theorem nc3 : ((3 : Nat) : Int) = 3 := rfl
theorem nc4 : ((4 : Nat) : Int) = 4 := rfl
theorem nc5 : ((5 : Nat) : Int) = 5 := rfl
theorem nc6 : ((6 : Nat) : Int) = 6 := rfl
theorem nc7 : ((7 : Nat) : Int) = 7 := rfl
theorem nc8 : ((8 : Nat) : Int) = 8 := rfl
theorem nc9 : ((9 : Nat) : Int) = 9 := rfl
theorem isN_non : D.isNon (.non) = true := rfl
theorem isN_bl {b : Bool} : D.isNon (.bl b) = false := rfl
theorem isN_int {i : Int} : D.isNon (.int i) = false := rfl
theorem isN_str {s : Str} : D.isNon (.str s) = false := rfl
theorem isN_tup {l : List D} : D.isNon (.tup l) = false := rfl
theorem isN_lst {l : List D} : D.isNon (.lst l) = false := rfl
/-! places, parts -/
theorem at0 {α : Type} (a : α) (l : List α) : L2.atI (a :: l) 0 = some a := by
  have := L2.atI_nat (xs := a :: l) (j := 0) (v := a) rfl
  exact this
theorem at1 {α : Type} (a b : α) (l : List α) : L2.atI (a :: b :: l) 1 = some b := L2.atI_nat (xs := a :: b :: l) (j := 1) (v := b) rfl
theorem at2 {α : Type} (a b c : α) (l : List α) : L2.atI (a :: b :: c :: l) 2 = some c := L2.atI_nat (xs := a :: b :: c :: l) (j := 2) (v := c) rfl
theorem at3 {α : Type} (a b c d : α) (l : List α) : L2.atI (a :: b :: c :: d :: l) 3 = some d := L2.atI_nat (xs := a :: b :: c :: d :: l) (j := 3) (v := d) rfl
theorem at4 {α : Type} (a b c d e : α) (l : List α) : L2.atI (a :: b :: c :: d :: e :: l) 4 = some e := L2.atI_nat (xs := a :: b :: c :: d :: e :: l) (j := 4) (v := e) rfl
theorem atN {α : Type} {l : List α} {j : Nat} {v : α} (h : l[j]? = some v) : L2.atI l (j : Int) = some v := L2.atI_nat h
theorem cut_hi {α : Type} (l : List α) (n : Nat) (h : n ≤ l.length) : cut l none (some (n : Int)) = l.take n := by
  unfold cut
  rw [HT.sIx_none, HT.sIx_nat, Nat.min_eq_left h]; simp
theorem cut_lo {α : Type} (l : List α) (n : Nat) (h : n ≤ l.length) : cut l (some (n : Int)) none = l.drop n := by
  unfold cut
  rw [HT.sIx_none, HT.sIx_nat, Nat.min_eq_left h]
  rw [List.take_of_length_le (by simp)]
theorem sizeL : sizeLine = 16777216 := rfl
/-! what is walked, statements -/
def intP (x : D) (P : Int → Prop) : Prop := match x with
  | .int i => P i
  | _ => False
theorem intP_int {i : Int} {P : Int → Prop} : intP (.int i) P = P i := rfl
theorem intP_ex {x : D} {P : Int → Prop} : (∃ i, x = .int i ∧ P i) = intP x P := by
  cases x <;> simp [intP]
def rngP (x y : D) (P : List D → Prop) : Prop := intP x fun i => intP y fun j => lim62 i ∧ lim62 j ∧ P (rngList i (j - i).toNat)
theorem rngP_int {i j : Int} {P : List D → Prop} : rngP (.int i) (.int j) P = (lim62 i ∧ lim62 j ∧ P (rngList i (j - i).toNat)) := rfl
def seqP (x : D) (P : List D → Prop) : Prop := match x with
  | .tup l => P l
  | .lst l => P l
  | .scr l => P (l.map .int)
  | .str z => P (z.cps.toList.map fun c => .str ⟨#[c]⟩)
  | _ => False
theorem seqP_tup {l : List D} {P : List D → Prop} : seqP (.tup l) P = P l := rfl
theorem seqP_lst {l : List D} {P : List D → Prop} : seqP (.lst l) P = P l := rfl
theorem seqP_scr {l : List Int} {P : List D → Prop} : seqP (.scr l) P = P (l.map .int) := rfl
theorem seqP_str {z : Str} {P : List D → Prop} : seqP (.str z) P = P (z.cps.toList.map fun c => .str ⟨#[c]⟩) := rfl
def zipP (x y : D) (P : List D → Prop) : Prop := match x, y with
  | .tup l, .tup m => l.length = m.length ∧ P (List.zipWith (fun u v => .tup [u, v]) l m)
  | .lst l, .lst m => l.length = m.length ∧ P (List.zipWith (fun u v => .tup [u, v]) l m)
  | _, _ => False
theorem zipP_tup {l m : List D} {P : List D → Prop} : zipP (.tup l) (.tup m) P = (l.length = m.length ∧ P (List.zipWith (fun u v => .tup [u, v]) l m)) := rfl
theorem zipP_lst {l m : List D} {P : List D → Prop} : zipP (.lst l) (.lst m) P = (l.length = m.length ∧ P (List.zipWith (fun u v => .tup [u, v]) l m)) := rfl
section
variable {C : Calls} {L : Lo} {S : Sto}
theorem wE_neg' {a : IE} {P : KE} : wE C (.neg a) L S P = pk a (wE C a) L S fun x L1 S1 => intP x fun i => P (.int (-i)) false L1 S1 := by
  show pk a (wE C a) L S _ = _
  congr 1; funext x L1 S1; exact intP_ex
theorem wEo_no {P : Option Int → Lo → Sto → Prop} : wEo C .no L S P = P none L S := rfl
theorem wEo_so {e : IE} {P : Option Int → Lo → Sto → Prop} : wEo C (.so e) L S P = pk e (wE C e) L S fun x L1 S1 => intP x fun i => P (some i) L1 S1 := by
  simp only [wEo, ← intP_ex]
theorem wI_seq {e : IE} {P : List D → Lo → Sto → Prop} : wI C (.seq e) L S P = wE C e L S fun x _ L1 S1 => seqP x fun ds => P ds L1 S1 := by
  show wE C e L S _ = wE C e L S _
  congr 1
  first | done | (funext x _ L1 S1; cases x <;> rfl)
theorem wI_rng {a b : IE} {P : List D → Lo → Sto → Prop} : wI C (.rng a b) L S P = wE C a L S fun x _ L1 S1 => wE C b L1 S1 fun y _ L2 S2 => rngP x y fun ds => P ds L2 S2 := by
  show wE C a L S _ = _
  congr 1; funext x _ L1 S1; congr 1; funext y _ L2 S2
  cases x <;> cases y <;> simp [rngP, intP]
theorem wI_zip {a b : IE} {P : List D → Lo → Sto → Prop} : wI C (.zip a b) L S P = wE C a L S fun x _ L1 S1 => wE C b L1 S1 fun y _ L2 S2 => zipP x y fun ds => P ds L2 S2 := by
  show wE C a L S _ = wE C a L S _
  congr 1
  first | done | (funext x _ L1 S1; congr 1; first | done | (funext y _ L2 S2; cases x <;> cases y <;> rfl))
def wkP (o : Option Sl) (i : Nat) (L : Lo) (S : Sto) (P : List D → Lo → Sto → Prop) : Prop := match o with
  | some (.val (.tup l)) => P l L S
  | some (.val (.lst l)) => P l L S
  | some (.own (.lst l)) => P l (L.set i (.val (.lst l))) S
  | some (.val (.dct ks _)) => P (ks.map .str) L S
  | some (.own (.dct ks vs)) => P (ks.map .str) (L.set i (.val (.dct ks vs))) S
  | _ => False
theorem wI_wk {i : Nat} {P : List D → Lo → Sto → Prop} : wI C (.wk i) L S P = wkP L[i]? i L S P := rfl
theorem wkP_tup {l : List D} {i : Nat} {P : List D → Lo → Sto → Prop} : wkP (some (.val (.tup l))) i L S P = P l L S := rfl
theorem wkP_lst {l : List D} {i : Nat} {P : List D → Lo → Sto → Prop} : wkP (some (.val (.lst l))) i L S P = P l L S := rfl
theorem wkP_lstO {l : List D} {i : Nat} {P : List D → Lo → Sto → Prop} : wkP (some (.own (.lst l))) i L S P = P l (L.set i (.val (.lst l))) S := rfl
theorem wkP_dct {ks : List Str} {vs : List D} {i : Nat} {P : List D → Lo → Sto → Prop} : wkP (some (.val (.dct ks vs))) i L S P = P (ks.map .str) L S := rfl
theorem wkP_dctO {ks : List Str} {vs : List D} {i : Nat} {P : List D → Lo → Sto → Prop} : wkP (some (.own (.dct ks vs))) i L S P = P (ks.map .str) (L.set i (.val (.dct ks vs))) S := rfl
def ownL (o : Option Sl) (P : List D → Prop) : Prop := match o with
  | some (.own (.lst l)) => P l
  | _ => False
theorem ownL_own {l : List D} {P : List D → Prop} : ownL (some (.own (.lst l))) P = P l := rfl
theorem ownL_ex {o : Option Sl} {P : List D → Prop} : (∃ l, o = some (.own (.lst l)) ∧ P l) = ownL o P := by
  apply propext
  constructor
  · rintro ⟨l, rfl, h⟩; exact h
  · intro h
    unfold ownL at h
    split at h
    · exact ⟨_, rfl, h⟩
    · exact h.elim
theorem wS_asg {t : IT} {e : IE} {Z : Ends} : wS C (.asg t e) L S Z = wE C e L S fun d f L1 S1 => asgF t d f L1 fun L2 => Z.nx L2 S1 := rfl
theorem wS_par {i j : Nat} {a b : IE} {Z : Ends} : wS C (.par i j a b) L S Z = wE C a L S fun x f L1 S1 => wE C b L1 S1 fun y g L2 S2 => Z.nx ((L2.set i (flag f x)).set j (flag g y)) S2 := rfl
theorem wS_app {i : Nat} {e : IE} {Z : Ends} : wS C (.app i e) L S Z = ownL L[i]? fun _ => wE C e L S fun d _ L1 S1 => ownL L1[i]? fun l => l.length < sizeLine ∧ Z.nx (L1.set i (.own (.lst (l ++ [d])))) S1 := by
  rw [← ownL_ex]
  simp only [wS, ← ownL_ex]
  apply propext
  constructor
  · rintro ⟨⟨l, h1⟩, h2⟩; exact ⟨l, h1, h2⟩
  · rintro ⟨l, h1, h2⟩; exact ⟨⟨l, h1⟩, h2⟩
def lstP (d : D) (P : List D → Prop) : Prop := match d with
  | .lst m => P m
  | _ => False
theorem lstP_lst {m : List D} {P : List D → Prop} : lstP (.lst m) P = P m := rfl
theorem wS_ext {i : Nat} {e : IE} {Z : Ends} : wS C (.ext i e) L S Z = ownL L[i]? fun _ => wE C e L S fun d _ L1 S1 => ownL L1[i]? fun l => lstP d fun m => l.length + m.length ≤ sizeLine ∧ Z.nx (L1.set i (.own (.lst (l ++ m)))) S1 := by
  rw [← ownL_ex]
  simp only [wS, ← ownL_ex]
  have e1 : ∀ (d : D) (L1 : Lo) (S1 : Sto), (∃ l m, L1[i]? = some (Sl.own (D.lst l)) ∧ d = D.lst m ∧ l.length + m.length ≤ sizeLine ∧ Z.nx (L1.set i (.own (.lst (l ++ m)))) S1) = ∃ l, L1[i]? = some (Sl.own (D.lst l)) ∧ lstP d fun m => l.length + m.length ≤ sizeLine ∧ Z.nx (L1.set i (.own (.lst (l ++ m)))) S1 := fun d L1 S1 => by
    apply propext
    constructor
    · rintro ⟨l, m, h1, rfl, h2⟩; exact ⟨l, h1, h2⟩
    · rintro ⟨l, h1, h2⟩
      cases d <;> first | exact ⟨l, _, h1, rfl, h2⟩ | exact h2.elim
  simp only [e1]
  apply propext
  constructor
  · rintro ⟨⟨l, h1⟩, h2⟩; exact ⟨l, h1, h2⟩
  · rintro ⟨l, h1, h2⟩; exact ⟨⟨l, h1⟩, h2⟩
theorem wS_pop {t : IT} {i : Nat} {Z : Ends} : wS C (.pop t i) L S Z = ownL L[i]? fun l => optP l[l.length - 1]? fun d => wG t d (L.set i (.own (.lst l.dropLast))) fun L2 => Z.nx L2 S := by
  rw [← ownL_ex]
  simp only [wS, ← optP_ex]
  apply propext
  constructor
  · rintro ⟨l, d, h1, h2, h3⟩; exact ⟨l, h1, d, h2, h3⟩
  · rintro ⟨l, h1, d, h2, h3⟩; exact ⟨l, d, h1, h2, h3⟩
def augP (op : BO) (x y : D) (P : D → Prop) : Prop := match x, y with
  | .int _, .int _ => dBin op x y fun r _ => P r
  | .str _, .str _ => dBin op x y fun r _ => P r
  | _, _ => False
theorem augP_int {op : BO} {i j : Int} {P : D → Prop} : augP op (.int i) (.int j) P = dBin op (.int i) (.int j) fun r _ => P r := rfl
theorem augP_str {op : BO} {i j : Str} {P : D → Prop} : augP op (.str i) (.str j) P = dBin op (.str i) (.str j) fun r _ => P r := rfl
def valP (o : Option Sl) (P : D → Prop) : Prop := match o with
  | some (.val d) => P d
  | _ => False
theorem valP_val {d : D} {P : D → Prop} : valP (some (.val d)) P = P d := rfl
theorem valP_ex {o : Option Sl} {P : D → Prop} : (∃ l, o = some (.val l) ∧ P l) = valP o P := by
  apply propext
  constructor
  · rintro ⟨l, rfl, h⟩; exact h
  · intro h
    unfold valP at h
    split at h
    · exact ⟨_, rfl, h⟩
    · exact h.elim
theorem wS_aug {i : Nat} {op : BO} {e : IE} {Z : Ends} : wS C (.aug i op e) L S Z = valP L[i]? fun x => wE C e L S fun y _ L1 S1 => augP op x y fun r => Z.nx (L1.set i (.val r)) S1 := by
  rw [← valP_ex]
  simp only [wS]
  congr 1
  first | done | (funext x; congr 1; first | done | (congr 1; first | done | (funext y _ L1 S1; cases x <;> cases y <;> rfl)))
theorem ix51 : L2.ixN 5 1 = some 1 := by decide
theorem ix52 : L2.ixN 5 2 = some 2 := by decide
theorem ix53 : L2.ixN 5 3 = some 3 := by decide
def setP (o : Option Sl) (i : Nat) (y : D) (d : D) (L : Lo) (S : Sto) (P : Lo → Sto → Prop) : Prop := match o, y with
  | some (.val (.obj n)), .int z => optP S[n]? fun l => optP (L2.ixN l.length z) fun j => P L (S.set n (l.set j d))
  | some (.own (.lst l)), .int z => optP (L2.ixN l.length z) fun j => P (L.set i (.own (.lst (l.set j d)))) S
  | some (.own (.dct ks vs)), .str k => (ks.length = vs.length ∧ ks.length < sizeLine) ∧ P (L.set i (.own (.dct (putKs ks k) (putVs ks vs k d)))) S
  | _, _ => False
theorem setP_obj {n i : Nat} {z : Int} {d : D} {P : Lo → Sto → Prop} : setP (some (.val (.obj n))) i (.int z) d L S P = optP S[n]? fun l => optP (L2.ixN l.length z) fun j => P L (S.set n (l.set j d)) := rfl
theorem setP_own {l : List D} {i : Nat} {z : Int} {d : D} {P : Lo → Sto → Prop} : setP (some (.own (.lst l))) i (.int z) d L S P = optP (L2.ixN l.length z) fun j => P (L.set i (.own (.lst (l.set j d)))) S := rfl
theorem setP_dct {ks : List Str} {vs : List D} {i : Nat} {k : Str} {d : D} {P : Lo → Sto → Prop} : setP (some (.own (.dct ks vs))) i (.str k) d L S P = ((ks.length = vs.length ∧ ks.length < sizeLine) ∧ P (L.set i (.own (.dct (putKs ks k) (putVs ks vs k d)))) S) := rfl
def hasP (o : Option Sl) (Q : Prop) : Prop := match o with
  | some (.val _) => Q
  | some (.own _) => Q
  | _ => False
theorem hasP_val {d : D} {Q : Prop} : hasP (some (.val d)) Q = Q := rfl
theorem hasP_own {d : D} {Q : Prop} : hasP (some (.own d)) Q = Q := rfl
theorem wS_setI {i : Nat} {k e : IE} {Z : Ends} : wS C (.setI i k e) L S Z = hasP L[i]? (wE C e L S fun d _ L1 S1 => pk k (wE C k) L1 S1 fun y L3 S3 => setP L3[i]? i y d L3 S3 Z.nx) := by
  have e1 : ∀ (Q : Prop), ((∃ d, L[i]? = some (.own d) ∨ L[i]? = some (.val d)) ∧ Q) = hasP L[i]? Q := fun Q => by
    apply propext
    cases h : L[i]? with
    | none => simp [hasP]
    | some s => cases s <;> simp [hasP]
  rw [← e1]
  simp only [wS]
  congr 1; congr 1; funext d _ L1 S1; congr 1; funext y L3 S3
  cases h : L3[i]? with
  | none => rfl
  | some s =>
    cases s with
    | no => rfl
    | val x =>
      cases x <;> try rfl
      cases y <;> try rfl
      simp only [setP, ← optP_ex]
      apply propext
      constructor
      · rintro ⟨l, j, h1, h2, h3⟩; exact ⟨l, h1, j, h2, h3⟩
      · rintro ⟨l, h1, j, h2, h3⟩; exact ⟨l, j, h1, h2, h3⟩
    | own x =>
      cases x <;> try rfl
      all_goals
        cases y <;> try rfl
      simp only [setP, ← optP_ex]
theorem wS_asg2 {i j : Nat} {e : IE} {Z : Ends} : wS C (.asg2 i j e) L S Z = wE C e L S fun d _ L1 S1 => Z.nx ((L1.set i (.val d)).set j (.val d)) S1 := rfl
theorem wS_expr {e : IE} {Z : Ends} : wS C (.expr e) L S Z = wE C e L S fun _ _ L1 S1 => Z.nx L1 S1 := rfl
theorem wS_ret {e : IE} {Z : Ends} : wS C (.ret e) L S Z = wE C e L S fun d _ _ S1 => Z.rt d S1 := rfl
theorem wS_ifs {c : IC} {a b : ISs} {Z : Ends} : wS C (.ifs c a b) L S Z = wT C c L S fun k L1 S1 => if k = true then wSs C a L1 S1 Z else wSs C b L1 S1 Z := rfl
theorem wS_whl {c : IC} {a : ISs} {Z : Ends} : wS C (.whl c a) L S Z = whlL (wT C c) (wSs C a) Z L S := rfl
theorem wS_fors {t : IT} {src : II} {a : ISs} {Z : Ends} : wS C (.fors t src a) L S Z = wI C src L S fun ds L1 S1 => forL (wG t) (wSs C a) Z ds L1 S1 := rfl
theorem wS_cont {Z : Ends} : wS C .cont L S Z = Z.ct L S := rfl
theorem wS_brk {Z : Ends} : wS C .brk L S Z = Z.bk L S := rfl
theorem wS_pass {Z : Ends} : wS C .pass L S Z = Z.nx L S := rfl
theorem asg_nmT {i : Nat} {d : D} {P : Lo → Prop} : asgF (.nm i) d true L P = P (L.set i (.own d)) := rfl
theorem asg_nmF {i : Nat} {d : D} {P : Lo → Prop} : asgF (.nm i) d false L P = P (L.set i (.val d)) := rfl
def tupP (d : D) (P : List D → Prop) : Prop := match d with
  | .tup l => P l
  | _ => False
theorem tupP_tup {l : List D} {P : List D → Prop} : tupP (.tup l) P = P l := rfl
theorem asg_tp {ts : List IT} {d : D} {f : Bool} {P : Lo → Prop} : asgF (.tp ts) d f L P = tupP d fun ds => wG.wGs ts ds L P := by
  show (∃ ds, d = .tup ds ∧ wG.wGs ts ds L P) = _
  cases d <;> simp [tupP]
theorem g_nm {i : Nat} {d : D} {P : Lo → Prop} : wG (.nm i) d L P = P (L.set i (.val d)) := rfl
theorem g_tp {ts : List IT} {d : D} {P : Lo → Prop} : wG (.tp ts) d L P = tupP d fun ds => wG.wGs ts ds L P := by
  show (∃ ds, d = .tup ds ∧ wG.wGs ts ds L P) = _
  cases d <;> simp [tupP]
theorem gs_nil {P : Lo → Prop} : wG.wGs [] [] L P = P L := rfl
theorem gs_cons {t : IT} {ts : List IT} {d : D} {ds : List D} {P : Lo → Prop} : wG.wGs (t :: ts) (d :: ds) L P = wG t d L fun L1 => wG.wGs ts ds L1 P := rfl
end
section
variable {C : Calls} {L : Lo} {S : Sto}
theorem wT_not {a : IC} {P : KT} : wT C (.not a) L S P = wT C a L S fun b L1 S1 => P (!b) L1 S1 := rfl
theorem wT_and {a b : IC} {P : KT} : wT C (.and a b) L S P = wT C a L S fun k L1 S1 => if k = true then wT C b L1 S1 P else P false L1 S1 := rfl
theorem wT_or {a b : IC} {P : KT} : wT C (.or a b) L S P = wT C a L S fun k L1 S1 => if k = true then P true L1 S1 else wT C b L1 S1 P := rfl
theorem wT_cmp {op : CO} {a b : IE} {P : KT} : wT C (.cmp op a b) L S P = pk a (wE C a) L S fun x L1 S1 => pk b (wE C b) L1 S1 fun y L2 S2 => dCmp op x y fun k => P k L2 S2 := rfl
theorem wT_chain {o1 o2 : CO} {a b c : IE} {P : KT} : wT C (.chain o1 o2 a b c) L S P = pk a (wE C a) L S fun x L1 S1 => pk b (wE C b) L1 S1 fun y L2 S2 => dCmp o1 x y fun k =>
      if k = true then pk c (wE C c) L2 S2 fun z L3 S3 => dCmp o2 y z fun k2 => P k2 L3 S3 else P false L2 S2 := rfl
theorem wT_yes {P : KT} : wT C .yes L S P = P true L S := rfl
theorem wT_v {e : IE} {P : KT} : wT C (.v e) L S P = pk e (wE C e) L S fun x L1 S1 => x.truth fun k => P k L1 S1 := rfl
theorem wSs_nil {Z : Ends} : wSs C .nil L S Z = Z.nx L S := rfl
theorem wSs_cons {s : IS} {r : ISs} {Z : Ends} : wSs C (.cons s r) L S Z = wS C s L S { Z with nx := fun L1 S1 => wSs C r L1 S1 Z } := rfl
theorem wEs_nil {P : List D → Lo → Sto → Prop} : wEs C .nil L S P = P [] L S := rfl
theorem wEs_cons {e : IE} {r : IEs} {P : List D → Lo → Sto → Prop} : wEs C (.cons e r) L S P = wE C e L S fun d _ L1 S1 => wEs C r L1 S1 fun ds L2 S2 => P (d :: ds) L2 S2 := rfl
theorem wPs_nil {P : List D → Lo → Sto → Prop} : wPs C .nil L S P = P [] L S := rfl
theorem wPs_cons {e : IE} {r : IEs} {P : List D → Lo → Sto → Prop} : wPs C (.cons e r) L S P = pk e (wE C e) L S fun d L1 S1 => wPs C r L1 S1 fun ds L2 S2 => P (d :: ds) L2 S2 := rfl
end

/-! arguments of a call -/
section
variable {C : Calls} {L : Lo} {S : Sto} {bs : List Nat} {r : IEs} {P : List D → List Nat → Lo → Sto → Prop}
def locA (o : Option Sl) (i : Nat) (bs : List Nat) (P : D → List Nat → Prop) : Prop := match o with
  | some (.val d) => P d bs
  | some (.own d) => P d (i :: bs)
  | _ => False
theorem locA_val {d : D} {i : Nat} {P : D → List Nat → Prop} : locA (some (.val d)) i bs P = P d bs := rfl
theorem locA_own {d : D} {i : Nat} {P : D → List Nat → Prop} : locA (some (.own d)) i bs P = P d (i :: bs) := rfl
theorem wAs_nil : wAs C .nil L S bs P = P [] bs L S := by rw [wAs]
theorem wAs_loc {i : Nat} : wAs C (.cons (.loc i) r) L S bs P = locA L[i]? i bs fun d b1 => wAs C r L S b1 fun ds bs' L2 S2 => P (d :: ds) bs' L2 S2 := by
  rw [wAs]; unfold locA; rcases L[i]? with _ | _ | _ | _ <;> rfl
theorem wAs_cst {d : D} : wAs C (.cons (.cst d) r) L S bs P = wE C (.cst d) L S fun d _ L1 S1 => wAs C r L1 S1 bs fun ds bs' L2 S2 => P (d :: ds) bs' L2 S2 := by rw [wAs]; exact fun _ h => by cases h
theorem wAs_bin {op : BO} {a b : IE} : wAs C (.cons (.bin op a b) r) L S bs P = wE C (.bin op a b) L S fun d _ L1 S1 => wAs C r L1 S1 bs fun ds bs' L2 S2 => P (d :: ds) bs' L2 S2 := by rw [wAs]; exact fun _ h => by cases h
theorem wAs_neg {a : IE} : wAs C (.cons (.neg a) r) L S bs P = wE C (.neg a) L S fun d _ L1 S1 => wAs C r L1 S1 bs fun ds bs' L2 S2 => P (d :: ds) bs' L2 S2 := by rw [wAs]; exact fun _ h => by cases h
theorem wAs_not {a : IE} : wAs C (.cons (.not a) r) L S bs P = wE C (.not a) L S fun d _ L1 S1 => wAs C r L1 S1 bs fun ds bs' L2 S2 => P (d :: ds) bs' L2 S2 := by rw [wAs]; exact fun _ h => by cases h
theorem wAs_and {a b : IE} : wAs C (.cons (.and a b) r) L S bs P = wE C (.and a b) L S fun d _ L1 S1 => wAs C r L1 S1 bs fun ds bs' L2 S2 => P (d :: ds) bs' L2 S2 := by rw [wAs]; exact fun _ h => by cases h
theorem wAs_or {a b : IE} : wAs C (.cons (.or a b) r) L S bs P = wE C (.or a b) L S fun d _ L1 S1 => wAs C r L1 S1 bs fun ds bs' L2 S2 => P (d :: ds) bs' L2 S2 := by rw [wAs]; exact fun _ h => by cases h
theorem wAs_ite {c : IC} {a b : IE} : wAs C (.cons (.ite c a b) r) L S bs P = wE C (.ite c a b) L S fun d _ L1 S1 => wAs C r L1 S1 bs fun ds bs' L2 S2 => P (d :: ds) bs' L2 S2 := by rw [wAs]; exact fun _ h => by cases h
theorem wAs_cmp {op : CO} {a b : IE} : wAs C (.cons (.cmp op a b) r) L S bs P = wE C (.cmp op a b) L S fun d _ L1 S1 => wAs C r L1 S1 bs fun ds bs' L2 S2 => P (d :: ds) bs' L2 S2 := by rw [wAs]; exact fun _ h => by cases h
theorem wAs_chain {o1 o2 : CO} {a b c : IE} : wAs C (.cons (.chain o1 o2 a b c) r) L S bs P = wE C (.chain o1 o2 a b c) L S fun d _ L1 S1 => wAs C r L1 S1 bs fun ds bs' L2 S2 => P (d :: ds) bs' L2 S2 := by rw [wAs]; exact fun _ h => by cases h
theorem wAs_tup {l : IEs} : wAs C (.cons (.tup l) r) L S bs P = wE C (.tup l) L S fun d _ L1 S1 => wAs C r L1 S1 bs fun ds bs' L2 S2 => P (d :: ds) bs' L2 S2 := by rw [wAs]; exact fun _ h => by cases h
theorem wAs_lst {l : IEs} : wAs C (.cons (.lst l) r) L S bs P = wE C (.lst l) L S fun d _ L1 S1 => wAs C r L1 S1 bs fun ds bs' L2 S2 => P (d :: ds) bs' L2 S2 := by rw [wAs]; exact fun _ h => by cases h
theorem wAs_new {l : IEs} : wAs C (.cons (.new l) r) L S bs P = wE C (.new l) L S fun d _ L1 S1 => wAs C r L1 S1 bs fun ds bs' L2 S2 => P (d :: ds) bs' L2 S2 := by rw [wAs]; exact fun _ h => by cases h
theorem wAs_idx {a b : IE} : wAs C (.cons (.idx a b) r) L S bs P = wE C (.idx a b) L S fun d _ L1 S1 => wAs C r L1 S1 bs fun ds bs' L2 S2 => P (d :: ds) bs' L2 S2 := by rw [wAs]; exact fun _ h => by cases h
theorem wAs_slcE {a : IE} {l h : IEo} : wAs C (.cons (.slcE a l h) r) L S bs P = wE C (.slcE a l h) L S fun d _ L1 S1 => wAs C r L1 S1 bs fun ds bs' L2 S2 => P (d :: ds) bs' L2 S2 := by rw [wAs]; exact fun _ h => by cases h
theorem wAs_call {f : Str} {l : IEs} : wAs C (.cons (.call f l) r) L S bs P = wE C (.call f l) L S fun d _ L1 S1 => wAs C r L1 S1 bs fun ds bs' L2 S2 => P (d :: ds) bs' L2 S2 := by rw [wAs]; exact fun _ h => by cases h
theorem wAs_blt {f : String} {l : IEs} : wAs C (.cons (.blt f l) r) L S bs P = wE C (.blt f l) L S fun d _ L1 S1 => wAs C r L1 S1 bs fun ds bs' L2 S2 => P (d :: ds) bs' L2 S2 := by rw [wAs]; exact fun _ h => by cases h
theorem wAs_isa {a : IE} {f : String} : wAs C (.cons (.isa a f) r) L S bs P = wE C (.isa a f) L S fun d _ L1 S1 => wAs C r L1 S1 bs fun ds bs' L2 S2 => P (d :: ds) bs' L2 S2 := by rw [wAs]; exact fun _ h => by cases h
theorem wAs_comp {e : IE} {t' : IT} {src : II} {c : IC} {own : List Nat} : wAs C (.cons (.comp e t' src c own) r) L S bs P = wE C (.comp e t' src c own) L S fun d _ L1 S1 => wAs C r L1 S1 bs fun ds bs' L2 S2 => P (d :: ds) bs' L2 S2 := by rw [wAs]; exact fun _ h => by cases h
theorem wAs_comp2 {e : IE} {t1 t2 : IT} {s1 s2 : II} {own : List Nat} : wAs C (.cons (.comp2 e t1 s1 t2 s2 own) r) L S bs P = wE C (.comp2 e t1 s1 t2 s2 own) L S fun d _ L1 S1 => wAs C r L1 S1 bs fun ds bs' L2 S2 => P (d :: ds) bs' L2 S2 := by rw [wAs]; exact fun _ h => by cases h
theorem wAs_dct {ks : List Str} {l : IEs} : wAs C (.cons (.dct ks l) r) L S bs P = wE C (.dct ks l) L S fun d _ L1 S1 => wAs C r L1 S1 bs fun ds bs' L2 S2 => P (d :: ds) bs' L2 S2 := by rw [wAs]; exact fun _ h => by cases h
theorem wAs_dcomp {k v : IE} {t' : IT} {src : II} {c : IC} {own : List Nat} : wAs C (.cons (.dcomp k v t' src c own) r) L S bs P = wE C (.dcomp k v t' src c own) L S fun d _ L1 S1 => wAs C r L1 S1 bs fun ds bs' L2 S2 => P (d :: ds) bs' L2 S2 := by rw [wAs]; exact fun _ h => by cases h
end

end Q
local macro_rules
  | `(tactic| simp_arith only [$xs,*] $[$l]?) => `(tactic| simp only [$xs,*, ↓reduceIte, Q.wSs_nil, Q.wSs_cons, Q.wS_asg, Q.wS_par, Q.wS_app, Q.wS_ext, Q.wS_pop, Q.wS_aug, Q.wS_setI, Q.wS_expr, Q.wS_ret, Q.wS_ifs, Q.wS_fors, Q.wS_cont, Q.wS_brk, Q.wS_pass, Q.asg_nmT, Q.asg_nmF, Q.asg_tp, Q.tupP_tup, Q.g_nm, Q.g_tp, Q.gs_nil, Q.gs_cons, Q.setP_obj, Q.str_lit, String.reduceBEq, Q.setP_dct, Q.wS_asg2, Q.wE_dct, Q.wE_dcomp, Q.pk_dct, Q.pk_dcomp, Q.cmp_isb, Q.cmp_isnb, Q.cmp_gts, Q.cmp_lts, Q.cmp_les, Q.mem_dct, Q.isB_non, Q.isB_bl, Q.isB_tup, Q.isB_str, Q.mul_tup, Q.idx_dct, Q.idx_str, Q.blt_min2L, Q.blt_max2L,  Q.blt_dctD, Q.blt_lstD, Q.len_dct, Q.wI_wk, Q.wkP_tup, Q.wkP_lst, Q.wkP_lstO, Q.wkP_dct, Q.wkP_dctO, Q.setP_own, Q.hasP_val, Q.hasP_own, Q.valP_val, Q.augP_int, Q.augP_str, Q.lstP_lst, Q.ownL_own, Q.wI_seq, Q.wI_rng, Q.wI_zip, Q.wEo_no, Q.wEo_so, Q.wE_neg', Q.zipP_tup, Q.zipP_lst, Q.seqP_tup, Q.seqP_lst, Q.seqP_scr, Q.seqP_str, Q.rngP_int, Q.intP_int, Q.sz0, Q.sz1, Q.sz2, Q.sz3, Q.sz4, Q.sz5, Q.sz6, Q.sz7, Q.sz8, Q.sz9, Q.nc0, Q.nc1, Q.nc2, Q.nc3, Q.nc4, Q.nc5, Q.nc6, Q.nc7, Q.nc8, Q.nc9, Q.isN_non, Q.isN_bl, Q.isN_int, Q.isN_str, Q.isN_tup, Q.isN_lst, Int.reduceBEq, Int.reduceBNe, Int.reduceLT, Int.reduceLE, decide_true, decide_false, Bool.or_self, Bool.and_self, eq_self, decide_eq_true_eq, Q.ix51, Q.ix52, Q.ix53,  Q.wE_loc, Q.wE_cst, Q.wE_bin, Q.wE_not, Q.wE_and, Q.wE_or, Q.wE_ite, Q.wE_cmp, Q.wE_chain, Q.wE_tup, Q.wE_lst, Q.wE_new, Q.wE_idx, Q.wE_slcE, Q.wE_call, Q.wE_blt, Q.wE_isa, Q.wE_comp, Q.wE_comp2, Q.pk_loc, Q.pk_cst, Q.pk_bin, Q.pk_neg, Q.pk_not, Q.pk_and, Q.pk_or, Q.pk_ite, Q.pk_cmp, Q.pk_chain, Q.pk_tup, Q.pk_lst, Q.pk_new, Q.pk_idx, Q.pk_slcE, Q.pk_call, Q.pk_blt, Q.pk_isa, Q.pk_comp, Q.pk_comp2, Q.add_int, Q.add_str, Q.add_tup, Q.add_lst, Q.sub_int, Q.mul_int, Q.fdiv_int, Q.mod_int, Q.pow_int, Q.cmp_eq, Q.cmp_ne, Q.cmp_lt, Q.cmp_gt, Q.cmp_le, Q.cmp_ge, Q.cmp_is, Q.cmp_isn, Q.cmp_mem, Q.cmp_nmem, Q.mem_lst, Q.mem_tup, Q.mem_str, Q.eqQ_str, Q.eqQ_int, Q.eqQ_bl, Q.eq_bl, Q.eq_int, Q.eq_str, Q.ok_int, Q.ok_bl, Q.ok_non, Q.tr_bl, Q.tr_int, Q.tr_lst, Q.tr_tup, Q.tr_non, Q.idx_tup, Q.idx_lst, Q.idx_obj, Q.slc_tup, Q.slc_lst, Q.slc_scr, Q.len_tup, Q.len_lst, Q.len_str, Q.blt_all, Q.blt_any, Q.blt_sum, Q.blt_tupL, Q.blt_tupT, Q.blt_lstL, Q.blt_lstT, Q.blt_lstS, Q.blt_int, Q.blt_min, Q.blt_max, Q.at0, Q.at1, Q.at2, Q.at3, Q.at4, Q.optP_some, Q.locE_val, Q.locE_own, Q.locP_val, Q.locP_own, Q.wEs_nil, Q.wEs_cons, Q.wPs_nil, Q.wPs_cons, Q.wAs_nil, Q.wAs_loc, Q.locA_val, Q.locA_own, Q.wAs_cst, Q.wAs_bin, Q.wAs_neg, Q.wAs_not, Q.wAs_and, Q.wAs_or, Q.wAs_ite, Q.wAs_cmp, Q.wAs_chain, Q.wAs_tup, Q.wAs_lst, Q.wAs_new, Q.wAs_idx, Q.wAs_slcE, Q.wAs_call, Q.wAs_blt, Q.wAs_isa, Q.wAs_comp, Q.wAs_comp2, Q.wAs_dct, Q.wAs_dcomp, Q.wT_not, Q.wT_and, Q.wT_or, Q.wT_cmp, Q.wT_chain, Q.wT_yes, Q.wT_v, Q.lo0, Q.flag, Q.wipeL, Q.IEs.len, List.map_cons, List.map_nil, List.length_cons, List.length_nil, List.cons_append, List.nil_append, Nat.reduceAdd, Nat.reduceSub, Nat.sub_self, List.replicate, List.getElem?_cons_zero, List.getElem?_cons_succ, List.set_cons_zero, List.set_cons_succ, List.getElem?_nil, Q.isa_non_str, Q.isa_non_int, Q.isa_non_bool, Q.isa_non_tuple, Q.isa_non_list, Q.isa_non_dict, Q.isa_bl_str, Q.isa_bl_int, Q.isa_bl_bool, Q.isa_bl_tuple, Q.isa_bl_list, Q.isa_bl_dict, Q.isa_int_str, Q.isa_int_int, Q.isa_int_bool, Q.isa_int_tuple, Q.isa_int_list, Q.isa_int_dict, Q.isa_str_str, Q.isa_str_int, Q.isa_str_bool, Q.isa_str_tuple, Q.isa_str_list, Q.isa_str_dict, Q.isa_tup_str, Q.isa_tup_int, Q.isa_tup_bool, Q.isa_tup_tuple, Q.isa_tup_list, Q.isa_tup_dict, Q.isa_lst_str, Q.isa_lst_int, Q.isa_lst_bool, Q.isa_lst_tuple, Q.isa_lst_list, Q.isa_lst_dict, if_true, if_false, Bool.false_eq_true, Bool.true_eq_false, true_and, and_true, Bool.not_true, Bool.not_false, List.not_mem_nil, false_implies, implies_true, forall_const, true_or, false_or, Option.some.injEq, Q.D.tup.injEq, exists_eq_left', exists_eq_left, Q.D.int.injEq] $[$l]?)
/-! The laws' own helpers: same, pool, spread, draw, pick. -/
namespace Q
open PySem
def i__law_same_r0 : ISs := (.cons (.ifs (.cmp .is (.loc 1) (.cst .non)) (.cons (.ret (.cmp .is (.loc 0) (.cst .non)))
  .nil) .nil)
  (.cons (.ifs (.or (.v (.isa (.loc 1) "bool")) (.v (.isa (.loc 0) "bool"))) (.cons (.ret (.and (.isa (.loc 1) "bool") (.and (.isa (.loc 0) "bool") (.cmp .eq (.loc 0) (.loc 1)))))
  .nil) .nil)
  (.cons (.ifs (.v (.isa (.loc 1) "int")) (.cons (.ret (.and (.isa (.loc 0) "int") (.cmp .eq (.loc 0) (.loc 1))))
  .nil) .nil)
  (.cons (.ret (.and (.isa (.loc 0) "str") (.cmp .eq (.loc 0) (.loc 1))))
  .nil))))
def i__law_same : ISs := (.cons (.ifs (.or (.v (.isa (.loc 1) "tuple")) (.v (.isa (.loc 1) "list"))) (.cons (.ifs (.or (.cmp .ne (.isa (.loc 1) "tuple") (.isa (.loc 0) "tuple")) (.cmp .ne (.isa (.loc 1) "list") (.isa (.loc 0) "list"))) (.cons (.ret (.cst (.bl false)))
  .nil) .nil)
  (.cons (.ifs (.cmp .ne (.blt "len" (.cons (.loc 0) .nil)) (.blt "len" (.cons (.loc 1) .nil))) (.cons (.ret (.cst (.bl false)))
  .nil) .nil)
  (.cons (.ret (.cmp .eq (.blt "len" (.cons (.comp (.loc 2) (.nm 2) (.rng (.cst (.int 0)) (.blt "len" (.cons (.loc 1) .nil))) (.not (.v (.call "_law_same" (.cons (.idx (.loc 0) (.loc 2)) (.cons (.idx (.loc 1) (.loc 2)) .nil))))) [2]) .nil)) (.cst (.int 0))))
  .nil))) .nil)
  i__law_same_r0)
def f__law_same : FD := ⟨2, 3, i__law_same⟩
def i__law_pool_b0 : ISs := (.cons (.asg (.nm 1) (.bin .mod (.blt "int" (.cons (.bin .add (.bin .mul (.loc 1) (.cst (.int 31))) (.loc 2)) .nil)) (.cst (.int 1000003))))
  .nil)
def i__law_pool_r0 : ISs := (.cons (.ret (.new (.cons (.blt "list" (.cons (.loc 0) .nil)) (.cons (.cst (.int 0)) (.cons (.cst (.int 0)) (.cons (.cst (.int 0)) (.cons (.loc 1) .nil)))))))
  .nil)
def i__law_pool : ISs := (.cons (.asg (.nm 1) (.cst (.int 7)))
  (.cons (.fors (.nm 2) (.seq (.slcE (.loc 0) .no (.so (.cst (.int 63))))) i__law_pool_b0)
  i__law_pool_r0))
def f__law_pool : FD := ⟨1, 3, i__law_pool⟩
def i__law_spread_b0 : ISs := (.cons (.asg (.nm 1) (.bin .mod (.blt "int" (.cons (.bin .add (.bin .add (.bin .mul (.loc 1) (.cst (.int 48271))) (.cst (.int 12345))) (.loc 3)) .nil)) (.cst (.int 2147483647))))
  (.cons (.asg (.nm 2) (.bin .add (.bin .mul (.loc 2) (.cst (.int 2147483647))) (.loc 1)))
  .nil))
def i__law_spread_r0 : ISs := (.cons (.ret (.loc 2))
  .nil)
def i__law_spread : ISs := (.cons (.asg (.nm 1) (.bin .mod (.blt "int" (.cons (.loc 0) .nil)) (.cst (.int 2147483647))))
  (.cons (.asg (.nm 2) (.cst (.int 1)))
  (.cons (.fors (.nm 3) (.rng (.cst (.int 0)) (.cst (.int 4))) i__law_spread_b0)
  i__law_spread_r0)))
def f__law_spread : FD := ⟨1, 4, i__law_spread⟩
def i__law_draw_r0 : ISs := (.cons (.setI 0 (.cst (.int 3)) (.bin .add (.idx (.loc 0) (.cst (.int 3))) (.cst (.int 1))))
  (.cons (.ifs (.cmp .le (.idx (.loc 0) (.cst (.int 2))) (.cst (.int 0))) (.cons (.asg (.nm 4) (.bin .mod (.blt "int" (.cons (.bin .add (.bin .add (.bin .mul (.idx (.loc 0) (.cst (.int 4))) (.cst (.int 48271))) (.bin .mul (.idx (.loc 0) (.cst (.int 3))) (.cst (.int 69621)))) (.cst (.int 1))) .nil)) (.cst (.int 2147483647))))
  (.cons (.asg (.nm 4) (.bin .mod (.blt "int" (.cons (.bin .add (.bin .mul (.loc 4) (.cst (.int 16807))) (.idx (.loc 0) (.cst (.int 3)))) .nil)) (.cst (.int 2147483629))))
  (.cons (.ret (.bin .mod (.bin .fdiv (.loc 4) (.cst (.int 5))) (.loc 1)))
  .nil))) .nil)
  (.cons (.asg (.nm 2) (.bin .mod (.blt "int" (.cons (.idx (.loc 0) (.cst (.int 2))) .nil)) (.loc 1)))
  (.cons (.setI 0 (.cst (.int 2)) (.bin .fdiv (.idx (.loc 0) (.cst (.int 2))) (.loc 1)))
  (.cons (.ret (.loc 2))
  .nil)))))
def i__law_draw : ISs := (.cons (.ifs (.and (.cmp .le (.idx (.loc 0) (.cst (.int 2))) (.cst (.int 0))) (.cmp .lt (.idx (.loc 0) (.cst (.int 1))) (.blt "len" (.cons (.idx (.loc 0) (.cst (.int 0))) .nil)))) (.cons (.asg (.nm 3) (.idx (.idx (.loc 0) (.cst (.int 0))) (.idx (.loc 0) (.cst (.int 1)))))
  (.cons (.setI 0 (.cst (.int 1)) (.bin .add (.idx (.loc 0) (.cst (.int 1))) (.cst (.int 1))))
  (.cons (.setI 0 (.cst (.int 2)) (.loc 3))
  (.cons (.ifs (.cmp .lt (.loc 3) (.cst (.int 1000000000000000000))) (.cons (.setI 0 (.cst (.int 2)) (.call "_law_spread" (.cons (.loc 3) .nil)))
  .nil) .nil)
  .nil)))) .nil)
  i__law_draw_r0)
def f__law_draw : FD := ⟨2, 5, i__law_draw⟩
def i__law_pick : ISs := (.cons (.ret (.idx (.loc 1) (.call "_law_draw" (.cons (.loc 0) (.cons (.blt "len" (.cons (.loc 1) .nil)) .nil)))))
  .nil)
def f__law_pick : FD := ⟨2, 2, i__law_pick⟩

def Pool (S : Sto) : Prop := ∃ (ns : List Int) (i : Nat) (v c s : Int), S = [[.lst (ns.map .int), .int i, .int v, .int c, .int s]]
theorem small_c {n : Int} (h : small64 n) (a : Int) : small64 a ∨ small64 n ∨ (a.natAbs < 2 ^ 4000 ∧ n.natAbs < 2 ^ 4000) := .inr (.inl h)
theorem rng4 : rngList 0 4 = [.int 0, .int 1, .int 2, .int 3] := rfl
theorem toNat4 : ((4 : Int) - 0).toNat = 4 := rfl
theorem lim_0 : lim62 0 := by unfold lim62; decide
theorem lim_4 : lim62 4 := by unfold lim62; decide
section
variable {T : Str → Option FD} {k : Nat} {S : Sto} {P : D → Sto → Prop}
theorem w_spread (hT : T "_law_spread" = some f__law_spread) {c : Int} (h : ∀ v : Int, P (.int v) S) : Cl T (k + 1) "_law_spread" [.int c] S P := by
  refine ⟨_, hT, rfl, ?_⟩
  have s1 : ∀ a : Int, (small64 a ∨ small64 48271 ∨ (a.natAbs < 2 ^ 4000 ∧ (48271 : Int).natAbs < 2 ^ 4000)) = True := fun a => eq_true (small_c (by unfold small64; decide) a)
  have s2 : ∀ a : Int, (small64 a ∨ small64 2147483647 ∨ (a.natAbs < 2 ^ 4000 ∧ (2147483647 : Int).natAbs < 2 ^ 4000)) = True := fun a => eq_true (small_c (by unfold small64; decide) a)
  simp_arith only [f__law_spread, i__law_spread, i__law_spread_b0, i__law_spread_r0, Q.forL, toNat4, rng4, s1, s2, lim_0, lim_4, ne_eq, Int.reduceEq, not_false_eq_true, h]
theorem w_draw (hT : T "_law_draw" = some f__law_draw) (hS' : T "_law_spread" = some f__law_spread) {n : Int} (hS : Pool S) (h0 : 0 < n) (h1 : n.natAbs < 2 ^ 9000) (h : ∀ (v : Int) S', 0 ≤ v → v < n → Pool S' → P (.int v) S') : Cl T (k + 2) "_law_draw" [.obj 0, .int n] S P := by
  have s1 : ∀ a : Int, (small64 a ∨ small64 48271 ∨ (a.natAbs < 2 ^ 4000 ∧ (48271 : Int).natAbs < 2 ^ 4000)) = True := fun a => eq_true (small_c (by unfold small64; decide) a)
  have s2 : ∀ a : Int, (small64 a ∨ small64 69621 ∨ (a.natAbs < 2 ^ 4000 ∧ (69621 : Int).natAbs < 2 ^ 4000)) = True := fun a => eq_true (small_c (by unfold small64; decide) a)
  have s3 : ∀ a : Int, (small64 a ∨ small64 16807 ∨ (a.natAbs < 2 ^ 4000 ∧ (16807 : Int).natAbs < 2 ^ 4000)) = True := fun a => eq_true (small_c (by unfold small64; decide) a)
  have n0 : (n = 0) = False := eq_false (by omega)
  have h0' : (0 < n) = True := eq_true h0
  have h1' : (n.natAbs < 2 ^ 9000) = True := eq_true h1
  have h5 : ((0 : Int) < 5) = True := eq_true (by decide)
  have h5' : ((5 : Int).natAbs < 2 ^ 9000) = True := eq_true (Nat.lt_of_lt_of_le (by decide : (5 : Int).natAbs < 2 ^ 3) (Nat.pow_le_pow_right (by decide) (by decide)))
  have tail : ∀ {L3 : Sl} {S : Sto}, Pool S → wSs (Cl T (k + 1)) i__law_draw_r0 [.val (.obj 0), .val (.int n), .no, L3, .no] S { nx := fun _ S1 => P .non S1, rt := P } := by
    rintro L3 S ⟨ns, i, v, c, s, rfl⟩
    simp_arith only [i__law_draw_r0, s1, s2, s3, n0, h0', h1', h5, h5', ne_eq, Int.reduceEq, not_false_eq_true]
    split
    · exact h _ _ (Int.fmod_nonneg_of_pos _ h0) (Int.fmod_lt_of_pos _ h0) ⟨ns, i, v, c + 1, s, rfl⟩
    · exact h _ _ (Int.fmod_nonneg_of_pos _ h0) (Int.fmod_lt_of_pos _ h0) ⟨ns, i, v / n, c + 1, s, rfl⟩
  obtain ⟨ns, i, v, c, s, rfl⟩ := hS
  refine ⟨_, hT, rfl, ?_⟩
  simp_arith only [f__law_draw, i__law_draw]
  rw [List.length_map]
  split
  · split
    · rename_i h2
      have h2 : i < ns.length := by simpa using h2
      have e : L2.atI (ns.map D.int) (i : Int) = some (.int ns[i]) := atN (by rw [List.getElem?_map, List.getElem?_eq_getElem h2]; rfl)
      simp_arith only [e]
      split
      · apply w_spread hS'
        intro v
        simp_arith only [true_and]
        exact tail ⟨ns, i + 1, v, c, s, rfl⟩
      · exact tail ⟨ns, i + 1, ns[i], c, s, rfl⟩
    · exact tail ⟨ns, i, v, c, s, rfl⟩
  · exact tail ⟨ns, i, v, c, s, rfl⟩
theorem forL_const {t : D → Lo → (Lo → Prop) → Prop} {b : Lo → Sto → Ends → Prop} {Z : Ends} (I : Lo → Prop) {S : Sto} : ∀ (ds : List D), (∀ d ∈ ds, ∀ L, I L → ∀ Z' : Ends, (∀ L, I L → Z'.nx L S) → t d L fun L1 => b L1 S Z') → (∀ L, I L → Z.nx L S) → ∀ L, I L → forL t b Z ds L S := by
  intro ds
  induction ds with
  | nil => intro _ h L hL; exact h L hL
  | cons d ds ih =>
    intro h1 h2 L hL
    unfold forL
    exact h1 d (by simp) L hL _ fun L hL => ih (fun d hd => h1 d (by simp [hd])) h2 L hL
theorem w_pool (hT : T "_law_pool" = some f__law_pool) {ns : List Int} (h : ∀ S', Pool S' → P (.obj 0) S') : Cl T (k + 1) "_law_pool" [.scr ns] [] P := by
  have s1 : ∀ a : Int, (small64 a ∨ small64 31 ∨ (a.natAbs < 2 ^ 4000 ∧ (31 : Int).natAbs < 2 ^ 4000)) = True := fun a => eq_true (small_c (by unfold small64; decide) a)
  refine ⟨_, hT, rfl, ?_⟩
  simp_arith only [f__law_pool, i__law_pool]
  refine forL_const (fun L => ∃ (s : Int) (x : Sl), L = [.val (.scr ns), .val (.int s), x]) _ ?_ ?_ _ ⟨_, _, rfl⟩
  · rintro d hd L ⟨s, x, rfl⟩ Z' hZ
    obtain ⟨c, hc, rfl⟩ := List.mem_map.mp hd
    simp_arith only [i__law_pool_b0, s1, ne_eq, Int.reduceEq, not_false_eq_true]
    exact hZ _ ⟨_, _, rfl⟩
  · rintro L ⟨s, x, rfl⟩
    simp_arith only [i__law_pool_r0, sizeL]
    refine ⟨by decide, h _ ⟨ns, 0, 0, 0, s, rfl⟩⟩
theorem w_pick (hP : T "_law_pick" = some f__law_pick) (hT : T "_law_draw" = some f__law_draw) (hS' : T "_law_spread" = some f__law_spread) {l : List D} (hS : Pool S) (h0 : l ≠ []) (h1 : l.length < 2 ^ 62) (h : ∀ v S', v ∈ l → Pool S' → P v S') : Cl T (k + 3) "_law_pick" [.obj 0, .tup l] S P := by
  refine ⟨_, hP, rfl, ?_⟩
  simp_arith only [f__law_pick, i__law_pick]
  have h0' : 0 < l.length := List.length_pos_iff.mpr h0
  apply w_draw hT hS' hS (by omega) (Nat.lt_of_lt_of_le (show (l.length : Int).natAbs < 2 ^ 62 by omega) (Nat.pow_le_pow_right (by decide) (by decide)))
  intro v S' v0 v1 hS
  obtain ⟨j, rfl⟩ := Int.eq_ofNat_of_zero_le v0
  have hj : j < l.length := by omega
  have e : L2.atI l (j : Int) = some l[j] := atN (List.getElem?_eq_getElem hj)
  simp_arith only [e]
  exact h _ _ (List.getElem_mem _) hS
end
/-! comprehensions -/
theorem filtT {α : Type} (l : List α) : l.filter (fun _ => true) = l := List.filter_eq_self.mpr fun _ _ => rfl
theorem filtF {α : Type} (l : List α) : l.filter (fun _ => false) = [] := List.filter_eq_nil_iff.mpr fun _ _ => by simp

section
variable {t : D → Lo → (Lo → Prop) → Prop} {c : Lo → Sto → KT → Prop} {e : Lo → Sto → KE → Prop} {Lw : Lo} {S : Sto} {P : List D → Sto → Prop}
theorem compL_fm {α : Type} (g f : α → D) (p : α → Bool) : ∀ (xs : List α) (acc : List D), acc.length + (xs.filter p).length ≤ sizeLine →
    (∀ x ∈ xs, ∀ (K : List D → Sto → Prop) (acc : List D), (p x = true → acc.length < sizeLine) → K (if p x then acc ++ [f x] else acc) S → t (g x) Lw fun L1 => c L1 S fun b L2 S2 => L2 = L1 ∧ if b = true then e L1 S2 fun r _ L3 S3 => L3 = L1 ∧ acc.length < sizeLine ∧ K (acc ++ [r]) S3 else K acc S2) →
    P (acc ++ (xs.filter p).map f) S → compL t c e Lw (xs.map g) S acc P := by
  intro xs
  induction xs with
  | nil => intro acc _ _ h; simpa [compL] using h
  | cons x xs ih =>
    intro acc hn h hP
    rw [List.map_cons]
    unfold compL
    cases hp : p x with
    | true =>
      rw [List.filter_cons, hp, if_pos rfl] at hn hP
      simp only [List.length_cons] at hn
      refine h x (by simp) (fun a S => compL t c e Lw (xs.map g) S a P) acc (fun _ => by omega) ?_
      rw [hp, if_pos rfl]
      exact ih _ (by simp; omega) (fun y hy => h y (by simp [hy])) (by simpa using hP)
    | false =>
      rw [List.filter_cons, hp, if_neg (by decide)] at hn hP
      refine h x (by simp) (fun a S => compL t c e Lw (xs.map g) S a P) acc (fun h => by rw [hp] at h; cases h) ?_
      rw [hp, if_neg (by decide)]
      exact ih _ hn (fun y hy => h y (by simp [hy])) hP
/-- every item kept -/
theorem compL_m {α : Type} (g f : α → D) (xs : List α) (hn : xs.length ≤ sizeLine)
    (h : ∀ x ∈ xs, ∀ (K : List D → Sto → Prop) (acc : List D), acc.length < sizeLine → K (acc ++ [f x]) S → t (g x) Lw fun L1 => c L1 S fun b L2 S2 => L2 = L1 ∧ if b = true then e L1 S2 fun r _ L3 S3 => L3 = L1 ∧ acc.length < sizeLine ∧ K (acc ++ [r]) S3 else K acc S2)
    (hP : P (xs.map f) S) : compL t c e Lw (xs.map g) S [] P :=
  compL_fm g f (fun _ => true) xs [] (by simpa [filtT] using hn) (fun x hx K acc ha hk => h x hx K acc (ha rfl) (by simpa using hk)) (by simpa [filtT] using hP)
end
section
variable {t1 t2 : D → Lo → (Lo → Prop) → Prop} {src : Lo → Sto → (List D → Lo → Sto → Prop) → Prop} {e : Lo → Sto → KE → Prop} {ix : List Nat} {Lw : Lo} {S : Sto} {P : List D → Sto → Prop}
/-- two loops: item x gives the list F x -/
theorem compL2_fm {α : Type} (g : α → D) (F : α → List D) : ∀ (xs : List α) (acc : List D),
    (∀ x ∈ xs, ∀ (K : List D → Sto → Prop) (acc : List D), acc.length + (F x).length ≤ sizeLine → K (acc ++ F x) S → t1 (g x) Lw fun L1 => src L1 S fun ys L2 S2 => L2 = L1 ∧ compL t2 (fun L S k => k true L S) e (wipeL L1 ix) ys S2 acc K) →
    acc.length + (xs.flatMap F).length ≤ sizeLine → P (acc ++ xs.flatMap F) S → compL2 t2 src e t1 ix Lw (xs.map g) S acc P := by
  intro xs
  induction xs with
  | nil => intro acc _ _ h; simpa [compL2] using h
  | cons x xs ih =>
    intro acc h hn hP
    rw [List.flatMap_cons, List.length_append] at hn
    rw [List.map_cons]
    unfold compL2
    refine h x (by simp) (fun a S => compL2 t2 src e t1 ix Lw (xs.map g) S a P) acc (by omega) ?_
    refine ih _ (fun y hy => h y (by simp [hy])) (by rw [List.length_append]; omega) ?_
    rw [List.flatMap_cons] at hP
    simpa using hP
end
/-! same -/
def D.okS : Nat → D → Prop
  | 0, _ => False
  | n + 1, .tup l => l.length < 2 ^ 62 ∧ ∀ d ∈ l, D.okS n d
  | n + 1, .lst l => l.length < 2 ^ 62 ∧ ∀ d ∈ l, D.okS n d
  | _, .non => True
  | _, .bl _ => True
  | _, .int _ => True
  | _, .str _ => True
  | _, _ => False
theorem rng0 (n : Nat) : rngList 0 n = (List.range n).map fun (k : Nat) => D.int (k : Int) := by
  unfold rngList
  simp
theorem lim_len {n : Nat} (h : n < 2 ^ 62) : lim62 (n : Int) := by
  unfold lim62; omega
theorem w_same {T : Str → Option FD} (hT : T "_law_same" = some f__law_same) {k : Nat} {S : Sto} : ∀ (n : Nat) {x : D} {P : D → Sto → Prop}, x.okS n → P (.bl true) S → Cl T (n + k) "_law_same" [x, x] S P := by
  intro n
  induction n with
  | zero => intro x P hx; exact (by cases x <;> exact hx.elim)
  | succ n ih =>
    intro x P hx h
    have body : ∀ (l : List D), l.length < 2 ^ 62 → (∀ d ∈ l, D.okS n d) → ∀ (P : List D → Sto → Prop), P [] S → ∀ (y : D), (∀ (i : Nat) (d : D), l[i]? = some d → ∀ P : D → Prop, P d → dIdx S y (.int i) P) → compL (wG (.nm 2)) (wT (Cl T (n + k)) (.not (.v (.call "_law_same" (.cons (.idx (.loc 0) (.loc 2)) (.cons (.idx (.loc 1) (.loc 2)) .nil)))))) (wE (Cl T (n + k)) (.loc 2)) [.val y, .val y, .no] (rngList 0 l.length) S [] P := by
      intro l hl hd P hP y hy
      rw [rng0]
      refine compL_fm (α := Nat) _ (fun _ => .non) (fun _ => false) _ [] (by simp [filtF]) ?_ (by simpa [filtF] using hP)
      intro i hi K acc ha hK
      have hi : i < l.length := by simpa using hi
      simp_arith only [true_and]
      refine hy i _ (List.getElem?_eq_getElem hi) _ (hy i _ (List.getElem?_eq_getElem hi) _ ?_)
      exact ih (hd _ (List.getElem_mem _)) (by simpa [tr_bl] using hK)
    rw [Nat.add_right_comm]
    refine ⟨_, hT, rfl, ?_⟩
    simp_arith only [f__law_same, i__law_same]
    have stop : ∀ d : D, d.eqOk = true → eqQ d d = true := fun d h => by cases d <;> simp [eqQ, h]
    cases x with
    | non => simp_arith only [i__law_same_r0, Q.D.isNon]; exact h
    | bl b => simp_arith only [i__law_same_r0, Q.D.isNon]; simpa using h
    | int i => simp_arith only [i__law_same_r0, Q.D.isNon]; simpa using h
    | str i => simp_arith only [i__law_same_r0, Q.D.isNon]; simpa using h
    | tup l =>
      simp_arith only [true_and]
      simp_arith only [beq_self_eq_true, Int.toNat_natCast, Int.sub_zero]
      refine ⟨lim_0, lim_len hx.1, by simp, body l hx.1 hx.2 _ ?_ _ ?_⟩
      · simpa [↓reduceIte, Q.wSs_nil, Q.wSs_cons, Q.wS_asg, Q.wS_par, Q.wS_app, Q.wS_ext, Q.wS_pop, Q.wS_aug, Q.wS_setI, Q.wS_expr, Q.wS_ret, Q.wS_ifs, Q.wS_fors, Q.wS_cont, Q.wS_brk, Q.wS_pass, Q.asg_nmT, Q.asg_nmF, Q.asg_tp, Q.tupP_tup, Q.g_nm, Q.g_tp, Q.gs_nil, Q.gs_cons, Q.setP_obj, Q.str_lit, String.reduceBEq, Q.setP_dct, Q.wS_asg2, Q.wE_dct, Q.wE_dcomp, Q.pk_dct, Q.pk_dcomp, Q.cmp_isb, Q.cmp_isnb, Q.cmp_gts, Q.cmp_lts, Q.cmp_les, Q.mem_dct, Q.isB_non, Q.isB_bl, Q.isB_tup, Q.isB_str, Q.mul_tup, Q.idx_dct, Q.idx_str, Q.blt_min2L, Q.blt_max2L,  Q.blt_dctD, Q.blt_lstD, Q.len_dct, Q.wI_wk, Q.wkP_tup, Q.wkP_lst, Q.wkP_lstO, Q.wkP_dct, Q.wkP_dctO, Q.setP_own, Q.hasP_val, Q.hasP_own, Q.valP_val, Q.augP_int, Q.augP_str, Q.lstP_lst, Q.ownL_own, Q.wI_seq, Q.wI_rng, Q.wI_zip, Q.wEo_no, Q.wEo_so, Q.wE_neg', Q.zipP_tup, Q.zipP_lst, Q.seqP_tup, Q.seqP_lst, Q.seqP_scr, Q.seqP_str, Q.rngP_int, Q.intP_int, Q.sz0, Q.sz1, Q.sz2, Q.sz3, Q.sz4, Q.sz5, Q.sz6, Q.sz7, Q.sz8, Q.sz9, Q.nc0, Q.nc1, Q.nc2, Q.nc3, Q.nc4, Q.nc5, Q.nc6, Q.nc7, Q.nc8, Q.nc9, Q.isN_non, Q.isN_bl, Q.isN_int, Q.isN_str, Q.isN_tup, Q.isN_lst, Int.reduceBEq, Int.reduceBNe, Int.reduceLT, Int.reduceLE, decide_true, decide_false, Bool.or_self, Bool.and_self, eq_self, decide_eq_true_eq, Q.ix51, Q.ix52, Q.ix53,  Q.wE_loc, Q.wE_cst, Q.wE_bin, Q.wE_not, Q.wE_and, Q.wE_or, Q.wE_ite, Q.wE_cmp, Q.wE_chain, Q.wE_tup, Q.wE_lst, Q.wE_new, Q.wE_idx, Q.wE_slcE, Q.wE_call, Q.wE_blt, Q.wE_isa, Q.wE_comp, Q.wE_comp2, Q.pk_loc, Q.pk_cst, Q.pk_bin, Q.pk_neg, Q.pk_not, Q.pk_and, Q.pk_or, Q.pk_ite, Q.pk_cmp, Q.pk_chain, Q.pk_tup, Q.pk_lst, Q.pk_new, Q.pk_idx, Q.pk_slcE, Q.pk_call, Q.pk_blt, Q.pk_isa, Q.pk_comp, Q.pk_comp2, Q.add_int, Q.add_str, Q.add_tup, Q.add_lst, Q.sub_int, Q.mul_int, Q.fdiv_int, Q.mod_int, Q.pow_int, Q.cmp_eq, Q.cmp_ne, Q.cmp_lt, Q.cmp_gt, Q.cmp_le, Q.cmp_ge, Q.cmp_is, Q.cmp_isn, Q.cmp_mem, Q.cmp_nmem, Q.mem_lst, Q.mem_tup, Q.mem_str, Q.eqQ_str, Q.eqQ_int, Q.eqQ_bl, Q.eq_bl, Q.eq_int, Q.eq_str, Q.ok_int, Q.ok_bl, Q.ok_non, Q.tr_bl, Q.tr_int, Q.tr_lst, Q.tr_tup, Q.tr_non, Q.idx_tup, Q.idx_lst, Q.idx_obj, Q.slc_tup, Q.slc_lst, Q.slc_scr, Q.len_tup, Q.len_lst, Q.len_str, Q.blt_all, Q.blt_any, Q.blt_sum, Q.blt_tupL, Q.blt_tupT, Q.blt_lstL, Q.blt_lstT, Q.blt_lstS, Q.blt_int, Q.blt_min, Q.blt_max, Q.at0, Q.at1, Q.at2, Q.at3, Q.at4, Q.optP_some, Q.locE_val, Q.locE_own, Q.locP_val, Q.locP_own, Q.wEs_nil, Q.wEs_cons, Q.wPs_nil, Q.wPs_cons, Q.wAs_nil, Q.wAs_loc, Q.locA_val, Q.locA_own, Q.wAs_cst, Q.wAs_bin, Q.wAs_neg, Q.wAs_not, Q.wAs_and, Q.wAs_or, Q.wAs_ite, Q.wAs_cmp, Q.wAs_chain, Q.wAs_tup, Q.wAs_lst, Q.wAs_new, Q.wAs_idx, Q.wAs_slcE, Q.wAs_call, Q.wAs_blt, Q.wAs_isa, Q.wAs_comp, Q.wAs_comp2, Q.wAs_dct, Q.wAs_dcomp, Q.wT_not, Q.wT_and, Q.wT_or, Q.wT_cmp, Q.wT_chain, Q.wT_yes, Q.wT_v, Q.lo0, Q.flag, Q.wipeL, Q.IEs.len, List.map_cons, List.map_nil, List.length_cons, List.length_nil, List.cons_append, List.nil_append, Nat.reduceAdd, Nat.reduceSub, Nat.sub_self, List.replicate, List.getElem?_cons_zero, List.getElem?_cons_succ, List.set_cons_zero, List.set_cons_succ, List.getElem?_nil, Q.isa_non_str, Q.isa_non_int, Q.isa_non_bool, Q.isa_non_tuple, Q.isa_non_list, Q.isa_non_dict, Q.isa_bl_str, Q.isa_bl_int, Q.isa_bl_bool, Q.isa_bl_tuple, Q.isa_bl_list, Q.isa_bl_dict, Q.isa_int_str, Q.isa_int_int, Q.isa_int_bool, Q.isa_int_tuple, Q.isa_int_list, Q.isa_int_dict, Q.isa_str_str, Q.isa_str_int, Q.isa_str_bool, Q.isa_str_tuple, Q.isa_str_list, Q.isa_str_dict, Q.isa_tup_str, Q.isa_tup_int, Q.isa_tup_bool, Q.isa_tup_tuple, Q.isa_tup_list, Q.isa_tup_dict, Q.isa_lst_str, Q.isa_lst_int, Q.isa_lst_bool, Q.isa_lst_tuple, Q.isa_lst_list, Q.isa_lst_dict, if_true, if_false, Bool.false_eq_true, Bool.true_eq_false, true_and, and_true, Bool.not_true, Bool.not_false, List.not_mem_nil, false_implies, implies_true, forall_const, true_or, false_or, Option.some.injEq, Q.D.tup.injEq, exists_eq_left', exists_eq_left, Q.D.int.injEq] using h
      · intro i d e P h
        rw [idx_tup, atN e]; exact h
    | lst l =>
      simp_arith only [true_and]
      simp_arith only [beq_self_eq_true, Int.toNat_natCast, Int.sub_zero]
      refine ⟨lim_0, lim_len hx.1, by simp, body l hx.1 hx.2 _ ?_ _ ?_⟩
      · simpa [↓reduceIte, Q.wSs_nil, Q.wSs_cons, Q.wS_asg, Q.wS_par, Q.wS_app, Q.wS_ext, Q.wS_pop, Q.wS_aug, Q.wS_setI, Q.wS_expr, Q.wS_ret, Q.wS_ifs, Q.wS_fors, Q.wS_cont, Q.wS_brk, Q.wS_pass, Q.asg_nmT, Q.asg_nmF, Q.asg_tp, Q.tupP_tup, Q.g_nm, Q.g_tp, Q.gs_nil, Q.gs_cons, Q.setP_obj, Q.str_lit, String.reduceBEq, Q.setP_dct, Q.wS_asg2, Q.wE_dct, Q.wE_dcomp, Q.pk_dct, Q.pk_dcomp, Q.cmp_isb, Q.cmp_isnb, Q.cmp_gts, Q.cmp_lts, Q.cmp_les, Q.mem_dct, Q.isB_non, Q.isB_bl, Q.isB_tup, Q.isB_str, Q.mul_tup, Q.idx_dct, Q.idx_str, Q.blt_min2L, Q.blt_max2L,  Q.blt_dctD, Q.blt_lstD, Q.len_dct, Q.wI_wk, Q.wkP_tup, Q.wkP_lst, Q.wkP_lstO, Q.wkP_dct, Q.wkP_dctO, Q.setP_own, Q.hasP_val, Q.hasP_own, Q.valP_val, Q.augP_int, Q.augP_str, Q.lstP_lst, Q.ownL_own, Q.wI_seq, Q.wI_rng, Q.wI_zip, Q.wEo_no, Q.wEo_so, Q.wE_neg', Q.zipP_tup, Q.zipP_lst, Q.seqP_tup, Q.seqP_lst, Q.seqP_scr, Q.seqP_str, Q.rngP_int, Q.intP_int, Q.sz0, Q.sz1, Q.sz2, Q.sz3, Q.sz4, Q.sz5, Q.sz6, Q.sz7, Q.sz8, Q.sz9, Q.nc0, Q.nc1, Q.nc2, Q.nc3, Q.nc4, Q.nc5, Q.nc6, Q.nc7, Q.nc8, Q.nc9, Q.isN_non, Q.isN_bl, Q.isN_int, Q.isN_str, Q.isN_tup, Q.isN_lst, Int.reduceBEq, Int.reduceBNe, Int.reduceLT, Int.reduceLE, decide_true, decide_false, Bool.or_self, Bool.and_self, eq_self, decide_eq_true_eq, Q.ix51, Q.ix52, Q.ix53,  Q.wE_loc, Q.wE_cst, Q.wE_bin, Q.wE_not, Q.wE_and, Q.wE_or, Q.wE_ite, Q.wE_cmp, Q.wE_chain, Q.wE_tup, Q.wE_lst, Q.wE_new, Q.wE_idx, Q.wE_slcE, Q.wE_call, Q.wE_blt, Q.wE_isa, Q.wE_comp, Q.wE_comp2, Q.pk_loc, Q.pk_cst, Q.pk_bin, Q.pk_neg, Q.pk_not, Q.pk_and, Q.pk_or, Q.pk_ite, Q.pk_cmp, Q.pk_chain, Q.pk_tup, Q.pk_lst, Q.pk_new, Q.pk_idx, Q.pk_slcE, Q.pk_call, Q.pk_blt, Q.pk_isa, Q.pk_comp, Q.pk_comp2, Q.add_int, Q.add_str, Q.add_tup, Q.add_lst, Q.sub_int, Q.mul_int, Q.fdiv_int, Q.mod_int, Q.pow_int, Q.cmp_eq, Q.cmp_ne, Q.cmp_lt, Q.cmp_gt, Q.cmp_le, Q.cmp_ge, Q.cmp_is, Q.cmp_isn, Q.cmp_mem, Q.cmp_nmem, Q.mem_lst, Q.mem_tup, Q.mem_str, Q.eqQ_str, Q.eqQ_int, Q.eqQ_bl, Q.eq_bl, Q.eq_int, Q.eq_str, Q.ok_int, Q.ok_bl, Q.ok_non, Q.tr_bl, Q.tr_int, Q.tr_lst, Q.tr_tup, Q.tr_non, Q.idx_tup, Q.idx_lst, Q.idx_obj, Q.slc_tup, Q.slc_lst, Q.slc_scr, Q.len_tup, Q.len_lst, Q.len_str, Q.blt_all, Q.blt_any, Q.blt_sum, Q.blt_tupL, Q.blt_tupT, Q.blt_lstL, Q.blt_lstT, Q.blt_lstS, Q.blt_int, Q.blt_min, Q.blt_max, Q.at0, Q.at1, Q.at2, Q.at3, Q.at4, Q.optP_some, Q.locE_val, Q.locE_own, Q.locP_val, Q.locP_own, Q.wEs_nil, Q.wEs_cons, Q.wPs_nil, Q.wPs_cons, Q.wAs_nil, Q.wAs_loc, Q.locA_val, Q.locA_own, Q.wAs_cst, Q.wAs_bin, Q.wAs_neg, Q.wAs_not, Q.wAs_and, Q.wAs_or, Q.wAs_ite, Q.wAs_cmp, Q.wAs_chain, Q.wAs_tup, Q.wAs_lst, Q.wAs_new, Q.wAs_idx, Q.wAs_slcE, Q.wAs_call, Q.wAs_blt, Q.wAs_isa, Q.wAs_comp, Q.wAs_comp2, Q.wAs_dct, Q.wAs_dcomp, Q.wT_not, Q.wT_and, Q.wT_or, Q.wT_cmp, Q.wT_chain, Q.wT_yes, Q.wT_v, Q.lo0, Q.flag, Q.wipeL, Q.IEs.len, List.map_cons, List.map_nil, List.length_cons, List.length_nil, List.cons_append, List.nil_append, Nat.reduceAdd, Nat.reduceSub, Nat.sub_self, List.replicate, List.getElem?_cons_zero, List.getElem?_cons_succ, List.set_cons_zero, List.set_cons_succ, List.getElem?_nil, Q.isa_non_str, Q.isa_non_int, Q.isa_non_bool, Q.isa_non_tuple, Q.isa_non_list, Q.isa_non_dict, Q.isa_bl_str, Q.isa_bl_int, Q.isa_bl_bool, Q.isa_bl_tuple, Q.isa_bl_list, Q.isa_bl_dict, Q.isa_int_str, Q.isa_int_int, Q.isa_int_bool, Q.isa_int_tuple, Q.isa_int_list, Q.isa_int_dict, Q.isa_str_str, Q.isa_str_int, Q.isa_str_bool, Q.isa_str_tuple, Q.isa_str_list, Q.isa_str_dict, Q.isa_tup_str, Q.isa_tup_int, Q.isa_tup_bool, Q.isa_tup_tuple, Q.isa_tup_list, Q.isa_tup_dict, Q.isa_lst_str, Q.isa_lst_int, Q.isa_lst_bool, Q.isa_lst_tuple, Q.isa_lst_list, Q.isa_lst_dict, if_true, if_false, Bool.false_eq_true, Bool.true_eq_false, true_and, and_true, Bool.not_true, Bool.not_false, List.not_mem_nil, false_implies, implies_true, forall_const, true_or, false_or, Option.some.injEq, Q.D.tup.injEq, exists_eq_left', exists_eq_left, Q.D.int.injEq] using h
      · intro i d e P h
        rw [idx_lst, atN e]; exact h
    | dct _ _ => exact hx.elim
    | scr _ => exact hx.elim
    | obj _ => exact hx.elim
end Q
/-! == of plain data; ranges. -/
namespace Q
open PySem
theorem iteI {c : Prop} {inst : Decidable c} {a b : Prop} (h1 : c → a) (h2 : ¬ c → b) : @ite Prop c inst a b := by
  cases inst with
  | isTrue h => exact h1 h
  | isFalse h => exact h2 h
def D.okE : Nat → D → Prop
  | _, .non => True
  | _, .bl _ => True
  | _, .int _ => True
  | _, .str s => PyData.canLay0 (.str s) = true
  | n + 1, .tup l => ∀ d ∈ l, D.okE n d
  | n + 1, .lst l => ∀ d ∈ l, D.okE n d
  | _, _ => False
theorem pys_all {Q1 : D → Bool} {l : List D} (h : ∀ d ∈ l, d.plain = true ∧ d.py.canLay0 = true) : D.plains l = true ∧ PyData.canLayAll0 (D.pys l) = true := by
  induction l with
  | nil => exact ⟨rfl, rfl⟩
  | cons d r ih =>
    have h1 := h d (by simp)
    have h2 := ih fun d hd => h d (by simp [hd])
    simp only [D.plains, D.pys, PyData.canLayAll0, h1, h2, Bool.and_self, and_self]
theorem pys_dep {n : Nat} {l : List D} (h : ∀ d ∈ l, d.py.depth ≤ n) : PyData.depthAll (D.pys l) ≤ n := by
  induction l with
  | nil => exact Nat.zero_le _
  | cons d r ih =>
    have h1 := h d (by simp)
    have h2 := ih fun d hd => h d (by simp [hd])
    simp only [D.pys, PyData.depthAll]
    omega
theorem okE_all : ∀ (n : Nat) (d : D), d.okE n → d.plain = true ∧ d.py.canLay0 = true ∧ d.py.depth ≤ n := by
  intro n
  induction n with
  | zero => intro d h; cases d <;> first | exact h.elim | exact ⟨rfl, rfl, Nat.le_refl _⟩ | exact ⟨rfl, h, Nat.le_refl _⟩
  | succ n ih =>
    intro d h
    cases d with
    | tup l =>
      have h1 := pys_all (Q1 := fun _ => true) fun d hd => ⟨(ih d (h d hd)).1, (ih d (h d hd)).2.1⟩
      have h2 := pys_dep fun d hd => (ih d (h d hd)).2.2
      exact ⟨h1.1, h1.2, Nat.succ_le_succ h2⟩
    | lst l =>
      have h1 := pys_all (Q1 := fun _ => true) fun d hd => ⟨(ih d (h d hd)).1, (ih d (h d hd)).2.1⟩
      have h2 := pys_dep fun d hd => (ih d (h d hd)).2.2
      exact ⟨h1.1, h1.2, Nat.succ_le_succ h2⟩
    | non => exact ⟨rfl, rfl, Nat.zero_le _⟩
    | bl b => exact ⟨rfl, rfl, Nat.zero_le _⟩
    | int i => exact ⟨rfl, rfl, Nat.zero_le _⟩
    | str s => exact ⟨rfl, h, Nat.zero_le _⟩
    | dct _ _ => exact h.elim
    | scr _ => exact h.elim
    | obj _ => exact h.elim
theorem eqOk_of {n : Nat} {d : D} (h : d.okE n) (hn : n ≤ 64) : d.eqOk = true := by
  obtain ⟨h1, h2, h3⟩ := okE_all n d h
  unfold D.eqOk SeqAt.shaped
  rw [h1, h2]
  simp; omega
def eqAll : List D → List D → Bool
  | [], [] => true
  | x :: xs, y :: ys => x.eq y && eqAll xs ys
  | _, _ => false
theorem eqAll_py : ∀ (a b : List D), PyData.eqvAll (D.pys a) (D.pys b) = eqAll a b
  | [], [] => rfl
  | [], _ :: _ => rfl
  | _ :: _, [] => rfl
  | x :: xs, y :: ys => by simp only [D.pys, PyData.eqvAll, eqAll, eqAll_py xs ys]; rfl
theorem eq_tup (a b : List D) : D.eq (.tup a) (.tup b) = eqAll a b := eqAll_py a b
theorem eq_lst (a b : List D) : D.eq (.lst a) (.lst b) = eqAll a b := eqAll_py a b
def rowD (r : List Int) : D := .tup (r.map .int)
theorem eq_row : ∀ (a b : List Int), D.eq (rowD a) (rowD b) = (a == b) := by
  intro a b
  unfold rowD
  rw [eq_tup]
  induction a generalizing b with
  | nil => cases b <;> rfl
  | cons x xs ih =>
    cases b with
    | nil => rfl
    | cons y ys => simp only [List.map_cons, eqAll, ih, eq_int, List.cons_beq_cons]
theorem okE_row (r : List Int) (n : Nat) : (rowD r).okE (n + 1) := by
  intro d hd
  obtain ⟨x, _, rfl⟩ := List.mem_map.mp hd
  cases n <;> exact True.intro
theorem okE_rows (l : List (List Int)) (n : Nat) : (D.lst (l.map rowD)).okE (n + 2) := by
  intro d hd
  obtain ⟨x, _, rfl⟩ := List.mem_map.mp hd
  exact okE_row x n
theorem any_rows (r : List Int) (l : List (List Int)) : ((l.map rowD).any fun z => z.eq (rowD r)) = decide (r ∈ l) := by
  rw [List.any_map, Bool.eq_iff_iff]
  simp [eq_row]
theorem mem_rows {r : List Int} {l : List (List Int)} {R : Bool → Prop} (h : R (decide (r ∈ l))) : dMem (rowD r) (.lst (l.map rowD)) R := by
  rw [mem_lst]
  refine ⟨eqOk_of (okE_row r 0) (by decide), eqOk_of (okE_rows l 0) (by decide), ?_⟩
  have : ((l.map rowD).any fun z => z.eq (rowD r)) = decide (r ∈ l) := by
    rw [List.any_map, Bool.eq_iff_iff]
    simp [eq_row]
  rw [this]; exact h
theorem okS_row (r : List Int) (h : r.length < 2 ^ 62) (n : Nat) : (rowD r).okS (n + 2) := by
  refine ⟨by simpa using h, fun d hd => ?_⟩
  obtain ⟨x, _, rfl⟩ := List.mem_map.mp hd
  exact True.intro
theorem okS_rows (l : List (List Int)) (hl : l.length < 2 ^ 62) (h : ∀ r ∈ l, r.length < 2 ^ 62) (n : Nat) : (D.lst (l.map rowD)).okS (n + 3) := by
  refine ⟨by simpa using hl, fun d hd => ?_⟩
  obtain ⟨x, hx, rfl⟩ := List.mem_map.mp hd
  exact okS_row x (h x hx) n
/-- lo .. hi -/
def rg (lo hi : Int) : List Int := (List.range (hi + 1 - lo).toNat).map fun (k : Nat) => lo + (k : Int)
theorem rng_rg (lo hi : Int) : rngList lo (hi + 1 - lo).toNat = (rg lo hi).map .int := by
  unfold rngList rg
  rw [List.map_map]; rfl
theorem rg_len (lo hi : Int) : (rg lo hi).length = (hi + 1 - lo).toNat := by simp [rg]
theorem mem_rg {lo hi x : Int} : x ∈ rg lo hi ↔ lo ≤ x ∧ x ≤ hi := by
  unfold rg
  simp only [List.mem_map, List.mem_range]
  constructor
  · rintro ⟨k, h, rfl⟩; omega
  · intro h; exact ⟨(x - lo).toNat, by omega, by omega⟩
theorem rg_nil {lo hi : Int} (h : hi < lo) : rg lo hi = [] := by
  unfold rg
  rw [show (hi + 1 - lo).toNat = 0 by omega]; rfl
theorem rg_app {lo at_ hi : Int} (h1 : lo ≤ at_ + 1) (h2 : at_ ≤ hi) : rg lo at_ ++ rg (at_ + 1) hi = rg lo hi := by
  unfold rg
  rw [show (hi + 1 - lo).toNat = (at_ + 1 - lo).toNat + (hi + 1 - (at_ + 1)).toNat by omega, List.range_add, List.map_append, List.map_map]
  congr 1
  apply List.map_congr_left
  intro a _
  simp only [Function.comp]
  omega
theorem rg_le {lo at_ hi : Int} (h1 : lo ≤ at_ + 1) (h2 : at_ ≤ hi) : (rg lo hi).filter (fun x => decide (x ≤ at_)) = rg lo at_ := by
  rw [← rg_app h1 h2, List.filter_append, List.filter_eq_self.mpr, List.filter_eq_nil_iff.mpr, List.append_nil]
  · intro x hx; have := mem_rg.mp hx; simp; omega
  · intro x hx; have := mem_rg.mp hx; simp; omega
theorem rg_gt {lo at_ hi : Int} (h1 : lo ≤ at_ + 1) (h2 : at_ ≤ hi) : (rg lo hi).filter (fun x => decide (at_ < x)) = rg (at_ + 1) hi := by
  rw [← rg_app h1 h2, List.filter_append, List.filter_eq_nil_iff.mpr, List.filter_eq_self.mpr, List.nil_append]
  · intro x hx; have := mem_rg.mp hx; simp; omega
  · intro x hx; have := mem_rg.mp hx; simp; omega
/-! the cases of a cell -/
abbrev Iv := Int × Int
def pr (p : Iv) : D := .tup [.int p.1, .int p.2]
def cellD (c : List Iv) : D := .tup (c.map pr)
def grow (p : Iv) (f : List (List Int)) : List (List Int) := f.flatMap fun r => (rg p.1 p.2).map fun x => r ++ [x]
def casesG : List Iv → List (List Int) → List (List Int)
  | [], f => f
  | p :: c, f => casesG c (grow p f)
def cases (c : List Iv) : List (List Int) := casesG c [[]]
theorem grow_len (p : Iv) (f : List (List Int)) : (grow p f).length = f.length * (p.2 + 1 - p.1).toNat := by
  unfold grow
  induction f with
  | nil => simp
  | cons r f ih => rw [List.flatMap_cons, List.length_append, ih, List.length_map, rg_len, List.length_cons, Nat.succ_mul, Nat.add_comm]
theorem grow_row {p : Iv} {f : List (List Int)} {n : Nat} (h : ∀ r ∈ f, r.length = n) : ∀ r ∈ grow p f, r.length = n + 1 := by
  intro r hr
  unfold grow at hr
  simp only [List.mem_flatMap, List.mem_map] at hr
  obtain ⟨a, ha, x, _, rfl⟩ := hr
  simp [h a ha]
theorem casesG_row : ∀ (c : List Iv) {f : List (List Int)} {n : Nat}, (∀ r ∈ f, r.length = n) → ∀ r ∈ casesG c f, r.length = n + c.length := by
  intro c
  induction c with
  | nil => intro f n h; exact h
  | cons p c ih =>
    intro f n h r hr
    have := ih (grow_row h) r hr
    rw [this]; simp; omega
theorem cases_row {c : List Iv} : ∀ r ∈ cases c, r.length = c.length := fun r hr => by
  have := casesG_row c (f := [[]]) (n := 0) (by simp) r hr
  omega
theorem casesG_len : ∀ (c : List Iv) (f : List (List Int)) (m : Nat), (∀ p ∈ c, p.2 + 1 - p.1 ≤ (m : Int)) → (casesG c f).length ≤ f.length * m ^ c.length := by
  intro c
  induction c with
  | nil => intro f m _; simp [casesG]
  | cons p c ih =>
    intro f m h
    have h1 := ih (grow p f) m fun q hq => h q (by simp [hq])
    have h2 := h p (by simp)
    rw [grow_len] at h1
    refine Nat.le_trans h1 ?_
    rw [List.length_cons, Nat.pow_succ, Nat.mul_comm (m ^ c.length) m, ← Nat.mul_assoc]
    exact Nat.mul_le_mul_right _ (Nat.mul_le_mul_left _ (by omega))
theorem mem_grow {p : Iv} {f : List (List Int)} {r : List Int} {x : Int} : r ++ [x] ∈ grow p f ↔ r ∈ f ∧ p.1 ≤ x ∧ x ≤ p.2 := by
  unfold grow
  simp only [List.mem_flatMap, List.mem_map, mem_rg]
  constructor
  · rintro ⟨a, ha, y, hy, e⟩
    have := List.append_inj' e rfl
    obtain ⟨rfl, e2⟩ := this
    cases e2
    exact ⟨ha, hy⟩
  · rintro ⟨h1, h2⟩; exact ⟨r, h1, x, h2, rfl⟩
def inCell : List Iv → List Int → Bool
  | [], [] => true
  | p :: c, x :: r => decide (p.1 ≤ x) && decide (x ≤ p.2) && inCell c r
  | _, _ => false
theorem mem_casesG : ∀ (c : List Iv) (f : List (List Int)) (a b : List Int), a ++ b ∈ casesG c f ∧ b.length = c.length ↔ a ∈ f ∧ inCell c b = true := by
  intro c
  induction c with
  | nil =>
    intro f a b
    cases b with
    | nil => simp [casesG, inCell]
    | cons x b => simp [inCell]
  | cons p c ih =>
    intro f a b
    cases b with
    | nil => simp [inCell]
    | cons x b =>
      have h := ih (grow p f) (a ++ [x]) b
      rw [mem_grow] at h
      simp only [List.append_assoc, List.singleton_append] at h
      simp only [casesG, inCell, List.length_cons, Nat.add_right_cancel_iff, h, Bool.and_eq_true, decide_eq_true_eq, and_assoc]
theorem mem_cases (c : List Iv) (b : List Int) (h : b.length = c.length) : decide (b ∈ cases c) = inCell c b := by
  have := mem_casesG c [[]] [] b
  simp only [List.nil_append, List.mem_singleton, true_and, h, and_true] at this
  rw [Bool.eq_iff_iff, decide_eq_true_eq]
  exact this
theorem casesG_filter {p : List Int → Bool} : ∀ (c : List Iv) (f : List (List Int)), (∀ r ∈ f, ∀ s, p (r ++ s) = p r) → casesG c (f.filter p) = (casesG c f).filter p := by
  intro c
  induction c with
  | nil => intro f _; rfl
  | cons q c ih =>
    intro f h
    have e : grow q (f.filter p) = (grow q f).filter p := by
      unfold grow
      clear ih
      induction f with
      | nil => rfl
      | cons r f ihf =>
        have h1 := ihf fun r hr => h r (by simp [hr])
        have h2 : ∀ x, p (r ++ [x]) = p r := fun x => h r (by simp) [x]
        rw [List.flatMap_cons, List.filter_append, ← h1, List.filter_map]
        cases hr : p r with
        | true =>
          rw [List.filter_cons, hr, if_pos rfl, List.flatMap_cons]
          congr 1
          rw [List.filter_eq_self.mpr]
          intro x _
          simp [h2, hr]
        | false =>
          have e3 : (rg q.1 q.2).filter (p ∘ fun x => r ++ [x]) = [] := List.filter_eq_nil_iff.mpr fun x _ => by simp [h2, hr]
          rw [List.filter_cons, hr, if_neg (by decide), e3]; rfl
    show casesG c (grow q (f.filter p)) = (casesG c (grow q f)).filter p
    rw [e, ih]
    intro r hr s
    unfold grow at hr
    simp only [List.mem_flatMap, List.mem_map] at hr
    obtain ⟨a, ha, x, _, rfl⟩ := hr
    rw [List.append_assoc, h a ha, h a ha]
theorem casesG_app (a b : List Iv) (f : List (List Int)) : casesG (a ++ b) f = casesG b (casesG a f) := by
  induction a generalizing f with
  | nil => rfl
  | cons p a ih => exact ih _
end Q
/-! Laws' drawn facts and cells. -/
namespace Q
open PySem
def i__law_facts_r0 : ISs := (.cons (.app 3 (.tup (.cons (.idx (.loc 2) (.loc 4)) (.cons (.cst (.int 0)) (.cons (.bin .sub (.blt "len" (.cons (.loc 5) .nil)) (.cst (.int 1))) (.cons (.loc 5) .nil))))))
  .nil)
def i__law_facts_r1 : ISs := (.cons (.app 3 (.tup (.cons (.idx (.loc 2) (.loc 4)) (.cons (.loc 6) (.cons (.bin .add (.loc 6) (.call "_law_draw" (.cons (.loc 0) (.cons (.cst (.int 5)) .nil)))) (.cons (.tup .nil) .nil))))))
  .nil)
def i__law_facts_b0 : ISs := (.cons (.ifs (.cmp .eq (.call "_law_draw" (.cons (.loc 0) (.cons (.cst (.int 3)) .nil))) (.cst (.int 0))) (.cons (.asg (.nm 5) (.slcE (.tup (.cons (.cst (.str "no")) (.cons (.cst (.str "so")) (.cons (.cst (.str "yes")) .nil)))) .no (.so (.bin .add (.cst (.int 2)) (.call "_law_draw" (.cons (.loc 0) (.cons (.cst (.int 2)) .nil)))))))
  i__law_facts_r0) (.cons (.asg (.nm 6) (.bin .sub (.call "_law_draw" (.cons (.loc 0) (.cons (.cst (.int 6)) .nil))) (.cst (.int 3))))
  i__law_facts_r1))
  .nil)
def i__law_facts_r2 : ISs := (.cons (.ret (.blt "tuple" (.cons (.loc 3) .nil)))
  .nil)
def i__law_facts : ISs := (.cons (.asg (.nm 2) (.tup (.cons (.cst (.str "aa")) (.cons (.cst (.str "bb")) (.cons (.cst (.str "cc")) (.cons (.cst (.str "dd")) .nil))))))
  (.cons (.asg (.nm 3) (.lst .nil))
  (.cons (.fors (.nm 4) (.rng (.cst (.int 0)) (.call "_law_draw" (.cons (.loc 0) (.cons (.bin .add (.loc 1) (.cst (.int 1))) .nil)))) i__law_facts_b0)
  i__law_facts_r2)))
def f__law_facts : FD := ⟨2, 7, i__law_facts⟩
def i__law_cases_b1 : ISs := (.cons (.asg (.nm 3) (.bin .add (.loc 3) (.comp (.bin .add (.loc 4) (.tup (.cons (.loc 5) .nil))) (.nm 5) (.rng (.idx (.loc 2) (.cst (.int 1))) (.bin .add (.idx (.loc 2) (.cst (.int 2))) (.cst (.int 1)))) .yes [5])))
  .nil)
def i__law_cases_r0 : ISs := (.cons (.asg (.nm 1) (.loc 3))
  .nil)
def i__law_cases_b0 : ISs := (.cons (.asg (.nm 3) (.lst .nil))
  (.cons (.fors (.nm 4) (.seq (.loc 1)) i__law_cases_b1)
  i__law_cases_r0))
def i__law_cases_r1 : ISs := (.cons (.ret (.loc 1))
  .nil)
def i__law_cases : ISs := (.cons (.asg (.nm 1) (.lst (.cons (.tup .nil) .nil)))
  (.cons (.fors (.nm 2) (.seq (.loc 0)) i__law_cases_b0)
  i__law_cases_r1))
def f__law_cases : FD := ⟨1, 6, i__law_cases⟩
def i__law_whole : ISs := (.cons (.ret (.blt "tuple" (.cons (.comp (.tup (.cons (.idx (.loc 1) (.cst (.int 1))) (.cons (.idx (.loc 1) (.cst (.int 2))) .nil))) (.nm 1) (.seq (.loc 0)) .yes [1]) .nil)))
  .nil)
def f__law_whole : FD := ⟨1, 2, i__law_whole⟩
def i__law_cell_r0 : ISs := (.cons (.app 2 (.tup (.cons (.loc 4) (.cons (.bin .add (.loc 4) (.call "_law_draw" (.cons (.loc 0) (.cons (.bin .add (.bin .sub (.idx (.loc 3) (.cst (.int 2))) (.loc 4)) (.cst (.int 1))) .nil)))) .nil))))
  .nil)
def i__law_cell_b0 : ISs := (.cons (.asg (.nm 4) (.bin .add (.idx (.loc 3) (.cst (.int 1))) (.call "_law_draw" (.cons (.loc 0) (.cons (.bin .add (.bin .sub (.idx (.loc 3) (.cst (.int 2))) (.idx (.loc 3) (.cst (.int 1)))) (.cst (.int 1))) .nil)))))
  i__law_cell_r0)
def i__law_cell_r1 : ISs := (.cons (.ret (.blt "tuple" (.cons (.loc 2) .nil)))
  .nil)
def i__law_cell : ISs := (.cons (.asg (.nm 2) (.lst .nil))
  (.cons (.fors (.nm 3) (.seq (.loc 1)) i__law_cell_b0)
  i__law_cell_r1))
def f__law_cell : FD := ⟨2, 5, i__law_cell⟩
def i__law_cases_in : ISs := (.cons (.ret (.call "_law_cases" (.cons (.comp (.tup (.cons (.cst (.str "x")) (.cons (.loc 1) (.cons (.loc 2) (.cons (.tup .nil) .nil))))) (.tp [(.nm 1), (.nm 2)]) (.seq (.loc 0)) .yes [1, 2]) .nil)))
  .nil)
def f__law_cases_in : FD := ⟨1, 3, i__law_cases_in⟩
section
variable {T : Str → Option FD}
/-- facts -/
structure Fc where
  n : D
  lo : Int
  hi : Int
  w : D
def Fc.d (f : Fc) : D := .tup [f.n, .int f.lo, .int f.hi, f.w]
def Fc.iv (f : Fc) : Iv := (f.lo, f.hi)
def Fc.ok (f : Fc) : Prop := -3 ≤ f.lo ∧ f.lo ≤ f.hi ∧ f.hi ≤ f.lo + 4 ∧ f.lo ≤ 2
theorem w_lwhole (hT : T "_law_whole" = some f__law_whole) {k : Nat} {S : Sto} {P : D → Sto → Prop} {fs : List Fc} (hc : fs.length ≤ 1000)
  (h : P (.tup ((fs.map Fc.iv).map pr)) S) : Cl T (k + 1) "_law_whole" [.tup (fs.map Fc.d)] S P := by
  refine ⟨_, hT, rfl, ?_⟩
  simp_arith only [f__law_whole, i__law_whole]
  refine ⟨by simp, compL_m Fc.d (fun f => pr f.iv) fs (by rw [sizeL]; omega) ?_ (by rw [List.map_map] at h; exact h)⟩
  intro x hx K acc hac hK
  simp_arith only [Fc.d]
  exact ⟨hac, hK⟩
/-- what _law_cases walks -/
def fseq (x : D) (fs : List Fc) : Prop := x = .tup (fs.map Fc.d) ∨ x = .lst (fs.map Fc.d)
theorem w_law_cases (hT : T "_law_cases" = some f__law_cases) {k : Nat} {S : Sto} {P : D → Sto → Prop} {fs : List Fc} {y : D} (hy : fseq y fs) (hc : fs.length ≤ 3) (hb : ∀ f ∈ fs, -100 ≤ f.lo ∧ f.lo ≤ 100 ∧ f.hi + 1 - f.lo ≤ 5 ∧ -100 ≤ f.hi)
  (h : P (.lst ((cases (fs.map Fc.iv)).map rowD)) S) : Cl T (k + 1) "_law_cases" [y] S P := by
  refine ⟨_, hT, rfl, ?_⟩
  simp_arith only [f__law_cases, i__law_cases]
  have inner : ∀ (f l : List (List Int)) (y q u : D) (p : Fc) (s4 : Sl) (Z : Ends), (-100 ≤ p.lo ∧ p.lo ≤ 100 ∧ p.hi + 1 - p.lo ≤ 5 ∧ -100 ≤ p.hi) → l.length + 5 * f.length ≤ 10000 → (∀ r ∈ f, r.length ≤ 1000) → (∀ s4, Z.nx [.val y, .val q, .val p.d, .own (.lst ((l ++ grow p.iv f).map rowD)), s4, .no] S) → forL (wG (.nm 4)) (wSs (Cl T k) i__law_cases_b1) Z (f.map rowD) [.val y, .val q, .val p.d, .own (.lst (l.map rowD)), s4, .no] S := by
    intro f
    induction f with
    | nil => intro l y q u p s4 Z _ _ _ h; simpa [forL, grow] using h s4
    | cons r f ih =>
      intro l y q u p s4 Z hp hl hr h
      have l1 : lim62 p.lo := by unfold lim62; omega
      have l2 : lim62 (p.hi + 1) := by unfold lim62; omega
      simp only [List.length_cons] at hl
      have hrg := rg_len p.lo p.hi
      simp_arith only [List.map_cons, forL, i__law_cases_b1, Fc.d, l1, l2]
      refine ⟨by simp, ?_⟩
      rw [rng_rg]
      refine compL_m D.int (fun x => rowD (r ++ [x])) _ (by rw [rg_len, sizeL]; omega) ?_ ?_
      · intro x hx K acc hac hK
        simp_arith only [rowD]
        refine ⟨by have := hr r (by simp); simp [sizeL]; omega, hac, ?_⟩
        simpa [rowD] using hK
      · refine ⟨by simp [hrg, sizeL]; omega, ?_⟩
        have := ih (l ++ (rg p.lo p.hi).map fun x => r ++ [x]) y q u p (.val (rowD r)) Z hp (by simp [hrg]; omega) (fun q hq => hr q (by simp [hq])) (fun s4 => by
          have := h s4
          unfold grow at this ⊢
          rw [List.flatMap_cons, ← List.append_assoc] at this
          exact this)
        simp only [Fc.d, List.map_append, List.map_map] at this
        exact this
  have loop : ∀ (fs : List Fc) (f : List (List Int)) (n : Nat) (y : D) (s1 s2 s3 s4 : Sl), (s1 = .val (.lst (f.map rowD)) ∨ s1 = .own (.lst (f.map rowD))) → (∀ f ∈ fs, -100 ≤ f.lo ∧ f.lo ≤ 100 ∧ f.hi + 1 - f.lo ≤ 5 ∧ -100 ≤ f.hi) → f.length * 5 ^ fs.length ≤ 1000 → (∀ r ∈ f, r.length = n) → n + fs.length ≤ 1000 → P (.lst ((casesG (fs.map Fc.iv) f).map rowD)) S → forL (wG (.nm 2)) (wSs (Cl T k) i__law_cases_b0) { nx := fun L1 S1 => wSs (Cl T k) i__law_cases_r1 L1 S1 { nx := fun x S1 => P D.non S1, rt := P }, rt := P } (fs.map Fc.d) [.val y, s1, s2, s3, s4, .no] S := by
    intro fs
    induction fs with
    | nil =>
      intro f n y s1 s2 s3 s4 h1 _ _ _ _ h
      rcases h1 with rfl | rfl
      · simp_arith only [List.map_nil, forL, i__law_cases_r1]; exact h
      · simp_arith only [List.map_nil, forL, i__law_cases_r1]; exact h
    | cons p fs ih =>
      intro f n y s1 s2 s3 s4 h1 hb hf hn hn2 h
      have hp := hb p (by simp)
      simp only [List.length_cons, Nat.pow_succ] at hf hn2
      have h5 : 0 < 5 ^ fs.length := Nat.pow_pos (by decide)
      have hg : (grow p.iv f).length ≤ f.length * 5 := by rw [grow_len]; exact Nat.mul_le_mul_left _ (by simp only [Fc.iv]; omega)
      have hg2 : (grow p.iv f).length * 5 ^ fs.length ≤ 1000 := by
        refine Nat.le_trans (Nat.mul_le_mul_right _ hg) ?_
        rw [Nat.mul_assoc, Nat.mul_comm 5]; exact hf
      have hf2 : f.length ≤ 1000 := by
        refine Nat.le_trans ?_ hf
        exact Nat.le_mul_of_pos_right _ (Nat.mul_pos h5 (by decide))
      have fin : ∀ q : D, forL (wG (.nm 4)) (wSs (Cl T k) i__law_cases_b1) { nx := fun L1 S1 => wSs (Cl T k) i__law_cases_r0 L1 S1 { nx := fun L2 S2 => forL (wG (.nm 2)) (wSs (Cl T k) i__law_cases_b0) { nx := fun L1 S1 => wSs (Cl T k) i__law_cases_r1 L1 S1 { nx := fun x S1 => P D.non S1, rt := P }, rt := P } (fs.map Fc.d) L2 S2, rt := P, bk := fun L1 S1 => wSs (Cl T k) i__law_cases_r1 L1 S1 { nx := fun x S1 => P D.non S1, rt := P }, ct := fun L2 S2 => forL (wG (.nm 2)) (wSs (Cl T k) i__law_cases_b0) { nx := fun L1 S1 => wSs (Cl T k) i__law_cases_r1 L1 S1 { nx := fun x S1 => P D.non S1, rt := P }, rt := P } (fs.map Fc.d) L2 S2 }, rt := P, bk := fun L1 S1 => wSs (Cl T k) i__law_cases_r1 L1 S1 { nx := fun x S1 => P D.non S1, rt := P }, ct := fun L2 S2 => forL (wG (.nm 2)) (wSs (Cl T k) i__law_cases_b0) { nx := fun L1 S1 => wSs (Cl T k) i__law_cases_r1 L1 S1 { nx := fun x S1 => P D.non S1, rt := P }, rt := P } (fs.map Fc.d) L2 S2 } (f.map rowD) [.val y, .val q, .val p.d, .own (.lst []), s4, .no] S := fun q => by
        refine inner f [] y q q p s4 _ hp (by simp; omega) (fun r hr => by have := hn r hr; omega) fun s4 => ?_
        simp_arith only [i__law_cases_r0]
        exact ih (grow p.iv f) (n + 1) y _ _ _ _ (.inl rfl) (fun q hq => hb q (by simp [hq])) hg2 (grow_row hn) (by omega) h
      rcases h1 with rfl | rfl
      · simp_arith only [List.map_cons, forL, i__law_cases_b0]
        exact fin _
      · simp_arith only [List.map_cons, forL, i__law_cases_b0]
        exact fin _
  have h5 : 5 ^ fs.length ≤ 5 ^ 3 := Nat.pow_le_pow_right (by decide) hc
  have l0 := loop fs [[]] 0 y (.own (.lst ([[]].map rowD))) .no .no .no (.inr rfl) hb (by simp; omega) (by simp) (by omega) h
  rcases hy with rfl | rfl
  · exact l0
  · exact l0

theorem w_law_cases_in (hT : T "_law_cases_in" = some f__law_cases_in) (hC : T "_law_cases" = some f__law_cases) {k : Nat} {S : Sto} {P : D → Sto → Prop} {c : List Iv} (hc : c.length ≤ 3) (hb : ∀ p ∈ c, -100 ≤ p.1 ∧ p.1 ≤ 100 ∧ p.2 + 1 - p.1 ≤ 5 ∧ -100 ≤ p.2)
  (h : P (.lst ((cases c).map rowD)) S) : Cl T (k + 2) "_law_cases_in" [cellD c] S P := by
  refine ⟨_, hT, rfl, ?_⟩
  simp_arith only [f__law_cases_in, i__law_cases_in, cellD]
  refine ⟨by simp, compL_m pr (fun p : Iv => Fc.d ⟨.str "x", p.1, p.2, .tup []⟩) c (by rw [sizeL]; omega) ?_ ?_⟩
  · intro x hx K acc hac hK
    simp_arith only [pr]
    exact ⟨hac, hK⟩
  · have e : (c.map fun p : Iv => (⟨.str "x", p.1, p.2, .tup []⟩ : Fc)).map Fc.iv = c := by
      rw [List.map_map]; exact List.map_id'' (fun _ => rfl) c
    refine w_law_cases hC (fs := c.map fun p : Iv => ⟨.str "x", p.1, p.2, .tup []⟩) (.inr (by rw [List.map_map]; rfl)) (by simpa using hc) (fun f hf => ?_) ?_
    · obtain ⟨p, hp, rfl⟩ := List.mem_map.mp hf
      exact hb p hp
    · rw [e]
      exact h
theorem pow9 {n : Int} (h0 : 0 ≤ n) (h : n ≤ 1000) : n.natAbs < 2 ^ 9000 := Nat.lt_of_lt_of_le (show n.natAbs < 2 ^ 10 by omega) (Nat.pow_le_pow_right (by decide) (by decide))
theorem w_law_facts (hT : T "_law_facts" = some f__law_facts) (hD : T "_law_draw" = some f__law_draw) (hSp : T "_law_spread" = some f__law_spread) {k : Nat} {S : Sto} {P : D → Sto → Prop} (hS : Pool S)
  (h : ∀ (fs : List Fc) S', fs.length ≤ 3 → (∀ f ∈ fs, f.ok) → Pool S' → P (.tup (fs.map Fc.d)) S') : Cl T (k + 3) "_law_facts" [.obj 0, .int 3] S P := by
  refine ⟨_, hT, rfl, ?_⟩
  simp_arith only [f__law_facts, i__law_facts]
  have nm : ∀ j : Nat, j < 4 → ∃ n, L2.atI [D.str "aa", .str "bb", .str "cc", .str "dd"] (j : Int) = some n := fun j hj => by
    have : j < [D.str "aa", .str "bb", .str "cc", .str "dd"].length := hj
    exact ⟨_, atN (List.getElem?_eq_getElem this)⟩
  have loop : ∀ (ks : List Nat) (fs : List Fc) (s4 s5 s6 : Sl) (S : Sto), Pool S → (∀ j ∈ ks, j < 4) → fs.length + ks.length ≤ 3 → (∀ f ∈ fs, f.ok) → forL (wG (.nm 4)) (wSs (Cl T (k + 2)) i__law_facts_b0) { nx := fun L1 S1 => wSs (Cl T (k + 2)) i__law_facts_r2 L1 S1 { nx := fun x S1 => P D.non S1, rt := P }, rt := P } (ks.map fun (j : Nat) => D.int (j : Int)) [.val (.obj 0), .val (.int 3), .val (.tup [.str "aa", .str "bb", .str "cc", .str "dd"]), .own (.lst (fs.map Fc.d)), s4, s5, s6] S := by
    intro ks
    induction ks with
    | nil =>
      intro fs s4 s5 s6 S hS _ hl hf
      simp_arith only [List.map_nil, forL, i__law_facts_r2]
      exact h fs S (by simpa using hl) hf hS
    | cons j ks ih =>
      intro fs s4 s5 s6 S hS hj hl hf
      obtain ⟨n, en⟩ := nm j (hj j (by simp))
      simp only [List.length_cons] at hl
      simp_arith only [List.map_cons, forL, i__law_facts_b0]
      apply w_draw hD hSp hS (by decide) (pow9 (by decide) (by decide))
      intro v S1 v0 v1 hS1
      simp_arith only [true_and]
      refine iteI (fun hb => ?_) (fun hb => ?_)
      · apply w_draw hD hSp hS1 (by decide) (pow9 (by decide) (by decide))
        intro v S1 v0 v1 hS1
        have hv : v = 0 ∨ v = 1 := by omega
        have fin : ∀ (m : Int) (w : D), m = 1 ∨ m = 2 → ∀ s5 : Sl, forL (wG (.nm 4)) (wSs (Cl T (k + 2)) i__law_facts_b0) { nx := fun L1 S1 => wSs (Cl T (k + 2)) i__law_facts_r2 L1 S1 { nx := fun x S1 => P D.non S1, rt := P }, rt := P } (ks.map fun (j : Nat) => D.int (j : Int)) [.val (.obj 0), .val (.int 3), .val (.tup [.str "aa", .str "bb", .str "cc", .str "dd"]), .own (.lst (fs.map Fc.d ++ [.tup [n, .int 0, .int m, w]])), .val (.int j), s5, s6] S1 := fun m w hm s5 => by
          have := ih (fs ++ [⟨n, 0, m, w⟩]) (.val (.int j)) s5 s6 S1 hS1 (fun i hi => hj i (by simp [hi])) (by simp; omega) (by
            intro f hf1
            rcases List.mem_append.mp hf1 with h1 | h1
            · exact hf f h1
            · rw [List.mem_singleton.mp h1]; unfold Fc.ok; dsimp only; omega)
          simpa [Fc.d] using this
        have hsz : (fs.map Fc.d).length < sizeLine := by simp [sizeL]; omega
        rcases hv with rfl | rfl
        · have e : cut [D.str "no", .str "so", .str "yes"] none (some (2 + 0)) = [.str "no", .str "so"] := rfl
          simp_arith only [e, i__law_facts_r0, en]
          exact ⟨hsz, fin _ _ (.inl rfl) _⟩
        · have e : cut [D.str "no", .str "so", .str "yes"] none (some (2 + 1)) = [.str "no", .str "so", .str "yes"] := rfl
          simp_arith only [e, i__law_facts_r0, en]
          exact ⟨hsz, fin _ _ (.inr rfl) _⟩
      · apply w_draw hD hSp hS1 (by decide) (pow9 (by decide) (by decide))
        intro v S1 v0 v1 hS1
        simp_arith only [i__law_facts_r1, en]
        apply w_draw hD hSp hS1 (by decide) (pow9 (by decide) (by decide))
        intro u S1 u0 u1 hS1
        simp_arith only [true_and]
        have hsz : (fs.map Fc.d).length < sizeLine := by simp [sizeL]; omega
        refine ⟨hsz, ?_⟩
        have := ih (fs ++ [⟨n, v - 3, v - 3 + u, .tup []⟩]) (.val (.int j)) s5 (.val (.int (v - 3))) S1 hS1 (fun i hi => hj i (by simp [hi])) (by simp; omega) (by
            intro f hf1
            rcases List.mem_append.mp hf1 with h1 | h1
            · exact hf f h1
            · rw [List.mem_singleton.mp h1]; unfold Fc.ok; dsimp only; omega)
        rw [List.map_append] at this
        exact this
  apply w_draw hD hSp hS (by decide) (pow9 (by decide) (by decide))
  intro v S1 v0 v1 hS1
  obtain ⟨m, rfl⟩ := Int.eq_ofNat_of_zero_le v0
  have l2 : lim62 (m : Int) := by unfold lim62; omega
  simp_arith only [lim_0, l2]
  rw [Int.sub_zero, Int.toNat_natCast, rng0]
  exact loop (List.range m) [] .no .no .no S1 hS1 (fun j hj => by have := List.mem_range.mp hj; omega) (by simp; omega) (by simp)
def sub (p q : Iv) : Prop := q.1 ≤ p.1 ∧ p.1 ≤ p.2 ∧ p.2 ≤ q.2
theorem w_law_cell (hT : T "_law_cell" = some f__law_cell) (hD : T "_law_draw" = some f__law_draw) (hSp : T "_law_spread" = some f__law_spread) {k : Nat} {S : Sto} {P : D → Sto → Prop} {fs : List Fc} (hS : Pool S) (hc : fs.length ≤ 3) (hf : ∀ f ∈ fs, f.ok)
  (h : ∀ (c : List Iv) S', c.length = fs.length → (∀ p ∈ c, -3 ≤ p.1 ∧ p.1 ≤ p.2 ∧ p.2 ≤ 6 ∧ p.2 + 1 - p.1 ≤ 5) → Pool S' → P (cellD c) S') : Cl T (k + 3) "_law_cell" [.obj 0, .tup (fs.map Fc.d)] S P := by
  refine ⟨_, hT, rfl, ?_⟩
  simp_arith only [f__law_cell, i__law_cell]
  have loop : ∀ (fs : List Fc) (c : List Iv) (y : D) (m : Nat) (s3 s4 : Sl) (S : Sto), Pool S → (∀ f ∈ fs, f.ok) → c.length + fs.length ≤ 3 → (∀ p ∈ c, -3 ≤ p.1 ∧ p.1 ≤ p.2 ∧ p.2 ≤ 6 ∧ p.2 + 1 - p.1 ≤ 5) → (∀ (c' : List Iv) S', c'.length = c.length + fs.length → (∀ p ∈ c', -3 ≤ p.1 ∧ p.1 ≤ p.2 ∧ p.2 ≤ 6 ∧ p.2 + 1 - p.1 ≤ 5) → Pool S' → P (cellD c') S') → forL (wG (.nm 3)) (wSs (Cl T (k + 2)) i__law_cell_b0) { nx := fun L1 S1 => wSs (Cl T (k + 2)) i__law_cell_r1 L1 S1 { nx := fun x S1 => P D.non S1, rt := P }, rt := P } (fs.map Fc.d) [.val (.obj 0), .val y, .own (.lst (c.map pr)), s3, s4] S := by
    intro fs
    induction fs with
    | nil =>
      intro c y m s3 s4 S hS _ _ hc h
      simp_arith only [List.map_nil, forL, i__law_cell_r1]
      exact h c S rfl hc hS
    | cons f fs ih =>
      intro c y m s3 s4 S hS hf hl hc h
      have hp := hf f (by simp)
      unfold Fc.ok at hp
      simp only [List.length_cons] at hl
      simp_arith only [List.map_cons, forL, i__law_cell_b0, Fc.d]
      apply w_draw hD hSp hS (by omega) (pow9 (by omega) (by omega))
      intro v S1 v0 v1 hS1
      simp_arith only [i__law_cell_r0]
      apply w_draw hD hSp hS1 (by omega) (pow9 (by omega) (by omega))
      intro u S1 u0 u1 hS1
      simp_arith only [true_and]
      have hsz : (c.map pr).length < sizeLine := by simp [sizeL]; omega
      refine ⟨hsz, ?_⟩
      have := ih (c ++ [(f.lo + v, f.lo + v + u)]) y m (.val (.tup [f.n, .int f.lo, .int f.hi, f.w])) (.val (.int (f.lo + v))) S1 hS1 (fun q hq => hf q (by simp [hq])) (by simp; omega) (by
          intro p hp1
          rcases List.mem_append.mp hp1 with h1 | h1
          · exact hc p h1
          · rw [List.mem_singleton.mp h1]; dsimp only; omega) (fun c' S' hl' => h c' S' (by simp at hl' ⊢; omega))
      rw [List.map_append] at this
      exact this
  exact loop fs [] _ 0 .no .no S hS hf (by simpa using hc) (by simp) (fun c' S' hl => h c' S' (by simpa using hl))

end
theorem okS_pairs (l : List Iv) (hl : l.length < 2 ^ 62) (n : Nat) : (D.tup (l.map pr)).okS (n + 3) := by
  refine ⟨by simpa using hl, fun d hd => ?_⟩
  obtain ⟨x, hx, rfl⟩ := List.mem_map.mp hd
  refine ⟨by simp, fun d hd => ?_⟩
  simp only [List.mem_cons, List.not_mem_nil, or_false] at hd
  rcases hd with rfl | rfl <;> exact True.intro
theorem okS_2 {a b : D} {n : Nat} (ha : a.okS n) (hb : b.okS n) : (D.lst [a, b]).okS (n + 1) := by
  refine ⟨by simp, fun d hd => ?_⟩
  simp only [List.mem_cons, List.not_mem_nil, or_false] at hd
  rcases hd with rfl | rfl <;> assumption
theorem cases_small {c : List Iv} (hc : c.length ≤ 3) (hb : ∀ p ∈ c, p.2 + 1 - p.1 ≤ 5) : (cases c).length ≤ 125 := by
  have h := casesG_len c [[]] 5 hb
  have h5 : 5 ^ c.length ≤ 5 ^ 3 := Nat.pow_le_pow_right (by decide) hc
  simp only [List.length_cons, List.length_nil] at h
  unfold cases
  omega
theorem okS_cases {c : List Iv} (hc : c.length ≤ 3) (hb : ∀ p ∈ c, p.2 + 1 - p.1 ≤ 5) (n : Nat) : (D.lst ((cases c).map rowD)).okS (n + 3) :=
  okS_rows _ (by have := cases_small hc hb; omega) (fun r hr => by have := cases_row r hr; omega) n
theorem cases_le {c : List Iv} {p : Nat} {lo hi at_ : Int} (hp : c[p]? = some (lo, hi)) (h1 : lo ≤ at_ + 1) (h2 : at_ ≤ hi) :
    cases (c.set p (lo, at_)) = (cases c).filter (fun r => decide (r.getD p 0 ≤ at_)) ∧ cases (c.set p (at_ + 1, hi)) = (cases c).filter (fun r => decide (at_ < r.getD p 0)) := by
  have hl : p < c.length := (List.getElem?_eq_some_iff.mp hp).1
  have e : c = c.take p ++ (lo, hi) :: c.drop (p + 1) := by
    have := List.getElem?_eq_some_iff.mp hp
    rw [← this.2, List.getElem_cons_drop, List.take_append_drop]
  have es : ∀ q : Iv, c.set p q = c.take p ++ q :: c.drop (p + 1) := fun q => by rw [List.set_eq_take_append_cons_drop, if_pos hl]
  have ht : (c.take p).length = p := by simp; omega
  have hrow : ∀ r ∈ casesG (c.take p) [[]], r.length = p := fun r hr => by
    have := casesG_row (c.take p) (f := [[]]) (n := 0) (by simp) r hr
    omega
  have key : ∀ (q : Int → Bool) (iv : Iv), (rg lo hi).filter q = rg iv.1 iv.2 → cases (c.set p iv) = (cases c).filter (fun r => q (r.getD p 0)) := by
    intro q iv hq
    have e2 : cases c = casesG (c.drop (p + 1)) (grow (lo, hi) (casesG (c.take p) [[]])) := by
      conv => lhs; rw [e]
      unfold cases
      rw [casesG_app]; rfl
    have e3 : cases (c.set p iv) = casesG (c.drop (p + 1)) (grow iv (casesG (c.take p) [[]])) := by
      rw [es]
      unfold cases
      rw [casesG_app]; rfl
    rw [e2, e3, ← casesG_filter]
    · congr 1
      generalize casesG (c.take p) [[]] = f at hrow
      unfold grow
      induction f with
      | nil => rfl
      | cons r f ih =>
        have hr := hrow r (by simp)
        rw [List.flatMap_cons, List.flatMap_cons, List.filter_append, ih fun r hr => hrow r (by simp [hr]), List.filter_map]
        congr 2
        rw [← hq]
        apply List.filter_congr
        intro x _
        simp [← hr]
    · intro r hr s
      unfold grow at hr
      simp only [List.mem_flatMap, List.mem_map] at hr
      obtain ⟨a, ha, x, _, rfl⟩ := hr
      have := hrow a ha
      simp [← this, List.getElem?_append]
  exact ⟨key _ (lo, at_) (rg_le h1 h2), key _ (at_ + 1, hi) (rg_gt h1 h2)⟩
end Q
/-! Trees of cells. -/
namespace Q
open PySem
def i_halves : ISs := (.cons (.asg (.tp [(.nm 3), (.nm 4)]) (.idx (.loc 0) (.loc 1)))
  (.cons (.ret (.tup (.cons (.bin .add (.bin .add (.slcE (.loc 0) .no (.so (.loc 1))) (.tup (.cons (.tup (.cons (.loc 3) (.cons (.loc 2) .nil))) .nil))) (.slcE (.loc 0) (.so (.bin .add (.loc 1) (.cst (.int 1)))) .no)) (.cons (.bin .add (.bin .add (.slcE (.loc 0) .no (.so (.loc 1))) (.tup (.cons (.tup (.cons (.bin .add (.loc 2) (.cst (.int 1))) (.cons (.loc 4) .nil))) .nil))) (.slcE (.loc 0) (.so (.bin .add (.loc 1) (.cst (.int 1)))) .no)) .nil))))
  .nil))
def f_halves : FD := ⟨3, 5, i_halves⟩
def i_leaves_of_r0 : ISs := (.cons (.ext 3 (.lst (.cons (.tup (.cons (.idx (.loc 4) (.cst (.int 4))) (.cons (.loc 7) .nil))) (.cons (.tup (.cons (.idx (.loc 4) (.cst (.int 3))) (.cons (.loc 6) .nil))) .nil))))
  .nil)
def i_leaves_of_b0 : ISs := (.cons (.pop (.tp [(.nm 4), (.nm 5)]) 3)
  (.cons (.ifs (.cmp .eq (.loc 4) (.cst (D.tup [D.str "leaf"]))) (.cons (.app 2 (.loc 5))
  .nil) (.cons (.asg (.tp [(.nm 6), (.nm 7)]) (.call "halves" (.cons (.loc 5) (.cons (.idx (.loc 4) (.cst (.int 1))) (.cons (.idx (.loc 4) (.cst (.int 2))) .nil)))))
  i_leaves_of_r0))
  .nil))
def i_leaves_of_r1 : ISs := (.cons (.ret (.loc 2))
  .nil)
def i_leaves_of : ISs := (.cons (.par 2 3 (.lst .nil) (.lst (.cons (.tup (.cons (.loc 0) (.cons (.loc 1) .nil))) .nil)))
  (.cons (.whl (.cmp .gt (.blt "len" (.cons (.loc 3) .nil)) (.cst (.int 0))) i_leaves_of_b0)
  i_leaves_of_r1))
def f_leaves_of : FD := ⟨2, 8, i_leaves_of⟩
def i__law_is_integer : ISs := (.cons (.ret (.and (.isa (.loc 0) "int") (.not (.isa (.loc 0) "bool"))))
  .nil)
def f__law_is_integer : FD := ⟨1, 1, i__law_is_integer⟩
def i__law_is_worded : ISs := (.cons (.ifs (.or (.not (.v (.isa (.loc 0) "tuple"))) (.cmp .ne (.blt "len" (.cons (.loc 0) .nil)) (.loc 2))) (.cons (.ret (.cst (.bl false)))
  .nil) .nil)
  (.cons (.ret (.and (.isa (.idx (.loc 0) (.cst (.int 0))) "str") (.cmp .eq (.idx (.loc 0) (.cst (.int 0))) (.loc 1))))
  .nil))
def f__law_is_worded : FD := ⟨3, 3, i__law_is_worded⟩
def i__law_leaves_r0 : ISs := (.cons (.ret (.ite (.or (.cmp .is (.loc 4) (.cst .non)) (.cmp .is (.loc 5) (.cst .non))) (.cst .non) (.bin .add (.loc 4) (.loc 5))))
  .nil)
def i__law_leaves_r1 : ISs := (.cons (.asg (.nm 5) (.call "_law_leaves" (.cons (.idx (.loc 0) (.cst (.int 4))) (.cons (.bin .add (.bin .add (.slcE (.loc 1) .no (.so (.loc 2))) (.tup (.cons (.tup (.cons (.bin .add (.loc 3) (.cst (.int 1))) (.cons (.idx (.idx (.loc 1) (.loc 2)) (.cst (.int 1))) .nil))) .nil))) (.slcE (.loc 1) (.so (.bin .add (.loc 2) (.cst (.int 1)))) .no)) .nil))))
  i__law_leaves_r0)
def i__law_leaves_r2 : ISs := (.cons (.par 2 3 (.idx (.loc 0) (.cst (.int 1))) (.idx (.loc 0) (.cst (.int 2))))
  (.cons (.ifs (.or (.cmp .lt (.loc 3) (.idx (.idx (.loc 1) (.loc 2)) (.cst (.int 0)))) (.cmp .ge (.loc 3) (.idx (.idx (.loc 1) (.loc 2)) (.cst (.int 1))))) (.cons (.ret (.cst .non))
  .nil) .nil)
  (.cons (.asg (.nm 4) (.call "_law_leaves" (.cons (.idx (.loc 0) (.cst (.int 3))) (.cons (.bin .add (.bin .add (.slcE (.loc 1) .no (.so (.loc 2))) (.tup (.cons (.tup (.cons (.idx (.idx (.loc 1) (.loc 2)) (.cst (.int 0))) (.cons (.loc 3) .nil))) .nil))) (.slcE (.loc 1) (.so (.bin .add (.loc 2) (.cst (.int 1)))) .no)) .nil))))
  i__law_leaves_r1)))
def i__law_leaves_r3 : ISs := (.cons (.ifs (.or (.not (.v (.call "_law_is_worded" (.cons (.loc 0) (.cons (.cst (.str "split")) (.cons (.cst (.int 5)) .nil)))))) (.or (.not (.v (.call "_law_is_integer" (.cons (.idx (.loc 0) (.cst (.int 1))) .nil)))) (.or (.not (.v (.call "_law_is_integer" (.cons (.idx (.loc 0) (.cst (.int 2))) .nil)))) (.or (.cmp .lt (.idx (.loc 0) (.cst (.int 1))) (.cst (.int 0))) (.cmp .ge (.idx (.loc 0) (.cst (.int 1))) (.blt "len" (.cons (.loc 1) .nil))))))) (.cons (.ret (.cst .non))
  .nil) .nil)
  i__law_leaves_r2)
def i__law_leaves : ISs := (.cons (.ifs (.and (.v (.isa (.loc 0) "tuple")) (.and (.cmp .eq (.blt "len" (.cons (.loc 0) .nil)) (.cst (.int 1))) (.v (.call "_law_same" (.cons (.loc 0) (.cons (.tup (.cons (.cst (.str "leaf")) .nil)) .nil)))))) (.cons (.ret (.lst (.cons (.loc 1) .nil)))
  .nil) .nil)
  i__law_leaves_r3)
def f__law_leaves : FD := ⟨2, 6, i__law_leaves⟩
def i__law_a_tree_r0 : ISs := (.cons (.ret (.tup (.cons (.cst (.str "split")) (.cons (.loc 4) (.cons (.loc 5) (.cons (.call "_law_a_tree" (.cons (.loc 0) (.cons (.bin .add (.bin .add (.slcE (.loc 1) .no (.so (.loc 4))) (.tup (.cons (.tup (.cons (.idx (.idx (.loc 1) (.loc 4)) (.cst (.int 0))) (.cons (.loc 5) .nil))) .nil))) (.slcE (.loc 1) (.so (.bin .add (.loc 4) (.cst (.int 1)))) .no)) (.cons (.bin .sub (.loc 2) (.cst (.int 1))) .nil)))) (.cons (.call "_law_a_tree" (.cons (.loc 0) (.cons (.bin .add (.bin .add (.slcE (.loc 1) .no (.so (.loc 4))) (.tup (.cons (.tup (.cons (.bin .add (.loc 5) (.cst (.int 1))) (.cons (.idx (.idx (.loc 1) (.loc 4)) (.cst (.int 1))) .nil))) .nil))) (.slcE (.loc 1) (.so (.bin .add (.loc 4) (.cst (.int 1)))) .no)) (.cons (.bin .sub (.loc 2) (.cst (.int 1))) .nil)))) .nil)))))))
  .nil)
def i__law_a_tree_r1 : ISs := (.cons (.asg (.nm 5) (.bin .add (.idx (.idx (.loc 1) (.loc 4)) (.cst (.int 0))) (.call "_law_draw" (.cons (.loc 0) (.cons (.bin .sub (.idx (.idx (.loc 1) (.loc 4)) (.cst (.int 1))) (.idx (.idx (.loc 1) (.loc 4)) (.cst (.int 0)))) .nil)))))
  i__law_a_tree_r0)
def i__law_a_tree_r2 : ISs := (.cons (.asg (.nm 4) (.call "_law_pick" (.cons (.loc 0) (.cons (.loc 3) .nil))))
  i__law_a_tree_r1)
def i__law_a_tree_r3 : ISs := (.cons (.ifs (.or (.cmp .eq (.loc 2) (.cst (.int 0))) (.or (.cmp .eq (.blt "len" (.cons (.loc 3) .nil)) (.cst (.int 0))) (.cmp .eq (.call "_law_draw" (.cons (.loc 0) (.cons (.cst (.int 4)) .nil))) (.cst (.int 0))))) (.cons (.ret (.tup (.cons (.cst (.str "leaf")) .nil)))
  .nil) .nil)
  i__law_a_tree_r2)
def i__law_a_tree : ISs := (.cons (.asg (.nm 3) (.comp (.loc 4) (.nm 4) (.rng (.cst (.int 0)) (.blt "len" (.cons (.loc 1) .nil))) (.cmp .lt (.idx (.idx (.loc 1) (.loc 4)) (.cst (.int 0))) (.idx (.idx (.loc 1) (.loc 4)) (.cst (.int 1)))) [4]))
  i__law_a_tree_r3)
def f__law_a_tree : FD := ⟨3, 6, i__law_a_tree⟩
def i__law_full_tree_r0 : ISs := (.cons (.ifs (.cmp .eq (.blt "len" (.cons (.loc 1) .nil)) (.cst (.int 0))) (.cons (.ret (.tup (.cons (.cst (.str "leaf")) .nil)))
  .nil) .nil)
  (.cons (.par 2 3 (.idx (.loc 1) (.cst (.int 0))) (.idx (.idx (.loc 0) (.idx (.loc 1) (.cst (.int 0)))) (.cst (.int 0))))
  (.cons (.ret (.tup (.cons (.cst (.str "split")) (.cons (.loc 2) (.cons (.loc 3) (.cons (.call "_law_full_tree" (.cons (.bin .add (.bin .add (.slcE (.loc 0) .no (.so (.loc 2))) (.tup (.cons (.tup (.cons (.loc 3) (.cons (.loc 3) .nil))) .nil))) (.slcE (.loc 0) (.so (.bin .add (.loc 2) (.cst (.int 1)))) .no)) .nil)) (.cons (.call "_law_full_tree" (.cons (.bin .add (.bin .add (.slcE (.loc 0) .no (.so (.loc 2))) (.tup (.cons (.tup (.cons (.bin .add (.loc 3) (.cst (.int 1))) (.cons (.idx (.idx (.loc 0) (.loc 2)) (.cst (.int 1))) .nil))) .nil))) (.slcE (.loc 0) (.so (.bin .add (.loc 2) (.cst (.int 1)))) .no)) .nil)) .nil)))))))
  .nil)))
def i__law_full_tree : ISs := (.cons (.asg (.nm 1) (.comp (.loc 2) (.nm 2) (.rng (.cst (.int 0)) (.blt "len" (.cons (.loc 0) .nil))) (.cmp .lt (.idx (.idx (.loc 0) (.loc 2)) (.cst (.int 0))) (.idx (.idx (.loc 0) (.loc 2)) (.cst (.int 1)))) [2]))
  i__law_full_tree_r0)
def f__law_full_tree : FD := ⟨1, 4, i__law_full_tree⟩

/-- parting a cell -/
structure CutAt (c : List Iv) (p : Nat) (lo hi : Int) : Prop where
  at_ : L2.atI (c.map pr) (p : Int) = some (.tup [.int lo, .int hi])
  l : cut (c.map pr) none (some (p : Int)) = (c.take p).map pr
  r : cut (c.map pr) (some ((p : Int) + 1)) none = (c.drop (p + 1)).map pr
  s : ∀ a b : Int, (c.take p).map pr ++ [.tup [.int a, .int b]] ++ (c.drop (p + 1)).map pr = (c.set p (a, b)).map pr
  a1 : (((c.take p).map pr).length + 1 ≤ sizeLine) = True
  a2 : ∀ x : D, (((c.take p).map pr ++ [x]).length + ((c.drop (p + 1)).map pr).length ≤ sizeLine) = True
theorem cutAt {c : List Iv} {p : Nat} {lo hi : Int} (hp : c[p]? = some (lo, hi)) (hc : c.length ≤ 1000) : CutAt c p lo hi := by
  have hl : p < c.length := (List.getElem?_eq_some_iff.mp hp).1
  refine ⟨atN (by rw [List.getElem?_map, hp]; rfl), by rw [cut_hi _ _ (by simp; omega), List.map_take], ?_, ?_, eq_true ?_, fun x => eq_true ?_⟩
  · have := cut_lo (c.map pr) (p + 1) (by simp; omega)
    rw [← List.map_drop] at this; exact this
  · intro a b
    rw [List.set_eq_take_append_cons_drop, if_pos hl]; simp [pr]
  · rw [sizeL]; simp; omega
  · rw [sizeL]; simp; omega
inductive Tre where
  | leaf
  | split (k : Nat) (a : Int) (l r : Tre)
namespace Tre
def d : Tre → D
  | leaf => .tup [.str "leaf"]
  | split k a l r => .tup [.str "split", .int k, .int a, l.d, r.d]
def fits : Tre → List Iv → Prop
  | leaf, _ => True
  | split k a l r, c => ∃ lo hi, c[k]? = some (lo, hi) ∧ lo ≤ a ∧ a < hi ∧ l.fits (c.set k (lo, a)) ∧ r.fits (c.set k (a + 1, hi))
def leaves : Tre → List Iv → List (List Iv)
  | leaf, c => [c]
  | split k a l r, c => l.leaves (c.set k ((c.getD k (0, 0)).1, a)) ++ r.leaves (c.set k (a + 1, (c.getD k (0, 0)).2))
def dep : Tre → Nat
  | leaf => 0
  | split _ _ l r => max l.dep r.dep + 1
def nl : Tre → Nat
  | leaf => 1
  | split _ _ l r => l.nl + r.nl
theorem leaves_len : ∀ (t : Tre) (c : List Iv), (t.leaves c).length = t.nl
  | leaf, _ => rfl
  | split k a l r, c => by simp [leaves, nl, leaves_len l, leaves_len r]
theorem getD_of {c : List Iv} {k : Nat} {p : Iv} (h : c[k]? = some p) : c.getD k (0, 0) = p := by
  rw [List.getD_eq_getElem?_getD, h]; rfl
theorem nl_pos : ∀ t : Tre, 0 < t.nl
  | leaf => Nat.one_pos
  | split _ _ l r => by have := nl_pos l; simp [nl]; omega
theorem okE : ∀ (t : Tre) (n : Nat), t.dep ≤ n → D.okE (n + 1) t.d := by
  intro t
  induction t with
  | leaf =>
    intro n _ d hd
    rw [List.mem_singleton.mp hd]
    cases n <;> (show PyData.canLay0 (.str "leaf") = true; decide +kernel)
  | split k a l r ihl ihr =>
    intro n hn d hd
    cases n with
    | zero => simp [dep] at hn
    | succ n =>
      simp only [dep] at hn
      simp only [List.mem_cons, List.not_mem_nil, or_false] at hd
      rcases hd with rfl | rfl | rfl | rfl | rfl
      · show PyData.canLay0 (.str "split") = true; decide +kernel
      · exact True.intro
      · exact True.intro
      · exact ihl n (by omega)
      · exact ihr n (by omega)
end Tre
theorem eq_leaf_no (k : Nat) (a : Int) (l r : Tre) : D.eq (Tre.split k a l r).d (.tup [.str "leaf"]) = false := by
  show D.eq (.tup _) (.tup _) = false
  rw [eq_tup]
  have : (("split" : Str) == ("leaf" : Str)) = false := by decide
  simp [eqAll, eq_str, this]
theorem eq_leaf_yes : D.eq Tre.leaf.d (.tup [.str "leaf"]) = true := by
  show D.eq (.tup _) (.tup _) = true
  rw [eq_tup]
  simp [eqAll, eq_str]
theorem eqQ_tree (t : Tre) (h : t.dep ≤ 60) : eqQ t.d (.tup [.str "leaf"]) = true := by
  have h1 := eqOk_of (t.okE t.dep (Nat.le_refl _)) (by omega)
  have h2 : (D.tup [.str "leaf"]).eqOk = true := eqOk_of (Tre.leaf.okE 0 (Nat.le_refl _)) (by decide)
  have : ∀ x : List D, eqQ (.tup x) (.tup [.str "leaf"]) = ((D.tup x).eqOk && (D.tup [.str "leaf"]).eqOk) := fun _ => rfl
  cases t with
  | leaf => simp only [Tre.d] at h1 ⊢; rw [this, h1]; rfl
  | split k a l r => simp only [Tre.d] at h1 ⊢; rw [this, h1, h2]; rfl
section
variable {T : Str → Option FD}
theorem w_halves (hT : T "halves" = some f_halves) {k : Nat} {S : Sto} {P : D → Sto → Prop} {c : List Iv} {p : Nat} {lo hi at_ : Int} (hp : c[p]? = some (lo, hi)) (hc : c.length ≤ 1000)
  (h : P (.tup [cellD (c.set p (lo, at_)), cellD (c.set p (at_ + 1, hi))]) S) : Cl T (k + 1) "halves" [cellD c, .int p, .int at_] S P := by
  refine ⟨_, hT, rfl, ?_⟩
  have C := cutAt hp hc
  simp_arith only [f_halves, i_halves, cellD, C.at_, C.l, C.r, C.s, C.a1, C.a2]
  exact h
def item (x : Tre × List Iv) : D := .tup [x.1.d, cellD x.2]
theorem w_leaves_of (hT : T "leaves_of" = some f_leaves_of) (hH : T "halves" = some f_halves) {k : Nat} {S : Sto} {P : D → Sto → Prop} {t : Tre} {c : List Iv} (hf : t.fits c) (hd : t.dep ≤ 60) (hn : t.nl ≤ 100000) (hc : c.length ≤ 1000)
  (h : P (.lst ((t.leaves c).map cellD)) S) : Cl T (k + 2) "leaves_of" [t.d, cellD c] S P := by
  refine ⟨_, hT, rfl, ?_⟩
  simp_arith only [f_leaves_of, i_leaves_of]
  refine ⟨fun m L S1 => S1 = S ∧ ∃ (acc : List (List Iv)) (st : List (Tre × List Iv)) (x y : D) (s4 s5 s6 s7 : Sl), L = [.val x, .val y, .own (.lst (acc.map cellD)), .own (.lst (st.reverse.map item)), s4, s5, s6, s7] ∧ (∀ q ∈ st, q.1.fits q.2 ∧ q.1.dep ≤ 60 ∧ q.2.length ≤ 1000) ∧ acc ++ st.flatMap (fun q => q.1.leaves q.2) = t.leaves c ∧ m = (st.map fun q => 2 * q.1.nl - 1).sum, ⟨_, rfl, [], [(t, c)], t.d, cellD c, .no, .no, .no, .no, rfl, ?_, ?_, rfl⟩, ?_⟩
  · intro q hq
    rw [List.mem_singleton.mp hq]
    exact ⟨hf, hd, hc⟩
  · simp
  · rintro m L S1 ⟨rfl, acc, st, x, y, s4, s5, s6, s7, rfl, hst, hac, rfl⟩
    have hlen := congrArg List.length hac
    rw [List.length_append, t.leaves_len] at hlen
    cases st with
    | nil =>
      simp_arith only [i_leaves_of_r1, List.reverse_nil]
      simp only [List.flatMap_nil, List.append_nil] at hac
      rw [hac]
      exact h
    | cons q st =>
      obtain ⟨q1, q2⟩ := q
      have hq := hst (q1, q2) (by simp)
      have hl1 : ((st.reverse ++ [(q1, q2)]).map item).length - 1 = (st.reverse.map item).length := by simp
      have hpos : (0 < (((st.reverse ++ [(q1, q2)]).map item).length : Int)) = True := eq_true (by rw [List.map_append, List.length_append]; simp only [List.map_cons, List.map_nil, List.length_cons, List.length_nil]; omega)
      have hget : ((st.reverse ++ [(q1, q2)]).map item)[((st.reverse ++ [(q1, q2)]).map item).length - 1]? = some (item (q1, q2)) := by
        rw [hl1, List.map_append]; simp
      have hdrop : ((st.reverse ++ [(q1, q2)]).map item).dropLast = st.reverse.map item := by
        rw [List.map_append]; simp
      rw [List.flatMap_cons, List.length_append, q1.leaves_len] at hlen
      rw [List.flatMap_cons] at hac
      simp_arith only [List.reverse_cons, hpos, i_leaves_of_b0, hget, hdrop, item, eqQ_tree q1 hq.2.1]
      cases q1 with
      | leaf =>
        simp_arith only [eq_leaf_yes]
        have h1 := Tre.nl_pos Tre.leaf
        refine ⟨by rw [sizeL, List.length_map]; omega, _, ?_, acc ++ [q2], st, x, y, _, _, _, _, by rw [List.map_append]; rfl, fun q hq => hst q (by simp [hq]), by simpa [Tre.leaves] using hac, rfl⟩
        rw [List.sum_cons]; simp only [Tre.nl]; omega
      | split k a l r =>
        obtain ⟨lo, hi, e, h1, h2, f1, f2⟩ := hq.1
        simp only at e f1 f2 hac
        have ed : (Tre.split k a l r).d = .tup [.str "split", .int k, .int a, l.d, r.d] := rfl
        have eg := Tre.getD_of e
        simp_arith only [eq_leaf_no]
        rw [ed]
        simp_arith only [true_and]
        refine w_halves hH e hq.2.2 ?_
        have hd2 := hq.2.1
        have n1 := l.nl_pos
        have n2 := r.nl_pos
        simp only [Tre.dep] at hd2
        simp only [Tre.leaves, eg] at hac
        simp only [Tre.nl] at hlen
        have hpl : st.length ≤ (st.flatMap fun q => q.1.leaves q.2).length := by
          clear hac hlen hst hget hdrop hl1 hpos
          induction st with
          | nil => simp
          | cons q st ih => rw [List.flatMap_cons, List.length_append, q.1.leaves_len, List.length_cons]; have := q.1.nl_pos; omega
        simp_arith only [i_leaves_of_r0]
        refine ⟨by rw [sizeL, List.length_map, List.length_reverse]; omega, _, ?_, acc, (l, q2.set k (lo, a)) :: (r, q2.set k (a + 1, hi)) :: st, x, y, _, _, _, _, by simp [item]; exact ⟨rfl, rfl, rfl, rfl⟩, ?_, ?_, rfl⟩
        · rw [List.map_cons, List.map_cons, List.sum_cons, List.sum_cons, List.sum_cons]; simp only [Tre.nl]; omega
        · intro q hq2
          simp only [List.mem_cons] at hq2
          rcases hq2 with rfl | rfl | hq2
          · exact ⟨f1, by dsimp only; omega, by simpa using hq.2.2⟩
          · exact ⟨f2, by dsimp only; omega, by simpa using hq.2.2⟩
          · exact hst q (by simp [hq2])
        · rw [List.flatMap_cons, List.flatMap_cons]
          simpa using hac

theorem w_is_integer (hT : T "_law_is_integer" = some f__law_is_integer) {N : Nat} (hN : 1 ≤ N) {S : Sto} {P : D → Sto → Prop} {i : Int} (h : P (.bl true) S) : Cl T N "_law_is_integer" [.int i] S P := by
  cases N with
  | zero => omega
  | succ N =>
    refine ⟨_, hT, rfl, ?_⟩
    simp_arith only [f__law_is_integer, i__law_is_integer]
    exact h
theorem w_is_worded (hT : T "_law_is_worded" = some f__law_is_worded) {N : Nat} (hN : 1 ≤ N) {S : Sto} {P : D → Sto → Prop} {w : Str} {l : List D} {n : Int} (hn : n = (l.length : Int) + 1) (h : P (.bl true) S) : Cl T N "_law_is_worded" [.tup (.str w :: l), .str w, .int n] S P := by
  cases N with
  | zero => omega
  | succ N =>
    refine ⟨_, hT, rfl, ?_⟩
    subst hn
    have e : ((((l.length + 1 : Nat) : Int) == (l.length : Int) + 1)) = true := by simp
    simp_arith only [f__law_is_worded, i__law_is_worded, e]
    have e2 : (w == w) = true := by simp
    simp only [e2]
    exact h
theorem pool_flat {S : Sto} (h : Pool S) : Sto.flat S = false := by
  obtain ⟨ns, i, v, c, s, rfl⟩ := h
  rfl
theorem w_pickL {k : Nat} {S : Sto} {P : D → Sto → Prop} (hP : T "_law_pick" = some f__law_pick) (hT : T "_law_draw" = some f__law_draw) (hS' : T "_law_spread" = some f__law_spread) {l : List D} (hS : Pool S) (h0 : l ≠ []) (h1 : l.length < 2 ^ 62) (h : ∀ v S', v ∈ l → Pool S' → P v S') : Cl T (k + 3) "_law_pick" [.obj 0, .lst l] S P := by
  refine ⟨_, hP, rfl, ?_⟩
  simp_arith only [f__law_pick, i__law_pick]
  have h0' : 0 < l.length := List.length_pos_iff.mpr h0
  apply w_draw hT hS' hS (by omega) (Nat.lt_of_lt_of_le (show (l.length : Int).natAbs < 2 ^ 62 by omega) (Nat.pow_le_pow_right (by decide) (by decide)))
  intro v S' v0 v1 hS
  obtain ⟨j, rfl⟩ := Int.eq_ofNat_of_zero_le v0
  have hj : j < l.length := by omega
  have e : L2.atI l (j : Int) = some l[j] := atN (List.getElem?_eq_getElem hj)
  simp_arith only [e]
  exact h _ _ (List.getElem_mem _) hS
theorem w_leaves (hT : T "_law_leaves" = some f__law_leaves) (hS : T "_law_same" = some f__law_same) (hW : T "_law_is_worded" = some f__law_is_worded) (hI : T "_law_is_integer" = some f__law_is_integer) {S : Sto} : ∀ (t : Tre) (c : List Iv) (N : Nat) (P : D → Sto → Prop), t.dep + 5 ≤ N → t.fits c → c.length ≤ 1000 → t.nl ≤ 100000 → P (.lst ((t.leaves c).map cellD)) S → Cl T N "_law_leaves" [t.d, cellD c] S P := by
  intro t
  induction t with
  | leaf =>
    intro c N P hN _ _ _ h
    cases N with
    | zero => omega
    | succ N =>
      refine ⟨_, hT, rfl, ?_⟩
      simp_arith only [f__law_leaves, i__law_leaves, Tre.d]
      obtain ⟨k, rfl⟩ : ∃ k, N = 3 + k := ⟨N - 3, by simp only [Tre.dep] at hN; omega⟩
      refine w_same hS 3 (x := .tup [.str "leaf"]) ⟨by simp, fun d hd => by rw [List.mem_singleton.mp hd]; exact True.intro⟩ ?_
      simp_arith only [true_and]
      exact h
  | split j a l r ihl ihr =>
    intro c N P hN hf hc hn h
    cases N with
    | zero => omega
    | succ N =>
      obtain ⟨lo, hi, e, h1, h2, f1, f2⟩ := hf
      have C := cutAt e hc
      have eg := Tre.getD_of e
      have hjl : j < c.length := (List.getElem?_eq_some_iff.mp e).1
      simp only [Tre.dep] at hN
      simp only [Tre.nl] at hn
      simp only [Tre.leaves, eg] at h
      have n1 : ((j : Int) < 0) = False := eq_false (by omega)
      have n2 : (((c.map pr).length : Int) ≤ (j : Int)) = False := eq_false (by rw [List.length_map]; omega)
      have n3 : (a < lo) = False := eq_false (by omega)
      have n4 : (hi ≤ a) = False := eq_false (by omega)
      refine ⟨_, hT, rfl, ?_⟩
      simp_arith only [f__law_leaves, i__law_leaves, i__law_leaves_r3, Tre.d]
      refine w_is_worded hW (by omega) rfl ?_
      simp_arith only [true_and]
      refine w_is_integer hI (by omega) ?_
      simp_arith only [true_and]
      refine w_is_integer hI (by omega) ?_
      simp_arith only [cellD, n1, n2, n3, n4, i__law_leaves_r2, C.at_, C.l, C.r, C.s, C.a1, C.a2]
      refine ihl (c.set j (lo, a)) N _ (by omega) f1 (by simpa using hc) (by omega) ?_
      simp_arith only [cellD, i__law_leaves_r1, C.at_, C.l, C.r, C.s, C.a1, C.a2]
      refine ihr (c.set j (a + 1, hi)) N _ (by omega) f2 (by simpa using hc) (by omega) ?_
      simp_arith only [i__law_leaves_r0]
      rw [List.map_append] at h
      exact ⟨by simp [Tre.leaves_len, sizeL]; omega, h⟩

theorem Tre.nl_le : ∀ t : Tre, t.nl ≤ 2 ^ t.dep
  | leaf => Nat.le_refl _
  | split _ _ l r => by
    have h1 := Tre.nl_le l
    have h2 := Tre.nl_le r
    have h3 : 2 ^ l.dep ≤ 2 ^ max l.dep r.dep := Nat.pow_le_pow_right (by decide) (Nat.le_max_left _ _)
    have h4 : 2 ^ r.dep ≤ 2 ^ max l.dep r.dep := Nat.pow_le_pow_right (by decide) (Nat.le_max_right _ _)
    simp only [Tre.nl, Tre.dep, Nat.pow_succ]
    omega
/-- the places of a cell that may be parted -/
def wide (c : List Iv) : List Nat := (List.range c.length).filter fun k => decide ((c.getD k (0, 0)).1 < (c.getD k (0, 0)).2)
theorem mem_wide {c : List Iv} {k : Nat} (h : k ∈ wide c) : ∃ lo hi, c[k]? = some (lo, hi) ∧ lo < hi := by
  unfold wide at h
  rw [List.mem_filter, List.mem_range] at h
  refine ⟨(c[k]'h.1).1, (c[k]'h.1).2, List.getElem?_eq_getElem h.1, ?_⟩
  have := of_decide_eq_true h.2
  rw [Tre.getD_of (List.getElem?_eq_getElem h.1)] at this
  exact this
/-- the numbers that a cell may be parted at -/
def wsum (c : List Iv) : Nat := (c.map fun p => (p.2 - p.1).toNat).sum
theorem wsum_set : ∀ (c : List Iv) (k : Nat) (p q : Iv), c[k]? = some p → wsum (c.set k q) + (p.2 - p.1).toNat = wsum c + (q.2 - q.1).toNat
  | [], k, p, q, h => by simp at h
  | x :: c, 0, p, q, h => by
    simp only [List.getElem?_cons_zero, Option.some.injEq] at h
    subst h
    simp [wsum]; omega
  | x :: c, k + 1, p, q, h => by
    have := wsum_set c k p q (by simpa using h)
    simp only [wsum, List.set_cons_succ, List.map_cons, List.sum_cons] at this ⊢
    omega
/-- widths that a draw may have -/
def draws (c : List Iv) : Prop := ∀ p ∈ c, p.2 - p.1 ≤ 1000
theorem draws_set {c : List Iv} {k : Nat} {q : Iv} (h : draws c) (hq : q.2 - q.1 ≤ 1000) : draws (c.set k q) := fun p hp => by
  rcases List.mem_or_eq_of_mem_set hp with h1 | rfl
  · exact h p h1
  · exact hq
theorem wide_comp {T : Str → Option FD} {k : Nat} {Lw : Lo} {S : Sto} {P : List D → Sto → Prop} {c : List Iv} {i j : Nat} (hc : c.length ≤ 1000)
    (hi : ∀ x, (Lw.set j (.val x))[i]? = some (.val (.tup (c.map pr)))) (hj : ∀ x, (Lw.set j x)[j]? = some x)
    (h : P ((wide c).map fun (k : Nat) => D.int (k : Int)) S) :
    compL (wG (.nm j)) (wT (Cl T k) (.cmp .lt (.idx (.idx (.loc i) (.loc j)) (.cst (.int 0))) (.idx (.idx (.loc i) (.loc j)) (.cst (.int 1))))) (wE (Cl T k) (.loc j)) Lw (rngList 0 c.length) S [] P := by
  rw [rng0]
  refine compL_fm (fun (k : Nat) => D.int (k : Int)) (fun (k : Nat) => D.int (k : Int)) (fun k => decide ((c.getD k (0, 0)).1 < (c.getD k (0, 0)).2)) _ [] ?_ ?_ h
  · have := List.length_filter_le (fun k => decide ((c.getD k (0, 0)).1 < (c.getD k (0, 0)).2)) (List.range c.length)
    rw [List.length_range] at this
    rw [sizeL]; simp only [List.length_nil, Nat.zero_add]; omega
  · intro m hm K acc hac hK
    have hm := List.mem_range.mp hm
    have e : L2.atI (c.map pr) (m : Int) = some (.tup [.int (c.getD m (0, 0)).1, .int (c.getD m (0, 0)).2]) := by
      refine atN ?_
      rw [List.getElem?_map, List.getElem?_eq_getElem hm, Tre.getD_of (List.getElem?_eq_getElem hm)]
      rfl
    simp_arith only [hi, hj, e]
    refine iteI (fun h => ?_) (fun h => ?_)
    · rw [if_pos (decide_eq_true h)] at hK
      exact ⟨hac (decide_eq_true h), hK⟩
    · rw [if_neg (by simpa using h)] at hK
      exact hK
section
variable {T : Str → Option FD}
theorem w_full_tree (hT : T "_law_full_tree" = some f__law_full_tree) {S : Sto} : ∀ (m : Nat) (c : List Iv) (N : Nat) (P : D → Sto → Prop), wsum c ≤ m → m < N → c.length ≤ 1000 → (∀ t : Tre, t.fits c → t.dep ≤ m → P t.d S) → Cl T N "_law_full_tree" [cellD c] S P := by
  intro m
  induction m with
  | zero =>
    intro c N P hm hN hc h
    cases N with
    | zero => omega
    | succ N =>
      have l1 : lim62 (((c.map pr).length : Nat) : Int) := by unfold lim62; simp; omega
      refine ⟨_, hT, rfl, ?_⟩
      simp_arith only [f__law_full_tree, i__law_full_tree, cellD, lim_0, l1, Int.sub_zero, Int.toNat_natCast]
      refine ⟨by simp, ?_⟩
      rw [List.length_map]
      refine wide_comp hc (fun _ => rfl) (fun _ => rfl) ?_
      have hw : wide c = [] := by
        rw [List.eq_nil_iff_forall_not_mem]
        intro k hk
        obtain ⟨lo, hi, e, h1⟩ := mem_wide hk
        have := wsum_set c k _ (0, 0) e
        simp only at this
        omega
      simp_arith only [hw, i__law_full_tree_r0]
      exact h .leaf True.intro (Nat.le_refl _)
  | succ m ih =>
    intro c N P hm hN hc h
    cases N with
    | zero => omega
    | succ N =>
      have l1 : lim62 (((c.map pr).length : Nat) : Int) := by unfold lim62; simp; omega
      refine ⟨_, hT, rfl, ?_⟩
      simp_arith only [f__law_full_tree, i__law_full_tree, cellD, lim_0, l1, Int.sub_zero, Int.toNat_natCast]
      refine ⟨by simp, ?_⟩
      rw [List.length_map]
      refine wide_comp hc (fun _ => rfl) (fun _ => rfl) ?_
      cases hw : wide c with
      | nil =>
        simp_arith only [i__law_full_tree_r0]
        exact h .leaf True.intro (Nat.zero_le _)
      | cons k w =>
        obtain ⟨lo, hi, e, h1⟩ := mem_wide (c := c) (k := k) (by rw [hw]; simp)
        have C := cutAt e hc
        have s1 := wsum_set c k _ (lo, lo) e
        have s2 := wsum_set c k _ (lo + 1, hi) e
        simp only at s1 s2
        have n0 : ((((w.map fun (k : Nat) => D.int (k : Int)).length + 1 : Nat) : Int) == 0) = false := by
          simp only [beq_eq_false_iff_ne, ne_eq]; omega
        simp_arith only [i__law_full_tree_r0, n0, C.at_, C.l, C.r, C.s, C.a1, C.a2]
        refine ih (c.set k (lo, lo)) N _ (by omega) (by omega) (by simpa using hc) fun t1 f1 d1 => ?_
        try simp_arith only [C.at_, C.l, C.r, C.s, C.a1, C.a2]
        refine ih (c.set k (lo + 1, hi)) N _ (by omega) (by omega) (by simpa using hc) fun t2 f2 d2 => ?_
        try simp_arith only [true_and]
        exact h (.split k lo t1 t2) ⟨lo, hi, e, Int.le_refl _, h1, f1, f2⟩ (by simp only [Tre.dep]; omega)
theorem w_a_tree (hT : T "_law_a_tree" = some f__law_a_tree) (hP : T "_law_pick" = some f__law_pick) (hD : T "_law_draw" = some f__law_draw) (hSp : T "_law_spread" = some f__law_spread) : ∀ (deep : Nat) (c : List Iv) (N : Nat) (S : Sto) (P : D → Sto → Prop), Pool S → deep + 6 ≤ N → c.length ≤ 1000 → draws c → (∀ (t : Tre) S', t.fits c → t.dep ≤ deep → Pool S' → P t.d S') → Cl T N "_law_a_tree" [.obj 0, cellD c, .int deep] S P := by
  intro deep
  induction deep with
  | zero =>
    intro c N S P hS hN hc hd h
    cases N with
    | zero => omega
    | succ N =>
      have l1 : lim62 (((c.map pr).length : Nat) : Int) := by unfold lim62; simp; omega
      refine ⟨_, hT, rfl, ?_⟩
      simp_arith only [f__law_a_tree, i__law_a_tree, cellD, lim_0, l1, Int.sub_zero, Int.toNat_natCast]
      refine ⟨by simp, ?_⟩
      rw [List.length_map]
      refine wide_comp hc (fun _ => rfl) (fun _ => rfl) ?_
      simp_arith only [i__law_a_tree_r3]
      exact h .leaf S True.intro (Nat.le_refl _) hS
  | succ deep ih =>
    intro c N S P hS hN hc hd h
    obtain ⟨N, rfl⟩ : ∃ M, N = M + 4 := ⟨N - 4, by omega⟩
    have l1 : lim62 (((c.map pr).length : Nat) : Int) := by unfold lim62; simp; omega
    have d0 : (((deep + 1 : Nat) : Int) == 0) = false := by
      simp only [beq_eq_false_iff_ne, ne_eq]; omega
    refine ⟨_, hT, rfl, ?_⟩
    simp_arith only [f__law_a_tree, i__law_a_tree, cellD, lim_0, l1, Int.sub_zero, Int.toNat_natCast]
    refine ⟨by simp, ?_⟩
    rw [List.length_map]
    refine wide_comp hc (fun _ => rfl) (fun _ => rfl) ?_
    simp_arith only [i__law_a_tree_r3, d0]
    refine iteI (fun hw => ?_) (fun hw => ?_)
    · exact h .leaf S True.intro (Nat.zero_le _) hS
    · apply w_draw hD hSp hS (by decide) (pow9 (by decide) (by decide))
      intro v S1 v0 v1 hS1
      simp_arith only [true_and]
      refine iteI (fun hv => ?_) (fun hv => ?_)
      · exact h .leaf S1 True.intro (Nat.zero_le _) hS1
      · simp_arith only [i__law_a_tree_r2]
        have own3 : ∀ (i : Nat), i ∈ [3] → ∃ d, [Sl.val (.obj 0), .val (.tup (c.map pr)), .val (.int ((deep + 1 : Nat) : Int)), .own (.lst ((wide c).map fun (k : Nat) => D.int (k : Int))), .no, .no][i]? = some (.own d) := fun i hi => by
          rw [List.mem_singleton.mp hi]; exact ⟨_, rfl⟩
        refine ⟨own3, ?_⟩
        have hne : (wide c).map (fun (k : Nat) => D.int (k : Int)) ≠ [] := by
          intro h; rw [h] at hw; exact hw rfl
        have hlw : (wide c).length ≤ c.length := by
          have := List.length_filter_le (fun k => decide ((c.getD k (0, 0)).1 < (c.getD k (0, 0)).2)) (List.range c.length)
          rw [List.length_range] at this
          exact this
        refine w_pickL hP hD hSp hS1 hne (by rw [List.length_map]; omega) ?_
        intro v S2 hv hS2
        obtain ⟨k, hk, rfl⟩ := List.mem_map.mp hv
        obtain ⟨lo, hi, e, h1⟩ := mem_wide hk
        have C := cutAt e hc
        have hdr := hd _ (List.mem_of_getElem? e)
        simp only at hdr
        simp_arith only [pool_flat hS2, reduceCtorEq, and_false, or_self, freezeAll, freezeAt, List.foldl_cons, List.foldl_nil, i__law_a_tree_r1, C.at_]
        apply w_draw hD hSp hS2 (by omega) (pow9 (by omega) (by omega))
        intro u S3 u0 u1 hS3
        have ed : ((deep + 1 : Nat) : Int) - 1 = (deep : Int) := by omega
        simp_arith only [i__law_a_tree_r0, C.at_, C.l, C.r, C.s, C.a1, C.a2, ed]
        refine ih (c.set k (lo, lo + u)) (N + 3) S3 _ hS3 (by omega) (by simpa using hc) (draws_set hd (by dsimp only; omega)) fun t1 S4 f1 e1 hS4 => ?_
        try simp_arith only [C.at_, C.l, C.r, C.s, C.a1, C.a2, ed]
        refine ih (c.set k (lo + u + 1, hi)) (N + 3) S4 _ hS4 (by omega) (by simpa using hc) (draws_set hd (by dsimp only; omega)) fun t2 S5 f2 e2 hS5 => ?_
        try simp_arith only [true_and]
        exact h (.split k (lo + u) t1 t2) S5 ⟨lo, hi, e, by omega, by omega, f1, f2⟩ (by simp only [Tre.dep]; omega) hS5
end
end
end Q
/-! Amounts and conditions: drawn, worked. -/
namespace Q
open PySem
def i_place_of_b0 : ISs := (.cons (.ifs (.cmp .eq (.idx (.idx (.loc 0) (.loc 2)) (.cst (.int 0))) (.loc 1)) (.cons (.ret (.loc 2))
  .nil) .nil)
  .nil)
def i_place_of_r0 : ISs := (.cons (.ret (.cst .non))
  .nil)
def i_place_of : ISs := (.cons (.fors (.nm 2) (.rng (.cst (.int 0)) (.blt "len" (.cons (.loc 0) .nil))) i_place_of_b0)
  i_place_of_r0)
def f_place_of : FD := ⟨2, 3, i_place_of⟩
def i_amount_in_r0 : ISs := (.cons (.ifs (.cmp .eq (.loc 4) (.cst (.str "plus"))) (.cons (.ret (.bin .add (.loc 5) (.loc 6)))
  .nil) .nil)
  (.cons (.ifs (.cmp .eq (.loc 4) (.cst (.str "less"))) (.cons (.ret (.bin .sub (.loc 5) (.loc 6)))
  .nil) .nil)
  (.cons (.ret (.ite (.cmp .eq (.loc 4) (.cst (.str "least"))) (.blt "min" (.cons (.loc 5) (.cons (.loc 6) .nil))) (.blt "max" (.cons (.loc 5) (.cons (.loc 6) .nil)))))
  .nil)))
def i_amount_in_r1 : ISs := (.cons (.par 5 6 (.call "amount_in" (.cons (.idx (.loc 0) (.cst (.int 1))) (.cons (.loc 1) (.cons (.loc 2) (.cons (.loc 3) .nil))))) (.call "amount_in" (.cons (.idx (.loc 0) (.cst (.int 2))) (.cons (.loc 1) (.cons (.loc 2) (.cons (.loc 3) .nil))))))
  i_amount_in_r0)
def i_amount_in_r2 : ISs := (.cons (.ifs (.cmp .eq (.loc 4) (.cst (.str "part"))) (.cons (.ret (.bin .fdiv (.call "amount_in" (.cons (.idx (.loc 0) (.cst (.int 1))) (.cons (.loc 1) (.cons (.loc 2) (.cons (.loc 3) .nil))))) (.idx (.loc 0) (.cst (.int 2)))))
  .nil) .nil)
  i_amount_in_r1)
def i_amount_in_r3 : ISs := (.cons (.ifs (.cmp .eq (.loc 4) (.cst (.str "term"))) (.cons (.ret (.idx (.loc 3) (.idx (.loc 0) (.cst (.int 1)))))
  .nil) .nil)
  (.cons (.ifs (.cmp .eq (.loc 4) (.cst (.str "times"))) (.cons (.ret (.bin .mul (.idx (.loc 0) (.cst (.int 1))) (.call "amount_in" (.cons (.idx (.loc 0) (.cst (.int 2))) (.cons (.loc 1) (.cons (.loc 2) (.cons (.loc 3) .nil)))))))
  .nil) .nil)
  i_amount_in_r2))
def i_amount_in : ISs := (.cons (.asg (.nm 4) (.idx (.loc 0) (.cst (.int 0))))
  (.cons (.ifs (.cmp .eq (.loc 4) (.cst (.str "num"))) (.cons (.ret (.idx (.loc 0) (.cst (.int 1))))
  .nil) .nil)
  (.cons (.ifs (.cmp .eq (.loc 4) (.cst (.str "fact"))) (.cons (.ret (.idx (.loc 2) (.call "place_of" (.cons (.loc 1) (.cons (.idx (.loc 0) (.cst (.int 1))) .nil)))))
  .nil) .nil)
  i_amount_in_r3)))
def f_amount_in : FD := ⟨4, 7, i_amount_in⟩
def i_truth_in_r0 : ISs := (.cons (.ret (.ite (.cmp .eq (.loc 4) (.cst (.str "is"))) (.cmp .eq (.loc 5) (.loc 6)) (.cmp .lt (.loc 5) (.loc 6))))
  .nil)
def i_truth_in_r1 : ISs := (.cons (.par 5 6 (.call "amount_in" (.cons (.idx (.loc 0) (.cst (.int 1))) (.cons (.loc 1) (.cons (.loc 2) (.cons (.loc 3) .nil))))) (.call "amount_in" (.cons (.idx (.loc 0) (.cst (.int 2))) (.cons (.loc 1) (.cons (.loc 2) (.cons (.loc 3) .nil))))))
  i_truth_in_r0)
def i_truth_in_r2 : ISs := (.cons (.ifs (.cmp .eq (.loc 4) (.cst (.str "either"))) (.cons (.ret (.or (.call "truth_in" (.cons (.idx (.loc 0) (.cst (.int 1))) (.cons (.loc 1) (.cons (.loc 2) (.cons (.loc 3) .nil))))) (.call "truth_in" (.cons (.idx (.loc 0) (.cst (.int 2))) (.cons (.loc 1) (.cons (.loc 2) (.cons (.loc 3) .nil)))))))
  .nil) .nil)
  i_truth_in_r1)
def i_truth_in_r3 : ISs := (.cons (.ifs (.cmp .eq (.loc 4) (.cst (.str "both"))) (.cons (.ret (.and (.call "truth_in" (.cons (.idx (.loc 0) (.cst (.int 1))) (.cons (.loc 1) (.cons (.loc 2) (.cons (.loc 3) .nil))))) (.call "truth_in" (.cons (.idx (.loc 0) (.cst (.int 2))) (.cons (.loc 1) (.cons (.loc 2) (.cons (.loc 3) .nil)))))))
  .nil) .nil)
  i_truth_in_r2)
def i_truth_in : ISs := (.cons (.asg (.nm 4) (.idx (.loc 0) (.cst (.int 0))))
  (.cons (.ifs (.cmp .eq (.loc 4) (.cst (.str "true"))) (.cons (.ret (.cst (.bl true)))
  .nil) .nil)
  (.cons (.ifs (.cmp .eq (.loc 4) (.cst (.str "not"))) (.cons (.ret (.not (.call "truth_in" (.cons (.idx (.loc 0) (.cst (.int 1))) (.cons (.loc 1) (.cons (.loc 2) (.cons (.loc 3) .nil)))))))
  .nil) .nil)
  i_truth_in_r3)))
def f_truth_in : FD := ⟨4, 7, i_truth_in⟩
def i__law_number : ISs := (.cons (.ret (.bin .sub (.call "_law_draw" (.cons (.loc 0) (.cons (.bin .add (.bin .mul (.cst (.int 2)) (.loc 1)) (.cst (.int 1))) .nil))) (.loc 1)))
  .nil)
def f__law_number : FD := ⟨2, 2, i__law_number⟩
def i__law_amount_r0 : ISs := (.cons (.ret (.tup (.cons (.idx (.tup (.cons (.cst (.str "plus")) (.cons (.cst (.str "less")) (.cons (.cst (.str "least")) (.cons (.cst (.str "most")) .nil))))) (.bin .sub (.loc 4) (.cst (.int 8)))) (.cons (.loc 5) (.cons (.call "_law_amount" (.cons (.loc 0) (.cons (.loc 1) (.cons (.loc 2) (.cons (.bin .sub (.loc 3) (.cst (.int 1))) .nil))))) .nil)))))
  .nil)
def i__law_amount_r1 : ISs := (.cons (.ifs (.cmp .eq (.loc 4) (.cst (.int 7))) (.cons (.ret (.tup (.cons (.cst (.str "part")) (.cons (.loc 5) (.cons (.bin .add (.cst (.int 1)) (.call "_law_draw" (.cons (.loc 0) (.cons (.cst (.int 4)) .nil)))) .nil)))))
  .nil) .nil)
  i__law_amount_r0)
def i__law_amount_r2 : ISs := (.cons (.ifs (.cmp .eq (.loc 4) (.cst (.int 6))) (.cons (.ret (.tup (.cons (.cst (.str "times")) (.cons (.bin .sub (.call "_law_draw" (.cons (.loc 0) (.cons (.cst (.int 6)) .nil))) (.cst (.int 2))) (.cons (.loc 5) .nil)))))
  .nil) .nil)
  i__law_amount_r1)
def i__law_amount_r3 : ISs := (.cons (.asg (.nm 5) (.call "_law_amount" (.cons (.loc 0) (.cons (.loc 1) (.cons (.loc 2) (.cons (.bin .sub (.loc 3) (.cst (.int 1))) .nil))))))
  i__law_amount_r2)
def i__law_amount_r4 : ISs := (.cons (.ifs (.cmp .eq (.loc 4) (.cst (.int 5))) (.cons (.ret (.tup (.cons (.cst (.str "term")) (.cons (.idx (.loc 2) (.call "_law_draw" (.cons (.loc 0) (.cons (.blt "len" (.cons (.loc 2) .nil)) .nil)))) .nil))))
  .nil) .nil)
  i__law_amount_r3)
def i__law_amount_r5 : ISs := (.cons (.ifs (.cmp .lt (.loc 4) (.cst (.int 5))) (.cons (.ret (.tup (.cons (.cst (.str "fact")) (.cons (.idx (.idx (.loc 1) (.call "_law_draw" (.cons (.loc 0) (.cons (.blt "len" (.cons (.loc 1) .nil)) .nil)))) (.cst (.int 0))) .nil))))
  .nil) .nil)
  i__law_amount_r4)
def i__law_amount_r6 : ISs := (.cons (.ifs (.or (.cmp .lt (.loc 4) (.cst (.int 2))) (.or (.and (.cmp .lt (.loc 4) (.cst (.int 5))) (.cmp .eq (.blt "len" (.cons (.loc 1) .nil)) (.cst (.int 0)))) (.and (.cmp .eq (.loc 4) (.cst (.int 5))) (.cmp .eq (.blt "len" (.cons (.loc 2) .nil)) (.cst (.int 0)))))) (.cons (.ret (.tup (.cons (.cst (.str "num")) (.cons (.bin .sub (.call "_law_draw" (.cons (.loc 0) (.cons (.cst (.int 13)) .nil))) (.cst (.int 4))) .nil))))
  .nil) .nil)
  i__law_amount_r5)
def i__law_amount : ISs := (.cons (.asg (.nm 4) (.call "_law_draw" (.cons (.loc 0) (.cons (.ite (.cmp .gt (.loc 3) (.cst (.int 0))) (.cst (.int 12)) (.cst (.int 6))) .nil))))
  i__law_amount_r6)
def f__law_amount : FD := ⟨4, 6, i__law_amount⟩
def i__law_condition_r0 : ISs := (.cons (.ret (.ite (.cmp .lt (.loc 4) (.cst (.int 7))) (.tup (.cons (.cst (.str "not")) (.cons (.loc 5) .nil))) (.tup (.cons (.idx (.tup (.cons (.cst (.str "both")) (.cons (.cst (.str "either")) .nil))) (.bin .sub (.loc 4) (.cst (.int 7)))) (.cons (.loc 5) (.cons (.call "_law_condition" (.cons (.loc 0) (.cons (.loc 1) (.cons (.loc 2) (.cons (.bin .sub (.loc 3) (.cst (.int 1))) .nil))))) .nil))))))
  .nil)
def i__law_condition_r1 : ISs := (.cons (.asg (.nm 5) (.call "_law_condition" (.cons (.loc 0) (.cons (.loc 1) (.cons (.loc 2) (.cons (.bin .sub (.loc 3) (.cst (.int 1))) .nil))))))
  i__law_condition_r0)
def i__law_condition_r2 : ISs := (.cons (.ifs (.cmp .eq (.loc 4) (.cst (.int 0))) (.cons (.ret (.tup (.cons (.cst (.str "true")) .nil)))
  .nil) .nil)
  (.cons (.ifs (.cmp .lt (.loc 4) (.cst (.int 5))) (.cons (.ret (.tup (.cons (.idx (.tup (.cons (.cst (.str "is")) (.cons (.cst (.str "below")) .nil))) (.call "_law_draw" (.cons (.loc 0) (.cons (.cst (.int 2)) .nil)))) (.cons (.call "_law_amount" (.cons (.loc 0) (.cons (.loc 1) (.cons (.loc 2) (.cons (.cst (.int 1)) .nil))))) (.cons (.call "_law_amount" (.cons (.loc 0) (.cons (.loc 1) (.cons (.loc 2) (.cons (.cst (.int 1)) .nil))))) .nil)))))
  .nil) .nil)
  i__law_condition_r1))
def i__law_condition : ISs := (.cons (.asg (.nm 4) (.call "_law_draw" (.cons (.loc 0) (.cons (.ite (.cmp .gt (.loc 3) (.cst (.int 0))) (.cst (.int 9)) (.cst (.int 5))) .nil))))
  i__law_condition_r2)
def f__law_condition : FD := ⟨4, 6, i__law_condition⟩
def i__law_place : ISs := (.cons (.ret (.idx (.comp (.loc 2) (.nm 2) (.rng (.cst (.int 0)) (.blt "len" (.cons (.loc 0) .nil))) (.cmp .eq (.idx (.idx (.loc 0) (.loc 2)) (.cst (.int 0))) (.loc 1)) [2]) (.cst (.int 0))))
  .nil)
def f__law_place : FD := ⟨2, 3, i__law_place⟩
def i__law_worked_r0 : ISs := (.cons (.ifs (.cmp .mem (.loc 4) (.tup (.cons (.cst (.str "plus")) (.cons (.cst (.str "less")) .nil)))) (.cons (.ret (.ite (.cmp .eq (.loc 4) (.cst (.str "plus"))) (.bin .add (.loc 5) (.loc 6)) (.bin .sub (.loc 5) (.loc 6))))
  .nil) .nil)
  (.cons (.ret (.ite (.cmp .eq (.loc 4) (.cst (.str "least"))) (.blt "min" (.cons (.lst (.cons (.loc 5) (.cons (.loc 6) .nil))) .nil)) (.blt "max" (.cons (.lst (.cons (.loc 5) (.cons (.loc 6) .nil))) .nil))))
  .nil))
def i__law_worked_r1 : ISs := (.cons (.ifs (.cmp .eq (.loc 4) (.cst (.str "part"))) (.cons (.ret (.bin .fdiv (.loc 5) (.idx (.loc 0) (.cst (.int 2)))))
  .nil) .nil)
  (.cons (.asg (.nm 6) (.call "_law_worked" (.cons (.idx (.loc 0) (.cst (.int 2))) (.cons (.loc 1) (.cons (.loc 2) (.cons (.loc 3) .nil))))))
  i__law_worked_r0))
def i__law_worked_r2 : ISs := (.cons (.asg (.nm 5) (.call "_law_worked" (.cons (.idx (.loc 0) (.cst (.int 1))) (.cons (.loc 1) (.cons (.loc 2) (.cons (.loc 3) .nil))))))
  i__law_worked_r1)
def i__law_worked_r3 : ISs := (.cons (.ifs (.cmp .eq (.loc 4) (.cst (.str "term"))) (.cons (.ret (.idx (.loc 3) (.idx (.loc 0) (.cst (.int 1)))))
  .nil) .nil)
  (.cons (.ifs (.cmp .eq (.loc 4) (.cst (.str "times"))) (.cons (.ret (.bin .mul (.idx (.loc 0) (.cst (.int 1))) (.call "_law_worked" (.cons (.idx (.loc 0) (.cst (.int 2))) (.cons (.loc 1) (.cons (.loc 2) (.cons (.loc 3) .nil)))))))
  .nil) .nil)
  i__law_worked_r2))
def i__law_worked : ISs := (.cons (.asg (.nm 4) (.idx (.loc 0) (.cst (.int 0))))
  (.cons (.ifs (.cmp .eq (.loc 4) (.cst (.str "num"))) (.cons (.ret (.idx (.loc 0) (.cst (.int 1))))
  .nil) .nil)
  (.cons (.ifs (.cmp .eq (.loc 4) (.cst (.str "fact"))) (.cons (.ret (.idx (.loc 2) (.call "_law_place" (.cons (.loc 1) (.cons (.idx (.loc 0) (.cst (.int 1))) .nil)))))
  .nil) .nil)
  i__law_worked_r3)))
def f__law_worked : FD := ⟨4, 7, i__law_worked⟩
def i__law_truth_r0 : ISs := (.cons (.ret (.ite (.cmp .eq (.loc 4) (.cst (.str "both"))) (.and (.loc 5) (.loc 6)) (.or (.loc 5) (.loc 6))))
  .nil)
def i__law_truth_r1 : ISs := (.cons (.ret (.ite (.cmp .eq (.loc 4) (.cst (.str "is"))) (.cmp .eq (.loc 5) (.loc 6)) (.cmp .lt (.loc 5) (.loc 6))))
  .nil)
def i__law_truth_r2 : ISs := (.cons (.par 5 6 (.call "_law_worked" (.cons (.idx (.loc 0) (.cst (.int 1))) (.cons (.loc 1) (.cons (.loc 2) (.cons (.loc 3) .nil))))) (.call "_law_worked" (.cons (.idx (.loc 0) (.cst (.int 2))) (.cons (.loc 1) (.cons (.loc 2) (.cons (.loc 3) .nil))))))
  i__law_truth_r1)
def i__law_truth_r3 : ISs := (.cons (.ifs (.cmp .mem (.loc 4) (.tup (.cons (.cst (.str "both")) (.cons (.cst (.str "either")) .nil)))) (.cons (.par 5 6 (.call "_law_truth" (.cons (.idx (.loc 0) (.cst (.int 1))) (.cons (.loc 1) (.cons (.loc 2) (.cons (.loc 3) .nil))))) (.call "_law_truth" (.cons (.idx (.loc 0) (.cst (.int 2))) (.cons (.loc 1) (.cons (.loc 2) (.cons (.loc 3) .nil))))))
  i__law_truth_r0) .nil)
  i__law_truth_r2)
def i__law_truth : ISs := (.cons (.asg (.nm 4) (.idx (.loc 0) (.cst (.int 0))))
  (.cons (.ifs (.cmp .eq (.loc 4) (.cst (.str "true"))) (.cons (.ret (.cst (.bl true)))
  .nil) .nil)
  (.cons (.ifs (.cmp .eq (.loc 4) (.cst (.str "not"))) (.cons (.ret (.not (.call "_law_truth" (.cons (.idx (.loc 0) (.cst (.int 1))) (.cons (.loc 1) (.cons (.loc 2) (.cons (.loc 3) .nil)))))))
  .nil) .nil)
  i__law_truth_r3)))
def f__law_truth : FD := ⟨4, 7, i__law_truth⟩
def i__law_some_cases_r0 : ISs := (.cons (.ifs (.cmp .le (.blt "len" (.cons (.loc 3) .nil)) (.loc 2)) (.cons (.ret (.loc 3))
  .nil) .nil)
  (.cons (.ret (.comp (.call "_law_pick" (.cons (.loc 0) (.cons (.loc 3) .nil))) (.nm 4) (.rng (.cst (.int 0)) (.loc 2)) .yes [4]))
  .nil))
def i__law_some_cases : ISs := (.cons (.asg (.nm 3) (.call "_law_cases" (.cons (.loc 1) .nil)))
  i__law_some_cases_r0)
def f__law_some_cases : FD := ⟨3, 5, i__law_some_cases⟩

def nmS : Nat → String
  | 0 => "aa" | 1 => "bb" | 2 => "cc" | _ => "dd"
def nmD (k : Nat) : D := .str (nmS k)
inductive Am where
  | num (i : Int)
  | fact (k : Nat)
  | term (t : Str)
  | times (i : Int) (a : Am)
  | part (a : Am) (i : Int)
  | plus (a b : Am)
  | less (a b : Am)
  | least (a b : Am)
  | most (a b : Am)
namespace Am
def d : Am → D
  | num i => .tup [.str "num", .int i]
  | fact k => .tup [.str "fact", nmD k]
  | term t => .tup [.str "term", .str t]
  | times i a => .tup [.str "times", .int i, a.d]
  | part a i => .tup [.str "part", a.d, .int i]
  | plus a b => .tup [.str "plus", a.d, b.d]
  | less a b => .tup [.str "less", a.d, b.d]
  | least a b => .tup [.str "least", a.d, b.d]
  | most a b => .tup [.str "most", a.d, b.d]
def dep : Am → Nat
  | num _ => 0 | fact _ => 0 | term _ => 0
  | times _ a => a.dep + 1 | part a _ => a.dep + 1
  | plus a b => max a.dep b.dep + 1 | less a b => max a.dep b.dep + 1 | least a b => max a.dep b.dep + 1 | most a b => max a.dep b.dep + 1
/-- n facts, terms ts, numbers as drawn -/
def ok (n : Nat) (ts : List Str) : Am → Prop
  | num i => -4 ≤ i ∧ i ≤ 8
  | fact k => k < n
  | term t => t ∈ ts
  | times i a => (-2 ≤ i ∧ i ≤ 3) ∧ a.ok n ts
  | part a i => a.ok n ts ∧ 1 ≤ i ∧ i ≤ 4
  | plus a b => a.ok n ts ∧ b.ok n ts
  | less a b => a.ok n ts ∧ b.ok n ts
  | least a b => a.ok n ts ∧ b.ok n ts
  | most a b => a.ok n ts ∧ b.ok n ts
/-- worked -/
def val (r : List Int) (kn : Str → Int) : Am → Int
  | num i => i
  | fact k => r.getD k 0
  | term t => kn t
  | times i a => i * a.val r kn
  | part a i => a.val r kn / i
  | plus a b => a.val r kn + b.val r kn
  | less a b => a.val r kn - b.val r kn
  | least a b => if b.val r kn < a.val r kn then b.val r kn else a.val r kn
  | most a b => if a.val r kn < b.val r kn then b.val r kn else a.val r kn
end Am
/-- the facts' names -/
def named (fs : List Fc) : Prop := ∀ k f, fs[k]? = some f → f.n = nmD k
theorem nm_eq {i j : Nat} (hi : i < 4) (hj : j < 4) : D.eq (nmD i) (nmD j) = (i == j) := by
  have : ∀ i < 4, ∀ j < 4, (nmS i == nmS j) = (i == j) := by decide
  show ((Str.ofString (nmS i)) == (Str.ofString (nmS j))) = _
  rw [str_lit, this i hi j hj]
section
variable {T : Str → Option FD}
theorem w_place_of (hT : T "place_of" = some f_place_of) {k : Nat} {S : Sto} {P : D → Sto → Prop} {fs : List Fc} (hn : named fs) (hl : fs.length ≤ 4) {j : Nat} (hj : j < fs.length) (h : P (.int j) S) : Cl T (k + 1) "place_of" [.tup (fs.map Fc.d), nmD j] S P := by
  refine ⟨_, hT, rfl, ?_⟩
  have l1 : lim62 (((fs.map Fc.d).length : Nat) : Int) := by unfold lim62; simp; omega
  simp_arith only [f_place_of, i_place_of, lim_0, l1, Int.sub_zero, Int.toNat_natCast]
  rw [rng0, List.length_map]
  have loop : ∀ (m i : Nat) (s2 : Sl), i ≤ j → i + m = fs.length → forL (wG (.nm 2)) (wSs (Cl T k) i_place_of_b0) { nx := fun L1 S1 => wSs (Cl T k) i_place_of_r0 L1 S1 { nx := fun x S1 => P D.non S1, rt := P }, rt := P } ((List.range' i m).map fun (k : Nat) => D.int (k : Int)) [.val (.tup (fs.map Fc.d)), .val (nmD j), s2] S := by
    intro m
    induction m with
    | zero => intro i s2 h1 h2; omega
    | succ m ih =>
      intro i s2 h1 h2
      have hi : i < fs.length := by omega
      have e1 : L2.atI (fs.map Fc.d) (i : Int) = some (.tup [nmD i, .int fs[i].lo, .int fs[i].hi, fs[i].w]) := by
        refine atN ?_
        rw [List.getElem?_map, List.getElem?_eq_getElem hi]
        show some (Fc.d fs[i]) = _
        rw [Fc.d, hn i fs[i] (List.getElem?_eq_getElem hi)]
      rw [List.range'_succ]
      have eq1 : eqQ (nmD i) (nmD j) = true := rfl
      simp_arith only [List.map_cons, forL, i_place_of_b0, e1, nm_eq (show i < 4 by omega) (show j < 4 by omega), eq1]
      by_cases hij : i = j
      · subst hij
        simp_arith only [beq_self_eq_true]
        exact h
      · have : (i == j) = false := by simpa using hij
        simp_arith only [this]
        exact ih (i + 1) _ (by omega) (by omega)
  rw [List.range_eq_range']
  exact loop fs.length 0 .no (Nat.zero_le _) (by omega)
theorem w_law_place (hT : T "_law_place" = some f__law_place) {k : Nat} {S : Sto} {P : D → Sto → Prop} {fs : List Fc} (hn : named fs) (hl : fs.length ≤ 4) {j : Nat} (hj : j < fs.length) (h : P (.int j) S) : Cl T (k + 1) "_law_place" [.tup (fs.map Fc.d), nmD j] S P := by
  refine ⟨_, hT, rfl, ?_⟩
  have l1 : lim62 (((fs.map Fc.d).length : Nat) : Int) := by unfold lim62; simp; omega
  simp_arith only [f__law_place, i__law_place, lim_0, l1, Int.sub_zero, Int.toNat_natCast]
  refine ⟨by simp, ?_⟩
  rw [rng0, List.length_map]
  have ef : (List.range fs.length).filter (fun i => i == j) = [j] := by
    have := List.filter_beq (l := List.range fs.length) j
    rw [this, List.nodup_range.count, if_pos (List.mem_range.mpr hj)]; rfl
  refine compL_fm (fun (k : Nat) => D.int (k : Int)) (fun (k : Nat) => D.int (k : Int)) (fun i => i == j) _ [] (by rw [ef, sizeL]; simp) ?_ ?_
  · intro i hi K acc hac hK
    have hi := List.mem_range.mp hi
    have e1 : L2.atI (fs.map Fc.d) (i : Int) = some (.tup [nmD i, .int fs[i].lo, .int fs[i].hi, fs[i].w]) := by
      refine atN ?_
      rw [List.getElem?_map, List.getElem?_eq_getElem hi]
      show some (Fc.d fs[i]) = _
      rw [Fc.d, hn i fs[i] (List.getElem?_eq_getElem hi)]
    have eq1 : eqQ (nmD i) (nmD j) = true := rfl
    simp_arith only [e1, nm_eq (show i < 4 by omega) (show j < 4 by omega), eq1]
    refine iteI (fun h => ?_) (fun h => ?_)
    · rw [if_pos h] at hK
      exact ⟨hac h, hK⟩
    · rw [if_neg h] at hK
      exact hK
  · rw [ef]
    simp_arith only [true_and]
    exact h

/-- what a dict knows -/
def knows (kd : D) (ts : List Str) (kn : Str → Int) : Prop := ∃ ks vs, kd = .dct ks vs ∧ ∀ t ∈ ts, dLook ks vs t = some (.int (kn t))
theorem row_at {r : List Int} {k : Nat} (h : k < r.length) : L2.atI (r.map D.int) (k : Int) = some (.int (r.getD k 0)) := by
  refine atN ?_
  rw [List.getElem?_map, List.getD_eq_getElem?_getD, List.getElem?_eq_getElem h]
  rfl
theorem sm {i : Int} (h : -100 ≤ i ∧ i ≤ 100) (a : Int) : small64 i ∨ small64 a ∨ (i.natAbs < 2 ^ 4000 ∧ a.natAbs < 2 ^ 4000) := .inl (by unfold small64; omega)
theorem w_amount_in (hT : T "amount_in" = some f_amount_in) (hP : T "place_of" = some f_place_of) {fs : List Fc} (hn : named fs) (hl : fs.length ≤ 4) {r : List Int} (hr : r.length = fs.length) {kd : D} {ts : List Str} {kn : Str → Int} (hk : knows kd ts kn) {S : Sto} :
    ∀ (a : Am) (N : Nat) (P : D → Sto → Prop), a.ok fs.length ts → a.dep + 2 ≤ N → P (.int (a.val r kn)) S → Cl T N "amount_in" [a.d, .tup (fs.map Fc.d), rowD r, kd] S P := by
  obtain ⟨ks, vs, rfl, hk⟩ := hk
  intro a
  induction a with
  | num i =>
    intro N P ho hN h
    cases N with
    | zero => omega
    | succ N =>
      refine ⟨_, hT, rfl, ?_⟩
      simp_arith only [f_amount_in, i_amount_in, Am.d]
      exact h
  | fact k =>
    intro N P ho hN h
    obtain ⟨M, rfl⟩ : ∃ M, N = M + 2 := ⟨N - 2, by simp only [Am.dep] at hN; omega⟩
    refine ⟨_, hT, rfl, ?_⟩
    have ho : k < fs.length := ho
    simp_arith only [f_amount_in, i_amount_in, Am.d]
    refine w_place_of hP hn hl ho ?_
    simp_arith only [rowD, row_at (show k < r.length by omega)]
    exact h
  | term t =>
    intro N P ho hN h
    cases N with
    | zero => omega
    | succ N =>
      refine ⟨_, hT, rfl, ?_⟩
      simp_arith only [f_amount_in, i_amount_in, i_amount_in_r3, Am.d, hk t ho]
      exact h
  | times i a ih =>
    intro N P ho hN h
    simp only [Am.dep] at hN
    cases N with
    | zero => omega
    | succ N =>
      refine ⟨_, hT, rfl, ?_⟩
      simp_arith only [f_amount_in, i_amount_in, i_amount_in_r3, Am.d]
      refine ih N _ ho.2 (by omega) ?_
      simp_arith only [true_and]
      exact ⟨sm ⟨by have := ho.1; omega, by have := ho.1; omega⟩ _, h⟩
  | part a i ih =>
    intro N P ho hN h
    simp only [Am.dep] at hN
    cases N with
    | zero => omega
    | succ N =>
      refine ⟨_, hT, rfl, ?_⟩
      simp_arith only [f_amount_in, i_amount_in, i_amount_in_r3, i_amount_in_r2, Am.d]
      refine ih N _ ho.1 (by omega) ?_
      simp_arith only [true_and]
      have := ho.2
      exact ⟨⟨by omega, pow9 (by omega) (by omega)⟩, h⟩
  | plus a b iha ihb =>
    intro N P ho hN h
    simp only [Am.dep] at hN
    cases N with
    | zero => omega
    | succ N =>
      refine ⟨_, hT, rfl, ?_⟩
      simp_arith only [f_amount_in, i_amount_in, i_amount_in_r3, i_amount_in_r2, i_amount_in_r1, Am.d]
      refine iha N _ ho.1 (by omega) ?_
      try simp_arith only [true_and]
      refine ihb N _ ho.2 (by omega) ?_
      simp_arith only [i_amount_in_r0]
      exact h
  | less a b iha ihb =>
    intro N P ho hN h
    simp only [Am.dep] at hN
    cases N with
    | zero => omega
    | succ N =>
      refine ⟨_, hT, rfl, ?_⟩
      simp_arith only [f_amount_in, i_amount_in, i_amount_in_r3, i_amount_in_r2, i_amount_in_r1, Am.d]
      refine iha N _ ho.1 (by omega) ?_
      try simp_arith only [true_and]
      refine ihb N _ ho.2 (by omega) ?_
      simp_arith only [i_amount_in_r0]
      exact h
  | least a b iha ihb =>
    intro N P ho hN h
    simp only [Am.dep] at hN
    cases N with
    | zero => omega
    | succ N =>
      refine ⟨_, hT, rfl, ?_⟩
      simp_arith only [f_amount_in, i_amount_in, i_amount_in_r3, i_amount_in_r2, i_amount_in_r1, Am.d]
      refine iha N _ ho.1 (by omega) ?_
      try simp_arith only [true_and]
      refine ihb N _ ho.2 (by omega) ?_
      simp_arith only [i_amount_in_r0]
      exact h
  | most a b iha ihb =>
    intro N P ho hN h
    simp only [Am.dep] at hN
    cases N with
    | zero => omega
    | succ N =>
      refine ⟨_, hT, rfl, ?_⟩
      simp_arith only [f_amount_in, i_amount_in, i_amount_in_r3, i_amount_in_r2, i_amount_in_r1, Am.d]
      refine iha N _ ho.1 (by omega) ?_
      try simp_arith only [true_and]
      refine ihb N _ ho.2 (by omega) ?_
      simp_arith only [i_amount_in_r0]
      exact h
theorem w_law_worked (hT : T "_law_worked" = some f__law_worked) (hP : T "_law_place" = some f__law_place) {fs : List Fc} (hn : named fs) (hl : fs.length ≤ 4) {r : List Int} (hr : r.length = fs.length) {kd : D} {ts : List Str} {kn : Str → Int} (hk : knows kd ts kn) {S : Sto} :
    ∀ (a : Am) (N : Nat) (P : D → Sto → Prop), a.ok fs.length ts → a.dep + 2 ≤ N → P (.int (a.val r kn)) S → Cl T N "_law_worked" [a.d, .tup (fs.map Fc.d), rowD r, kd] S P := by
  obtain ⟨ks, vs, rfl, hk⟩ := hk
  have okStr : ((D.str "plus").eqOk = true) = True ∧ ((D.str "less").eqOk = true) = True ∧ ((D.str "least").eqOk = true) = True ∧ ((D.str "most").eqOk = true) = True ∧ ((D.tup [.str "plus", .str "less"]).eqOk = true) = True := by
    refine ⟨eq_true ?_, eq_true ?_, eq_true ?_, eq_true ?_, eq_true ?_⟩ <;> decide +kernel
  intro a
  induction a with
  | num i =>
    intro N P ho hN h
    cases N with
    | zero => omega
    | succ N =>
      refine ⟨_, hT, rfl, ?_⟩
      simp_arith only [f__law_worked, i__law_worked, Am.d]
      exact h
  | fact k =>
    intro N P ho hN h
    obtain ⟨M, rfl⟩ : ∃ M, N = M + 2 := ⟨N - 2, by simp only [Am.dep] at hN; omega⟩
    refine ⟨_, hT, rfl, ?_⟩
    have ho : k < fs.length := ho
    simp_arith only [f__law_worked, i__law_worked, Am.d]
    refine w_law_place hP hn hl ho ?_
    simp_arith only [rowD, row_at (show k < r.length by omega)]
    exact h
  | term t =>
    intro N P ho hN h
    cases N with
    | zero => omega
    | succ N =>
      refine ⟨_, hT, rfl, ?_⟩
      simp_arith only [f__law_worked, i__law_worked, i__law_worked_r3, Am.d, hk t ho]
      exact h
  | times i a ih =>
    intro N P ho hN h
    simp only [Am.dep] at hN
    cases N with
    | zero => omega
    | succ N =>
      refine ⟨_, hT, rfl, ?_⟩
      simp_arith only [f__law_worked, i__law_worked, i__law_worked_r3, Am.d]
      refine ih N _ ho.2 (by omega) ?_
      simp_arith only [true_and]
      exact ⟨sm ⟨by have := ho.1; omega, by have := ho.1; omega⟩ _, h⟩
  | part a i ih =>
    intro N P ho hN h
    simp only [Am.dep] at hN
    cases N with
    | zero => omega
    | succ N =>
      refine ⟨_, hT, rfl, ?_⟩
      simp_arith only [f__law_worked, i__law_worked, i__law_worked_r3, i__law_worked_r2, Am.d]
      refine ih N _ ho.1 (by omega) ?_
      simp_arith only [i__law_worked_r1]
      have := ho.2
      exact ⟨⟨by omega, pow9 (by omega) (by omega)⟩, h⟩
  | plus a b iha ihb =>
    intro N P ho hN h
    simp only [Am.dep] at hN
    cases N with
    | zero => omega
    | succ N =>
      refine ⟨_, hT, rfl, ?_⟩
      simp_arith only [f__law_worked, i__law_worked, i__law_worked_r3, i__law_worked_r2, Am.d]
      refine iha N _ ho.1 (by omega) ?_
      simp_arith only [i__law_worked_r1]
      refine ihb N _ ho.2 (by omega) ?_
      simp_arith only [i__law_worked_r0, okStr, List.any_cons, List.any_nil, Bool.or_false, Bool.false_or, Bool.true_or, Bool.or_true]
      exact h
  | less a b iha ihb =>
    intro N P ho hN h
    simp only [Am.dep] at hN
    cases N with
    | zero => omega
    | succ N =>
      refine ⟨_, hT, rfl, ?_⟩
      simp_arith only [f__law_worked, i__law_worked, i__law_worked_r3, i__law_worked_r2, Am.d]
      refine iha N _ ho.1 (by omega) ?_
      simp_arith only [i__law_worked_r1]
      refine ihb N _ ho.2 (by omega) ?_
      simp_arith only [i__law_worked_r0, okStr, List.any_cons, List.any_nil, Bool.or_false, Bool.false_or, Bool.true_or, Bool.or_true]
      exact h
  | least a b iha ihb =>
    intro N P ho hN h
    simp only [Am.dep] at hN
    cases N with
    | zero => omega
    | succ N =>
      refine ⟨_, hT, rfl, ?_⟩
      simp_arith only [f__law_worked, i__law_worked, i__law_worked_r3, i__law_worked_r2, Am.d]
      refine iha N _ ho.1 (by omega) ?_
      simp_arith only [i__law_worked_r1]
      refine ihb N _ ho.2 (by omega) ?_
      simp_arith only [i__law_worked_r0, okStr, List.any_cons, List.any_nil, Bool.or_false, Bool.false_or, Bool.true_or, Bool.or_true]
      exact h
  | most a b iha ihb =>
    intro N P ho hN h
    simp only [Am.dep] at hN
    cases N with
    | zero => omega
    | succ N =>
      refine ⟨_, hT, rfl, ?_⟩
      simp_arith only [f__law_worked, i__law_worked, i__law_worked_r3, i__law_worked_r2, Am.d]
      refine iha N _ ho.1 (by omega) ?_
      simp_arith only [i__law_worked_r1]
      refine ihb N _ ho.2 (by omega) ?_
      simp_arith only [i__law_worked_r0, okStr, List.any_cons, List.any_nil, Bool.or_false, Bool.false_or, Bool.true_or, Bool.or_true]
      exact h
end
end Q
/-! Conditions. -/
namespace Q
open PySem
inductive Cn where
  | tru
  | is (a b : Am)
  | lt (a b : Am)
  | not (c : Cn)
  | both (c e : Cn)
  | either (c e : Cn)
namespace Cn
def d : Cn → D
  | tru => .tup [.str "true"]
  | is a b => .tup [.str "is", a.d, b.d]
  | lt a b => .tup [.str "below", a.d, b.d]
  | not c => .tup [.str "not", c.d]
  | both c e => .tup [.str "both", c.d, e.d]
  | either c e => .tup [.str "either", c.d, e.d]
def dep : Cn → Nat
  | tru => 0
  | is a b => max a.dep b.dep + 1
  | lt a b => max a.dep b.dep + 1
  | not c => c.dep + 1
  | both c e => max c.dep e.dep + 1
  | either c e => max c.dep e.dep + 1
def ok (n : Nat) (ts : List Str) : Cn → Prop
  | tru => True
  | is a b => a.ok n ts ∧ b.ok n ts
  | lt a b => a.ok n ts ∧ b.ok n ts
  | not c => c.ok n ts
  | both c e => c.ok n ts ∧ e.ok n ts
  | either c e => c.ok n ts ∧ e.ok n ts
def val (r : List Int) (kn : Str → Int) : Cn → Bool
  | tru => true
  | is a b => a.val r kn == b.val r kn
  | lt a b => decide (a.val r kn < b.val r kn)
  | not c => !c.val r kn
  | both c e => c.val r kn && e.val r kn
  | either c e => c.val r kn || e.val r kn
end Cn
section
variable {T : Str → Option FD}
theorem w_truth_in (hT : T "truth_in" = some f_truth_in) (hA : T "amount_in" = some f_amount_in) (hP : T "place_of" = some f_place_of) {fs : List Fc} (hn : named fs) (hl : fs.length ≤ 4) {r : List Int} (hr : r.length = fs.length) {kd : D} {ts : List Str} {kn : Str → Int} (hk : knows kd ts kn) {S : Sto} :
    ∀ (c : Cn) (N : Nat) (P : D → Sto → Prop), c.ok fs.length ts → c.dep + 3 ≤ N → P (.bl (c.val r kn)) S → Cl T N "truth_in" [c.d, .tup (fs.map Fc.d), rowD r, kd] S P := by
  have okStr : ((D.str "both").eqOk = true) = True ∧ ((D.str "either").eqOk = true) = True ∧ ((D.str "is").eqOk = true) = True ∧ ((D.str "below").eqOk = true) = True ∧ ((D.tup [.str "both", .str "either"]).eqOk = true) = True := by
    refine ⟨eq_true ?_, eq_true ?_, eq_true ?_, eq_true ?_, eq_true ?_⟩ <;> decide +kernel
  intro c
  induction c with
  | tru =>
    intro N P ho hN h
    cases N with
    | zero => omega
    | succ N =>
      refine ⟨_, hT, rfl, ?_⟩
      simp_arith only [f_truth_in, i_truth_in, Cn.d]
      exact h
  | not c ih =>
    intro N P ho hN h
    simp only [Cn.dep] at hN
    cases N with
    | zero => omega
    | succ N =>
      refine ⟨_, hT, rfl, ?_⟩
      simp_arith only [f_truth_in, i_truth_in, Cn.d]
      refine ih N _ ho (by omega) ?_
      simp_arith only [true_and]
      exact h
  | is a b =>
    intro N P ho hN h
    simp only [Cn.dep] at hN
    cases N with
    | zero => omega
    | succ N =>
      refine ⟨_, hT, rfl, ?_⟩
      simp_arith only [f_truth_in, i_truth_in, i_truth_in_r3, i_truth_in_r2, i_truth_in_r1,  Cn.d, okStr, List.any_cons, List.any_nil, Bool.or_false, Bool.false_or, Bool.true_or, Bool.or_true]
      refine w_amount_in hA hP hn hl hr hk a N _ ho.1 (by omega) ?_
      try simp_arith only [true_and]
      refine w_amount_in hA hP hn hl hr hk b N _ ho.2 (by omega) ?_
      simp_arith only [i_truth_in_r0]
      exact h
  | lt a b =>
    intro N P ho hN h
    simp only [Cn.dep] at hN
    cases N with
    | zero => omega
    | succ N =>
      refine ⟨_, hT, rfl, ?_⟩
      simp_arith only [f_truth_in, i_truth_in, i_truth_in_r3, i_truth_in_r2, i_truth_in_r1,  Cn.d, okStr, List.any_cons, List.any_nil, Bool.or_false, Bool.false_or, Bool.true_or, Bool.or_true]
      refine w_amount_in hA hP hn hl hr hk a N _ ho.1 (by omega) ?_
      try simp_arith only [true_and]
      refine w_amount_in hA hP hn hl hr hk b N _ ho.2 (by omega) ?_
      simp_arith only [i_truth_in_r0]
      exact h
  | both c e ihc ihe =>
    intro N P ho hN h
    simp only [Cn.dep] at hN
    cases N with
    | zero => omega
    | succ N =>
      refine ⟨_, hT, rfl, ?_⟩
      simp_arith only [f_truth_in, i_truth_in, i_truth_in_r3, i_truth_in_r2, i_truth_in_r1,  Cn.d]
      refine ihc N _ ho.1 (by omega) ?_
      simp only [Cn.val] at h
      cases hc : c.val r kn with
      | true =>
        rw [hc] at h
        simp_arith only [true_and]
        first
          | exact (ihe N _ ho.2 (by omega) (by simpa using h))
          | simpa using h
      | false =>
        rw [hc] at h
        simp_arith only [true_and]
        first
          | exact (ihe N _ ho.2 (by omega) (by simpa using h))
          | simpa using h
  | either c e ihc ihe =>
    intro N P ho hN h
    simp only [Cn.dep] at hN
    cases N with
    | zero => omega
    | succ N =>
      refine ⟨_, hT, rfl, ?_⟩
      simp_arith only [f_truth_in, i_truth_in, i_truth_in_r3, i_truth_in_r2, i_truth_in_r1,  Cn.d]
      refine ihc N _ ho.1 (by omega) ?_
      simp only [Cn.val] at h
      cases hc : c.val r kn with
      | true =>
        rw [hc] at h
        simp_arith only [true_and]
        first
          | exact (ihe N _ ho.2 (by omega) (by simpa using h))
          | simpa using h
      | false =>
        rw [hc] at h
        simp_arith only [true_and]
        first
          | exact (ihe N _ ho.2 (by omega) (by simpa using h))
          | simpa using h
theorem w_law_truth (hT : T "_law_truth" = some f__law_truth) (hA : T "_law_worked" = some f__law_worked) (hP : T "_law_place" = some f__law_place) {fs : List Fc} (hn : named fs) (hl : fs.length ≤ 4) {r : List Int} (hr : r.length = fs.length) {kd : D} {ts : List Str} {kn : Str → Int} (hk : knows kd ts kn) {S : Sto} :
    ∀ (c : Cn) (N : Nat) (P : D → Sto → Prop), c.ok fs.length ts → c.dep + 3 ≤ N → P (.bl (c.val r kn)) S → Cl T N "_law_truth" [c.d, .tup (fs.map Fc.d), rowD r, kd] S P := by
  have okStr : ((D.str "both").eqOk = true) = True ∧ ((D.str "either").eqOk = true) = True ∧ ((D.str "is").eqOk = true) = True ∧ ((D.str "below").eqOk = true) = True ∧ ((D.tup [.str "both", .str "either"]).eqOk = true) = True := by
    refine ⟨eq_true ?_, eq_true ?_, eq_true ?_, eq_true ?_, eq_true ?_⟩ <;> decide +kernel
  intro c
  induction c with
  | tru =>
    intro N P ho hN h
    cases N with
    | zero => omega
    | succ N =>
      refine ⟨_, hT, rfl, ?_⟩
      simp_arith only [f__law_truth, i__law_truth, Cn.d]
      exact h
  | not c ih =>
    intro N P ho hN h
    simp only [Cn.dep] at hN
    cases N with
    | zero => omega
    | succ N =>
      refine ⟨_, hT, rfl, ?_⟩
      simp_arith only [f__law_truth, i__law_truth, Cn.d]
      refine ih N _ ho (by omega) ?_
      simp_arith only [true_and]
      exact h
  | is a b =>
    intro N P ho hN h
    simp only [Cn.dep] at hN
    cases N with
    | zero => omega
    | succ N =>
      refine ⟨_, hT, rfl, ?_⟩
      simp (config := { maxSteps := 2000000 }) only [f__law_truth, i__law_truth, i__law_truth_r3, Cn.d, ↓reduceIte, Q.wSs_nil, Q.wSs_cons, Q.wS_asg, Q.wS_par, Q.wS_app, Q.wS_ext, Q.wS_pop, Q.wS_aug, Q.wS_setI, Q.wS_expr, Q.wS_ret, Q.wS_ifs, Q.wS_fors, Q.wS_cont, Q.wS_brk, Q.wS_pass, Q.asg_nmT, Q.asg_nmF, Q.asg_tp, Q.tupP_tup, Q.g_nm, Q.g_tp, Q.gs_nil, Q.gs_cons, Q.setP_obj, Q.str_lit, String.reduceBEq, Q.setP_dct, Q.wS_asg2, Q.wE_dct, Q.wE_dcomp, Q.pk_dct, Q.pk_dcomp, Q.cmp_isb, Q.cmp_isnb, Q.cmp_gts, Q.cmp_lts, Q.cmp_les, Q.mem_dct, Q.isB_non, Q.isB_bl, Q.isB_tup, Q.isB_str, Q.mul_tup, Q.idx_dct, Q.idx_str, Q.blt_min2L, Q.blt_max2L,  Q.blt_dctD, Q.blt_lstD, Q.len_dct, Q.wI_wk, Q.wkP_tup, Q.wkP_lst, Q.wkP_lstO, Q.wkP_dct, Q.wkP_dctO, Q.setP_own, Q.hasP_val, Q.hasP_own, Q.valP_val, Q.augP_int, Q.augP_str, Q.lstP_lst, Q.ownL_own, Q.wI_seq, Q.wI_rng, Q.wI_zip, Q.wEo_no, Q.wEo_so, Q.wE_neg', Q.zipP_tup, Q.zipP_lst, Q.seqP_tup, Q.seqP_lst, Q.seqP_scr, Q.seqP_str, Q.rngP_int, Q.intP_int, Q.sz0, Q.sz1, Q.sz2, Q.sz3, Q.sz4, Q.sz5, Q.sz6, Q.sz7, Q.sz8, Q.sz9, Q.nc0, Q.nc1, Q.nc2, Q.nc3, Q.nc4, Q.nc5, Q.nc6, Q.nc7, Q.nc8, Q.nc9, Q.isN_non, Q.isN_bl, Q.isN_int, Q.isN_str, Q.isN_tup, Q.isN_lst, Int.reduceBEq, Int.reduceBNe, Int.reduceLT, Int.reduceLE, decide_true, decide_false, Bool.or_self, Bool.and_self, eq_self, decide_eq_true_eq, Q.ix51, Q.ix52, Q.ix53,  Q.wE_loc, Q.wE_cst, Q.wE_bin, Q.wE_not, Q.wE_and, Q.wE_or, Q.wE_ite, Q.wE_cmp, Q.wE_chain, Q.wE_tup, Q.wE_lst, Q.wE_new, Q.wE_idx, Q.wE_slcE, Q.wE_call, Q.wE_blt, Q.wE_isa, Q.wE_comp, Q.wE_comp2, Q.pk_loc, Q.pk_cst, Q.pk_bin, Q.pk_neg, Q.pk_not, Q.pk_and, Q.pk_or, Q.pk_ite, Q.pk_cmp, Q.pk_chain, Q.pk_tup, Q.pk_lst, Q.pk_new, Q.pk_idx, Q.pk_slcE, Q.pk_call, Q.pk_blt, Q.pk_isa, Q.pk_comp, Q.pk_comp2, Q.add_int, Q.add_str, Q.add_tup, Q.add_lst, Q.sub_int, Q.mul_int, Q.fdiv_int, Q.mod_int, Q.pow_int, Q.cmp_eq, Q.cmp_ne, Q.cmp_lt, Q.cmp_gt, Q.cmp_le, Q.cmp_ge, Q.cmp_is, Q.cmp_isn, Q.cmp_mem, Q.cmp_nmem, Q.mem_lst, Q.mem_tup, Q.mem_str, Q.eqQ_str, Q.eqQ_int, Q.eqQ_bl, Q.eq_bl, Q.eq_int, Q.eq_str, Q.ok_int, Q.ok_bl, Q.ok_non, Q.tr_bl, Q.tr_int, Q.tr_lst, Q.tr_tup, Q.tr_non, Q.idx_tup, Q.idx_lst, Q.idx_obj, Q.slc_tup, Q.slc_lst, Q.slc_scr, Q.len_tup, Q.len_lst, Q.len_str, Q.blt_all, Q.blt_any, Q.blt_sum, Q.blt_tupL, Q.blt_tupT, Q.blt_lstL, Q.blt_lstT, Q.blt_lstS, Q.blt_int, Q.blt_min, Q.blt_max, Q.at0, Q.at1, Q.at2, Q.at3, Q.at4, Q.optP_some, Q.locE_val, Q.locE_own, Q.locP_val, Q.locP_own, Q.wEs_nil, Q.wEs_cons, Q.wPs_nil, Q.wPs_cons, Q.wAs_nil, Q.wAs_loc, Q.locA_val, Q.locA_own, Q.wAs_cst, Q.wAs_bin, Q.wAs_neg, Q.wAs_not, Q.wAs_and, Q.wAs_or, Q.wAs_ite, Q.wAs_cmp, Q.wAs_chain, Q.wAs_tup, Q.wAs_lst, Q.wAs_new, Q.wAs_idx, Q.wAs_slcE, Q.wAs_call, Q.wAs_blt, Q.wAs_isa, Q.wAs_comp, Q.wAs_comp2, Q.wAs_dct, Q.wAs_dcomp, Q.wT_not, Q.wT_and, Q.wT_or, Q.wT_cmp, Q.wT_chain, Q.wT_yes, Q.wT_v, Q.lo0, Q.flag, Q.wipeL, Q.IEs.len, List.map_cons, List.map_nil, List.length_cons, List.length_nil, List.cons_append, List.nil_append, Nat.reduceAdd, Nat.reduceSub, Nat.sub_self, List.replicate, List.getElem?_cons_zero, List.getElem?_cons_succ, List.set_cons_zero, List.set_cons_succ, List.getElem?_nil, Q.isa_non_str, Q.isa_non_int, Q.isa_non_bool, Q.isa_non_tuple, Q.isa_non_list, Q.isa_non_dict, Q.isa_bl_str, Q.isa_bl_int, Q.isa_bl_bool, Q.isa_bl_tuple, Q.isa_bl_list, Q.isa_bl_dict, Q.isa_int_str, Q.isa_int_int, Q.isa_int_bool, Q.isa_int_tuple, Q.isa_int_list, Q.isa_int_dict, Q.isa_str_str, Q.isa_str_int, Q.isa_str_bool, Q.isa_str_tuple, Q.isa_str_list, Q.isa_str_dict, Q.isa_tup_str, Q.isa_tup_int, Q.isa_tup_bool, Q.isa_tup_tuple, Q.isa_tup_list, Q.isa_tup_dict, Q.isa_lst_str, Q.isa_lst_int, Q.isa_lst_bool, Q.isa_lst_tuple, Q.isa_lst_list, Q.isa_lst_dict, if_true, if_false, Bool.false_eq_true, Bool.true_eq_false, true_and, and_true, Bool.not_true, Bool.not_false, List.not_mem_nil, false_implies, implies_true, forall_const, true_or, false_or, Option.some.injEq, Q.D.tup.injEq, exists_eq_left', exists_eq_left, Q.D.int.injEq, okStr, List.any_cons, List.any_nil, Bool.or_false, Bool.false_or, Bool.true_or, Bool.or_true]
      simp_arith only [i__law_truth_r2]
      refine w_law_worked hA hP hn hl hr hk a N _ ho.1 (by omega) ?_
      try simp_arith only [true_and]
      refine w_law_worked hA hP hn hl hr hk b N _ ho.2 (by omega) ?_
      simp_arith only [i__law_truth_r1]
      exact h
  | lt a b =>
    intro N P ho hN h
    simp only [Cn.dep] at hN
    cases N with
    | zero => omega
    | succ N =>
      refine ⟨_, hT, rfl, ?_⟩
      simp (config := { maxSteps := 2000000 }) only [f__law_truth, i__law_truth, i__law_truth_r3, Cn.d, ↓reduceIte, Q.wSs_nil, Q.wSs_cons, Q.wS_asg, Q.wS_par, Q.wS_app, Q.wS_ext, Q.wS_pop, Q.wS_aug, Q.wS_setI, Q.wS_expr, Q.wS_ret, Q.wS_ifs, Q.wS_fors, Q.wS_cont, Q.wS_brk, Q.wS_pass, Q.asg_nmT, Q.asg_nmF, Q.asg_tp, Q.tupP_tup, Q.g_nm, Q.g_tp, Q.gs_nil, Q.gs_cons, Q.setP_obj, Q.str_lit, String.reduceBEq, Q.setP_dct, Q.wS_asg2, Q.wE_dct, Q.wE_dcomp, Q.pk_dct, Q.pk_dcomp, Q.cmp_isb, Q.cmp_isnb, Q.cmp_gts, Q.cmp_lts, Q.cmp_les, Q.mem_dct, Q.isB_non, Q.isB_bl, Q.isB_tup, Q.isB_str, Q.mul_tup, Q.idx_dct, Q.idx_str, Q.blt_min2L, Q.blt_max2L,  Q.blt_dctD, Q.blt_lstD, Q.len_dct, Q.wI_wk, Q.wkP_tup, Q.wkP_lst, Q.wkP_lstO, Q.wkP_dct, Q.wkP_dctO, Q.setP_own, Q.hasP_val, Q.hasP_own, Q.valP_val, Q.augP_int, Q.augP_str, Q.lstP_lst, Q.ownL_own, Q.wI_seq, Q.wI_rng, Q.wI_zip, Q.wEo_no, Q.wEo_so, Q.wE_neg', Q.zipP_tup, Q.zipP_lst, Q.seqP_tup, Q.seqP_lst, Q.seqP_scr, Q.seqP_str, Q.rngP_int, Q.intP_int, Q.sz0, Q.sz1, Q.sz2, Q.sz3, Q.sz4, Q.sz5, Q.sz6, Q.sz7, Q.sz8, Q.sz9, Q.nc0, Q.nc1, Q.nc2, Q.nc3, Q.nc4, Q.nc5, Q.nc6, Q.nc7, Q.nc8, Q.nc9, Q.isN_non, Q.isN_bl, Q.isN_int, Q.isN_str, Q.isN_tup, Q.isN_lst, Int.reduceBEq, Int.reduceBNe, Int.reduceLT, Int.reduceLE, decide_true, decide_false, Bool.or_self, Bool.and_self, eq_self, decide_eq_true_eq, Q.ix51, Q.ix52, Q.ix53,  Q.wE_loc, Q.wE_cst, Q.wE_bin, Q.wE_not, Q.wE_and, Q.wE_or, Q.wE_ite, Q.wE_cmp, Q.wE_chain, Q.wE_tup, Q.wE_lst, Q.wE_new, Q.wE_idx, Q.wE_slcE, Q.wE_call, Q.wE_blt, Q.wE_isa, Q.wE_comp, Q.wE_comp2, Q.pk_loc, Q.pk_cst, Q.pk_bin, Q.pk_neg, Q.pk_not, Q.pk_and, Q.pk_or, Q.pk_ite, Q.pk_cmp, Q.pk_chain, Q.pk_tup, Q.pk_lst, Q.pk_new, Q.pk_idx, Q.pk_slcE, Q.pk_call, Q.pk_blt, Q.pk_isa, Q.pk_comp, Q.pk_comp2, Q.add_int, Q.add_str, Q.add_tup, Q.add_lst, Q.sub_int, Q.mul_int, Q.fdiv_int, Q.mod_int, Q.pow_int, Q.cmp_eq, Q.cmp_ne, Q.cmp_lt, Q.cmp_gt, Q.cmp_le, Q.cmp_ge, Q.cmp_is, Q.cmp_isn, Q.cmp_mem, Q.cmp_nmem, Q.mem_lst, Q.mem_tup, Q.mem_str, Q.eqQ_str, Q.eqQ_int, Q.eqQ_bl, Q.eq_bl, Q.eq_int, Q.eq_str, Q.ok_int, Q.ok_bl, Q.ok_non, Q.tr_bl, Q.tr_int, Q.tr_lst, Q.tr_tup, Q.tr_non, Q.idx_tup, Q.idx_lst, Q.idx_obj, Q.slc_tup, Q.slc_lst, Q.slc_scr, Q.len_tup, Q.len_lst, Q.len_str, Q.blt_all, Q.blt_any, Q.blt_sum, Q.blt_tupL, Q.blt_tupT, Q.blt_lstL, Q.blt_lstT, Q.blt_lstS, Q.blt_int, Q.blt_min, Q.blt_max, Q.at0, Q.at1, Q.at2, Q.at3, Q.at4, Q.optP_some, Q.locE_val, Q.locE_own, Q.locP_val, Q.locP_own, Q.wEs_nil, Q.wEs_cons, Q.wPs_nil, Q.wPs_cons, Q.wAs_nil, Q.wAs_loc, Q.locA_val, Q.locA_own, Q.wAs_cst, Q.wAs_bin, Q.wAs_neg, Q.wAs_not, Q.wAs_and, Q.wAs_or, Q.wAs_ite, Q.wAs_cmp, Q.wAs_chain, Q.wAs_tup, Q.wAs_lst, Q.wAs_new, Q.wAs_idx, Q.wAs_slcE, Q.wAs_call, Q.wAs_blt, Q.wAs_isa, Q.wAs_comp, Q.wAs_comp2, Q.wAs_dct, Q.wAs_dcomp, Q.wT_not, Q.wT_and, Q.wT_or, Q.wT_cmp, Q.wT_chain, Q.wT_yes, Q.wT_v, Q.lo0, Q.flag, Q.wipeL, Q.IEs.len, List.map_cons, List.map_nil, List.length_cons, List.length_nil, List.cons_append, List.nil_append, Nat.reduceAdd, Nat.reduceSub, Nat.sub_self, List.replicate, List.getElem?_cons_zero, List.getElem?_cons_succ, List.set_cons_zero, List.set_cons_succ, List.getElem?_nil, Q.isa_non_str, Q.isa_non_int, Q.isa_non_bool, Q.isa_non_tuple, Q.isa_non_list, Q.isa_non_dict, Q.isa_bl_str, Q.isa_bl_int, Q.isa_bl_bool, Q.isa_bl_tuple, Q.isa_bl_list, Q.isa_bl_dict, Q.isa_int_str, Q.isa_int_int, Q.isa_int_bool, Q.isa_int_tuple, Q.isa_int_list, Q.isa_int_dict, Q.isa_str_str, Q.isa_str_int, Q.isa_str_bool, Q.isa_str_tuple, Q.isa_str_list, Q.isa_str_dict, Q.isa_tup_str, Q.isa_tup_int, Q.isa_tup_bool, Q.isa_tup_tuple, Q.isa_tup_list, Q.isa_tup_dict, Q.isa_lst_str, Q.isa_lst_int, Q.isa_lst_bool, Q.isa_lst_tuple, Q.isa_lst_list, Q.isa_lst_dict, if_true, if_false, Bool.false_eq_true, Bool.true_eq_false, true_and, and_true, Bool.not_true, Bool.not_false, List.not_mem_nil, false_implies, implies_true, forall_const, true_or, false_or, Option.some.injEq, Q.D.tup.injEq, exists_eq_left', exists_eq_left, Q.D.int.injEq, okStr, List.any_cons, List.any_nil, Bool.or_false, Bool.false_or, Bool.true_or, Bool.or_true]
      simp_arith only [i__law_truth_r2]
      refine w_law_worked hA hP hn hl hr hk a N _ ho.1 (by omega) ?_
      try simp_arith only [true_and]
      refine w_law_worked hA hP hn hl hr hk b N _ ho.2 (by omega) ?_
      simp_arith only [i__law_truth_r1]
      exact h
  | both c e ihc ihe =>
    intro N P ho hN h
    simp only [Cn.dep] at hN
    cases N with
    | zero => omega
    | succ N =>
      refine ⟨_, hT, rfl, ?_⟩
      simp (config := { maxSteps := 2000000 }) only [f__law_truth, i__law_truth, i__law_truth_r3, Cn.d, ↓reduceIte, Q.wSs_nil, Q.wSs_cons, Q.wS_asg, Q.wS_par, Q.wS_app, Q.wS_ext, Q.wS_pop, Q.wS_aug, Q.wS_setI, Q.wS_expr, Q.wS_ret, Q.wS_ifs, Q.wS_fors, Q.wS_cont, Q.wS_brk, Q.wS_pass, Q.asg_nmT, Q.asg_nmF, Q.asg_tp, Q.tupP_tup, Q.g_nm, Q.g_tp, Q.gs_nil, Q.gs_cons, Q.setP_obj, Q.str_lit, String.reduceBEq, Q.setP_dct, Q.wS_asg2, Q.wE_dct, Q.wE_dcomp, Q.pk_dct, Q.pk_dcomp, Q.cmp_isb, Q.cmp_isnb, Q.cmp_gts, Q.cmp_lts, Q.cmp_les, Q.mem_dct, Q.isB_non, Q.isB_bl, Q.isB_tup, Q.isB_str, Q.mul_tup, Q.idx_dct, Q.idx_str, Q.blt_min2L, Q.blt_max2L,  Q.blt_dctD, Q.blt_lstD, Q.len_dct, Q.wI_wk, Q.wkP_tup, Q.wkP_lst, Q.wkP_lstO, Q.wkP_dct, Q.wkP_dctO, Q.setP_own, Q.hasP_val, Q.hasP_own, Q.valP_val, Q.augP_int, Q.augP_str, Q.lstP_lst, Q.ownL_own, Q.wI_seq, Q.wI_rng, Q.wI_zip, Q.wEo_no, Q.wEo_so, Q.wE_neg', Q.zipP_tup, Q.zipP_lst, Q.seqP_tup, Q.seqP_lst, Q.seqP_scr, Q.seqP_str, Q.rngP_int, Q.intP_int, Q.sz0, Q.sz1, Q.sz2, Q.sz3, Q.sz4, Q.sz5, Q.sz6, Q.sz7, Q.sz8, Q.sz9, Q.nc0, Q.nc1, Q.nc2, Q.nc3, Q.nc4, Q.nc5, Q.nc6, Q.nc7, Q.nc8, Q.nc9, Q.isN_non, Q.isN_bl, Q.isN_int, Q.isN_str, Q.isN_tup, Q.isN_lst, Int.reduceBEq, Int.reduceBNe, Int.reduceLT, Int.reduceLE, decide_true, decide_false, Bool.or_self, Bool.and_self, eq_self, decide_eq_true_eq, Q.ix51, Q.ix52, Q.ix53,  Q.wE_loc, Q.wE_cst, Q.wE_bin, Q.wE_not, Q.wE_and, Q.wE_or, Q.wE_ite, Q.wE_cmp, Q.wE_chain, Q.wE_tup, Q.wE_lst, Q.wE_new, Q.wE_idx, Q.wE_slcE, Q.wE_call, Q.wE_blt, Q.wE_isa, Q.wE_comp, Q.wE_comp2, Q.pk_loc, Q.pk_cst, Q.pk_bin, Q.pk_neg, Q.pk_not, Q.pk_and, Q.pk_or, Q.pk_ite, Q.pk_cmp, Q.pk_chain, Q.pk_tup, Q.pk_lst, Q.pk_new, Q.pk_idx, Q.pk_slcE, Q.pk_call, Q.pk_blt, Q.pk_isa, Q.pk_comp, Q.pk_comp2, Q.add_int, Q.add_str, Q.add_tup, Q.add_lst, Q.sub_int, Q.mul_int, Q.fdiv_int, Q.mod_int, Q.pow_int, Q.cmp_eq, Q.cmp_ne, Q.cmp_lt, Q.cmp_gt, Q.cmp_le, Q.cmp_ge, Q.cmp_is, Q.cmp_isn, Q.cmp_mem, Q.cmp_nmem, Q.mem_lst, Q.mem_tup, Q.mem_str, Q.eqQ_str, Q.eqQ_int, Q.eqQ_bl, Q.eq_bl, Q.eq_int, Q.eq_str, Q.ok_int, Q.ok_bl, Q.ok_non, Q.tr_bl, Q.tr_int, Q.tr_lst, Q.tr_tup, Q.tr_non, Q.idx_tup, Q.idx_lst, Q.idx_obj, Q.slc_tup, Q.slc_lst, Q.slc_scr, Q.len_tup, Q.len_lst, Q.len_str, Q.blt_all, Q.blt_any, Q.blt_sum, Q.blt_tupL, Q.blt_tupT, Q.blt_lstL, Q.blt_lstT, Q.blt_lstS, Q.blt_int, Q.blt_min, Q.blt_max, Q.at0, Q.at1, Q.at2, Q.at3, Q.at4, Q.optP_some, Q.locE_val, Q.locE_own, Q.locP_val, Q.locP_own, Q.wEs_nil, Q.wEs_cons, Q.wPs_nil, Q.wPs_cons, Q.wAs_nil, Q.wAs_loc, Q.locA_val, Q.locA_own, Q.wAs_cst, Q.wAs_bin, Q.wAs_neg, Q.wAs_not, Q.wAs_and, Q.wAs_or, Q.wAs_ite, Q.wAs_cmp, Q.wAs_chain, Q.wAs_tup, Q.wAs_lst, Q.wAs_new, Q.wAs_idx, Q.wAs_slcE, Q.wAs_call, Q.wAs_blt, Q.wAs_isa, Q.wAs_comp, Q.wAs_comp2, Q.wAs_dct, Q.wAs_dcomp, Q.wT_not, Q.wT_and, Q.wT_or, Q.wT_cmp, Q.wT_chain, Q.wT_yes, Q.wT_v, Q.lo0, Q.flag, Q.wipeL, Q.IEs.len, List.map_cons, List.map_nil, List.length_cons, List.length_nil, List.cons_append, List.nil_append, Nat.reduceAdd, Nat.reduceSub, Nat.sub_self, List.replicate, List.getElem?_cons_zero, List.getElem?_cons_succ, List.set_cons_zero, List.set_cons_succ, List.getElem?_nil, Q.isa_non_str, Q.isa_non_int, Q.isa_non_bool, Q.isa_non_tuple, Q.isa_non_list, Q.isa_non_dict, Q.isa_bl_str, Q.isa_bl_int, Q.isa_bl_bool, Q.isa_bl_tuple, Q.isa_bl_list, Q.isa_bl_dict, Q.isa_int_str, Q.isa_int_int, Q.isa_int_bool, Q.isa_int_tuple, Q.isa_int_list, Q.isa_int_dict, Q.isa_str_str, Q.isa_str_int, Q.isa_str_bool, Q.isa_str_tuple, Q.isa_str_list, Q.isa_str_dict, Q.isa_tup_str, Q.isa_tup_int, Q.isa_tup_bool, Q.isa_tup_tuple, Q.isa_tup_list, Q.isa_tup_dict, Q.isa_lst_str, Q.isa_lst_int, Q.isa_lst_bool, Q.isa_lst_tuple, Q.isa_lst_list, Q.isa_lst_dict, if_true, if_false, Bool.false_eq_true, Bool.true_eq_false, true_and, and_true, Bool.not_true, Bool.not_false, List.not_mem_nil, false_implies, implies_true, forall_const, true_or, false_or, Option.some.injEq, Q.D.tup.injEq, exists_eq_left', exists_eq_left, Q.D.int.injEq, okStr, List.any_cons, List.any_nil, Bool.or_false, Bool.false_or, Bool.true_or, Bool.or_true]
      refine ihc N _ ho.1 (by omega) ?_
      try simp_arith only [true_and]
      refine ihe N _ ho.2 (by omega) ?_
      simp_arith only [i__law_truth_r0]
      simp only [Cn.val] at h
      cases hc : c.val r kn <;> cases he : e.val r kn <;> rw [hc, he] at h <;> simpa using h
  | either c e ihc ihe =>
    intro N P ho hN h
    simp only [Cn.dep] at hN
    cases N with
    | zero => omega
    | succ N =>
      refine ⟨_, hT, rfl, ?_⟩
      simp (config := { maxSteps := 2000000 }) only [f__law_truth, i__law_truth, i__law_truth_r3, Cn.d, ↓reduceIte, Q.wSs_nil, Q.wSs_cons, Q.wS_asg, Q.wS_par, Q.wS_app, Q.wS_ext, Q.wS_pop, Q.wS_aug, Q.wS_setI, Q.wS_expr, Q.wS_ret, Q.wS_ifs, Q.wS_fors, Q.wS_cont, Q.wS_brk, Q.wS_pass, Q.asg_nmT, Q.asg_nmF, Q.asg_tp, Q.tupP_tup, Q.g_nm, Q.g_tp, Q.gs_nil, Q.gs_cons, Q.setP_obj, Q.str_lit, String.reduceBEq, Q.setP_dct, Q.wS_asg2, Q.wE_dct, Q.wE_dcomp, Q.pk_dct, Q.pk_dcomp, Q.cmp_isb, Q.cmp_isnb, Q.cmp_gts, Q.cmp_lts, Q.cmp_les, Q.mem_dct, Q.isB_non, Q.isB_bl, Q.isB_tup, Q.isB_str, Q.mul_tup, Q.idx_dct, Q.idx_str, Q.blt_min2L, Q.blt_max2L,  Q.blt_dctD, Q.blt_lstD, Q.len_dct, Q.wI_wk, Q.wkP_tup, Q.wkP_lst, Q.wkP_lstO, Q.wkP_dct, Q.wkP_dctO, Q.setP_own, Q.hasP_val, Q.hasP_own, Q.valP_val, Q.augP_int, Q.augP_str, Q.lstP_lst, Q.ownL_own, Q.wI_seq, Q.wI_rng, Q.wI_zip, Q.wEo_no, Q.wEo_so, Q.wE_neg', Q.zipP_tup, Q.zipP_lst, Q.seqP_tup, Q.seqP_lst, Q.seqP_scr, Q.seqP_str, Q.rngP_int, Q.intP_int, Q.sz0, Q.sz1, Q.sz2, Q.sz3, Q.sz4, Q.sz5, Q.sz6, Q.sz7, Q.sz8, Q.sz9, Q.nc0, Q.nc1, Q.nc2, Q.nc3, Q.nc4, Q.nc5, Q.nc6, Q.nc7, Q.nc8, Q.nc9, Q.isN_non, Q.isN_bl, Q.isN_int, Q.isN_str, Q.isN_tup, Q.isN_lst, Int.reduceBEq, Int.reduceBNe, Int.reduceLT, Int.reduceLE, decide_true, decide_false, Bool.or_self, Bool.and_self, eq_self, decide_eq_true_eq, Q.ix51, Q.ix52, Q.ix53,  Q.wE_loc, Q.wE_cst, Q.wE_bin, Q.wE_not, Q.wE_and, Q.wE_or, Q.wE_ite, Q.wE_cmp, Q.wE_chain, Q.wE_tup, Q.wE_lst, Q.wE_new, Q.wE_idx, Q.wE_slcE, Q.wE_call, Q.wE_blt, Q.wE_isa, Q.wE_comp, Q.wE_comp2, Q.pk_loc, Q.pk_cst, Q.pk_bin, Q.pk_neg, Q.pk_not, Q.pk_and, Q.pk_or, Q.pk_ite, Q.pk_cmp, Q.pk_chain, Q.pk_tup, Q.pk_lst, Q.pk_new, Q.pk_idx, Q.pk_slcE, Q.pk_call, Q.pk_blt, Q.pk_isa, Q.pk_comp, Q.pk_comp2, Q.add_int, Q.add_str, Q.add_tup, Q.add_lst, Q.sub_int, Q.mul_int, Q.fdiv_int, Q.mod_int, Q.pow_int, Q.cmp_eq, Q.cmp_ne, Q.cmp_lt, Q.cmp_gt, Q.cmp_le, Q.cmp_ge, Q.cmp_is, Q.cmp_isn, Q.cmp_mem, Q.cmp_nmem, Q.mem_lst, Q.mem_tup, Q.mem_str, Q.eqQ_str, Q.eqQ_int, Q.eqQ_bl, Q.eq_bl, Q.eq_int, Q.eq_str, Q.ok_int, Q.ok_bl, Q.ok_non, Q.tr_bl, Q.tr_int, Q.tr_lst, Q.tr_tup, Q.tr_non, Q.idx_tup, Q.idx_lst, Q.idx_obj, Q.slc_tup, Q.slc_lst, Q.slc_scr, Q.len_tup, Q.len_lst, Q.len_str, Q.blt_all, Q.blt_any, Q.blt_sum, Q.blt_tupL, Q.blt_tupT, Q.blt_lstL, Q.blt_lstT, Q.blt_lstS, Q.blt_int, Q.blt_min, Q.blt_max, Q.at0, Q.at1, Q.at2, Q.at3, Q.at4, Q.optP_some, Q.locE_val, Q.locE_own, Q.locP_val, Q.locP_own, Q.wEs_nil, Q.wEs_cons, Q.wPs_nil, Q.wPs_cons, Q.wAs_nil, Q.wAs_loc, Q.locA_val, Q.locA_own, Q.wAs_cst, Q.wAs_bin, Q.wAs_neg, Q.wAs_not, Q.wAs_and, Q.wAs_or, Q.wAs_ite, Q.wAs_cmp, Q.wAs_chain, Q.wAs_tup, Q.wAs_lst, Q.wAs_new, Q.wAs_idx, Q.wAs_slcE, Q.wAs_call, Q.wAs_blt, Q.wAs_isa, Q.wAs_comp, Q.wAs_comp2, Q.wAs_dct, Q.wAs_dcomp, Q.wT_not, Q.wT_and, Q.wT_or, Q.wT_cmp, Q.wT_chain, Q.wT_yes, Q.wT_v, Q.lo0, Q.flag, Q.wipeL, Q.IEs.len, List.map_cons, List.map_nil, List.length_cons, List.length_nil, List.cons_append, List.nil_append, Nat.reduceAdd, Nat.reduceSub, Nat.sub_self, List.replicate, List.getElem?_cons_zero, List.getElem?_cons_succ, List.set_cons_zero, List.set_cons_succ, List.getElem?_nil, Q.isa_non_str, Q.isa_non_int, Q.isa_non_bool, Q.isa_non_tuple, Q.isa_non_list, Q.isa_non_dict, Q.isa_bl_str, Q.isa_bl_int, Q.isa_bl_bool, Q.isa_bl_tuple, Q.isa_bl_list, Q.isa_bl_dict, Q.isa_int_str, Q.isa_int_int, Q.isa_int_bool, Q.isa_int_tuple, Q.isa_int_list, Q.isa_int_dict, Q.isa_str_str, Q.isa_str_int, Q.isa_str_bool, Q.isa_str_tuple, Q.isa_str_list, Q.isa_str_dict, Q.isa_tup_str, Q.isa_tup_int, Q.isa_tup_bool, Q.isa_tup_tuple, Q.isa_tup_list, Q.isa_tup_dict, Q.isa_lst_str, Q.isa_lst_int, Q.isa_lst_bool, Q.isa_lst_tuple, Q.isa_lst_list, Q.isa_lst_dict, if_true, if_false, Bool.false_eq_true, Bool.true_eq_false, true_and, and_true, Bool.not_true, Bool.not_false, List.not_mem_nil, false_implies, implies_true, forall_const, true_or, false_or, Option.some.injEq, Q.D.tup.injEq, exists_eq_left', exists_eq_left, Q.D.int.injEq, okStr, List.any_cons, List.any_nil, Bool.or_false, Bool.false_or, Bool.true_or, Bool.or_true]
      refine ihc N _ ho.1 (by omega) ?_
      try simp_arith only [true_and]
      refine ihe N _ ho.2 (by omega) ?_
      simp_arith only [i__law_truth_r0]
      simp only [Cn.val] at h
      cases hc : c.val r kn <;> cases he : e.val r kn <;> rw [hc, he] at h <;> simpa using h
end
end Q
/-! Draws of facts, amounts, conditions. -/
namespace Q
open PySem
section
variable {T : Str → Option FD}
theorem w_law_factsN (hT : T "_law_facts" = some f__law_facts) (hD : T "_law_draw" = some f__law_draw) (hSp : T "_law_spread" = some f__law_spread) {k most : Nat} (hmost : most ≤ 4) {S : Sto} {P : D → Sto → Prop} (hS : Pool S)
  (h : ∀ (fs : List Fc) S', fs.length ≤ most → (∀ f ∈ fs, f.ok) → named fs → Pool S' → P (.tup (fs.map Fc.d)) S') : Cl T (k + 3) "_law_facts" [.obj 0, .int most] S P := by
  refine ⟨_, hT, rfl, ?_⟩
  simp_arith only [f__law_facts, i__law_facts]
  have nm : ∀ j : Nat, j < 4 → L2.atI [D.str "aa", .str "bb", .str "cc", .str "dd"] (j : Int) = some (nmD j) := fun j hj => by
    have : j = 0 ∨ j = 1 ∨ j = 2 ∨ j = 3 := by omega
    rcases this with rfl | rfl | rfl | rfl <;> rfl
  have loop : ∀ (ks : List Nat) (fs : List Fc) (s4 s5 s6 : Sl) (S : Sto), Pool S → ks = List.range' fs.length ks.length → fs.length + ks.length ≤ most → (∀ f ∈ fs, f.ok) ∧ named fs → forL (wG (.nm 4)) (wSs (Cl T (k + 2)) i__law_facts_b0) { nx := fun L1 S1 => wSs (Cl T (k + 2)) i__law_facts_r2 L1 S1 { nx := fun x S1 => P D.non S1, rt := P }, rt := P } (ks.map fun (j : Nat) => D.int (j : Int)) [.val (.obj 0), .val (.int most), .val (.tup [.str "aa", .str "bb", .str "cc", .str "dd"]), .own (.lst (fs.map Fc.d)), s4, s5, s6] S := by
    intro ks
    induction ks with
    | nil =>
      intro fs s4 s5 s6 S hS _ hl hf
      simp_arith only [List.map_nil, forL, i__law_facts_r2]
      exact h fs S (by simpa using hl) hf.1 hf.2 hS
    | cons j ks ih =>
      intro fs s4 s5 s6 S hS hj hl hf
      simp only [List.length_cons] at hl
      rw [List.length_cons, List.range'_succ, List.cons.injEq] at hj
      obtain ⟨hj1, hj2⟩ := hj
      have en := nm j (by omega)
      have next : ∀ f : Fc, f.n = nmD j → f.ok → (∀ g ∈ fs ++ [f], g.ok) ∧ named (fs ++ [f]) := fun f h1 h2 => by
        refine ⟨fun g hg => ?_, fun i g hg => ?_⟩
        · rcases List.mem_append.mp hg with h3 | h3
          · exact hf.1 g h3
          · rw [List.mem_singleton.mp h3]; exact h2
        · by_cases hi : i < fs.length
          · rw [List.getElem?_append_left hi] at hg; exact hf.2 i g hg
          · rw [List.getElem?_append_right (by omega)] at hg
            have : i = fs.length := by
              have := (List.getElem?_eq_some_iff.mp hg).1
              simp at this; omega
            subst this
            simp at hg
            rw [← hg, h1, hj1]
      have hj3 : ks = List.range' (fs.length + 1) ks.length := hj2
      simp_arith only [List.map_cons, forL, i__law_facts_b0]
      apply w_draw hD hSp hS (by decide) (pow9 (by decide) (by decide))
      intro v S1 v0 v1 hS1
      simp_arith only [true_and]
      refine iteI (fun hb => ?_) (fun hb => ?_)
      · apply w_draw hD hSp hS1 (by decide) (pow9 (by decide) (by decide))
        intro v S1 v0 v1 hS1
        have hv : v = 0 ∨ v = 1 := by omega
        have fin : ∀ (m : Int) (w : D), m = 1 ∨ m = 2 → ∀ s5 : Sl, forL (wG (.nm 4)) (wSs (Cl T (k + 2)) i__law_facts_b0) { nx := fun L1 S1 => wSs (Cl T (k + 2)) i__law_facts_r2 L1 S1 { nx := fun x S1 => P D.non S1, rt := P }, rt := P } (ks.map fun (j : Nat) => D.int (j : Int)) [.val (.obj 0), .val (.int most), .val (.tup [.str "aa", .str "bb", .str "cc", .str "dd"]), .own (.lst (fs.map Fc.d ++ [.tup [nmD j, .int 0, .int m, w]])), .val (.int j), s5, s6] S1 := fun m w hm s5 => by
          have := ih (fs ++ [⟨nmD j, 0, m, w⟩]) (.val (.int j)) s5 s6 S1 hS1 (by simpa using hj3) (by simp; omega) (next _ rfl (by unfold Fc.ok; dsimp only; omega))
          simpa [Fc.d] using this
        have hsz : (fs.map Fc.d).length < sizeLine := by simp [sizeL]; omega
        rcases hv with rfl | rfl
        · have e : cut [D.str "no", .str "so", .str "yes"] none (some (2 + 0)) = [.str "no", .str "so"] := rfl
          simp_arith only [e, i__law_facts_r0, en]
          exact ⟨hsz, fin _ _ (.inl rfl) _⟩
        · have e : cut [D.str "no", .str "so", .str "yes"] none (some (2 + 1)) = [.str "no", .str "so", .str "yes"] := rfl
          simp_arith only [e, i__law_facts_r0, en]
          exact ⟨hsz, fin _ _ (.inr rfl) _⟩
      · apply w_draw hD hSp hS1 (by decide) (pow9 (by decide) (by decide))
        intro v S1 v0 v1 hS1
        simp_arith only [i__law_facts_r1, en]
        apply w_draw hD hSp hS1 (by decide) (pow9 (by decide) (by decide))
        intro u S1 u0 u1 hS1
        simp_arith only [true_and]
        have hsz : (fs.map Fc.d).length < sizeLine := by simp [sizeL]; omega
        refine ⟨hsz, ?_⟩
        have := ih (fs ++ [⟨nmD j, v - 3, v - 3 + u, .tup []⟩]) (.val (.int j)) s5 (.val (.int (v - 3))) S1 hS1 (by simpa using hj3) (by simp; omega) (next _ rfl (by unfold Fc.ok; dsimp only; omega))
        rw [List.map_append] at this
        exact this
  apply w_draw hD hSp hS (by omega) (pow9 (by omega) (by omega))
  intro v S1 v0 v1 hS1
  obtain ⟨m, rfl⟩ := Int.eq_ofNat_of_zero_le v0
  have l2 : lim62 (m : Int) := by unfold lim62; omega
  simp_arith only [lim_0, l2]
  rw [Int.sub_zero, Int.toNat_natCast, rng0]
  exact loop (List.range m) [] .no .no .no S1 hS1 (by rw [List.length_range, List.range_eq_range']; rfl) (by simp; omega) ⟨by simp, fun i f h => by simp at h⟩

theorem amount_base (hD : T "_law_draw" = some f__law_draw) (hSp : T "_law_spread" = some f__law_spread) {fs : List Fc} (hn : named fs) (hl : fs.length ≤ 4) {ts : List Str} (hts : ts.length ≤ 100) {N : Nat} {P : D → Sto → Prop} {dp v : Int} {S1 : Sto} {x5 : Sl}
    (hS1 : Pool S1) (v0 : 0 ≤ v) (v1 : v < 6) (h : ∀ (a : Am) S', a.ok fs.length ts → a.dep ≤ 0 → Pool S' → P a.d S') :
    wSs (Cl T (N + 2)) i__law_amount_r6 [.val (.obj 0), .val (.tup (fs.map Fc.d)), .val (.lst (ts.map .str)), .val (.int dp), .val (.int v), x5] S1 { nx := fun x S1 => P D.non S1, rt := P } := by
  have num : wSs (Cl T (N + 2)) (.cons (.ret (.tup (.cons (.cst (.str "num")) (.cons (.bin .sub (.call "_law_draw" (.cons (.loc 0) (.cons (.cst (.int 13)) .nil))) (.cst (.int 4))) .nil)))) .nil) [.val (.obj 0), .val (.tup (fs.map Fc.d)), .val (.lst (ts.map .str)), .val (.int dp), .val (.int v), x5] S1 { nx := fun x S1 => P D.non S1, rt := P } := by
    simp_arith only [true_and]
    apply w_draw hD hSp hS1 (by decide) (pow9 (by decide) (by decide))
    intro u S2 u0 u1 hS2
    simp_arith only [true_and]
    exact h (.num (u - 4)) S2 ⟨by omega, by omega⟩ (Nat.le_refl _) hS2
  unfold i__law_amount_r6
  rw [wSs_cons, wS_ifs]
  by_cases h2 : v < 2
  · simp only [wT_or, wT_and, wT_cmp, pk_loc, pk_cst, wE_cst, locP_val, List.getElem?_cons_zero, List.getElem?_cons_succ, cmp_lt, eq_true h2, decide_true, if_true]
    exact num
  · by_cases h5 : v < 5
    · by_cases hf : fs = []
      · subst hf
        simp_arith only [eq_false h2, eq_true h5, List.map_nil]
        simpa [↓reduceIte, Q.wSs_nil, Q.wSs_cons, Q.wS_asg, Q.wS_par, Q.wS_app, Q.wS_ext, Q.wS_pop, Q.wS_aug, Q.wS_setI, Q.wS_expr, Q.wS_ret, Q.wS_ifs, Q.wS_fors, Q.wS_cont, Q.wS_brk, Q.wS_pass, Q.asg_nmT, Q.asg_nmF, Q.asg_tp, Q.tupP_tup, Q.g_nm, Q.g_tp, Q.gs_nil, Q.gs_cons, Q.setP_obj, Q.str_lit, String.reduceBEq, Q.setP_dct, Q.wS_asg2, Q.wE_dct, Q.wE_dcomp, Q.pk_dct, Q.pk_dcomp, Q.cmp_isb, Q.cmp_isnb, Q.cmp_gts, Q.cmp_lts, Q.cmp_les, Q.mem_dct, Q.isB_non, Q.isB_bl, Q.isB_tup, Q.isB_str, Q.mul_tup, Q.idx_dct, Q.idx_str, Q.blt_min2L, Q.blt_max2L,  Q.blt_dctD, Q.blt_lstD, Q.len_dct, Q.wI_wk, Q.wkP_tup, Q.wkP_lst, Q.wkP_lstO, Q.wkP_dct, Q.wkP_dctO, Q.setP_own, Q.hasP_val, Q.hasP_own, Q.valP_val, Q.augP_int, Q.augP_str, Q.lstP_lst, Q.ownL_own, Q.wI_seq, Q.wI_rng, Q.wI_zip, Q.wEo_no, Q.wEo_so, Q.wE_neg', Q.zipP_tup, Q.zipP_lst, Q.seqP_tup, Q.seqP_lst, Q.seqP_scr, Q.seqP_str, Q.rngP_int, Q.intP_int, Q.sz0, Q.sz1, Q.sz2, Q.sz3, Q.sz4, Q.sz5, Q.sz6, Q.sz7, Q.sz8, Q.sz9, Q.nc0, Q.nc1, Q.nc2, Q.nc3, Q.nc4, Q.nc5, Q.nc6, Q.nc7, Q.nc8, Q.nc9, Q.isN_non, Q.isN_bl, Q.isN_int, Q.isN_str, Q.isN_tup, Q.isN_lst, Int.reduceBEq, Int.reduceBNe, Int.reduceLT, Int.reduceLE, decide_true, decide_false, Bool.or_self, Bool.and_self, eq_self, decide_eq_true_eq, Q.ix51, Q.ix52, Q.ix53,  Q.wE_loc, Q.wE_cst, Q.wE_bin, Q.wE_not, Q.wE_and, Q.wE_or, Q.wE_ite, Q.wE_cmp, Q.wE_chain, Q.wE_tup, Q.wE_lst, Q.wE_new, Q.wE_idx, Q.wE_slcE, Q.wE_call, Q.wE_blt, Q.wE_isa, Q.wE_comp, Q.wE_comp2, Q.pk_loc, Q.pk_cst, Q.pk_bin, Q.pk_neg, Q.pk_not, Q.pk_and, Q.pk_or, Q.pk_ite, Q.pk_cmp, Q.pk_chain, Q.pk_tup, Q.pk_lst, Q.pk_new, Q.pk_idx, Q.pk_slcE, Q.pk_call, Q.pk_blt, Q.pk_isa, Q.pk_comp, Q.pk_comp2, Q.add_int, Q.add_str, Q.add_tup, Q.add_lst, Q.sub_int, Q.mul_int, Q.fdiv_int, Q.mod_int, Q.pow_int, Q.cmp_eq, Q.cmp_ne, Q.cmp_lt, Q.cmp_gt, Q.cmp_le, Q.cmp_ge, Q.cmp_is, Q.cmp_isn, Q.cmp_mem, Q.cmp_nmem, Q.mem_lst, Q.mem_tup, Q.mem_str, Q.eqQ_str, Q.eqQ_int, Q.eqQ_bl, Q.eq_bl, Q.eq_int, Q.eq_str, Q.ok_int, Q.ok_bl, Q.ok_non, Q.tr_bl, Q.tr_int, Q.tr_lst, Q.tr_tup, Q.tr_non, Q.idx_tup, Q.idx_lst, Q.idx_obj, Q.slc_tup, Q.slc_lst, Q.slc_scr, Q.len_tup, Q.len_lst, Q.len_str, Q.blt_all, Q.blt_any, Q.blt_sum, Q.blt_tupL, Q.blt_tupT, Q.blt_lstL, Q.blt_lstT, Q.blt_lstS, Q.blt_int, Q.blt_min, Q.blt_max, Q.at0, Q.at1, Q.at2, Q.at3, Q.at4, Q.optP_some, Q.locE_val, Q.locE_own, Q.locP_val, Q.locP_own, Q.wEs_nil, Q.wEs_cons, Q.wPs_nil, Q.wPs_cons, Q.wAs_nil, Q.wAs_loc, Q.locA_val, Q.locA_own, Q.wAs_cst, Q.wAs_bin, Q.wAs_neg, Q.wAs_not, Q.wAs_and, Q.wAs_or, Q.wAs_ite, Q.wAs_cmp, Q.wAs_chain, Q.wAs_tup, Q.wAs_lst, Q.wAs_new, Q.wAs_idx, Q.wAs_slcE, Q.wAs_call, Q.wAs_blt, Q.wAs_isa, Q.wAs_comp, Q.wAs_comp2, Q.wAs_dct, Q.wAs_dcomp, Q.wT_not, Q.wT_and, Q.wT_or, Q.wT_cmp, Q.wT_chain, Q.wT_yes, Q.wT_v, Q.lo0, Q.flag, Q.wipeL, Q.IEs.len, List.map_cons, List.map_nil, List.length_cons, List.length_nil, List.cons_append, List.nil_append, Nat.reduceAdd, Nat.reduceSub, Nat.sub_self, List.replicate, List.getElem?_cons_zero, List.getElem?_cons_succ, List.set_cons_zero, List.set_cons_succ, List.getElem?_nil, Q.isa_non_str, Q.isa_non_int, Q.isa_non_bool, Q.isa_non_tuple, Q.isa_non_list, Q.isa_non_dict, Q.isa_bl_str, Q.isa_bl_int, Q.isa_bl_bool, Q.isa_bl_tuple, Q.isa_bl_list, Q.isa_bl_dict, Q.isa_int_str, Q.isa_int_int, Q.isa_int_bool, Q.isa_int_tuple, Q.isa_int_list, Q.isa_int_dict, Q.isa_str_str, Q.isa_str_int, Q.isa_str_bool, Q.isa_str_tuple, Q.isa_str_list, Q.isa_str_dict, Q.isa_tup_str, Q.isa_tup_int, Q.isa_tup_bool, Q.isa_tup_tuple, Q.isa_tup_list, Q.isa_tup_dict, Q.isa_lst_str, Q.isa_lst_int, Q.isa_lst_bool, Q.isa_lst_tuple, Q.isa_lst_list, Q.isa_lst_dict, if_true, if_false, Bool.false_eq_true, Bool.true_eq_false, true_and, and_true, Bool.not_true, Bool.not_false, List.not_mem_nil, false_implies, implies_true, forall_const, true_or, false_or, Option.some.injEq, Q.D.tup.injEq, exists_eq_left', exists_eq_left, Q.D.int.injEq] using num
      · have hfl : 0 < fs.length := List.length_pos_iff.mpr hf
        have hf0 : ((fs.length : Int) == 0) = false := by simp only [beq_eq_false_iff_ne, ne_eq]; omega
        have n5 : (v == 5) = false := by simp only [beq_eq_false_iff_ne, ne_eq]; omega
        simp_arith only [eq_false h2, eq_true h5, List.length_map, hf0, n5, i__law_amount_r5]
        apply w_draw hD hSp hS1 (by omega) (pow9 (by omega) (by omega))
        intro u S2 u0 u1 hS2
        obtain ⟨j, rfl⟩ := Int.eq_ofNat_of_zero_le u0
        have hj : j < fs.length := by omega
        have e1 : L2.atI (fs.map Fc.d) (j : Int) = some (.tup [nmD j, .int fs[j].lo, .int fs[j].hi, fs[j].w]) := by
          refine atN ?_
          rw [List.getElem?_map, List.getElem?_eq_getElem hj]
          show some (Fc.d fs[j]) = _
          rw [Fc.d, hn j fs[j] (List.getElem?_eq_getElem hj)]
        simp_arith only [e1]
        exact h (.fact j) S2 hj (Nat.le_refl _) hS2
    · have hv : v = 5 := by omega
      subst hv
      by_cases ht : ts = []
      · subst ht
        simp_arith only [List.map_nil]
        simpa [↓reduceIte, Q.wSs_nil, Q.wSs_cons, Q.wS_asg, Q.wS_par, Q.wS_app, Q.wS_ext, Q.wS_pop, Q.wS_aug, Q.wS_setI, Q.wS_expr, Q.wS_ret, Q.wS_ifs, Q.wS_fors, Q.wS_cont, Q.wS_brk, Q.wS_pass, Q.asg_nmT, Q.asg_nmF, Q.asg_tp, Q.tupP_tup, Q.g_nm, Q.g_tp, Q.gs_nil, Q.gs_cons, Q.setP_obj, Q.str_lit, String.reduceBEq, Q.setP_dct, Q.wS_asg2, Q.wE_dct, Q.wE_dcomp, Q.pk_dct, Q.pk_dcomp, Q.cmp_isb, Q.cmp_isnb, Q.cmp_gts, Q.cmp_lts, Q.cmp_les, Q.mem_dct, Q.isB_non, Q.isB_bl, Q.isB_tup, Q.isB_str, Q.mul_tup, Q.idx_dct, Q.idx_str, Q.blt_min2L, Q.blt_max2L,  Q.blt_dctD, Q.blt_lstD, Q.len_dct, Q.wI_wk, Q.wkP_tup, Q.wkP_lst, Q.wkP_lstO, Q.wkP_dct, Q.wkP_dctO, Q.setP_own, Q.hasP_val, Q.hasP_own, Q.valP_val, Q.augP_int, Q.augP_str, Q.lstP_lst, Q.ownL_own, Q.wI_seq, Q.wI_rng, Q.wI_zip, Q.wEo_no, Q.wEo_so, Q.wE_neg', Q.zipP_tup, Q.zipP_lst, Q.seqP_tup, Q.seqP_lst, Q.seqP_scr, Q.seqP_str, Q.rngP_int, Q.intP_int, Q.sz0, Q.sz1, Q.sz2, Q.sz3, Q.sz4, Q.sz5, Q.sz6, Q.sz7, Q.sz8, Q.sz9, Q.nc0, Q.nc1, Q.nc2, Q.nc3, Q.nc4, Q.nc5, Q.nc6, Q.nc7, Q.nc8, Q.nc9, Q.isN_non, Q.isN_bl, Q.isN_int, Q.isN_str, Q.isN_tup, Q.isN_lst, Int.reduceBEq, Int.reduceBNe, Int.reduceLT, Int.reduceLE, decide_true, decide_false, Bool.or_self, Bool.and_self, eq_self, decide_eq_true_eq, Q.ix51, Q.ix52, Q.ix53,  Q.wE_loc, Q.wE_cst, Q.wE_bin, Q.wE_not, Q.wE_and, Q.wE_or, Q.wE_ite, Q.wE_cmp, Q.wE_chain, Q.wE_tup, Q.wE_lst, Q.wE_new, Q.wE_idx, Q.wE_slcE, Q.wE_call, Q.wE_blt, Q.wE_isa, Q.wE_comp, Q.wE_comp2, Q.pk_loc, Q.pk_cst, Q.pk_bin, Q.pk_neg, Q.pk_not, Q.pk_and, Q.pk_or, Q.pk_ite, Q.pk_cmp, Q.pk_chain, Q.pk_tup, Q.pk_lst, Q.pk_new, Q.pk_idx, Q.pk_slcE, Q.pk_call, Q.pk_blt, Q.pk_isa, Q.pk_comp, Q.pk_comp2, Q.add_int, Q.add_str, Q.add_tup, Q.add_lst, Q.sub_int, Q.mul_int, Q.fdiv_int, Q.mod_int, Q.pow_int, Q.cmp_eq, Q.cmp_ne, Q.cmp_lt, Q.cmp_gt, Q.cmp_le, Q.cmp_ge, Q.cmp_is, Q.cmp_isn, Q.cmp_mem, Q.cmp_nmem, Q.mem_lst, Q.mem_tup, Q.mem_str, Q.eqQ_str, Q.eqQ_int, Q.eqQ_bl, Q.eq_bl, Q.eq_int, Q.eq_str, Q.ok_int, Q.ok_bl, Q.ok_non, Q.tr_bl, Q.tr_int, Q.tr_lst, Q.tr_tup, Q.tr_non, Q.idx_tup, Q.idx_lst, Q.idx_obj, Q.slc_tup, Q.slc_lst, Q.slc_scr, Q.len_tup, Q.len_lst, Q.len_str, Q.blt_all, Q.blt_any, Q.blt_sum, Q.blt_tupL, Q.blt_tupT, Q.blt_lstL, Q.blt_lstT, Q.blt_lstS, Q.blt_int, Q.blt_min, Q.blt_max, Q.at0, Q.at1, Q.at2, Q.at3, Q.at4, Q.optP_some, Q.locE_val, Q.locE_own, Q.locP_val, Q.locP_own, Q.wEs_nil, Q.wEs_cons, Q.wPs_nil, Q.wPs_cons, Q.wAs_nil, Q.wAs_loc, Q.locA_val, Q.locA_own, Q.wAs_cst, Q.wAs_bin, Q.wAs_neg, Q.wAs_not, Q.wAs_and, Q.wAs_or, Q.wAs_ite, Q.wAs_cmp, Q.wAs_chain, Q.wAs_tup, Q.wAs_lst, Q.wAs_new, Q.wAs_idx, Q.wAs_slcE, Q.wAs_call, Q.wAs_blt, Q.wAs_isa, Q.wAs_comp, Q.wAs_comp2, Q.wAs_dct, Q.wAs_dcomp, Q.wT_not, Q.wT_and, Q.wT_or, Q.wT_cmp, Q.wT_chain, Q.wT_yes, Q.wT_v, Q.lo0, Q.flag, Q.wipeL, Q.IEs.len, List.map_cons, List.map_nil, List.length_cons, List.length_nil, List.cons_append, List.nil_append, Nat.reduceAdd, Nat.reduceSub, Nat.sub_self, List.replicate, List.getElem?_cons_zero, List.getElem?_cons_succ, List.set_cons_zero, List.set_cons_succ, List.getElem?_nil, Q.isa_non_str, Q.isa_non_int, Q.isa_non_bool, Q.isa_non_tuple, Q.isa_non_list, Q.isa_non_dict, Q.isa_bl_str, Q.isa_bl_int, Q.isa_bl_bool, Q.isa_bl_tuple, Q.isa_bl_list, Q.isa_bl_dict, Q.isa_int_str, Q.isa_int_int, Q.isa_int_bool, Q.isa_int_tuple, Q.isa_int_list, Q.isa_int_dict, Q.isa_str_str, Q.isa_str_int, Q.isa_str_bool, Q.isa_str_tuple, Q.isa_str_list, Q.isa_str_dict, Q.isa_tup_str, Q.isa_tup_int, Q.isa_tup_bool, Q.isa_tup_tuple, Q.isa_tup_list, Q.isa_tup_dict, Q.isa_lst_str, Q.isa_lst_int, Q.isa_lst_bool, Q.isa_lst_tuple, Q.isa_lst_list, Q.isa_lst_dict, if_true, if_false, Bool.false_eq_true, Bool.true_eq_false, true_and, and_true, Bool.not_true, Bool.not_false, List.not_mem_nil, false_implies, implies_true, forall_const, true_or, false_or, Option.some.injEq, Q.D.tup.injEq, exists_eq_left', exists_eq_left, Q.D.int.injEq] using num
      · have htl : 0 < ts.length := List.length_pos_iff.mpr ht
        have ht0 : ((ts.length : Int) == 0) = false := by simp only [beq_eq_false_iff_ne, ne_eq]; omega
        simp_arith only [List.length_map, ht0, i__law_amount_r5, i__law_amount_r4]
        apply w_draw hD hSp hS1 (by omega) (pow9 (by omega) (by omega))
        intro u S2 u0 u1 hS2
        obtain ⟨j, rfl⟩ := Int.eq_ofNat_of_zero_le u0
        have hj : j < ts.length := by omega
        have e1 : L2.atI (ts.map D.str) (j : Int) = some (.str ts[j]) := atN (by rw [List.getElem?_map, List.getElem?_eq_getElem hj]; rfl)
        simp_arith only [e1]
        exact h (.term ts[j]) S2 (List.getElem_mem _) (Nat.le_refl _) hS2
theorem w_law_amount (hT : T "_law_amount" = some f__law_amount) (hD : T "_law_draw" = some f__law_draw) (hSp : T "_law_spread" = some f__law_spread) {fs : List Fc} (hn : named fs) (hl : fs.length ≤ 4) {ts : List Str} (hts : ts.length ≤ 100) :
    ∀ (deep : Nat) (N : Nat) (S : Sto) (P : D → Sto → Prop), Pool S → deep + 4 ≤ N → (∀ (a : Am) S', a.ok fs.length ts → a.dep ≤ deep → Pool S' → P a.d S') → Cl T N "_law_amount" [.obj 0, .tup (fs.map Fc.d), .lst (ts.map .str), .int deep] S P := by
  intro deep
  induction deep with
  | zero =>
    intro N S P hS hN h
    obtain ⟨N, rfl⟩ : ∃ M, N = M + 3 := ⟨N - 3, by omega⟩
    refine ⟨_, hT, rfl, ?_⟩
    simp_arith only [f__law_amount, i__law_amount]
    apply w_draw hD hSp hS (by decide) (pow9 (by decide) (by decide))
    intro v S1 v0 v1 hS1
    exact amount_base hD hSp hn hl hts hS1 v0 v1 h
  | succ deep ih =>
    intro N S P hS hN h
    obtain ⟨N, rfl⟩ : ∃ M, N = M + 3 := ⟨N - 3, by omega⟩
    have hpos : ((0 : Int) < ((deep + 1 : Nat) : Int)) = True := eq_true (by omega)
    have ed : ((deep + 1 : Nat) : Int) - 1 = (deep : Int) := by omega
    refine ⟨_, hT, rfl, ?_⟩
    simp_arith only [f__law_amount, i__law_amount, hpos]
    apply w_draw hD hSp hS (by decide) (pow9 (by decide) (by decide))
    intro v S1 v0 v1 hS1
    by_cases h6 : v < 6
    · exact amount_base hD hSp hn hl hts hS1 v0 h6 fun a S' h1 h2 h3 => h a S' h1 (by omega) h3
    · have b2 : (v < 2) = False := eq_false (by omega)
      have b5 : (v < 5) = False := eq_false (by omega)
      have n5 : (v == 5) = false := by simp only [beq_eq_false_iff_ne, ne_eq]; omega
      simp_arith only [i__law_amount_r6, i__law_amount_r5, i__law_amount_r4, i__law_amount_r3, b2, b5, n5, ed]
      refine ih (N + 2) S1 _ hS1 (by omega) fun a S2 oa da hS2 => ?_
      simp_arith only [i__law_amount_r2]
      have hv : v = 6 ∨ v = 7 ∨ v = 8 ∨ v = 9 ∨ v = 10 ∨ v = 11 := by omega
      rcases hv with rfl | rfl | rfl | rfl | rfl | rfl
      · simp_arith only [true_and]
        apply w_draw hD hSp hS2 (by decide) (pow9 (by decide) (by decide))
        intro u S3 u0 u1 hS3
        simp_arith only [true_and]
        exact h (.times (u - 2) a) S3 ⟨⟨by omega, by omega⟩, oa⟩ (by simp only [Am.dep]; omega) hS3
      · simp_arith only [i__law_amount_r1]
        apply w_draw hD hSp hS2 (by decide) (pow9 (by decide) (by decide))
        intro u S3 u0 u1 hS3
        simp_arith only [true_and]
        exact h (.part a (1 + u)) S3 ⟨oa, by omega, by omega⟩ (by simp only [Am.dep]; omega) hS3
      · simp_arith only [i__law_amount_r1, i__law_amount_r0, Int.reduceSub, ed]
        refine ih (N + 2) S2 _ hS2 (by omega) fun b S3 ob db hS3 => ?_
        try simp_arith only [true_and]
        exact h (.plus a b) S3 ⟨oa, ob⟩ (by simp only [Am.dep]; omega) hS3
      · simp_arith only [i__law_amount_r1, i__law_amount_r0, Int.reduceSub, ed]
        refine ih (N + 2) S2 _ hS2 (by omega) fun b S3 ob db hS3 => ?_
        try simp_arith only [true_and]
        exact h (.less a b) S3 ⟨oa, ob⟩ (by simp only [Am.dep]; omega) hS3
      · simp_arith only [i__law_amount_r1, i__law_amount_r0, Int.reduceSub, ed]
        refine ih (N + 2) S2 _ hS2 (by omega) fun b S3 ob db hS3 => ?_
        try simp_arith only [true_and]
        exact h (.least a b) S3 ⟨oa, ob⟩ (by simp only [Am.dep]; omega) hS3
      · simp_arith only [i__law_amount_r1, i__law_amount_r0, Int.reduceSub, ed]
        refine ih (N + 2) S2 _ hS2 (by omega) fun b S3 ob db hS3 => ?_
        try simp_arith only [true_and]
        exact h (.most a b) S3 ⟨oa, ob⟩ (by simp only [Am.dep]; omega) hS3

theorem cond_base (hA : T "_law_amount" = some f__law_amount) (hD : T "_law_draw" = some f__law_draw) (hSp : T "_law_spread" = some f__law_spread) {fs : List Fc} (hn : named fs) (hl : fs.length ≤ 4) {ts : List Str} (hts : ts.length ≤ 100) {N : Nat} {P : D → Sto → Prop} {dp v : Int} {S1 : Sto} {x5 : Sl}
    (hS1 : Pool S1) (v0 : 0 ≤ v) (v1 : v < 5) (h : ∀ (c : Cn) S', c.ok fs.length ts → c.dep ≤ 2 → Pool S' → P c.d S') :
    wSs (Cl T (N + 5)) i__law_condition_r2 [.val (.obj 0), .val (.tup (fs.map Fc.d)), .val (.lst (ts.map .str)), .val (.int dp), .val (.int v), x5] S1 { nx := fun x S1 => P D.non S1, rt := P } := by
  unfold i__law_condition_r2
  rw [wSs_cons, wS_ifs]
  by_cases h0 : v = 0
  · subst h0
    simp only [wT_cmp, pk_loc, pk_cst, wE_cst, locP_val, List.getElem?_cons_zero, List.getElem?_cons_succ, cmp_eq, eqQ_int, eq_int, Int.reduceBEq, true_and, if_true]
    exact ⟨(by decide : 1 ≤ sizeLine), h .tru S1 True.intro (by simp [Cn.dep]) hS1⟩
  · have n0 : (v == 0) = false := by simp only [beq_eq_false_iff_ne, ne_eq]; omega
    simp only [wT_cmp, pk_loc, pk_cst, wE_cst, locP_val, List.getElem?_cons_zero, List.getElem?_cons_succ, cmp_eq, eqQ_int, eq_int, n0, true_and, Bool.false_eq_true, if_false, wSs_nil]
    rw [wSs_cons, wS_ifs]
    simp only [wT_cmp, pk_loc, pk_cst, wE_cst, locP_val, List.getElem?_cons_zero, List.getElem?_cons_succ, cmp_lt, eq_true v1, decide_true, if_true]
    rw [wSs_cons]
    simp (config := { maxSteps := 3000000 }) only [↓reduceIte, Q.wSs_nil, Q.wSs_cons, Q.wS_asg, Q.wS_par, Q.wS_app, Q.wS_ext, Q.wS_pop, Q.wS_aug, Q.wS_setI, Q.wS_expr, Q.wS_ret, Q.wS_ifs, Q.wS_fors, Q.wS_cont, Q.wS_brk, Q.wS_pass, Q.asg_nmT, Q.asg_nmF, Q.asg_tp, Q.tupP_tup, Q.g_nm, Q.g_tp, Q.gs_nil, Q.gs_cons, Q.setP_obj, Q.str_lit, String.reduceBEq, Q.setP_dct, Q.wS_asg2, Q.wE_dct, Q.wE_dcomp, Q.pk_dct, Q.pk_dcomp, Q.cmp_isb, Q.cmp_isnb, Q.cmp_gts, Q.cmp_lts, Q.cmp_les, Q.mem_dct, Q.isB_non, Q.isB_bl, Q.isB_tup, Q.isB_str, Q.mul_tup, Q.idx_dct, Q.idx_str, Q.blt_min2L, Q.blt_max2L,  Q.blt_dctD, Q.blt_lstD, Q.len_dct, Q.wI_wk, Q.wkP_tup, Q.wkP_lst, Q.wkP_lstO, Q.wkP_dct, Q.wkP_dctO, Q.setP_own, Q.hasP_val, Q.hasP_own, Q.valP_val, Q.augP_int, Q.augP_str, Q.lstP_lst, Q.ownL_own, Q.wI_seq, Q.wI_rng, Q.wI_zip, Q.wEo_no, Q.wEo_so, Q.wE_neg', Q.zipP_tup, Q.zipP_lst, Q.seqP_tup, Q.seqP_lst, Q.seqP_scr, Q.seqP_str, Q.rngP_int, Q.intP_int, Q.sz0, Q.sz1, Q.sz2, Q.sz3, Q.sz4, Q.sz5, Q.sz6, Q.sz7, Q.sz8, Q.sz9, Q.nc0, Q.nc1, Q.nc2, Q.nc3, Q.nc4, Q.nc5, Q.nc6, Q.nc7, Q.nc8, Q.nc9, Q.isN_non, Q.isN_bl, Q.isN_int, Q.isN_str, Q.isN_tup, Q.isN_lst, Int.reduceBEq, Int.reduceBNe, Int.reduceLT, Int.reduceLE, decide_true, decide_false, Bool.or_self, Bool.and_self, eq_self, decide_eq_true_eq, Q.ix51, Q.ix52, Q.ix53,  Q.wE_loc, Q.wE_cst, Q.wE_bin, Q.wE_not, Q.wE_and, Q.wE_or, Q.wE_ite, Q.wE_cmp, Q.wE_chain, Q.wE_tup, Q.wE_lst, Q.wE_new, Q.wE_idx, Q.wE_slcE, Q.wE_call, Q.wE_blt, Q.wE_isa, Q.wE_comp, Q.wE_comp2, Q.pk_loc, Q.pk_cst, Q.pk_bin, Q.pk_neg, Q.pk_not, Q.pk_and, Q.pk_or, Q.pk_ite, Q.pk_cmp, Q.pk_chain, Q.pk_tup, Q.pk_lst, Q.pk_new, Q.pk_idx, Q.pk_slcE, Q.pk_call, Q.pk_blt, Q.pk_isa, Q.pk_comp, Q.pk_comp2, Q.add_int, Q.add_str, Q.add_tup, Q.add_lst, Q.sub_int, Q.mul_int, Q.fdiv_int, Q.mod_int, Q.pow_int, Q.cmp_eq, Q.cmp_ne, Q.cmp_lt, Q.cmp_gt, Q.cmp_le, Q.cmp_ge, Q.cmp_is, Q.cmp_isn, Q.cmp_mem, Q.cmp_nmem, Q.mem_lst, Q.mem_tup, Q.mem_str, Q.eqQ_str, Q.eqQ_int, Q.eqQ_bl, Q.eq_bl, Q.eq_int, Q.eq_str, Q.ok_int, Q.ok_bl, Q.ok_non, Q.tr_bl, Q.tr_int, Q.tr_lst, Q.tr_tup, Q.tr_non, Q.idx_tup, Q.idx_lst, Q.idx_obj, Q.slc_tup, Q.slc_lst, Q.slc_scr, Q.len_tup, Q.len_lst, Q.len_str, Q.blt_all, Q.blt_any, Q.blt_sum, Q.blt_tupL, Q.blt_tupT, Q.blt_lstL, Q.blt_lstT, Q.blt_lstS, Q.blt_int, Q.blt_min, Q.blt_max, Q.at0, Q.at1, Q.at2, Q.at3, Q.at4, Q.optP_some, Q.locE_val, Q.locE_own, Q.locP_val, Q.locP_own, Q.wEs_nil, Q.wEs_cons, Q.wPs_nil, Q.wPs_cons, Q.wAs_nil, Q.wAs_loc, Q.locA_val, Q.locA_own, Q.wAs_cst, Q.wAs_bin, Q.wAs_neg, Q.wAs_not, Q.wAs_and, Q.wAs_or, Q.wAs_ite, Q.wAs_cmp, Q.wAs_chain, Q.wAs_tup, Q.wAs_lst, Q.wAs_new, Q.wAs_idx, Q.wAs_slcE, Q.wAs_call, Q.wAs_blt, Q.wAs_isa, Q.wAs_comp, Q.wAs_comp2, Q.wAs_dct, Q.wAs_dcomp, Q.wT_not, Q.wT_and, Q.wT_or, Q.wT_cmp, Q.wT_chain, Q.wT_yes, Q.wT_v, Q.lo0, Q.flag, Q.wipeL, Q.IEs.len, List.map_cons, List.map_nil, List.length_cons, List.length_nil, List.cons_append, List.nil_append, Nat.reduceAdd, Nat.reduceSub, Nat.sub_self, List.replicate, List.getElem?_cons_zero, List.getElem?_cons_succ, List.set_cons_zero, List.set_cons_succ, List.getElem?_nil, Q.isa_non_str, Q.isa_non_int, Q.isa_non_bool, Q.isa_non_tuple, Q.isa_non_list, Q.isa_non_dict, Q.isa_bl_str, Q.isa_bl_int, Q.isa_bl_bool, Q.isa_bl_tuple, Q.isa_bl_list, Q.isa_bl_dict, Q.isa_int_str, Q.isa_int_int, Q.isa_int_bool, Q.isa_int_tuple, Q.isa_int_list, Q.isa_int_dict, Q.isa_str_str, Q.isa_str_int, Q.isa_str_bool, Q.isa_str_tuple, Q.isa_str_list, Q.isa_str_dict, Q.isa_tup_str, Q.isa_tup_int, Q.isa_tup_bool, Q.isa_tup_tuple, Q.isa_tup_list, Q.isa_tup_dict, Q.isa_lst_str, Q.isa_lst_int, Q.isa_lst_bool, Q.isa_lst_tuple, Q.isa_lst_list, Q.isa_lst_dict, if_true, if_false, Bool.false_eq_true, Bool.true_eq_false, true_and, and_true, Bool.not_true, Bool.not_false, List.not_mem_nil, false_implies, implies_true, forall_const, true_or, false_or, Option.some.injEq, Q.D.tup.injEq, exists_eq_left', exists_eq_left, Q.D.int.injEq]
    apply w_draw hD hSp hS1 (by decide) (pow9 (by decide) (by decide))
    intro u S2 u0 u1 hS2
    have hu : u = 0 ∨ u = 1 := by omega
    rcases hu with rfl | rfl
    · simp (config := { maxSteps := 3000000 }) only [↓reduceIte, Q.wSs_nil, Q.wSs_cons, Q.wS_asg, Q.wS_par, Q.wS_app, Q.wS_ext, Q.wS_pop, Q.wS_aug, Q.wS_setI, Q.wS_expr, Q.wS_ret, Q.wS_ifs, Q.wS_fors, Q.wS_cont, Q.wS_brk, Q.wS_pass, Q.asg_nmT, Q.asg_nmF, Q.asg_tp, Q.tupP_tup, Q.g_nm, Q.g_tp, Q.gs_nil, Q.gs_cons, Q.setP_obj, Q.str_lit, String.reduceBEq, Q.setP_dct, Q.wS_asg2, Q.wE_dct, Q.wE_dcomp, Q.pk_dct, Q.pk_dcomp, Q.cmp_isb, Q.cmp_isnb, Q.cmp_gts, Q.cmp_lts, Q.cmp_les, Q.mem_dct, Q.isB_non, Q.isB_bl, Q.isB_tup, Q.isB_str, Q.mul_tup, Q.idx_dct, Q.idx_str, Q.blt_min2L, Q.blt_max2L,  Q.blt_dctD, Q.blt_lstD, Q.len_dct, Q.wI_wk, Q.wkP_tup, Q.wkP_lst, Q.wkP_lstO, Q.wkP_dct, Q.wkP_dctO, Q.setP_own, Q.hasP_val, Q.hasP_own, Q.valP_val, Q.augP_int, Q.augP_str, Q.lstP_lst, Q.ownL_own, Q.wI_seq, Q.wI_rng, Q.wI_zip, Q.wEo_no, Q.wEo_so, Q.wE_neg', Q.zipP_tup, Q.zipP_lst, Q.seqP_tup, Q.seqP_lst, Q.seqP_scr, Q.seqP_str, Q.rngP_int, Q.intP_int, Q.sz0, Q.sz1, Q.sz2, Q.sz3, Q.sz4, Q.sz5, Q.sz6, Q.sz7, Q.sz8, Q.sz9, Q.nc0, Q.nc1, Q.nc2, Q.nc3, Q.nc4, Q.nc5, Q.nc6, Q.nc7, Q.nc8, Q.nc9, Q.isN_non, Q.isN_bl, Q.isN_int, Q.isN_str, Q.isN_tup, Q.isN_lst, Int.reduceBEq, Int.reduceBNe, Int.reduceLT, Int.reduceLE, decide_true, decide_false, Bool.or_self, Bool.and_self, eq_self, decide_eq_true_eq, Q.ix51, Q.ix52, Q.ix53,  Q.wE_loc, Q.wE_cst, Q.wE_bin, Q.wE_not, Q.wE_and, Q.wE_or, Q.wE_ite, Q.wE_cmp, Q.wE_chain, Q.wE_tup, Q.wE_lst, Q.wE_new, Q.wE_idx, Q.wE_slcE, Q.wE_call, Q.wE_blt, Q.wE_isa, Q.wE_comp, Q.wE_comp2, Q.pk_loc, Q.pk_cst, Q.pk_bin, Q.pk_neg, Q.pk_not, Q.pk_and, Q.pk_or, Q.pk_ite, Q.pk_cmp, Q.pk_chain, Q.pk_tup, Q.pk_lst, Q.pk_new, Q.pk_idx, Q.pk_slcE, Q.pk_call, Q.pk_blt, Q.pk_isa, Q.pk_comp, Q.pk_comp2, Q.add_int, Q.add_str, Q.add_tup, Q.add_lst, Q.sub_int, Q.mul_int, Q.fdiv_int, Q.mod_int, Q.pow_int, Q.cmp_eq, Q.cmp_ne, Q.cmp_lt, Q.cmp_gt, Q.cmp_le, Q.cmp_ge, Q.cmp_is, Q.cmp_isn, Q.cmp_mem, Q.cmp_nmem, Q.mem_lst, Q.mem_tup, Q.mem_str, Q.eqQ_str, Q.eqQ_int, Q.eqQ_bl, Q.eq_bl, Q.eq_int, Q.eq_str, Q.ok_int, Q.ok_bl, Q.ok_non, Q.tr_bl, Q.tr_int, Q.tr_lst, Q.tr_tup, Q.tr_non, Q.idx_tup, Q.idx_lst, Q.idx_obj, Q.slc_tup, Q.slc_lst, Q.slc_scr, Q.len_tup, Q.len_lst, Q.len_str, Q.blt_all, Q.blt_any, Q.blt_sum, Q.blt_tupL, Q.blt_tupT, Q.blt_lstL, Q.blt_lstT, Q.blt_lstS, Q.blt_int, Q.blt_min, Q.blt_max, Q.at0, Q.at1, Q.at2, Q.at3, Q.at4, Q.optP_some, Q.locE_val, Q.locE_own, Q.locP_val, Q.locP_own, Q.wEs_nil, Q.wEs_cons, Q.wPs_nil, Q.wPs_cons, Q.wAs_nil, Q.wAs_loc, Q.locA_val, Q.locA_own, Q.wAs_cst, Q.wAs_bin, Q.wAs_neg, Q.wAs_not, Q.wAs_and, Q.wAs_or, Q.wAs_ite, Q.wAs_cmp, Q.wAs_chain, Q.wAs_tup, Q.wAs_lst, Q.wAs_new, Q.wAs_idx, Q.wAs_slcE, Q.wAs_call, Q.wAs_blt, Q.wAs_isa, Q.wAs_comp, Q.wAs_comp2, Q.wAs_dct, Q.wAs_dcomp, Q.wT_not, Q.wT_and, Q.wT_or, Q.wT_cmp, Q.wT_chain, Q.wT_yes, Q.wT_v, Q.lo0, Q.flag, Q.wipeL, Q.IEs.len, List.map_cons, List.map_nil, List.length_cons, List.length_nil, List.cons_append, List.nil_append, Nat.reduceAdd, Nat.reduceSub, Nat.sub_self, List.replicate, List.getElem?_cons_zero, List.getElem?_cons_succ, List.set_cons_zero, List.set_cons_succ, List.getElem?_nil, Q.isa_non_str, Q.isa_non_int, Q.isa_non_bool, Q.isa_non_tuple, Q.isa_non_list, Q.isa_non_dict, Q.isa_bl_str, Q.isa_bl_int, Q.isa_bl_bool, Q.isa_bl_tuple, Q.isa_bl_list, Q.isa_bl_dict, Q.isa_int_str, Q.isa_int_int, Q.isa_int_bool, Q.isa_int_tuple, Q.isa_int_list, Q.isa_int_dict, Q.isa_str_str, Q.isa_str_int, Q.isa_str_bool, Q.isa_str_tuple, Q.isa_str_list, Q.isa_str_dict, Q.isa_tup_str, Q.isa_tup_int, Q.isa_tup_bool, Q.isa_tup_tuple, Q.isa_tup_list, Q.isa_tup_dict, Q.isa_lst_str, Q.isa_lst_int, Q.isa_lst_bool, Q.isa_lst_tuple, Q.isa_lst_list, Q.isa_lst_dict, if_true, if_false, Bool.false_eq_true, Bool.true_eq_false, true_and, and_true, Bool.not_true, Bool.not_false, List.not_mem_nil, false_implies, implies_true, forall_const, true_or, false_or, Option.some.injEq, Q.D.tup.injEq, exists_eq_left', exists_eq_left, Q.D.int.injEq]
      refine w_law_amount hA hD hSp hn hl hts 1 (N + 5) S2 _ hS2 (by omega) fun a S3 oa da hS3 => ?_
      try simp_arith only [true_and]
      refine w_law_amount hA hD hSp hn hl hts 1 (N + 5) S3 _ hS3 (by omega) fun b S4 ob db hS4 => ?_
      try simp_arith only [true_and]
      exact h (.is a b) S4 ⟨oa, ob⟩ (by simp only [Cn.dep]; omega) hS4
    · simp (config := { maxSteps := 3000000 }) only [↓reduceIte, Q.wSs_nil, Q.wSs_cons, Q.wS_asg, Q.wS_par, Q.wS_app, Q.wS_ext, Q.wS_pop, Q.wS_aug, Q.wS_setI, Q.wS_expr, Q.wS_ret, Q.wS_ifs, Q.wS_fors, Q.wS_cont, Q.wS_brk, Q.wS_pass, Q.asg_nmT, Q.asg_nmF, Q.asg_tp, Q.tupP_tup, Q.g_nm, Q.g_tp, Q.gs_nil, Q.gs_cons, Q.setP_obj, Q.str_lit, String.reduceBEq, Q.setP_dct, Q.wS_asg2, Q.wE_dct, Q.wE_dcomp, Q.pk_dct, Q.pk_dcomp, Q.cmp_isb, Q.cmp_isnb, Q.cmp_gts, Q.cmp_lts, Q.cmp_les, Q.mem_dct, Q.isB_non, Q.isB_bl, Q.isB_tup, Q.isB_str, Q.mul_tup, Q.idx_dct, Q.idx_str, Q.blt_min2L, Q.blt_max2L,  Q.blt_dctD, Q.blt_lstD, Q.len_dct, Q.wI_wk, Q.wkP_tup, Q.wkP_lst, Q.wkP_lstO, Q.wkP_dct, Q.wkP_dctO, Q.setP_own, Q.hasP_val, Q.hasP_own, Q.valP_val, Q.augP_int, Q.augP_str, Q.lstP_lst, Q.ownL_own, Q.wI_seq, Q.wI_rng, Q.wI_zip, Q.wEo_no, Q.wEo_so, Q.wE_neg', Q.zipP_tup, Q.zipP_lst, Q.seqP_tup, Q.seqP_lst, Q.seqP_scr, Q.seqP_str, Q.rngP_int, Q.intP_int, Q.sz0, Q.sz1, Q.sz2, Q.sz3, Q.sz4, Q.sz5, Q.sz6, Q.sz7, Q.sz8, Q.sz9, Q.nc0, Q.nc1, Q.nc2, Q.nc3, Q.nc4, Q.nc5, Q.nc6, Q.nc7, Q.nc8, Q.nc9, Q.isN_non, Q.isN_bl, Q.isN_int, Q.isN_str, Q.isN_tup, Q.isN_lst, Int.reduceBEq, Int.reduceBNe, Int.reduceLT, Int.reduceLE, decide_true, decide_false, Bool.or_self, Bool.and_self, eq_self, decide_eq_true_eq, Q.ix51, Q.ix52, Q.ix53,  Q.wE_loc, Q.wE_cst, Q.wE_bin, Q.wE_not, Q.wE_and, Q.wE_or, Q.wE_ite, Q.wE_cmp, Q.wE_chain, Q.wE_tup, Q.wE_lst, Q.wE_new, Q.wE_idx, Q.wE_slcE, Q.wE_call, Q.wE_blt, Q.wE_isa, Q.wE_comp, Q.wE_comp2, Q.pk_loc, Q.pk_cst, Q.pk_bin, Q.pk_neg, Q.pk_not, Q.pk_and, Q.pk_or, Q.pk_ite, Q.pk_cmp, Q.pk_chain, Q.pk_tup, Q.pk_lst, Q.pk_new, Q.pk_idx, Q.pk_slcE, Q.pk_call, Q.pk_blt, Q.pk_isa, Q.pk_comp, Q.pk_comp2, Q.add_int, Q.add_str, Q.add_tup, Q.add_lst, Q.sub_int, Q.mul_int, Q.fdiv_int, Q.mod_int, Q.pow_int, Q.cmp_eq, Q.cmp_ne, Q.cmp_lt, Q.cmp_gt, Q.cmp_le, Q.cmp_ge, Q.cmp_is, Q.cmp_isn, Q.cmp_mem, Q.cmp_nmem, Q.mem_lst, Q.mem_tup, Q.mem_str, Q.eqQ_str, Q.eqQ_int, Q.eqQ_bl, Q.eq_bl, Q.eq_int, Q.eq_str, Q.ok_int, Q.ok_bl, Q.ok_non, Q.tr_bl, Q.tr_int, Q.tr_lst, Q.tr_tup, Q.tr_non, Q.idx_tup, Q.idx_lst, Q.idx_obj, Q.slc_tup, Q.slc_lst, Q.slc_scr, Q.len_tup, Q.len_lst, Q.len_str, Q.blt_all, Q.blt_any, Q.blt_sum, Q.blt_tupL, Q.blt_tupT, Q.blt_lstL, Q.blt_lstT, Q.blt_lstS, Q.blt_int, Q.blt_min, Q.blt_max, Q.at0, Q.at1, Q.at2, Q.at3, Q.at4, Q.optP_some, Q.locE_val, Q.locE_own, Q.locP_val, Q.locP_own, Q.wEs_nil, Q.wEs_cons, Q.wPs_nil, Q.wPs_cons, Q.wAs_nil, Q.wAs_loc, Q.locA_val, Q.locA_own, Q.wAs_cst, Q.wAs_bin, Q.wAs_neg, Q.wAs_not, Q.wAs_and, Q.wAs_or, Q.wAs_ite, Q.wAs_cmp, Q.wAs_chain, Q.wAs_tup, Q.wAs_lst, Q.wAs_new, Q.wAs_idx, Q.wAs_slcE, Q.wAs_call, Q.wAs_blt, Q.wAs_isa, Q.wAs_comp, Q.wAs_comp2, Q.wAs_dct, Q.wAs_dcomp, Q.wT_not, Q.wT_and, Q.wT_or, Q.wT_cmp, Q.wT_chain, Q.wT_yes, Q.wT_v, Q.lo0, Q.flag, Q.wipeL, Q.IEs.len, List.map_cons, List.map_nil, List.length_cons, List.length_nil, List.cons_append, List.nil_append, Nat.reduceAdd, Nat.reduceSub, Nat.sub_self, List.replicate, List.getElem?_cons_zero, List.getElem?_cons_succ, List.set_cons_zero, List.set_cons_succ, List.getElem?_nil, Q.isa_non_str, Q.isa_non_int, Q.isa_non_bool, Q.isa_non_tuple, Q.isa_non_list, Q.isa_non_dict, Q.isa_bl_str, Q.isa_bl_int, Q.isa_bl_bool, Q.isa_bl_tuple, Q.isa_bl_list, Q.isa_bl_dict, Q.isa_int_str, Q.isa_int_int, Q.isa_int_bool, Q.isa_int_tuple, Q.isa_int_list, Q.isa_int_dict, Q.isa_str_str, Q.isa_str_int, Q.isa_str_bool, Q.isa_str_tuple, Q.isa_str_list, Q.isa_str_dict, Q.isa_tup_str, Q.isa_tup_int, Q.isa_tup_bool, Q.isa_tup_tuple, Q.isa_tup_list, Q.isa_tup_dict, Q.isa_lst_str, Q.isa_lst_int, Q.isa_lst_bool, Q.isa_lst_tuple, Q.isa_lst_list, Q.isa_lst_dict, if_true, if_false, Bool.false_eq_true, Bool.true_eq_false, true_and, and_true, Bool.not_true, Bool.not_false, List.not_mem_nil, false_implies, implies_true, forall_const, true_or, false_or, Option.some.injEq, Q.D.tup.injEq, exists_eq_left', exists_eq_left, Q.D.int.injEq]
      refine w_law_amount hA hD hSp hn hl hts 1 (N + 5) S2 _ hS2 (by omega) fun a S3 oa da hS3 => ?_
      try simp_arith only [true_and]
      refine w_law_amount hA hD hSp hn hl hts 1 (N + 5) S3 _ hS3 (by omega) fun b S4 ob db hS4 => ?_
      try simp_arith only [true_and]
      exact h (.lt a b) S4 ⟨oa, ob⟩ (by simp only [Cn.dep]; omega) hS4
theorem w_law_condition (hT : T "_law_condition" = some f__law_condition) (hA : T "_law_amount" = some f__law_amount) (hD : T "_law_draw" = some f__law_draw) (hSp : T "_law_spread" = some f__law_spread) {fs : List Fc} (hn : named fs) (hl : fs.length ≤ 4) {ts : List Str} (hts : ts.length ≤ 100) :
    ∀ (deep : Nat) (N : Nat) (S : Sto) (P : D → Sto → Prop), Pool S → deep + 7 ≤ N → (∀ (c : Cn) S', c.ok fs.length ts → c.dep ≤ deep + 2 → Pool S' → P c.d S') → Cl T N "_law_condition" [.obj 0, .tup (fs.map Fc.d), .lst (ts.map .str), .int deep] S P := by
  intro deep
  induction deep with
  | zero =>
    intro N S P hS hN h
    obtain ⟨N, rfl⟩ : ∃ M, N = M + 6 := ⟨N - 6, by omega⟩
    refine ⟨_, hT, rfl, ?_⟩
    simp_arith only [f__law_condition, i__law_condition]
    apply w_draw hD hSp hS (by decide) (pow9 (by decide) (by decide))
    intro v S1 v0 v1 hS1
    exact cond_base hA hD hSp hn hl hts hS1 v0 v1 h
  | succ deep ih =>
    intro N S P hS hN h
    obtain ⟨N, rfl⟩ : ∃ M, N = M + 6 := ⟨N - 6, by omega⟩
    have hpos : ((0 : Int) < ((deep + 1 : Nat) : Int)) = True := eq_true (by omega)
    have ed : ((deep + 1 : Nat) : Int) - 1 = (deep : Int) := by omega
    refine ⟨_, hT, rfl, ?_⟩
    simp_arith only [f__law_condition, i__law_condition, hpos]
    apply w_draw hD hSp hS (by decide) (pow9 (by decide) (by decide))
    intro v S1 v0 v1 hS1
    by_cases h5 : v < 5
    · exact cond_base hA hD hSp hn hl hts hS1 v0 h5 fun a S' h1 h2 h3 => h a S' h1 (by omega) h3
    · have b5 : (v < 5) = False := eq_false (by omega)
      have n0 : (v == 0) = false := by simp only [beq_eq_false_iff_ne, ne_eq]; omega
      simp (config := { maxSteps := 3000000 }) only [i__law_condition_r2, i__law_condition_r1, ↓reduceIte, Q.wSs_nil, Q.wSs_cons, Q.wS_asg, Q.wS_par, Q.wS_app, Q.wS_ext, Q.wS_pop, Q.wS_aug, Q.wS_setI, Q.wS_expr, Q.wS_ret, Q.wS_ifs, Q.wS_fors, Q.wS_cont, Q.wS_brk, Q.wS_pass, Q.asg_nmT, Q.asg_nmF, Q.asg_tp, Q.tupP_tup, Q.g_nm, Q.g_tp, Q.gs_nil, Q.gs_cons, Q.setP_obj, Q.str_lit, String.reduceBEq, Q.setP_dct, Q.wS_asg2, Q.wE_dct, Q.wE_dcomp, Q.pk_dct, Q.pk_dcomp, Q.cmp_isb, Q.cmp_isnb, Q.cmp_gts, Q.cmp_lts, Q.cmp_les, Q.mem_dct, Q.isB_non, Q.isB_bl, Q.isB_tup, Q.isB_str, Q.mul_tup, Q.idx_dct, Q.idx_str, Q.blt_min2L, Q.blt_max2L,  Q.blt_dctD, Q.blt_lstD, Q.len_dct, Q.wI_wk, Q.wkP_tup, Q.wkP_lst, Q.wkP_lstO, Q.wkP_dct, Q.wkP_dctO, Q.setP_own, Q.hasP_val, Q.hasP_own, Q.valP_val, Q.augP_int, Q.augP_str, Q.lstP_lst, Q.ownL_own, Q.wI_seq, Q.wI_rng, Q.wI_zip, Q.wEo_no, Q.wEo_so, Q.wE_neg', Q.zipP_tup, Q.zipP_lst, Q.seqP_tup, Q.seqP_lst, Q.seqP_scr, Q.seqP_str, Q.rngP_int, Q.intP_int, Q.sz0, Q.sz1, Q.sz2, Q.sz3, Q.sz4, Q.sz5, Q.sz6, Q.sz7, Q.sz8, Q.sz9, Q.nc0, Q.nc1, Q.nc2, Q.nc3, Q.nc4, Q.nc5, Q.nc6, Q.nc7, Q.nc8, Q.nc9, Q.isN_non, Q.isN_bl, Q.isN_int, Q.isN_str, Q.isN_tup, Q.isN_lst, Int.reduceBEq, Int.reduceBNe, Int.reduceLT, Int.reduceLE, decide_true, decide_false, Bool.or_self, Bool.and_self, eq_self, decide_eq_true_eq, Q.ix51, Q.ix52, Q.ix53,  Q.wE_loc, Q.wE_cst, Q.wE_bin, Q.wE_not, Q.wE_and, Q.wE_or, Q.wE_ite, Q.wE_cmp, Q.wE_chain, Q.wE_tup, Q.wE_lst, Q.wE_new, Q.wE_idx, Q.wE_slcE, Q.wE_call, Q.wE_blt, Q.wE_isa, Q.wE_comp, Q.wE_comp2, Q.pk_loc, Q.pk_cst, Q.pk_bin, Q.pk_neg, Q.pk_not, Q.pk_and, Q.pk_or, Q.pk_ite, Q.pk_cmp, Q.pk_chain, Q.pk_tup, Q.pk_lst, Q.pk_new, Q.pk_idx, Q.pk_slcE, Q.pk_call, Q.pk_blt, Q.pk_isa, Q.pk_comp, Q.pk_comp2, Q.add_int, Q.add_str, Q.add_tup, Q.add_lst, Q.sub_int, Q.mul_int, Q.fdiv_int, Q.mod_int, Q.pow_int, Q.cmp_eq, Q.cmp_ne, Q.cmp_lt, Q.cmp_gt, Q.cmp_le, Q.cmp_ge, Q.cmp_is, Q.cmp_isn, Q.cmp_mem, Q.cmp_nmem, Q.mem_lst, Q.mem_tup, Q.mem_str, Q.eqQ_str, Q.eqQ_int, Q.eqQ_bl, Q.eq_bl, Q.eq_int, Q.eq_str, Q.ok_int, Q.ok_bl, Q.ok_non, Q.tr_bl, Q.tr_int, Q.tr_lst, Q.tr_tup, Q.tr_non, Q.idx_tup, Q.idx_lst, Q.idx_obj, Q.slc_tup, Q.slc_lst, Q.slc_scr, Q.len_tup, Q.len_lst, Q.len_str, Q.blt_all, Q.blt_any, Q.blt_sum, Q.blt_tupL, Q.blt_tupT, Q.blt_lstL, Q.blt_lstT, Q.blt_lstS, Q.blt_int, Q.blt_min, Q.blt_max, Q.at0, Q.at1, Q.at2, Q.at3, Q.at4, Q.optP_some, Q.locE_val, Q.locE_own, Q.locP_val, Q.locP_own, Q.wEs_nil, Q.wEs_cons, Q.wPs_nil, Q.wPs_cons, Q.wAs_nil, Q.wAs_loc, Q.locA_val, Q.locA_own, Q.wAs_cst, Q.wAs_bin, Q.wAs_neg, Q.wAs_not, Q.wAs_and, Q.wAs_or, Q.wAs_ite, Q.wAs_cmp, Q.wAs_chain, Q.wAs_tup, Q.wAs_lst, Q.wAs_new, Q.wAs_idx, Q.wAs_slcE, Q.wAs_call, Q.wAs_blt, Q.wAs_isa, Q.wAs_comp, Q.wAs_comp2, Q.wAs_dct, Q.wAs_dcomp, Q.wT_not, Q.wT_and, Q.wT_or, Q.wT_cmp, Q.wT_chain, Q.wT_yes, Q.wT_v, Q.lo0, Q.flag, Q.wipeL, Q.IEs.len, List.map_cons, List.map_nil, List.length_cons, List.length_nil, List.cons_append, List.nil_append, Nat.reduceAdd, Nat.reduceSub, Nat.sub_self, List.replicate, List.getElem?_cons_zero, List.getElem?_cons_succ, List.set_cons_zero, List.set_cons_succ, List.getElem?_nil, Q.isa_non_str, Q.isa_non_int, Q.isa_non_bool, Q.isa_non_tuple, Q.isa_non_list, Q.isa_non_dict, Q.isa_bl_str, Q.isa_bl_int, Q.isa_bl_bool, Q.isa_bl_tuple, Q.isa_bl_list, Q.isa_bl_dict, Q.isa_int_str, Q.isa_int_int, Q.isa_int_bool, Q.isa_int_tuple, Q.isa_int_list, Q.isa_int_dict, Q.isa_str_str, Q.isa_str_int, Q.isa_str_bool, Q.isa_str_tuple, Q.isa_str_list, Q.isa_str_dict, Q.isa_tup_str, Q.isa_tup_int, Q.isa_tup_bool, Q.isa_tup_tuple, Q.isa_tup_list, Q.isa_tup_dict, Q.isa_lst_str, Q.isa_lst_int, Q.isa_lst_bool, Q.isa_lst_tuple, Q.isa_lst_list, Q.isa_lst_dict, if_true, if_false, Bool.false_eq_true, Bool.true_eq_false, true_and, and_true, Bool.not_true, Bool.not_false, List.not_mem_nil, false_implies, implies_true, forall_const, true_or, false_or, Option.some.injEq, Q.D.tup.injEq, exists_eq_left', exists_eq_left, Q.D.int.injEq, b5, n0, ed]
      refine ih (N + 5) S1 _ hS1 (by omega) fun c S2 oc dc hS2 => ?_
      simp_arith only [i__law_condition_r0]
      have hv : v = 5 ∨ v = 6 ∨ v = 7 ∨ v = 8 := by omega
      rcases hv with rfl | rfl | rfl | rfl
      · simp_arith only [true_and]
        exact h (.not c) S2 oc (by simp only [Cn.dep]; omega) hS2
      · simp_arith only [true_and]
        exact h (.not c) S2 oc (by simp only [Cn.dep]; omega) hS2
      · simp_arith only [Int.reduceSub, ed]
        refine ih (N + 5) S2 _ hS2 (by omega) fun e S3 oe de hS3 => ?_
        try simp_arith only [true_and]
        exact h (.both c e) S3 ⟨oc, oe⟩ (by simp only [Cn.dep]; omega) hS3
      · simp_arith only [Int.reduceSub, ed]
        refine ih (N + 5) S2 _ hS2 (by omega) fun e S3 oe de hS3 => ?_
        try simp_arith only [true_and]
        exact h (.either c e) S3 ⟨oc, oe⟩ (by simp only [Cn.dep]; omega) hS3
theorem w_law_number (hT : T "_law_number" = some f__law_number) (hD : T "_law_draw" = some f__law_draw) (hSp : T "_law_spread" = some f__law_spread) {k : Nat} {n : Int} (hn : 0 ≤ n) (hn2 : n ≤ 10 ^ 100) {S : Sto} {P : D → Sto → Prop} (hS : Pool S) (h : ∀ (v : Int) S', Pool S' → P (.int v) S') : Cl T (k + 3) "_law_number" [.obj 0, .int n] S P := by
  refine ⟨_, hT, rfl, ?_⟩
  have s2 : small64 2 := by unfold small64; decide
  simp_arith only [f__law_number, i__law_number, s2]
  have hb : (2 * n + 1).natAbs < 2 ^ 9000 := by
    have h1 : (10 : Int) ^ 100 < 2 ^ 400 := by decide
    have h2 : (2 * n + 1).natAbs < 2 ^ 402 := by omega
    exact Nat.lt_of_lt_of_le h2 (Nat.pow_le_pow_right (by decide) (by decide))
  apply w_draw hD hSp hS (by omega) hb
  intro v S1 v0 v1 hS1
  simp_arith only [true_and]
  exact h _ S1 hS1
theorem compL_pool {t : D → Lo → (Lo → Prop) → Prop} {c : Lo → Sto → KT → Prop} {e : Lo → Sto → KE → Prop} {Lw : Lo} {R : D → Prop} : ∀ (ds : List D) (S : Sto) (acc : List D) (P : List D → Sto → Prop), Pool S → acc.length + ds.length ≤ sizeLine → (∀ d ∈ acc, R d) →
    (∀ d ∈ ds, ∀ (S : Sto) (K : List D → Sto → Prop) (acc : List D), Pool S → acc.length < sizeLine → (∀ r S', R r → Pool S' → K (acc ++ [r]) S') → t d Lw fun L1 => c L1 S fun b L2 S2 => L2 = L1 ∧ if b = true then e L1 S2 fun r _ L3 S3 => L3 = L1 ∧ acc.length < sizeLine ∧ K (acc ++ [r]) S3 else K acc S2) →
    (∀ l S', l.length = acc.length + ds.length → (∀ d ∈ l, R d) → Pool S' → P l S') → compL t c e Lw ds S acc P := by
  intro ds
  induction ds with
  | nil => intro S acc P hS _ hR _ h; exact h acc S rfl hR hS
  | cons d ds ih =>
    intro S acc P hS hn hR hs h
    simp only [List.length_cons] at hn
    unfold compL
    refine hs d (by simp) S (fun a S => compL t c e Lw ds S a P) acc hS (by omega) fun r S' hr hS' => ?_
    refine ih S' _ P hS' (by simp; omega) (fun x hx => ?_) (fun x hx => hs x (by simp [hx])) (fun l S2 hl => h l S2 (by simp at hl ⊢; omega))
    rcases List.mem_append.mp hx with h1 | h1
    · exact hR x h1
    · rw [List.mem_singleton.mp h1]; exact hr
theorem w_law_some (hT : T "_law_some_cases" = some f__law_some_cases) (hC : T "_law_cases" = some f__law_cases) (hP : T "_law_pick" = some f__law_pick) (hD : T "_law_draw" = some f__law_draw) (hSp : T "_law_spread" = some f__law_spread) {k m : Nat} (hm : m ≤ 1000) {S : Sto} {P : D → Sto → Prop} {fs : List Fc} (hS : Pool S) (hc : fs.length ≤ 3) (hf : ∀ f ∈ fs, f.ok)
    (h : ∀ (rs : List (List Int)) S', (∀ r ∈ rs, r.length = fs.length) → Pool S' → P (.lst (rs.map rowD)) S') : Cl T (k + 4) "_law_some_cases" [.obj 0, .tup (fs.map Fc.d), .int m] S P := by
  refine ⟨_, hT, rfl, ?_⟩
  have hb : ∀ f ∈ fs, -100 ≤ f.lo ∧ f.lo ≤ 100 ∧ f.hi + 1 - f.lo ≤ 5 ∧ -100 ≤ f.hi := fun f hf1 => by
    have := hf f hf1
    unfold Fc.ok at this
    omega
  have hrow : ∀ r ∈ cases (fs.map Fc.iv), r.length = fs.length := fun r hr => by have := cases_row r hr; simpa using this
  have hcl : (cases (fs.map Fc.iv)).length ≤ 125 := cases_small (by simpa using hc) fun p hp => by
    obtain ⟨f, hf1, rfl⟩ := List.mem_map.mp hp
    exact (hb f hf1).2.2.1
  simp_arith only [f__law_some_cases, i__law_some_cases]
  refine w_law_cases hC (.inl rfl) hc hb ?_
  simp_arith only [i__law_some_cases_r0, List.length_map]
  refine iteI (fun hle => ?_) (fun hle => ?_)
  · exact h _ S hrow hS
  · have hne : cases (fs.map Fc.iv) ≠ [] := by
      intro e; rw [e] at hle; exact hle (by simp)
    have l1 : lim62 (m : Int) := by unfold lim62; omega
    simp_arith only [lim_0, l1, Int.sub_zero, Int.toNat_natCast]
    refine ⟨by simp, ?_⟩
    rw [rng0]
    refine compL_pool (R := fun d => ∃ r, r.length = fs.length ∧ d = rowD r) _ S [] _ hS (by rw [sizeL]; simp; omega) (by simp) ?_ ?_
    · intro d hd S K acc hS hac hK
      obtain ⟨i, _, rfl⟩ := List.mem_map.mp hd
      simp_arith only [true_and]
      refine w_pickL hP hD hSp hS (by simpa using hne) (by simp; omega) fun v S' hv hS' => ?_
      obtain ⟨r, hr, rfl⟩ := List.mem_map.mp hv
      try simp_arith only [true_and]
      exact ⟨hac, hK _ S' ⟨r, hrow r hr, rfl⟩ hS'⟩
    · intro l S' _ hR hS'
      have : ∃ rs : List (List Int), (∀ r ∈ rs, r.length = fs.length) ∧ l = rs.map rowD := by
        have key : ∀ l : List D, (∀ d ∈ l, ∃ r : List Int, r.length = fs.length ∧ d = rowD r) → ∃ rs : List (List Int), (∀ r ∈ rs, r.length = fs.length) ∧ l = rs.map rowD := by
          intro l
          induction l with
          | nil => intro _; exact ⟨[], by simp, rfl⟩
          | cons d l ih =>
            intro hR
            obtain ⟨r, hr, rfl⟩ := hR d (by simp)
            obtain ⟨rs, h1, rfl⟩ := ih (fun d hd => hR d (by simp [hd]))
            refine ⟨r :: rs, fun q hq => ?_, rfl⟩
            rcases List.mem_cons.mp hq with rfl | hq
            · exact hr
            · exact h1 q hq
        exact key l hR
      obtain ⟨rs, h1, rfl⟩ := this
      exact h rs S' h1 hS'
end
end Q
/-! What is seen of amounts and conditions in a cell: forms and spans. No program here. -/
namespace Q
open PySem
inductive Sn where
  | form (c : Int) (xs : List Int)
  | span (lo hi : Int)
def lof (x : Int) (p : Iv) : Int := if 0 ≤ x then x * p.1 else x * p.2
def hif (x : Int) (p : Iv) : Int := if 0 ≤ x then x * p.2 else x * p.1
def fsp : List Int → List Iv → Int → Int → Iv
  | x :: xs, p :: ps, a, b => fsp xs ps (a + lof x p) (b + hif x p)
  | _, _, a, b => (a, b)
def mn (i j : Int) : Int := if j < i then j else i
def mx (i j : Int) : Int := if j > i then j else i
def dotv : List Int → List Int → Int
  | x :: xs, r :: rs => x * r + dotv xs rs
  | _, _ => 0
namespace Sn
def d : Sn → D
  | form c xs => .tup [.str "form", .tup [.int c, rowD xs]]
  | span lo hi => .tup [.str "span", pr (lo, hi)]
def sp (cell : List Iv) : Sn → Iv
  | form c xs => fsp xs cell c c
  | span lo hi => (lo, hi)
def times (n : Int) : Sn → Sn
  | form c xs => form (n * c) (xs.map (n * ·))
  | span lo hi => if 0 ≤ n then span (n * lo) (n * hi) else span (n * hi) (n * lo)
def add (cell : List Iv) : Sn → Sn → Sn
  | form c xs, form e ys => form (c + e) (List.zipWith (· + ·) xs ys)
  | a, b => span ((a.sp cell).1 + (b.sp cell).1) ((a.sp cell).2 + (b.sp cell).2)
def part (cell : List Iv) (n : Int) : Sn → Sn
  | form c xs => if (xs.all fun x => x.fmod n == 0) = true then form (c / n) (xs.map (· / n)) else span ((fsp xs cell c c).1 / n) ((fsp xs cell c c).2 / n)
  | span lo hi => span (lo / n) (hi / n)
def choice (cell : List Iv) (least : Bool) (a b : Sn) : Sn :=
  if ((add cell a (times (-1) b)).sp cell).2 ≤ 0 then (if least = true then a else b)
  else if 0 ≤ ((add cell a (times (-1) b)).sp cell).1 then (if least = true then b else a)
  else if least = true then span (mn (a.sp cell).1 (b.sp cell).1) (mn (a.sp cell).2 (b.sp cell).2)
  else span (mx (a.sp cell).1 (b.sp cell).1) (mx (a.sp cell).2 (b.sp cell).2)
def ok (n : Nat) : Sn → Prop
  | form _ xs => xs.length = n
  | span lo hi => lo ≤ hi
def holds (r : List Int) (v : Int) : Sn → Prop
  | form c xs => v = c + dotv xs r
  | span lo hi => lo ≤ v ∧ v ≤ hi
def exact : Sn → Prop
  | form _ _ => True
  | span lo hi => lo = hi
end Sn
def unit (n k : Nat) : List Int := (List.range n).map fun j => if j = k then 1 else 0
/-- what is seen of an amount -/
def Am.seen (n : Nat) (cell : List Iv) (kn : Str → Sn) : Am → Sn
  | .num i => .form i (List.replicate n 0)
  | .fact k => .form 0 (unit n k)
  | .term t => kn t
  | .times i a => (a.seen n cell kn).times i
  | .part a i => (a.seen n cell kn).part cell i
  | .plus a b => (a.seen n cell kn).add cell (b.seen n cell kn)
  | .less a b => (a.seen n cell kn).add cell ((b.seen n cell kn).times (-1))
  | .least a b => (a.seen n cell kn).choice cell true (b.seen n cell kn)
  | .most a b => (a.seen n cell kn).choice cell false (b.seen n cell kn)
def strongly (s : Bool) (a b : Option Bool) : Option Bool :=
  if a = some s ∨ b = some s then some s else if a = none ∨ b = none then none else some !s
def gapT (is : Bool) (g : Iv) : Option Bool :=
  if is = true then (if 0 < g.1 ∨ g.2 < 0 then some false else if g.1 = 0 ∧ g.2 = 0 then some true else none)
  else if g.2 < 0 then some true else if 0 ≤ g.1 then some false else none
def Cn.seen (n : Nat) (cell : List Iv) (kn : Str → Sn) : Cn → Option Bool
  | .tru => some true
  | .is a b => gapT true (((a.seen n cell kn).add cell ((b.seen n cell kn).times (-1))).sp cell)
  | .lt a b => gapT false (((a.seen n cell kn).add cell ((b.seen n cell kn).times (-1))).sp cell)
  | .not c => (c.seen n cell kn).map (!·)
  | .both c e => strongly false (c.seen n cell kn) (e.seen n cell kn)
  | .either c e => strongly true (c.seen n cell kn) (e.seen n cell kn)
def cellOk (cell : List Iv) : Prop := ∀ p ∈ cell, p.1 ≤ p.2
def ptc (cell : List Iv) : Prop := ∀ p ∈ cell, p.1 = p.2
theorem mul_lo {n a b : Int} (hn : 0 ≤ n) (h : a ≤ b) : n * a ≤ n * b := Int.mul_le_mul_of_nonneg_left h hn
theorem mul_hi {n a b : Int} (hn : n ≤ 0) (h : a ≤ b) : n * b ≤ n * a := Int.mul_le_mul_of_nonpos_left hn h
theorem lof_le {x : Int} {p : Iv} {v : Int} (h1 : p.1 ≤ v) (h2 : v ≤ p.2) : lof x p ≤ x * v ∧ x * v ≤ hif x p := by
  unfold lof hif
  by_cases h : 0 ≤ x
  · rw [if_pos h, if_pos h]; exact ⟨mul_lo h h1, mul_lo h h2⟩
  · rw [if_neg h, if_neg h]; exact ⟨mul_hi (by omega) h2, mul_hi (by omega) h1⟩
theorem lof_hif {x : Int} {p : Iv} (h : p.1 ≤ p.2) : lof x p ≤ hif x p := Int.le_trans (lof_le (Int.le_refl _) h).1 (lof_le (Int.le_refl _) h).2
theorem lof_pt {x : Int} {p : Iv} (h : p.1 = p.2) : lof x p = hif x p := by
  unfold lof hif; rw [h]
theorem fsp_le : ∀ (xs : List Int) (ps : List Iv) (a b : Int), cellOk ps → a ≤ b → (fsp xs ps a b).1 ≤ (fsp xs ps a b).2
  | x :: xs, p :: ps, a, b, h, hab => by
    unfold fsp
    have := lof_hif (x := x) (h p (by simp))
    exact fsp_le xs ps _ _ (fun q hq => h q (by simp [hq])) (by omega)
  | [], _, a, b, _, hab => by unfold fsp; exact hab
  | _ :: _, [], a, b, _, hab => by unfold fsp; exact hab
theorem fsp_pt : ∀ (xs : List Int) (ps : List Iv) (a b : Int), ptc ps → a = b → (fsp xs ps a b).1 = (fsp xs ps a b).2
  | x :: xs, p :: ps, a, b, h, hab => by
    unfold fsp
    have := lof_pt (x := x) (h p (by simp))
    exact fsp_pt xs ps _ _ (fun q hq => h q (by simp [hq])) (by omega)
  | [], _, a, b, _, hab => by unfold fsp; exact hab
  | _ :: _, [], a, b, _, hab => by unfold fsp; exact hab
theorem fsp_in : ∀ (xs : List Int) (ps : List Iv) (r : List Int) (a b v : Int), inCell ps r = true → a ≤ v → v ≤ b → (fsp xs ps a b).1 ≤ v + dotv xs r ∧ v + dotv xs r ≤ (fsp xs ps a b).2
  | x :: xs, p :: ps, [], a, b, v, h, _, _ => by simp [inCell] at h
  | x :: xs, p :: ps, y :: r, a, b, v, h, h1, h2 => by
    simp only [inCell, Bool.and_eq_true, decide_eq_true_eq] at h
    unfold fsp dotv
    have := lof_le (x := x) h.1.1 h.1.2
    have := fsp_in xs ps r (a + lof x p) (b + hif x p) (v + x * y) h.2 (by omega) (by omega)
    rw [← Int.add_assoc]
    exact this
  | [], ps, r, a, b, v, _, h1, h2 => by unfold fsp dotv; exact ⟨by omega, by omega⟩
  | _ :: _, [], [], a, b, v, _, h1, h2 => by unfold fsp dotv; exact ⟨by omega, by omega⟩
  | _ :: _, [], _ :: _, a, b, v, h, _, _ => by simp [inCell] at h
/-- the case by its own cell -/
theorem fsp_own : ∀ (xs r : List Int) (a b : Int), (fsp xs (r.map fun x => (x, x)) a b).1 = a + dotv xs r
  | x :: xs, y :: r, a, b => by
    rw [List.map_cons]
    unfold fsp dotv
    rw [fsp_own xs r]
    have : lof x (y, y) = x * y := by unfold lof; split <;> rfl
    rw [this]; omega
  | [], r, a, b => by unfold fsp dotv; simp
  | _ :: _, [], a, b => by simp [fsp, dotv]
theorem dotv_rep : ∀ (n : Nat) (r : List Int), dotv (List.replicate n 0) r = 0
  | 0, r => by simp [dotv]
  | n + 1, [] => by simp [dotv, List.replicate_succ]
  | n + 1, y :: r => by rw [List.replicate_succ, dotv, dotv_rep n r]; simp
theorem dotv_zip : ∀ (xs ys r : List Int), xs.length = ys.length → dotv (List.zipWith (· + ·) xs ys) r = dotv xs r + dotv ys r
  | [], [], r, _ => by simp [dotv]
  | [], _ :: _, r, h => by simp at h
  | _ :: _, [], r, h => by simp at h
  | x :: xs, y :: ys, [], h => by simp [dotv]
  | x :: xs, y :: ys, z :: r, h => by
    rw [List.zipWith_cons_cons, dotv, dotv, dotv, dotv_zip xs ys r (by simpa using h), Int.add_mul]; omega
theorem dotv_mul (n : Int) : ∀ (xs r : List Int), dotv (xs.map (n * ·)) r = n * dotv xs r
  | [], r => by simp [dotv]
  | x :: xs, [] => by simp [dotv]
  | x :: xs, y :: r => by rw [List.map_cons, dotv, dotv, dotv_mul n xs r, Int.mul_add, Int.mul_assoc]
theorem dotv_unit : ∀ (n : Nat) (s k : Nat) (r : List Int), r.length = n → s ≤ k → k < s + n → dotv ((List.range' s n).map fun j => if j = k then 1 else 0) r = r.getD (k - s) 0
  | 0, s, k, r, _, _, h => by omega
  | n + 1, s, k, [], h, _, _ => by simp at h
  | n + 1, s, k, y :: r, h, h1, h2 => by
    rw [List.range'_succ, List.map_cons, dotv]
    by_cases e : s = k
    · subst e
      have z : ∀ (m t : Nat) (r : List Int), s < t → dotv ((List.range' t m).map fun j => if j = s then (1 : Int) else 0) r = 0 := by
        intro m
        induction m with
        | zero => intro t r _; simp [dotv]
        | succ m ih =>
          intro t r ht
          rw [List.range'_succ, List.map_cons, if_neg (by omega)]
          cases r with
          | nil => simp [dotv]
          | cons z r => rw [dotv, ih (t + 1) r (by omega)]; simp
      rw [if_pos rfl, z n (s + 1) r (by omega)]; simp
    · rw [if_neg e, dotv_unit n (s + 1) k r (by simpa using h) (by omega) (by omega)]
      have : k - s = (k - (s + 1)) + 1 := by omega
      rw [this, List.getD_cons_succ]; simp
theorem fdiv0 {x n : Int} (hn : 1 ≤ n) (h : (x.fmod n == 0) = true) : x = n * (x / n) := by
  have h := eq_of_beq h
  rw [Int.fmod_eq_emod_of_nonneg _ (by omega)] at h
  have := Int.mul_ediv_add_emod x n
  omega
theorem dotv_part {n : Int} (hn : 1 ≤ n) : ∀ (xs r : List Int), (xs.all fun x => x.fmod n == 0) = true → dotv xs r = n * dotv (xs.map (· / n)) r
  | [], r, _ => by simp [dotv]
  | x :: xs, [], _ => by simp [dotv]
  | x :: xs, y :: r, h => by
    rw [List.all_cons, Bool.and_eq_true] at h
    rw [List.map_cons, dotv, dotv, dotv_part hn xs r h.2, Int.mul_add, ← Int.mul_assoc, ← fdiv0 hn h.1]
namespace Sn
theorem sp_le {n : Nat} {cell : List Iv} {s : Sn} (h : s.ok n) (hc : cellOk cell) : (s.sp cell).1 ≤ (s.sp cell).2 := by
  cases s with
  | form c xs => exact fsp_le _ _ _ _ hc (Int.le_refl _)
  | span lo hi => exact h
theorem sp_in {cell : List Iv} {r : List Int} {v : Int} {s : Sn} (hr : inCell cell r = true) (h : s.holds r v) : (s.sp cell).1 ≤ v ∧ v ≤ (s.sp cell).2 := by
  cases s with
  | form c xs =>
    have h : v = c + dotv xs r := h
    rw [h]
    exact fsp_in _ _ _ _ _ _ hr (Int.le_refl _) (Int.le_refl _)
  | span lo hi => exact h
theorem sp_pt {cell : List Iv} {s : Sn} (hc : ptc cell) (h : s.exact) : (s.sp cell).1 = (s.sp cell).2 := by
  cases s with
  | form c xs => exact fsp_pt _ _ _ _ hc rfl
  | span lo hi => exact h
theorem times_pos {i lo hi : Int} (h : 0 ≤ i) : times i (span lo hi) = span (i * lo) (i * hi) := by simp [times, h]
theorem times_neg {i lo hi : Int} (h : ¬ 0 ≤ i) : times i (span lo hi) = span (i * hi) (i * lo) := by simp only [times, if_neg h]
theorem part_yes {cell : List Iv} {i c : Int} {xs : List Int} (h : (xs.all fun x => x.fmod i == 0) = true) : part cell i (form c xs) = form (c / i) (xs.map (· / i)) := by simp only [part, if_pos h]
theorem part_no {cell : List Iv} {i c : Int} {xs : List Int} (h : ¬ (xs.all fun x => x.fmod i == 0) = true) : part cell i (form c xs) = span ((fsp xs cell c c).1 / i) ((fsp xs cell c c).2 / i) := by simp only [part, if_neg h]
theorem times_ok {n : Nat} {s : Sn} (i : Int) (h : s.ok n) : (s.times i).ok n := by
  cases s with
  | form c xs => simpa [times, ok] using h
  | span lo hi =>
    have h : lo ≤ hi := h
    by_cases h0 : 0 ≤ i
    · rw [times_pos h0]; exact mul_lo h0 h
    · rw [times_neg h0]; exact mul_hi (by omega) h
theorem times_holds {r : List Int} {v : Int} {s : Sn} (i : Int) (h : s.holds r v) : (s.times i).holds r (i * v) := by
  cases s with
  | form c xs =>
    have h : v = c + dotv xs r := h
    show i * v = i * c + dotv _ r
    rw [dotv_mul, h, Int.mul_add]
  | span lo hi =>
    have h : lo ≤ v ∧ v ≤ hi := h
    by_cases h0 : 0 ≤ i
    · rw [times_pos h0]; exact ⟨mul_lo h0 h.1, mul_lo h0 h.2⟩
    · rw [times_neg h0]; exact ⟨mul_hi (by omega) h.2, mul_hi (by omega) h.1⟩
theorem times_exact {s : Sn} (i : Int) (h : s.exact) : (s.times i).exact := by
  cases s with
  | form c xs => exact True.intro
  | span lo hi =>
    have h : lo = hi := h
    subst h
    by_cases h0 : 0 ≤ i
    · rw [times_pos h0]; rfl
    · rw [times_neg h0]; rfl
theorem add_ok {n : Nat} {cell : List Iv} (hc : cellOk cell) {a b : Sn} (ha : a.ok n) (hb : b.ok n) : (a.add cell b).ok n := by
  cases a <;> cases b <;> unfold add
  · simp only [ok] at ha hb ⊢; simp [ha, hb]
  all_goals
    have h1 := sp_le ha hc
    have h2 := sp_le hb hc
    simp only [ok]
    omega
theorem add_holds {n : Nat} {cell : List Iv} {r : List Int} (hr : inCell cell r = true) {a b : Sn} (ha : a.ok n) (hb : b.ok n) {v w : Int} (h1 : a.holds r v) (h2 : b.holds r w) : (a.add cell b).holds r (v + w) := by
  cases a <;> cases b <;> unfold add
  · simp only [ok, holds] at *
    rw [dotv_zip _ _ _ (by rw [ha, hb]), h1, h2]; omega
  all_goals
    have h1 := sp_in hr h1
    have h2 := sp_in hr h2
    simp only [holds]
    omega
theorem add_exact {cell : List Iv} (hc : ptc cell) {a b : Sn} (ha : a.exact) (hb : b.exact) : (a.add cell b).exact := by
  cases a <;> cases b <;> unfold add
  · exact True.intro
  all_goals
    have h1 := sp_pt hc ha
    have h2 := sp_pt hc hb
    simp only [exact]
    omega
theorem part_ok {n : Nat} {cell : List Iv} (hc : cellOk cell) {i : Int} (hi : 1 ≤ i) {s : Sn} (h : s.ok n) : (s.part cell i).ok n := by
  have h1 := sp_le h hc
  cases s with
  | form c xs =>
    by_cases ha : (xs.all fun x => x.fmod i == 0) = true
    · rw [part_yes ha]; simpa [ok] using h
    · rw [part_no ha]; exact Int.ediv_le_ediv (by omega) h1
  | span lo hi => exact Int.ediv_le_ediv (by omega) h1
theorem part_holds {n : Nat} {cell : List Iv} {r : List Int} (hr : inCell cell r = true) {i : Int} (hi : 1 ≤ i) {s : Sn} (h : s.ok n) {v : Int} (hv : s.holds r v) : (s.part cell i).holds r (v / i) := by
  have h1 := sp_in hr hv
  cases s with
  | form c xs =>
    by_cases ha : (xs.all fun x => x.fmod i == 0) = true
    · rw [part_yes ha]
      have hv : v = c + dotv xs r := hv
      show v / i = c / i + dotv _ r
      rw [hv, dotv_part hi xs r ha, Int.add_mul_ediv_left _ _ (by omega)]
    · rw [part_no ha]; exact ⟨Int.ediv_le_ediv (by omega) h1.1, Int.ediv_le_ediv (by omega) h1.2⟩
  | span lo hi => exact ⟨Int.ediv_le_ediv (by omega) h1.1, Int.ediv_le_ediv (by omega) h1.2⟩
theorem part_exact {cell : List Iv} (hc : ptc cell) {i : Int} {s : Sn} (h : s.exact) : (s.part cell i).exact := by
  have h1 := sp_pt hc h
  cases s with
  | form c xs =>
    by_cases ha : (xs.all fun x => x.fmod i == 0) = true
    · rw [part_yes ha]; exact True.intro
    · rw [part_no ha]; simp only [exact]; simp only [sp] at h1; rw [h1]
  | span lo hi => simp only [part, exact]; simp only [sp] at h1; rw [h1]
theorem choice_ok {n : Nat} {cell : List Iv} (hc : cellOk cell) {l : Bool} {a b : Sn} (ha : a.ok n) (hb : b.ok n) : (a.choice cell l b).ok n := by
  have h1 := sp_le ha hc
  have h2 := sp_le hb hc
  unfold choice
  cases l <;> simp only [Bool.false_eq_true, if_true, if_false] <;> split <;> try split
  all_goals first | exact ha | exact hb | (simp only [ok, mn, mx]; repeat' split) <;> omega
theorem choice_holds {n : Nat} {cell : List Iv} {r : List Int} (hr : inCell cell r = true) {l : Bool} {a b : Sn} (ha : a.ok n) (hb : b.ok n) {v w : Int} (h1 : a.holds r v) (h2 : b.holds r w) :
    (a.choice cell l b).holds r (if l = true then (if w < v then w else v) else (if v < w then w else v)) := by
  have hg := sp_in hr (add_holds hr ha (times_ok (-1) hb) h1 (times_holds (-1) h2))
  have s1 := sp_in hr h1
  have s2 := sp_in hr h2
  generalize hA : (add cell a (times (-1) b)).sp cell = g at hg
  by_cases g2 : g.2 ≤ 0
  · have e : choice cell l a b = if l = true then a else b := by unfold choice; rw [hA, if_pos g2]
    rw [e]
    cases l
    · simp only [Bool.false_eq_true, if_false]
      have e : (if v < w then w else v) = w := by split <;> omega
      rw [e]; exact h2
    · simp only [if_true]
      have e : (if w < v then w else v) = v := by split <;> omega
      rw [e]; exact h1
  · by_cases g1 : 0 ≤ g.1
    · have e : choice cell l a b = if l = true then b else a := by unfold choice; rw [hA, if_neg g2, if_pos g1]
      rw [e]
      cases l
      · simp only [Bool.false_eq_true, if_false]
        have e : (if v < w then w else v) = v := by split <;> omega
        rw [e]; exact h1
      · simp only [if_true]
        have e : (if w < v then w else v) = w := by split <;> omega
        rw [e]; exact h2
    · cases l
      · have e : choice cell false a b = span (mx (a.sp cell).1 (b.sp cell).1) (mx (a.sp cell).2 (b.sp cell).2) := by unfold choice; rw [hA, if_neg g2, if_neg g1, if_neg (by decide)]
        rw [e]
        simp only [Bool.false_eq_true, if_false, holds, mx]
        constructor <;> repeat' split
        all_goals omega
      · have e : choice cell true a b = span (mn (a.sp cell).1 (b.sp cell).1) (mn (a.sp cell).2 (b.sp cell).2) := by unfold choice; rw [hA, if_neg g2, if_neg g1, if_pos rfl]
        rw [e]
        simp only [if_true, holds, mn]
        constructor <;> repeat' split
        all_goals omega
theorem choice_exact {cell : List Iv} (hc : ptc cell) {l : Bool} {a b : Sn} (ha : a.exact) (hb : b.exact) : (a.choice cell l b).exact := by
  have h1 := sp_pt hc ha
  have h2 := sp_pt hc hb
  unfold choice
  cases l <;> simp only [Bool.false_eq_true, if_true, if_false] <;> split <;> try split
  all_goals first | exact ha | exact hb | (simp only [exact]; rw [h1, h2])
end Sn
section
variable {n : Nat} {cell : List Iv} {kn : Str → Sn} {ts : List Str}
theorem seen_ok (hc : cellOk cell) (hk : ∀ t ∈ ts, (kn t).ok n) : ∀ a : Am, a.ok n ts → (a.seen n cell kn).ok n := by
  intro a
  induction a with
  | num i => intro _; simp [Am.seen, Sn.ok]
  | fact k => intro _; simp [Am.seen, Sn.ok, unit]
  | term t => intro h; exact hk t h
  | times i a ih => intro h; exact Sn.times_ok i (ih h.2)
  | part a i ih => intro h; exact Sn.part_ok hc h.2.1 (ih h.1)
  | plus a b iha ihb => intro h; exact Sn.add_ok hc (iha h.1) (ihb h.2)
  | less a b iha ihb => intro h; exact Sn.add_ok hc (iha h.1) (Sn.times_ok _ (ihb h.2))
  | least a b iha ihb => intro h; exact Sn.choice_ok hc (iha h.1) (ihb h.2)
  | most a b iha ihb => intro h; exact Sn.choice_ok hc (iha h.1) (ihb h.2)
theorem seen_holds (hc : cellOk cell) (hl : cell.length = n) {r : List Int} (hr : inCell cell r = true) (hrl : r.length = n) (hk : ∀ t ∈ ts, (kn t).ok n) {kv : Str → Int} (hv : ∀ t ∈ ts, (kn t).holds r (kv t)) : ∀ a : Am, a.ok n ts → (a.seen n cell kn).holds r (a.val r kv) := by
  intro a
  induction a with
  | num i => intro _; simp [Am.seen, Sn.holds, Am.val, dotv_rep]
  | fact k =>
    intro h
    have h : k < n := h
    have := dotv_unit n 0 k r hrl (Nat.zero_le _) (by omega)
    simp only [Am.seen, Sn.holds, Am.val, unit, List.range_eq_range', this, Nat.sub_zero, Int.zero_add]
  | term t => intro h; exact hv t h
  | times i a ih => intro h; exact Sn.times_holds i (ih h.2)
  | part a i ih => intro h; exact Sn.part_holds hr h.2.1 (seen_ok hc hk a h.1) (ih h.1)
  | plus a b iha ihb => intro h; exact Sn.add_holds hr (seen_ok hc hk a h.1) (seen_ok hc hk b h.2) (iha h.1) (ihb h.2)
  | less a b iha ihb =>
    intro h
    have := Sn.add_holds hr (seen_ok hc hk a h.1) (Sn.times_ok (-1) (seen_ok hc hk b h.2)) (iha h.1) (Sn.times_holds (-1) (ihb h.2))
    have e : a.val r kv + -1 * b.val r kv = a.val r kv - b.val r kv := by omega
    rw [e] at this
    exact this
  | least a b iha ihb =>
    intro h
    exact Sn.choice_holds (l := true) hr (seen_ok hc hk a h.1) (seen_ok hc hk b h.2) (iha h.1) (ihb h.2)
  | most a b iha ihb =>
    intro h
    exact Sn.choice_holds (l := false) hr (seen_ok hc hk a h.1) (seen_ok hc hk b h.2) (iha h.1) (ihb h.2)
theorem seen_exact (hc : ptc cell) (hk : ∀ t ∈ ts, (kn t).exact) : ∀ a : Am, a.ok n ts → (a.seen n cell kn).exact := by
  intro a
  induction a with
  | num i => intro _; exact True.intro
  | fact k => intro _; exact True.intro
  | term t => intro h; exact hk t h
  | times i a ih => intro h; exact Sn.times_exact i (ih h.2)
  | part a i ih => intro h; exact Sn.part_exact hc (ih h.1)
  | plus a b iha ihb => intro h; exact Sn.add_exact hc (iha h.1) (ihb h.2)
  | less a b iha ihb => intro h; exact Sn.add_exact hc (iha h.1) (Sn.times_exact _ (ihb h.2))
  | least a b iha ihb => intro h; exact Sn.choice_exact hc (iha h.1) (ihb h.2)
  | most a b iha ihb => intro h; exact Sn.choice_exact hc (iha h.1) (ihb h.2)
theorem strongly_some {s : Bool} {a b : Option Bool} {x y k : Bool} (ha : ∀ k, a = some k → x = k) (hb : ∀ k, b = some k → y = k) (h : strongly s a b = some k) : (if s = true then (x || y) else (x && y)) = k := by
  revert h
  rcases a with _ | (_ | _) <;> rcases b with _ | (_ | _) <;> cases s <;> simp [strongly] <;> (try simp at ha) <;> (try simp at hb) <;> (try subst ha) <;> (try subst hb) <;> simp
theorem truth_holds (hc : cellOk cell) (hl : cell.length = n) {r : List Int} (hr : inCell cell r = true) (hrl : r.length = n) (hk : ∀ t ∈ ts, (kn t).ok n) {kv : Str → Int} (hv : ∀ t ∈ ts, (kn t).holds r (kv t)) : ∀ (c : Cn), c.ok n ts → ∀ k, c.seen n cell kn = some k → c.val r kv = k := by
  have gap : ∀ a b : Am, a.ok n ts → b.ok n ts → ((((a.seen n cell kn).add cell ((b.seen n cell kn).times (-1))).sp cell).1 ≤ a.val r kv - b.val r kv ∧ a.val r kv - b.val r kv ≤ (((a.seen n cell kn).add cell ((b.seen n cell kn).times (-1))).sp cell).2) := fun a b ha hb =>
    Sn.sp_in hr (seen_holds hc hl hr hrl hk hv (.less a b) ⟨ha, hb⟩)
  intro c
  induction c with
  | tru => intro _ k h; simpa [Cn.seen, Cn.val] using h
  | is a b =>
    intro ho k h
    have := gap a b ho.1 ho.2
    simp only [Cn.seen, gapT, if_true] at h
    simp only [Cn.val]
    split at h
    · cases h; simp only [beq_eq_false_iff_ne, ne_eq]; omega
    · split at h
      · cases h; simp only [beq_iff_eq]; omega
      · cases h
  | lt a b =>
    intro ho k h
    have := gap a b ho.1 ho.2
    simp only [Cn.seen, gapT, Bool.false_eq_true, if_false] at h
    simp only [Cn.val]
    split at h
    · cases h; simp only [decide_eq_true_eq]; omega
    · split at h
      · cases h; simp only [decide_eq_false_iff_not]; omega
      · cases h
  | not c ih =>
    intro ho k h
    simp only [Cn.seen, Option.map_eq_some_iff] at h
    obtain ⟨j, h1, rfl⟩ := h
    simp only [Cn.val, ih ho j h1]
  | both c e ihc ihe =>
    intro ho k h
    exact strongly_some (s := false) (ihc ho.1) (ihe ho.2) h
  | either c e ihc ihe =>
    intro ho k h
    exact strongly_some (s := true) (ihc ho.1) (ihe ho.2) h
theorem truth_exact (hc : ptc cell) (hk : ∀ t ∈ ts, (kn t).exact) : ∀ c : Cn, c.ok n ts → c.seen n cell kn ≠ none := by
  have gap : ∀ a b : Am, a.ok n ts → b.ok n ts → (((a.seen n cell kn).add cell ((b.seen n cell kn).times (-1))).sp cell).1 = (((a.seen n cell kn).add cell ((b.seen n cell kn).times (-1))).sp cell).2 := fun a b ha hb =>
    Sn.sp_pt hc (seen_exact hc hk (.less a b) ⟨ha, hb⟩)
  intro c
  induction c with
  | tru => intro _ h; cases h
  | is a b =>
    intro ho
    have := gap a b ho.1 ho.2
    simp only [Cn.seen, gapT, if_true]
    split
    · simp
    · split
      · simp
      · omega
  | lt a b =>
    intro ho
    have := gap a b ho.1 ho.2
    simp only [Cn.seen, gapT, Bool.false_eq_true, if_false]
    split
    · simp
    · split
      · simp
      · omega
  | not c ih => intro ho; simpa [Cn.seen] using ih ho
  | both c e ihc ihe =>
    intro ho
    have h1 := ihc ho.1
    have h2 := ihe ho.2
    simp only [Cn.seen, strongly]
    split
    · simp
    · simp [h1, h2]
  | either c e ihc ihe =>
    intro ho
    have h1 := ihc ho.1
    have h2 := ihe ho.2
    simp only [Cn.seen, strongly]
    split
    · simp
    · simp [h1, h2]
end
theorem pt_of_one {c : List Iv} (hc : cellOk c) (h : (cases c).length = 1) : ptc c := by
  have mem : ∀ r : List Int, r.length = c.length → inCell c r = true → r ∈ cases c := fun r hl hi => by
    have := mem_cases c r hl
    rw [hi] at this
    exact of_decide_eq_true this
  have lo : ∀ c : List Iv, cellOk c → inCell c (c.map (·.1)) = true := by
    intro c
    induction c with
    | nil => intro _; rfl
    | cons p c ih =>
      intro h
      simp only [List.map_cons, inCell, ih fun q hq => h q (by simp [hq])]
      have := h p (by simp)
      simp [this]
  have hi : ∀ c : List Iv, cellOk c → inCell c (c.map (·.2)) = true := by
    intro c
    induction c with
    | nil => intro _; rfl
    | cons p c ih =>
      intro h
      simp only [List.map_cons, inCell, ih fun q hq => h q (by simp [hq])]
      have := h p (by simp)
      simp [this]
  obtain ⟨r, e⟩ := List.length_eq_one_iff.mp h
  have h1 := mem _ (by simp) (lo c hc)
  have h2 := mem _ (by simp) (hi c hc)
  rw [e, List.mem_singleton] at h1 h2
  have h3 := h1.trans h2.symm
  intro p hp
  have := List.map_inj_left.mp h3 p hp
  exact this
end Q
/-! The walks of what is seen. -/
namespace Q
open PySem
def i_constant : ISs := (.cons (.ret (.tup (.cons (.loc 0) (.cons (.bin .mul (.tup (.cons (.cst (.int 0)) .nil)) (.loc 1)) .nil))))
  .nil)
def f_constant : FD := ⟨2, 2, i_constant⟩
def i_form_sum : ISs := (.cons (.ret (.tup (.cons (.bin .add (.idx (.loc 0) (.cst (.int 0))) (.bin .mul (.loc 2) (.idx (.loc 1) (.cst (.int 0))))) (.cons (.blt "tuple" (.cons (.comp (.bin .add (.loc 3) (.bin .mul (.loc 2) (.loc 4))) (.tp [(.nm 3), (.nm 4)]) (.zip (.idx (.loc 0) (.cst (.int 1))) (.idx (.loc 1) (.cst (.int 1)))) .yes [3, 4]) .nil)) .nil))))
  .nil)
def f_form_sum : FD := ⟨3, 5, i_form_sum⟩
def i_form_span_b0 : ISs := (.cons (.aug 2 .add (.ite (.cmp .ge (.loc 4) (.cst (.int 0))) (.bin .mul (.loc 4) (.loc 5)) (.bin .mul (.loc 4) (.loc 6))))
  (.cons (.aug 3 .add (.ite (.cmp .ge (.loc 4) (.cst (.int 0))) (.bin .mul (.loc 4) (.loc 6)) (.bin .mul (.loc 4) (.loc 5))))
  .nil))
def i_form_span_r0 : ISs := (.cons (.ret (.tup (.cons (.loc 2) (.cons (.loc 3) .nil))))
  .nil)
def i_form_span : ISs := (.cons (.asg2 2 3 (.idx (.loc 0) (.cst (.int 0))))
  (.cons (.fors (.tp [(.nm 4), (.tp [(.nm 5), (.nm 6)])]) (.zip (.idx (.loc 0) (.cst (.int 1))) (.loc 1)) i_form_span_b0)
  i_form_span_r0))
def f_form_span : FD := ⟨2, 7, i_form_span⟩
def i_span_of : ISs := (.cons (.ret (.ite (.cmp .eq (.idx (.loc 0) (.cst (.int 0))) (.cst (.str "form"))) (.call "form_span" (.cons (.idx (.loc 0) (.cst (.int 1))) (.cons (.loc 1) .nil))) (.idx (.loc 0) (.cst (.int 1)))))
  .nil)
def f_span_of : FD := ⟨2, 2, i_span_of⟩
def i_seen_times_r0 : ISs := (.cons (.asg (.tp [(.nm 2), (.nm 3)]) (.idx (.loc 0) (.cst (.int 1))))
  (.cons (.ret (.tup (.cons (.cst (.str "span")) (.cons (.ite (.cmp .ge (.loc 1) (.cst (.int 0))) (.tup (.cons (.bin .mul (.loc 1) (.loc 2)) (.cons (.bin .mul (.loc 1) (.loc 3)) .nil))) (.tup (.cons (.bin .mul (.loc 1) (.loc 3)) (.cons (.bin .mul (.loc 1) (.loc 2)) .nil)))) .nil))))
  .nil))
def i_seen_times : ISs := (.cons (.ifs (.cmp .eq (.idx (.loc 0) (.cst (.int 0))) (.cst (.str "form"))) (.cons (.ret (.tup (.cons (.cst (.str "form")) (.cons (.call "form_sum" (.cons (.call "constant" (.cons (.cst (.int 0)) (.cons (.blt "len" (.cons (.idx (.idx (.loc 0) (.cst (.int 1))) (.cst (.int 1))) .nil)) .nil))) (.cons (.idx (.loc 0) (.cst (.int 1))) (.cons (.loc 1) .nil)))) .nil))))
  .nil) .nil)
  i_seen_times_r0)
def f_seen_times : FD := ⟨2, 4, i_seen_times⟩
def i_seen_sum_r0 : ISs := (.cons (.ret (.tup (.cons (.cst (.str "span")) (.cons (.tup (.cons (.bin .add (.loc 4) (.loc 6)) (.cons (.bin .add (.loc 5) (.loc 7)) .nil))) .nil))))
  .nil)
def i_seen_sum_r1 : ISs := (.cons (.asg (.tp [(.nm 6), (.nm 7)]) (.call "span_of" (.cons (.call "seen_times" (.cons (.loc 1) (.cons (.loc 2) .nil))) (.cons (.loc 3) .nil))))
  i_seen_sum_r0)
def i_seen_sum_r2 : ISs := (.cons (.asg (.tp [(.nm 4), (.nm 5)]) (.call "span_of" (.cons (.loc 0) (.cons (.loc 3) .nil))))
  i_seen_sum_r1)
def i_seen_sum : ISs := (.cons (.ifs (.and (.cmp .eq (.idx (.loc 0) (.cst (.int 0))) (.cst (.str "form"))) (.cmp .eq (.idx (.loc 1) (.cst (.int 0))) (.cst (.str "form")))) (.cons (.ret (.tup (.cons (.cst (.str "form")) (.cons (.call "form_sum" (.cons (.idx (.loc 0) (.cst (.int 1))) (.cons (.idx (.loc 1) (.cst (.int 1))) (.cons (.loc 2) .nil)))) .nil))))
  .nil) .nil)
  i_seen_sum_r2)
def f_seen_sum : FD := ⟨4, 8, i_seen_sum⟩
def i_seen_part_r0 : ISs := (.cons (.ret (.tup (.cons (.cst (.str "span")) (.cons (.tup (.cons (.bin .fdiv (.loc 3) (.loc 1)) (.cons (.bin .fdiv (.loc 4) (.loc 1)) .nil))) .nil))))
  .nil)
def i_seen_part_r1 : ISs := (.cons (.asg (.tp [(.nm 3), (.nm 4)]) (.call "span_of" (.cons (.loc 0) (.cons (.loc 2) .nil))))
  i_seen_part_r0)
def i_seen_part : ISs := (.cons (.ifs (.and (.cmp .eq (.idx (.loc 0) (.cst (.int 0))) (.cst (.str "form"))) (.v (.blt "all" (.cons (.comp (.cmp .eq (.bin .mod (.loc 5) (.loc 1)) (.cst (.int 0))) (.nm 5) (.seq (.idx (.idx (.loc 0) (.cst (.int 1))) (.cst (.int 1)))) .yes [5]) .nil)))) (.cons (.ret (.tup (.cons (.cst (.str "form")) (.cons (.tup (.cons (.bin .fdiv (.idx (.idx (.loc 0) (.cst (.int 1))) (.cst (.int 0))) (.loc 1)) (.cons (.blt "tuple" (.cons (.comp (.bin .fdiv (.loc 5) (.loc 1)) (.nm 5) (.seq (.idx (.idx (.loc 0) (.cst (.int 1))) (.cst (.int 1)))) .yes [5]) .nil)) .nil))) .nil))))
  .nil) .nil)
  i_seen_part_r1)
def f_seen_part : FD := ⟨3, 6, i_seen_part⟩
def i_seen_choice_r0 : ISs := (.cons (.ret (.tup (.cons (.cst (.str "span")) (.cons (.ite (.v (.loc 2)) (.tup (.cons (.blt "min" (.cons (.loc 6) (.cons (.loc 8) .nil))) (.cons (.blt "min" (.cons (.loc 7) (.cons (.loc 9) .nil))) .nil))) (.tup (.cons (.blt "max" (.cons (.loc 6) (.cons (.loc 8) .nil))) (.cons (.blt "max" (.cons (.loc 7) (.cons (.loc 9) .nil))) .nil)))) .nil))))
  .nil)
def i_seen_choice_r1 : ISs := (.cons (.asg (.tp [(.nm 8), (.nm 9)]) (.call "span_of" (.cons (.loc 1) (.cons (.loc 3) .nil))))
  i_seen_choice_r0)
def i_seen_choice_r2 : ISs := (.cons (.ifs (.cmp .le (.loc 5) (.cst (.int 0))) (.cons (.ret (.ite (.v (.loc 2)) (.loc 0) (.loc 1)))
  .nil) .nil)
  (.cons (.ifs (.cmp .ge (.loc 4) (.cst (.int 0))) (.cons (.ret (.ite (.v (.loc 2)) (.loc 1) (.loc 0)))
  .nil) .nil)
  (.cons (.asg (.tp [(.nm 6), (.nm 7)]) (.call "span_of" (.cons (.loc 0) (.cons (.loc 3) .nil))))
  i_seen_choice_r1)))
def i_seen_choice : ISs := (.cons (.asg (.tp [(.nm 4), (.nm 5)]) (.call "span_of" (.cons (.call "seen_sum" (.cons (.loc 0) (.cons (.loc 1) (.cons (.neg (.cst (.int 1))) (.cons (.loc 3) .nil))))) (.cons (.loc 3) .nil))))
  i_seen_choice_r2)
def f_seen_choice : FD := ⟨4, 10, i_seen_choice⟩
def i_seen_amount_r0 : ISs := (.cons (.ret (.tup (.cons (.cst (.str "form")) (.cons (.tup (.cons (.cst (.int 0)) (.cons (.blt "tuple" (.cons (.comp (.ite (.cmp .eq (.loc 9) (.loc 8)) (.cst (.int 1)) (.cst (.int 0))) (.nm 9) (.rng (.cst (.int 0)) (.loc 5)) .yes [9]) .nil)) .nil))) .nil))))
  .nil)
def i_seen_amount_r1 : ISs := (.cons (.ret (.call "seen_choice" (.cons (.loc 6) (.cons (.loc 7) (.cons (.cmp .eq (.loc 4) (.cst (.str "least"))) (.cons (.loc 2) .nil))))))
  .nil)
def i_seen_amount_r2 : ISs := (.cons (.ifs (.cmp .mem (.loc 4) (.tup (.cons (.cst (.str "plus")) (.cons (.cst (.str "less")) .nil)))) (.cons (.ret (.call "seen_sum" (.cons (.loc 6) (.cons (.loc 7) (.cons (.ite (.cmp .eq (.loc 4) (.cst (.str "plus"))) (.cst (.int 1)) (.neg (.cst (.int 1)))) (.cons (.loc 2) .nil))))))
  .nil) .nil)
  i_seen_amount_r1)
def i_seen_amount_r3 : ISs := (.cons (.par 6 7 (.call "seen_amount" (.cons (.idx (.loc 0) (.cst (.int 1))) (.cons (.loc 1) (.cons (.loc 2) (.cons (.loc 3) .nil))))) (.call "seen_amount" (.cons (.idx (.loc 0) (.cst (.int 2))) (.cons (.loc 1) (.cons (.loc 2) (.cons (.loc 3) .nil))))))
  i_seen_amount_r2)
def i_seen_amount_r4 : ISs := (.cons (.ifs (.cmp .eq (.loc 4) (.cst (.str "part"))) (.cons (.ret (.call "seen_part" (.cons (.call "seen_amount" (.cons (.idx (.loc 0) (.cst (.int 1))) (.cons (.loc 1) (.cons (.loc 2) (.cons (.loc 3) .nil))))) (.cons (.idx (.loc 0) (.cst (.int 2))) (.cons (.loc 2) .nil)))))
  .nil) .nil)
  i_seen_amount_r3)
def i_seen_amount_r5 : ISs := (.cons (.ifs (.cmp .eq (.loc 4) (.cst (.str "term"))) (.cons (.ret (.idx (.loc 3) (.idx (.loc 0) (.cst (.int 1)))))
  .nil) .nil)
  (.cons (.ifs (.cmp .eq (.loc 4) (.cst (.str "times"))) (.cons (.ret (.call "seen_times" (.cons (.call "seen_amount" (.cons (.idx (.loc 0) (.cst (.int 2))) (.cons (.loc 1) (.cons (.loc 2) (.cons (.loc 3) .nil))))) (.cons (.idx (.loc 0) (.cst (.int 1))) .nil))))
  .nil) .nil)
  i_seen_amount_r4))
def i_seen_amount_r6 : ISs := (.cons (.ifs (.cmp .eq (.loc 4) (.cst (.str "fact"))) (.cons (.asg (.nm 8) (.call "place_of" (.cons (.loc 1) (.cons (.idx (.loc 0) (.cst (.int 1))) .nil))))
  i_seen_amount_r0) .nil)
  i_seen_amount_r5)
def i_seen_amount : ISs := (.cons (.asg (.nm 4) (.idx (.loc 0) (.cst (.int 0))))
  (.cons (.asg (.nm 5) (.blt "len" (.cons (.loc 1) .nil)))
  (.cons (.ifs (.cmp .eq (.loc 4) (.cst (.str "num"))) (.cons (.ret (.tup (.cons (.cst (.str "form")) (.cons (.call "constant" (.cons (.idx (.loc 0) (.cst (.int 1))) (.cons (.loc 5) .nil))) .nil))))
  .nil) .nil)
  i_seen_amount_r6)))
def f_seen_amount : FD := ⟨4, 10, i_seen_amount⟩
def i_seen_truth_r0 : ISs := (.cons (.ret (.ite (.cmp .is (.loc 8) (.cst .non)) (.cst .non) (.not (.loc 8))))
  .nil)
def i_seen_truth_r1 : ISs := (.cons (.asg (.nm 11) (.cmp .eq (.loc 4) (.cst (.str "either"))))
  (.cons (.ifs (.or (.and (.cmp .eq (.loc 9) (.loc 11)) (.cmp .isn (.loc 9) (.cst .non))) (.and (.cmp .eq (.loc 10) (.loc 11)) (.cmp .isn (.loc 10) (.cst .non)))) (.cons (.ret (.loc 11))
  .nil) .nil)
  (.cons (.ret (.ite (.or (.cmp .is (.loc 9) (.cst .non)) (.cmp .is (.loc 10) (.cst .non))) (.cst .non) (.not (.loc 11))))
  .nil)))
def i_seen_truth_r2 : ISs := (.cons (.ifs (.cmp .eq (.loc 4) (.cst (.str "below"))) (.cons (.ret (.ite (.cmp .lt (.loc 7) (.cst (.int 0))) (.cst (.bl true)) (.ite (.cmp .ge (.loc 6) (.cst (.int 0))) (.cst (.bl false)) (.cst .non))))
  .nil) .nil)
  (.cons (.ret (.ite (.or (.cmp .gt (.loc 6) (.cst (.int 0))) (.cmp .lt (.loc 7) (.cst (.int 0)))) (.cst (.bl false)) (.ite (.chain .eq .eq (.loc 6) (.loc 7) (.cst (.int 0))) (.cst (.bl true)) (.cst .non))))
  .nil))
def i_seen_truth_r3 : ISs := (.cons (.asg (.tp [(.nm 6), (.nm 7)]) (.call "span_of" (.cons (.loc 5) (.cons (.loc 2) .nil))))
  i_seen_truth_r2)
def i_seen_truth_r4 : ISs := (.cons (.asg (.nm 5) (.call "seen_sum" (.cons (.call "seen_amount" (.cons (.idx (.loc 0) (.cst (.int 1))) (.cons (.loc 1) (.cons (.loc 2) (.cons (.loc 3) .nil))))) (.cons (.call "seen_amount" (.cons (.idx (.loc 0) (.cst (.int 2))) (.cons (.loc 1) (.cons (.loc 2) (.cons (.loc 3) .nil))))) (.cons (.neg (.cst (.int 1))) (.cons (.loc 2) .nil))))))
  i_seen_truth_r3)
def i_seen_truth_r5 : ISs := (.cons (.ifs (.cmp .mem (.loc 4) (.tup (.cons (.cst (.str "both")) (.cons (.cst (.str "either")) .nil)))) (.cons (.par 9 10 (.call "seen_truth" (.cons (.idx (.loc 0) (.cst (.int 1))) (.cons (.loc 1) (.cons (.loc 2) (.cons (.loc 3) .nil))))) (.call "seen_truth" (.cons (.idx (.loc 0) (.cst (.int 2))) (.cons (.loc 1) (.cons (.loc 2) (.cons (.loc 3) .nil))))))
  i_seen_truth_r1) .nil)
  i_seen_truth_r4)
def i_seen_truth : ISs := (.cons (.asg (.nm 4) (.idx (.loc 0) (.cst (.int 0))))
  (.cons (.ifs (.cmp .eq (.loc 4) (.cst (.str "true"))) (.cons (.ret (.cst (.bl true)))
  .nil) .nil)
  (.cons (.ifs (.cmp .eq (.loc 4) (.cst (.str "not"))) (.cons (.asg (.nm 8) (.call "seen_truth" (.cons (.idx (.loc 0) (.cst (.int 1))) (.cons (.loc 1) (.cons (.loc 2) (.cons (.loc 3) .nil))))))
  i_seen_truth_r0) .nil)
  i_seen_truth_r5)))
def f_seen_truth : FD := ⟨4, 12, i_seen_truth⟩
def i__law_form_span_b0 : ISs := (.cons (.asg (.nm 5) (.lst (.cons (.bin .mul (.idx (.idx (.loc 0) (.cst (.int 1))) (.loc 4)) (.idx (.idx (.loc 1) (.loc 4)) (.cst (.int 0)))) (.cons (.bin .mul (.idx (.idx (.loc 0) (.cst (.int 1))) (.loc 4)) (.idx (.idx (.loc 1) (.loc 4)) (.cst (.int 1)))) .nil))))
  (.cons (.par 2 3 (.bin .add (.loc 2) (.blt "min" (.cons (.loc 5) .nil))) (.bin .add (.loc 3) (.blt "max" (.cons (.loc 5) .nil))))
  .nil))
def i__law_form_span_r0 : ISs := (.cons (.ret (.tup (.cons (.loc 2) (.cons (.loc 3) .nil))))
  .nil)
def i__law_form_span : ISs := (.cons (.asg (.nm 2) (.idx (.loc 0) (.cst (.int 0))))
  (.cons (.asg (.nm 3) (.idx (.loc 0) (.cst (.int 0))))
  (.cons (.fors (.nm 4) (.rng (.cst (.int 0)) (.blt "len" (.cons (.loc 1) .nil))) i__law_form_span_b0)
  i__law_form_span_r0)))
def f__law_form_span : FD := ⟨2, 6, i__law_form_span⟩
def i__law_span : ISs := (.cons (.ret (.ite (.cmp .eq (.idx (.loc 0) (.cst (.int 0))) (.cst (.str "form"))) (.call "_law_form_span" (.cons (.idx (.loc 0) (.cst (.int 1))) (.cons (.loc 1) .nil))) (.idx (.loc 0) (.cst (.int 1)))))
  .nil)
def f__law_span : FD := ⟨2, 2, i__law_span⟩
def i__law_times_r0 : ISs := (.cons (.ret (.tup (.cons (.cst (.str "span")) (.cons (.tup (.cons (.blt "min" (.cons (.loc 2) .nil)) (.cons (.blt "max" (.cons (.loc 2) .nil)) .nil))) .nil))))
  .nil)
def i__law_times_r1 : ISs := (.cons (.asg (.nm 2) (.comp (.bin .mul (.loc 1) (.loc 3)) (.nm 3) (.seq (.idx (.loc 0) (.cst (.int 1)))) .yes [3]))
  i__law_times_r0)
def i__law_times : ISs := (.cons (.ifs (.cmp .eq (.idx (.loc 0) (.cst (.int 0))) (.cst (.str "form"))) (.cons (.ret (.tup (.cons (.cst (.str "form")) (.cons (.tup (.cons (.bin .mul (.loc 1) (.idx (.idx (.loc 0) (.cst (.int 1))) (.cst (.int 0)))) (.cons (.blt "tuple" (.cons (.comp (.bin .mul (.loc 1) (.loc 3)) (.nm 3) (.seq (.idx (.idx (.loc 0) (.cst (.int 1))) (.cst (.int 1)))) .yes [3]) .nil)) .nil))) .nil))))
  .nil) .nil)
  i__law_times_r1)
def f__law_times : FD := ⟨2, 4, i__law_times⟩
def i__law_added_r0 : ISs := (.cons (.ret (.tup (.cons (.cst (.str "span")) (.cons (.tup (.cons (.bin .add (.idx (.loc 3) (.cst (.int 0))) (.idx (.loc 4) (.cst (.int 0)))) (.cons (.bin .add (.idx (.loc 3) (.cst (.int 1))) (.idx (.loc 4) (.cst (.int 1)))) .nil))) .nil))))
  .nil)
def i__law_added_r1 : ISs := (.cons (.par 3 4 (.call "_law_span" (.cons (.loc 0) (.cons (.loc 2) .nil))) (.call "_law_span" (.cons (.loc 1) (.cons (.loc 2) .nil))))
  i__law_added_r0)
def i__law_added : ISs := (.cons (.ifs (.and (.cmp .eq (.idx (.loc 0) (.cst (.int 0))) (.cst (.str "form"))) (.cmp .eq (.idx (.loc 1) (.cst (.int 0))) (.cst (.str "form")))) (.cons (.ret (.tup (.cons (.cst (.str "form")) (.cons (.tup (.cons (.bin .add (.idx (.idx (.loc 0) (.cst (.int 1))) (.cst (.int 0))) (.idx (.idx (.loc 1) (.cst (.int 1))) (.cst (.int 0)))) (.cons (.blt "tuple" (.cons (.comp (.bin .add (.loc 5) (.loc 6)) (.tp [(.nm 5), (.nm 6)]) (.zip (.idx (.idx (.loc 0) (.cst (.int 1))) (.cst (.int 1))) (.idx (.idx (.loc 1) (.cst (.int 1))) (.cst (.int 1)))) .yes [5, 6]) .nil)) .nil))) .nil))))
  .nil) .nil)
  i__law_added_r1)
def f__law_added : FD := ⟨3, 7, i__law_added⟩
def i__law_seen_r0 : ISs := (.cons (.ret (.tup (.cons (.cst (.str "span")) (.cons (.blt "tuple" (.cons (.comp (.bin .fdiv (.loc 11) (.idx (.loc 0) (.cst (.int 2)))) (.nm 11) (.seq (.call "_law_span" (.cons (.loc 5) (.cons (.loc 2) .nil)))) .yes [11]) .nil)) .nil))))
  .nil)
def i__law_seen_r1 : ISs := (.cons (.ret (.tup (.cons (.cst (.str "span")) (.cons (.ite (.cmp .eq (.loc 4) (.cst (.str "least"))) (.tup (.cons (.blt "min" (.cons (.idx (.idx (.loc 10) (.cst (.int 0))) (.cst (.int 0))) (.cons (.idx (.idx (.loc 10) (.cst (.int 1))) (.cst (.int 0))) .nil))) (.cons (.blt "min" (.cons (.idx (.idx (.loc 10) (.cst (.int 0))) (.cst (.int 1))) (.cons (.idx (.idx (.loc 10) (.cst (.int 1))) (.cst (.int 1))) .nil))) .nil))) (.tup (.cons (.blt "max" (.cons (.idx (.idx (.loc 10) (.cst (.int 0))) (.cst (.int 0))) (.cons (.idx (.idx (.loc 10) (.cst (.int 1))) (.cst (.int 0))) .nil))) (.cons (.blt "max" (.cons (.idx (.idx (.loc 10) (.cst (.int 0))) (.cst (.int 1))) (.cons (.idx (.idx (.loc 10) (.cst (.int 1))) (.cst (.int 1))) .nil))) .nil)))) .nil))))
  .nil)
def i__law_seen_r2 : ISs := (.cons (.ifs (.cmp .le (.loc 9) (.cst (.int 0))) (.cons (.ret (.ite (.cmp .eq (.loc 4) (.cst (.str "least"))) (.loc 5) (.loc 6)))
  .nil) .nil)
  (.cons (.ifs (.cmp .ge (.loc 8) (.cst (.int 0))) (.cons (.ret (.ite (.cmp .eq (.loc 4) (.cst (.str "least"))) (.loc 6) (.loc 5)))
  .nil) .nil)
  (.cons (.asg (.nm 10) (.lst (.cons (.call "_law_span" (.cons (.loc 5) (.cons (.loc 2) .nil))) (.cons (.call "_law_span" (.cons (.loc 6) (.cons (.loc 2) .nil))) .nil))))
  i__law_seen_r1)))
def i__law_seen_r3 : ISs := (.cons (.ifs (.cmp .eq (.loc 4) (.cst (.str "less"))) (.cons (.ret (.loc 7))
  .nil) .nil)
  (.cons (.asg (.tp [(.nm 8), (.nm 9)]) (.call "_law_span" (.cons (.loc 7) (.cons (.loc 2) .nil))))
  i__law_seen_r2))
def i__law_seen_r4 : ISs := (.cons (.asg (.nm 7) (.call "_law_added" (.cons (.loc 5) (.cons (.call "_law_times" (.cons (.loc 6) (.cons (.neg (.cst (.int 1))) .nil))) (.cons (.loc 2) .nil)))))
  i__law_seen_r3)
def i__law_seen_r5 : ISs := (.cons (.ifs (.cmp .eq (.loc 4) (.cst (.str "plus"))) (.cons (.ret (.call "_law_added" (.cons (.loc 5) (.cons (.loc 6) (.cons (.loc 2) .nil)))))
  .nil) .nil)
  i__law_seen_r4)
def i__law_seen_r6 : ISs := (.cons (.asg (.nm 6) (.call "_law_seen" (.cons (.idx (.loc 0) (.cst (.int 2))) (.cons (.loc 1) (.cons (.loc 2) (.cons (.loc 3) .nil))))))
  i__law_seen_r5)
def i__law_seen_r7 : ISs := (.cons (.ifs (.cmp .eq (.loc 4) (.cst (.str "part"))) (.cons (.ifs (.and (.cmp .eq (.idx (.loc 5) (.cst (.int 0))) (.cst (.str "form"))) (.cmp .eq (.blt "len" (.cons (.comp (.loc 11) (.nm 11) (.seq (.idx (.idx (.loc 5) (.cst (.int 1))) (.cst (.int 1)))) (.cmp .ne (.bin .mod (.loc 11) (.idx (.loc 0) (.cst (.int 2)))) (.cst (.int 0))) [11]) .nil)) (.cst (.int 0)))) (.cons (.ret (.tup (.cons (.cst (.str "form")) (.cons (.tup (.cons (.bin .fdiv (.idx (.idx (.loc 5) (.cst (.int 1))) (.cst (.int 0))) (.idx (.loc 0) (.cst (.int 2)))) (.cons (.blt "tuple" (.cons (.comp (.bin .fdiv (.loc 11) (.idx (.loc 0) (.cst (.int 2)))) (.nm 11) (.seq (.idx (.idx (.loc 5) (.cst (.int 1))) (.cst (.int 1)))) .yes [11]) .nil)) .nil))) .nil))))
  .nil) .nil)
  i__law_seen_r0) .nil)
  i__law_seen_r6)
def i__law_seen_r8 : ISs := (.cons (.asg (.nm 5) (.call "_law_seen" (.cons (.idx (.loc 0) (.cst (.int 1))) (.cons (.loc 1) (.cons (.loc 2) (.cons (.loc 3) .nil))))))
  i__law_seen_r7)
def i__law_seen_r9 : ISs := (.cons (.ifs (.cmp .eq (.loc 4) (.cst (.str "term"))) (.cons (.ret (.idx (.loc 3) (.idx (.loc 0) (.cst (.int 1)))))
  .nil) .nil)
  (.cons (.ifs (.cmp .eq (.loc 4) (.cst (.str "times"))) (.cons (.ret (.call "_law_times" (.cons (.call "_law_seen" (.cons (.idx (.loc 0) (.cst (.int 2))) (.cons (.loc 1) (.cons (.loc 2) (.cons (.loc 3) .nil))))) (.cons (.idx (.loc 0) (.cst (.int 1))) .nil))))
  .nil) .nil)
  i__law_seen_r8))
def i__law_seen : ISs := (.cons (.asg (.nm 4) (.idx (.loc 0) (.cst (.int 0))))
  (.cons (.ifs (.cmp .eq (.loc 4) (.cst (.str "num"))) (.cons (.ret (.tup (.cons (.cst (.str "form")) (.cons (.tup (.cons (.idx (.loc 0) (.cst (.int 1))) (.cons (.bin .mul (.tup (.cons (.cst (.int 0)) .nil)) (.blt "len" (.cons (.loc 1) .nil))) .nil))) .nil))))
  .nil) .nil)
  (.cons (.ifs (.cmp .eq (.loc 4) (.cst (.str "fact"))) (.cons (.ret (.tup (.cons (.cst (.str "form")) (.cons (.tup (.cons (.cst (.int 0)) (.cons (.blt "tuple" (.cons (.comp (.ite (.cmp .eq (.idx (.loc 12) (.cst (.int 0))) (.idx (.loc 0) (.cst (.int 1)))) (.cst (.int 1)) (.cst (.int 0))) (.nm 12) (.seq (.loc 1)) .yes [12]) .nil)) .nil))) .nil))))
  .nil) .nil)
  i__law_seen_r9)))
def f__law_seen : FD := ⟨4, 13, i__law_seen⟩
def i__law_seen_truth_r0 : ISs := (.cons (.ret (.ite (.cmp .is (.loc 8) (.cst .non)) (.cst .non) (.not (.loc 8))))
  .nil)
def i__law_seen_truth_r1 : ISs := (.cons (.ret (.ite (.cmp .mem (.cst .non) (.loc 9)) (.cst .non) (.cmp .eq (.loc 4) (.cst (.str "both")))))
  .nil)
def i__law_seen_truth_r2 : ISs := (.cons (.ifs (.cmp .mem (.cmp .eq (.loc 4) (.cst (.str "either"))) (.comp (.loc 8) (.nm 8) (.seq (.loc 9)) (.cmp .isn (.loc 8) (.cst .non)) [8])) (.cons (.ret (.cmp .eq (.loc 4) (.cst (.str "either"))))
  .nil) .nil)
  i__law_seen_truth_r1)
def i__law_seen_truth_r3 : ISs := (.cons (.ifs (.cmp .eq (.loc 4) (.cst (.str "below"))) (.cons (.ret (.ite (.cmp .lt (.loc 7) (.cst (.int 0))) (.cst (.bl true)) (.ite (.cmp .ge (.loc 6) (.cst (.int 0))) (.cst (.bl false)) (.cst .non))))
  .nil) .nil)
  (.cons (.ret (.ite (.or (.cmp .gt (.loc 6) (.cst (.int 0))) (.cmp .lt (.loc 7) (.cst (.int 0)))) (.cst (.bl false)) (.ite (.and (.cmp .eq (.loc 6) (.cst (.int 0))) (.cmp .eq (.loc 7) (.cst (.int 0)))) (.cst (.bl true)) (.cst .non))))
  .nil))
def i__law_seen_truth_r4 : ISs := (.cons (.asg (.tp [(.nm 6), (.nm 7)]) (.call "_law_span" (.cons (.loc 5) (.cons (.loc 2) .nil))))
  i__law_seen_truth_r3)
def i__law_seen_truth_r5 : ISs := (.cons (.asg (.nm 5) (.call "_law_added" (.cons (.call "_law_seen" (.cons (.idx (.loc 0) (.cst (.int 1))) (.cons (.loc 1) (.cons (.loc 2) (.cons (.loc 3) .nil))))) (.cons (.call "_law_times" (.cons (.call "_law_seen" (.cons (.idx (.loc 0) (.cst (.int 2))) (.cons (.loc 1) (.cons (.loc 2) (.cons (.loc 3) .nil))))) (.cons (.neg (.cst (.int 1))) .nil))) (.cons (.loc 2) .nil)))))
  i__law_seen_truth_r4)
def i__law_seen_truth_r6 : ISs := (.cons (.ifs (.cmp .mem (.loc 4) (.tup (.cons (.cst (.str "both")) (.cons (.cst (.str "either")) .nil)))) (.cons (.asg (.nm 9) (.lst (.cons (.call "_law_seen_truth" (.cons (.idx (.loc 0) (.cst (.int 1))) (.cons (.loc 1) (.cons (.loc 2) (.cons (.loc 3) .nil))))) (.cons (.call "_law_seen_truth" (.cons (.idx (.loc 0) (.cst (.int 2))) (.cons (.loc 1) (.cons (.loc 2) (.cons (.loc 3) .nil))))) .nil))))
  i__law_seen_truth_r2) .nil)
  i__law_seen_truth_r5)
def i__law_seen_truth : ISs := (.cons (.asg (.nm 4) (.idx (.loc 0) (.cst (.int 0))))
  (.cons (.ifs (.cmp .eq (.loc 4) (.cst (.str "true"))) (.cons (.ret (.cst (.bl true)))
  .nil) .nil)
  (.cons (.ifs (.cmp .eq (.loc 4) (.cst (.str "not"))) (.cons (.asg (.nm 8) (.call "_law_seen_truth" (.cons (.idx (.loc 0) (.cst (.int 1))) (.cons (.loc 1) (.cons (.loc 2) (.cons (.loc 3) .nil))))))
  i__law_seen_truth_r0) .nil)
  i__law_seen_truth_r6)))
def f__law_seen_truth : FD := ⟨4, 10, i__law_seen_truth⟩
/-! walks -/
section
variable {T : Str → Option FD}
def cb (cell : List Iv) : Prop := ∀ p ∈ cell, (-100 ≤ p.1 ∧ p.1 ≤ 100) ∧ (-100 ≤ p.2 ∧ p.2 ≤ 100)
theorem smr {i : Int} (h : -100 ≤ i ∧ i ≤ 100) (a : Int) : small64 a ∨ small64 i ∨ (a.natAbs < 2 ^ 4000 ∧ i.natAbs < 2 ^ 4000) := .inr (.inl (by unfold small64; omega))
theorem fsp_loop {k : Nat} {S : Sto} {X Y : Sl} : ∀ (xs : List Int) (cell : List Iv) (a b : Int) (s4 s5 s6 : Sl) (Z : Ends), cb cell → (∀ s4 s5 s6, Z.nx [X, Y, .val (.int (fsp xs cell a b).1), .val (.int (fsp xs cell a b).2), s4, s5, s6] S) →
    forL (wG (.tp [.nm 4, .tp [.nm 5, .nm 6]])) (wSs (Cl T k) i_form_span_b0) Z (List.zipWith (fun u v => D.tup [u, v]) (xs.map .int) (cell.map pr)) [X, Y, .val (.int a), .val (.int b), s4, s5, s6] S := by
  intro xs
  induction xs with
  | nil => intro cell a b s4 s5 s6 Z _ h; exact h _ _ _
  | cons x xs ih =>
    intro cell
    cases cell with
    | nil => intro a b s4 s5 s6 Z _ h; exact h _ _ _
    | cons p cell =>
      intro a b s4 s5 s6 Z hc h
      have hp := hc p (by simp)
      have hr : cb cell := fun q hq => hc q (by simp [hq])
      by_cases hx : 0 ≤ x
      · simp_arith only [List.map_cons, List.zipWith_cons_cons, forL, i_form_span_b0, pr, eq_true hx]
        refine ⟨smr hp.1 _, smr hp.2 _, ih cell _ _ _ _ _ Z hr fun s4 s5 s6 => ?_⟩
        simpa only [fsp, lof, hif, if_pos hx] using h s4 s5 s6
      · simp_arith only [List.map_cons, List.zipWith_cons_cons, forL, i_form_span_b0, pr, eq_false hx]
        refine ⟨smr hp.2 _, smr hp.1 _, ih cell _ _ _ _ _ Z hr fun s4 s5 s6 => ?_⟩
        simpa only [fsp, lof, hif, if_neg hx] using h s4 s5 s6
theorem w_form_span (hT : T "form_span" = some f_form_span) {k : Nat} {S : Sto} {P : D → Sto → Prop} {c : Int} {xs : List Int} {cell : List Iv} (hl : xs.length = cell.length) (hc : cb cell) (h : P (pr (fsp xs cell c c)) S) : Cl T (k + 1) "form_span" [.tup [.int c, rowD xs], cellD cell] S P := by
  refine ⟨_, hT, rfl, ?_⟩
  simp_arith only [f_form_span, i_form_span, rowD, cellD]
  refine ⟨by simp [hl], ?_⟩
  refine fsp_loop xs cell c c _ _ _ _ hc fun s4 s5 s6 => ?_
  simp_arith only [i_form_span_r0]
  exact h
theorem w_span_of (hT : T "span_of" = some f_span_of) (hF : T "form_span" = some f_form_span) {k : Nat} {S : Sto} {P : D → Sto → Prop} {s : Sn} {cell : List Iv} (hl : s.ok cell.length) (hc : cb cell) (h : P (pr (s.sp cell)) S) : Cl T (k + 2) "span_of" [s.d, cellD cell] S P := by
  refine ⟨_, hT, rfl, ?_⟩
  cases s with
  | form c xs =>
    simp_arith only [f_span_of, i_span_of, Sn.d]
    refine w_form_span hF hl hc ?_
    try simp_arith only [true_and]
    exact h
  | span lo hi =>
    simp_arith only [f_span_of, i_span_of, Sn.d]
    exact h
theorem flat_rep (n : Nat) : (List.replicate n [D.int 0]).flatten = (List.replicate n (0 : Int)).map .int := by
  induction n with
  | zero => rfl
  | succ n ih => rw [List.replicate_succ, List.flatten_cons, ih, List.replicate_succ]; rfl
theorem w_constant (hT : T "constant" = some f_constant) {k : Nat} {S : Sto} {P : D → Sto → Prop} {c : Int} {n : Nat} (hn : n ≤ 1000) (h : P (.tup [.int c, rowD (List.replicate n 0)]) S) : Cl T (k + 1) "constant" [.int c, .int n] S P := by
  refine ⟨_, hT, rfl, ?_⟩
  simp_arith only [f_constant, i_constant]
  refine ⟨⟨by simp, by omega, by omega, by omega⟩, ?_⟩
  rw [Int.toNat_natCast, flat_rep]
  exact h
theorem zip_g (xs ys : List Int) : List.zipWith (fun u v => D.tup [u, v]) (xs.map .int) (ys.map .int) = (xs.zip ys).map fun p => D.tup [.int p.1, .int p.2] := by
  induction xs generalizing ys with
  | nil => rfl
  | cons x xs ih => cases ys with
    | nil => rfl
    | cons y ys => simp [ih]
theorem zip_f (f : Int) (xs ys : List Int) : ((xs.zip ys).map fun p => D.int (p.1 + f * p.2)) = (List.zipWith (fun x y => x + f * y) xs ys).map .int := by
  induction xs generalizing ys with
  | nil => rfl
  | cons x xs ih => cases ys with
    | nil => rfl
    | cons y ys => simp [ih]
theorem w_form_sum (hT : T "form_sum" = some f_form_sum) {k : Nat} {S : Sto} {P : D → Sto → Prop} {c e f : Int} {xs ys : List Int} (hl : xs.length = ys.length) (hs : xs.length ≤ 1000) (hf : -100 ≤ f ∧ f ≤ 100) (h : P (.tup [.int (c + f * e), rowD (List.zipWith (fun x y => x + f * y) xs ys)]) S) : Cl T (k + 1) "form_sum" [.tup [.int c, rowD xs], .tup [.int e, rowD ys], .int f] S P := by
  refine ⟨_, hT, rfl, ?_⟩
  simp_arith only [f_form_sum, i_form_sum, rowD]
  refine ⟨sm hf _, by simp [hl], by simp, ?_⟩
  rw [zip_g]
  refine compL_m (α := Int × Int) (fun p => .tup [.int p.1, .int p.2]) (fun p => .int (p.1 + f * p.2)) (xs.zip ys) (by rw [sizeL]; simp; omega) ?_ ?_
  · intro x hx K acc ha hK
    simp_arith only [true_and]
    exact ⟨sm hf _, ha, hK⟩
  · rw [zip_f]
    try simp_arith only [true_and]
    exact h
theorem zip_rep (f : Int) : ∀ xs : List Int, List.zipWith (fun x y => x + f * y) (List.replicate xs.length 0) xs = xs.map (f * ·)
  | [] => rfl
  | x :: xs => by rw [List.length_cons, List.replicate_succ, List.zipWith_cons_cons, zip_rep f xs]; simp
theorem w_seen_times (hT : T "seen_times" = some f_seen_times) (hS : T "form_sum" = some f_form_sum) (hC : T "constant" = some f_constant) {k : Nat} {S : Sto} {P : D → Sto → Prop} {s : Sn} {n : Nat} {f : Int} (ho : s.ok n) (hn : n ≤ 1000) (hf : -100 ≤ f ∧ f ≤ 100) (h : P (s.times f).d S) : Cl T (k + 2) "seen_times" [s.d, .int f] S P := by
  refine ⟨_, hT, rfl, ?_⟩
  cases s with
  | form c xs =>
    have ho : xs.length = n := ho
    simp_arith only [f_seen_times, i_seen_times, Sn.d, rowD, List.length_map]
    refine w_constant hC (by omega) ?_
    try simp_arith only [true_and]
    refine w_form_sum hS (by simp) (by simp; omega) hf ?_
    try simp_arith only [true_and]
    rw [Int.zero_add, zip_rep]
    exact h
  | span lo hi =>
    simp_arith only [f_seen_times, i_seen_times, i_seen_times_r0, Sn.d, pr]
    by_cases h0 : 0 ≤ f
    · rw [Sn.times_pos h0] at h
      simp_arith only [eq_true h0]
      exact ⟨sm hf _, sm hf _, h⟩
    · rw [Sn.times_neg h0] at h
      simp_arith only [eq_false h0]
      exact ⟨sm hf _, sm hf _, h⟩
theorem add_times (f : Int) (xs ys : List Int) : List.zipWith (fun x y => x + f * y) xs ys = List.zipWith (· + ·) xs (ys.map (f * ·)) := by
  rw [List.zipWith_map_right]
theorem times_one (s : Sn) : s.times 1 = s := by
  cases s <;> simp [Sn.times]
structure HSeen (T : Str → Option FD) : Prop where
  span_of : T "span_of" = some f_span_of
  form_span : T "form_span" = some f_form_span
  form_sum : T "form_sum" = some f_form_sum
  constant : T "constant" = some f_constant
  times : T "seen_times" = some f_seen_times
  sum : T "seen_sum" = some f_seen_sum
  part : T "seen_part" = some f_seen_part
  choice : T "seen_choice" = some f_seen_choice
  amount : T "seen_amount" = some f_seen_amount
  truth : T "seen_truth" = some f_seen_truth
  place : T "place_of" = some f_place_of
theorem w_seen_sum (H : HSeen T) {k : Nat} {S : Sto} {P : D → Sto → Prop} {a b : Sn} {cell : List Iv} {f : Int} (ha : a.ok cell.length) (hb : b.ok cell.length) (hn : cell.length ≤ 1000) (hc : cb cell) (hf : -100 ≤ f ∧ f ≤ 100) (h : P (a.add cell (b.times f)).d S) : Cl T (k + 3) "seen_sum" [a.d, b.d, .int f, cellD cell] S P := by
  refine ⟨_, H.sum, rfl, ?_⟩
  have spans : a.add cell (b.times f) = .span ((a.sp cell).1 + ((b.times f).sp cell).1) ((a.sp cell).2 + ((b.times f).sp cell).2) → ∀ (x4 x5 x6 x7 : Sl) (Z : Ends), Z.rt = P → wSs (Cl T (k + 2)) i_seen_sum_r2 [.val a.d, .val b.d, .val (.int f), .val (cellD cell), x4, x5, x6, x7] S Z := fun e x4 x5 x6 x7 Z hZ => by
    simp_arith only [i_seen_sum_r2]
    refine w_span_of H.span_of H.form_span ha hc ?_
    simp_arith only [pr, i_seen_sum_r1]
    refine w_seen_times H.times H.form_sum H.constant hb hn hf ?_
    try simp_arith only [true_and]
    refine w_span_of H.span_of H.form_span (Sn.times_ok f hb) hc ?_
    simp_arith only [pr, i_seen_sum_r0, hZ]
    rw [e] at h
    exact h
  cases a with
  | form c xs =>
    cases b with
    | form e ys =>
      have ha : xs.length = cell.length := ha
      have hb : ys.length = cell.length := hb
      simp_arith only [f_seen_sum, i_seen_sum, Sn.d]
      refine w_form_sum H.form_sum (by omega) (by omega) hf ?_
      try simp_arith only [true_and]
      rw [add_times]
      exact h
    | span lo hi =>
      simp_arith only [f_seen_sum, i_seen_sum, Sn.d]
      refine spans ?_ _ _ _ _ _ rfl
      by_cases h0 : 0 ≤ f
      · rw [Sn.times_pos h0]; rfl
      · rw [Sn.times_neg h0]; rfl
  | span lo hi =>
    simp_arith only [f_seen_sum, i_seen_sum, Sn.d]
    exact spans rfl _ _ _ _ _ rfl
theorem allB_bl (l : List Bool) : allB (l.map .bl) = some l := by
  induction l with
  | nil => rfl
  | cons b l ih => simp only [List.map_cons, allB, ih, Option.map_some]
theorem w_seen_part (H : HSeen T) {k : Nat} {S : Sto} {P : D → Sto → Prop} {s : Sn} {cell : List Iv} {i : Int} (ho : s.ok cell.length) (hn : cell.length ≤ 1000) (hc : cb cell) (hi : 1 ≤ i ∧ i ≤ 100) (h : P (s.part cell i).d S) : Cl T (k + 3) "seen_part" [s.d, .int i, cellD cell] S P := by
  refine ⟨_, H.part, rfl, ?_⟩
  have sm9 : 0 < i ∧ i.natAbs < 2 ^ 9000 := ⟨by omega, pow9 (by omega) (by omega)⟩
  have spans : s.part cell i = .span ((s.sp cell).1 / i) ((s.sp cell).2 / i) → ∀ (x3 x4 x5 : Sl) (Z : Ends), Z.rt = P → wSs (Cl T (k + 2)) i_seen_part_r1 [.val s.d, .val (.int i), .val (cellD cell), x3, x4, x5] S Z := fun e x3 x4 x5 Z hZ => by
    simp_arith only [i_seen_part_r1]
    refine w_span_of H.span_of H.form_span ho hc ?_
    simp_arith only [pr, i_seen_part_r0, hZ]
    rw [e] at h
    exact ⟨sm9, sm9, h⟩
  cases s with
  | form c xs =>
    have ho : xs.length = cell.length := ho
    simp_arith only [f_seen_part, i_seen_part, Sn.d, rowD]
    refine ⟨by simp, ?_⟩
    refine compL_m (α := Int) .int (fun x => .bl (x.fmod i == 0)) xs (by rw [sizeL]; omega) ?_ ?_
    · intro x hx K acc ha hK
      simp_arith only [true_and]
      exact ⟨by omega, ha, hK⟩
    · have e := allB_bl (xs.map fun x => x.fmod i == 0)
      rw [List.map_map] at e
      have e2 : ((xs.map fun x => x.fmod i == 0).all id) = (xs.all fun x => x.fmod i == 0) := by simp
      simp only [Function.comp_def] at e
      simp_arith only [e, e2]
      by_cases ha : (xs.all fun x => x.fmod i == 0) = true
      · rw [Sn.part_yes ha] at h
        simp_arith only [ha]
        refine ⟨sm9, by simp, ?_⟩
        refine compL_m (α := Int) .int (fun x => .int (x / i)) xs (by rw [sizeL]; omega) ?_ ?_
        · intro x hx K acc ha hK
          simp_arith only [true_and]
          exact ⟨sm9, ha, hK⟩
        · try simp_arith only [true_and]
          simpa [Sn.d, rowD, List.map_map, Function.comp_def] using h
      · have sp := spans (Sn.part_no ha)
        simp only [Bool.not_eq_true] at ha
        simp_arith only [ha]
        refine sp _ _ _ _ rfl
  | span lo hi =>
    simp_arith only [f_seen_part, i_seen_part, Sn.d]
    exact spans rfl _ _ _ _ rfl
theorem w_seen_choice (H : HSeen T) {k : Nat} {S : Sto} {P : D → Sto → Prop} {a b : Sn} {cell : List Iv} {l : Bool} (ha : a.ok cell.length) (hb : b.ok cell.length) (hn : cell.length ≤ 1000) (hc : cb cell) (hok : cellOk cell) (h : P (a.choice cell l b).d S) : Cl T (k + 4) "seen_choice" [a.d, b.d, .bl l, cellD cell] S P := by
  refine ⟨_, H.choice, rfl, ?_⟩
  simp_arith only [f_seen_choice, i_seen_choice]
  refine w_seen_sum H ha hb hn hc (by decide) ?_
  try simp_arith only [true_and]
  refine w_span_of H.span_of H.form_span (Sn.add_ok hok ha (Sn.times_ok _ hb)) hc ?_
  unfold Sn.choice at h
  generalize (a.add cell (b.times (-1))).sp cell = g at h
  simp_arith only [pr, i_seen_choice_r2]
  by_cases g2 : g.2 ≤ 0
  · rw [if_pos g2] at h
    simp_arith only [eq_true g2]
    cases l <;> simp_arith only [true_and] at h ⊢ <;> exact h
  · rw [if_neg g2] at h
    by_cases g1 : 0 ≤ g.1
    · rw [if_pos g1] at h
      simp_arith only [eq_false g2, eq_true g1]
      cases l <;> simp_arith only [true_and] at h ⊢ <;> exact h
    · rw [if_neg g1] at h
      simp_arith only [eq_false g2, eq_false g1]
      refine w_span_of H.span_of H.form_span ha hc ?_
      simp_arith only [pr, i_seen_choice_r1]
      refine w_span_of H.span_of H.form_span hb hc ?_
      simp_arith only [pr, i_seen_choice_r0]
      cases l <;> simp_arith only [true_and] at h ⊢ <;> exact h
/-- what a dict of seen things knows -/
def knowsS (kd : D) (ts : List Str) (n : Nat) (kn : Str → Sn) : Prop := ∃ ks vs, kd = .dct ks vs ∧ ∀ t ∈ ts, dLook ks vs t = some (kn t).d ∧ (kn t).ok n
theorem unit_eq (n j : Nat) : ((List.range n).map fun (k : Nat) => if ((k : Int) == (j : Int)) = true then D.int 1 else D.int 0) = (unit n j).map .int := by
  unfold unit
  rw [List.map_map]
  apply List.map_congr_left
  intro a _
  simp only [Function.comp_def, beq_iff_eq, Int.natCast_inj]
  split <;> rfl
theorem okPL : ((D.str "plus").eqOk = true) = True ∧ ((D.str "less").eqOk = true) = True ∧ ((D.str "least").eqOk = true) = True ∧ ((D.str "most").eqOk = true) = True ∧ ((D.tup [.str "plus", .str "less"]).eqOk = true) = True := by
  refine ⟨eq_true ?_, eq_true ?_, eq_true ?_, eq_true ?_, eq_true ?_⟩ <;> decide +kernel
theorem okBE : ((D.str "both").eqOk = true) = True ∧ ((D.str "either").eqOk = true) = True ∧ ((D.str "is").eqOk = true) = True ∧ ((D.str "below").eqOk = true) = True ∧ ((D.tup [.str "both", .str "either"]).eqOk = true) = True := by
  refine ⟨eq_true ?_, eq_true ?_, eq_true ?_, eq_true ?_, eq_true ?_⟩ <;> decide +kernel
theorem w_seen_amount (H : HSeen T) {fs : List Fc} (hnm : named fs) (hl : fs.length ≤ 4) {cell : List Iv} (hcl : cell.length = fs.length) (hc : cb cell) (hok : cellOk cell) {kd : D} {ts : List Str} {kn : Str → Sn} (hk : knowsS kd ts fs.length kn) {S : Sto} :
    ∀ (a : Am) (N : Nat) (P : D → Sto → Prop), a.ok fs.length ts → a.dep + 5 ≤ N → P (a.seen fs.length cell kn).d S → Cl T N "seen_amount" [a.d, .tup (fs.map Fc.d), cellD cell, kd] S P := by
  obtain ⟨ks, vs, rfl, hk⟩ := hk
  have hn : cell.length ≤ 1000 := by omega
  have sok : ∀ a : Am, a.ok fs.length ts → (a.seen fs.length cell kn).ok cell.length := fun a ha => by rw [hcl]; exact seen_ok hok (fun t ht => (hk t ht).2) a ha
  intro a
  induction a with
  | num i =>
    intro N P ho hN h
    obtain ⟨N, rfl⟩ : ∃ M, N = M + 2 := ⟨N - 2, by omega⟩
    refine ⟨_, H.amount, rfl, ?_⟩
    simp_arith only [f_seen_amount, i_seen_amount, Am.d, List.length_map]
    refine w_constant H.constant (by omega) ?_
    try simp_arith only [true_and]
    exact h
  | fact j =>
    intro N P ho hN h
    obtain ⟨N, rfl⟩ : ∃ M, N = M + 2 := ⟨N - 2, by omega⟩
    refine ⟨_, H.amount, rfl, ?_⟩
    have ho : j < fs.length := ho
    simp_arith only [f_seen_amount, i_seen_amount, i_seen_amount_r6, Am.d, List.length_map]
    refine w_place_of H.place hnm hl ho ?_
    have l1 : lim62 ((fs.length : Nat) : Int) := by unfold lim62; omega
    simp_arith only [i_seen_amount_r0, lim_0, l1, Int.sub_zero, Int.toNat_natCast]
    refine ⟨by simp, ?_⟩
    rw [rng0]
    refine compL_m (α := Nat) (fun (k : Nat) => D.int (k : Int)) (fun (k : Nat) => if ((k : Int) == (j : Int)) = true then D.int 1 else D.int 0) (List.range fs.length) (by rw [sizeL]; simp; omega) ?_ ?_
    · intro x hx K acc ha hK
      simp_arith only [true_and]
      refine iteI (fun h => ?_) (fun h => ?_)
      · rw [if_pos h] at hK; exact ⟨ha, hK⟩
      · rw [if_neg h] at hK; exact ⟨ha, hK⟩
    · rw [unit_eq]
      try simp_arith only [true_and]
      exact h
  | term t =>
    intro N P ho hN h
    obtain ⟨N, rfl⟩ : ∃ M, N = M + 1 := ⟨N - 1, by omega⟩
    refine ⟨_, H.amount, rfl, ?_⟩
    simp_arith only [f_seen_amount, i_seen_amount, i_seen_amount_r6, i_seen_amount_r5, Am.d, (hk t ho).1]
    exact h
  | times i a ih =>
    intro N P ho hN h
    simp only [Am.dep] at hN
    obtain ⟨N, rfl⟩ : ∃ M, N = M + 5 := ⟨N - 5, by omega⟩
    refine ⟨_, H.amount, rfl, ?_⟩
    simp_arith only [f_seen_amount, i_seen_amount, i_seen_amount_r6, i_seen_amount_r5, Am.d]
    refine ih (N + 4) _ ho.2 (by omega) ?_
    try simp_arith only [true_and]
    have := ho.1
    refine w_seen_times H.times H.form_sum H.constant (sok a ho.2) hn (by omega) ?_
    try simp_arith only [true_and]
    exact h
  | part a i ih =>
    intro N P ho hN h
    simp only [Am.dep] at hN
    obtain ⟨N, rfl⟩ : ∃ M, N = M + 5 := ⟨N - 5, by omega⟩
    refine ⟨_, H.amount, rfl, ?_⟩
    simp_arith only [f_seen_amount, i_seen_amount, i_seen_amount_r6, i_seen_amount_r5, i_seen_amount_r4, Am.d]
    refine ih (N + 4) _ ho.1 (by omega) ?_
    try simp_arith only [true_and]
    have := ho.2
    refine w_seen_part H (sok a ho.1) hn hc (by omega) ?_
    try simp_arith only [true_and]
    exact h
  | plus a b iha ihb =>
    intro N P ho hN h
    simp only [Am.dep] at hN
    obtain ⟨N, rfl⟩ : ∃ M, N = M + 5 := ⟨N - 5, by omega⟩
    refine ⟨_, H.amount, rfl, ?_⟩
    simp_arith only [f_seen_amount, i_seen_amount, i_seen_amount_r6, i_seen_amount_r5, i_seen_amount_r4, i_seen_amount_r3, Am.d]
    refine iha (N + 4) _ ho.1 (by omega) ?_
    try simp_arith only [true_and]
    refine ihb (N + 4) _ ho.2 (by omega) ?_
    simp_arith only [i_seen_amount_r2, okPL, List.any_cons, List.any_nil, Bool.or_false, Bool.false_or, Bool.true_or, Bool.or_true]
    refine w_seen_sum H (sok a ho.1) (sok b ho.2) hn hc (by decide) ?_
    try simp_arith only [true_and]
    rw [times_one]
    exact h
  | less a b iha ihb =>
    intro N P ho hN h
    simp only [Am.dep] at hN
    obtain ⟨N, rfl⟩ : ∃ M, N = M + 5 := ⟨N - 5, by omega⟩
    refine ⟨_, H.amount, rfl, ?_⟩
    simp_arith only [f_seen_amount, i_seen_amount, i_seen_amount_r6, i_seen_amount_r5, i_seen_amount_r4, i_seen_amount_r3, Am.d]
    refine iha (N + 4) _ ho.1 (by omega) ?_
    try simp_arith only [true_and]
    refine ihb (N + 4) _ ho.2 (by omega) ?_
    simp_arith only [i_seen_amount_r2, okPL, List.any_cons, List.any_nil, Bool.or_false, Bool.false_or, Bool.true_or, Bool.or_true]
    refine w_seen_sum H (sok a ho.1) (sok b ho.2) hn hc (by decide) ?_
    try simp_arith only [true_and]
    exact h
  | least a b iha ihb =>
    intro N P ho hN h
    simp only [Am.dep] at hN
    obtain ⟨N, rfl⟩ : ∃ M, N = M + 5 := ⟨N - 5, by omega⟩
    refine ⟨_, H.amount, rfl, ?_⟩
    simp_arith only [f_seen_amount, i_seen_amount, i_seen_amount_r6, i_seen_amount_r5, i_seen_amount_r4, i_seen_amount_r3, Am.d]
    refine iha (N + 4) _ ho.1 (by omega) ?_
    try simp_arith only [true_and]
    refine ihb (N + 4) _ ho.2 (by omega) ?_
    simp_arith only [i_seen_amount_r2, i_seen_amount_r1, okPL, List.any_cons, List.any_nil, Bool.or_false, Bool.false_or, Bool.true_or, Bool.or_true]
    refine w_seen_choice H (sok a ho.1) (sok b ho.2) hn hc hok ?_
    try simp_arith only [true_and]
    exact h
  | most a b iha ihb =>
    intro N P ho hN h
    simp only [Am.dep] at hN
    obtain ⟨N, rfl⟩ : ∃ M, N = M + 5 := ⟨N - 5, by omega⟩
    refine ⟨_, H.amount, rfl, ?_⟩
    simp_arith only [f_seen_amount, i_seen_amount, i_seen_amount_r6, i_seen_amount_r5, i_seen_amount_r4, i_seen_amount_r3, Am.d]
    refine iha (N + 4) _ ho.1 (by omega) ?_
    try simp_arith only [true_and]
    refine ihb (N + 4) _ ho.2 (by omega) ?_
    simp_arith only [i_seen_amount_r2, i_seen_amount_r1, okPL, List.any_cons, List.any_nil, Bool.or_false, Bool.false_or, Bool.true_or, Bool.or_true]
    refine w_seen_choice H (sok a ho.1) (sok b ho.2) hn hc hok ?_
    try simp_arith only [true_and]
    exact h
def obD : Option Bool → D
  | none => .non
  | some b => .bl b
theorem nb1 (b : Bool) : eqQ .non (.bl b) = true := rfl
theorem nb2 (b : Bool) : D.eq .non (.bl b) = false := rfl
theorem bb1 : (true == true) = true := rfl
theorem bb2 : (true == false) = false := rfl
theorem bb3 : (false == true) = false := rfl
theorem bb4 : (false == false) = true := rfl
theorem w_seen_truth (H : HSeen T) {fs : List Fc} (hnm : named fs) (hl : fs.length ≤ 4) {cell : List Iv} (hcl : cell.length = fs.length) (hc : cb cell) (hok : cellOk cell) {kd : D} {ts : List Str} {kn : Str → Sn} (hk : knowsS kd ts fs.length kn) {S : Sto} :
    ∀ (c : Cn) (N : Nat) (P : D → Sto → Prop), c.ok fs.length ts → c.dep + 6 ≤ N → P (obD (c.seen fs.length cell kn)) S → Cl T N "seen_truth" [c.d, .tup (fs.map Fc.d), cellD cell, kd] S P := by
  have hn : cell.length ≤ 1000 := by omega
  have sok : ∀ a : Am, a.ok fs.length ts → (a.seen fs.length cell kn).ok cell.length := fun a ha => by
    obtain ⟨ks, vs, _, hk⟩ := hk
    rw [hcl]; exact seen_ok hok (fun t ht => (hk t ht).2) a ha
  intro c
  induction c with
  | tru =>
    intro N P ho hN h
    obtain ⟨N, rfl⟩ : ∃ M, N = M + 1 := ⟨N - 1, by omega⟩
    refine ⟨_, H.truth, rfl, ?_⟩
    simp_arith only [f_seen_truth, i_seen_truth, Cn.d]
    exact h
  | not c ih =>
    intro N P ho hN h
    simp only [Cn.dep] at hN
    obtain ⟨N, rfl⟩ : ∃ M, N = M + 1 := ⟨N - 1, by omega⟩
    refine ⟨_, H.truth, rfl, ?_⟩
    simp_arith only [f_seen_truth, i_seen_truth, Cn.d]
    refine ih N _ ho (by omega) ?_
    simp only [Cn.seen] at h
    cases hx : c.seen fs.length cell kn <;> rw [hx] at h <;> simp_arith only [obD, i_seen_truth_r0] <;> exact h
  | is a b =>
    intro N P ho hN h
    simp only [Cn.dep] at hN
    obtain ⟨N, rfl⟩ : ∃ M, N = M + 5 := ⟨N - 5, by omega⟩
    refine ⟨_, H.truth, rfl, ?_⟩
    simp_arith only [f_seen_truth, i_seen_truth, i_seen_truth_r5, Cn.d, okBE, List.any_cons, List.any_nil, Bool.or_false, Bool.false_or, Bool.true_or, Bool.or_true]
    simp_arith only [i_seen_truth_r4]
    refine w_seen_amount H hnm hl hcl hc hok hk a (N + 4) _ ho.1 (by omega) ?_
    try simp_arith only [true_and]
    refine w_seen_amount H hnm hl hcl hc hok hk b (N + 4) _ ho.2 (by omega) ?_
    try simp_arith only [true_and]
    refine w_seen_sum H (sok a ho.1) (sok b ho.2) hn hc (by decide) ?_
    simp_arith only [i_seen_truth_r3]
    refine w_span_of H.span_of H.form_span (Sn.add_ok hok (sok a ho.1) (Sn.times_ok _ (sok b ho.2))) hc ?_
    simp only [Cn.seen] at h
    generalize Sn.sp cell _ = g at h
    simp_arith only [pr, i_seen_truth_r2]
    simp_arith only [gapT] at h
    by_cases g1 : 0 < g.1
    · rw [if_pos (.inl g1)] at h
      simp_arith only [eq_true g1]
      exact h
    · by_cases g2 : g.2 < 0
      · rw [if_pos (.inr g2)] at h
        simp_arith only [eq_false g1, eq_true g2]
        exact h
      · rw [if_neg (by omega)] at h
        by_cases e1 : g.1 = 0
        · by_cases e2 : g.2 = 0
          · rw [if_pos ⟨e1, e2⟩] at h
            simp_arith only [e1, e2]
            exact h
          · rw [if_neg (by omega)] at h
            have e3 : (g.1 == g.2) = false := by simp only [beq_eq_false_iff_ne, ne_eq]; omega
            simp_arith only [eq_false g1, eq_false g2, e3]
            exact h
        · rw [if_neg (by omega)] at h
          by_cases e4 : g.1 = g.2
          · omega
          · have e3 : (g.1 == g.2) = false := by simp only [beq_eq_false_iff_ne, ne_eq]; omega
            simp_arith only [eq_false g1, eq_false g2, e3]
            exact h
  | lt a b =>
    intro N P ho hN h
    simp only [Cn.dep] at hN
    obtain ⟨N, rfl⟩ : ∃ M, N = M + 5 := ⟨N - 5, by omega⟩
    refine ⟨_, H.truth, rfl, ?_⟩
    simp_arith only [f_seen_truth, i_seen_truth, i_seen_truth_r5, Cn.d, okBE, List.any_cons, List.any_nil, Bool.or_false, Bool.false_or, Bool.true_or, Bool.or_true]
    simp_arith only [i_seen_truth_r4]
    refine w_seen_amount H hnm hl hcl hc hok hk a (N + 4) _ ho.1 (by omega) ?_
    try simp_arith only [true_and]
    refine w_seen_amount H hnm hl hcl hc hok hk b (N + 4) _ ho.2 (by omega) ?_
    try simp_arith only [true_and]
    refine w_seen_sum H (sok a ho.1) (sok b ho.2) hn hc (by decide) ?_
    simp_arith only [i_seen_truth_r3]
    refine w_span_of H.span_of H.form_span (Sn.add_ok hok (sok a ho.1) (Sn.times_ok _ (sok b ho.2))) hc ?_
    simp only [Cn.seen] at h
    generalize Sn.sp cell _ = g at h
    simp_arith only [pr, i_seen_truth_r2]
    simp_arith only [gapT] at h
    by_cases g2 : g.2 < 0
    · rw [if_pos g2] at h
      simp_arith only [eq_true g2]
      exact h
    · rw [if_neg g2] at h
      by_cases g1 : 0 ≤ g.1
      · rw [if_pos g1] at h
        simp_arith only [eq_false g2, eq_true g1]
        exact h
      · rw [if_neg g1] at h
        simp_arith only [eq_false g2, eq_false g1]
        exact h
  | both c e ihc ihe =>
    intro N P ho hN h
    simp only [Cn.dep] at hN
    obtain ⟨N, rfl⟩ : ∃ M, N = M + 1 := ⟨N - 1, by omega⟩
    refine ⟨_, H.truth, rfl, ?_⟩
    simp_arith only [f_seen_truth, i_seen_truth, i_seen_truth_r5, Cn.d, okBE, List.any_cons, List.any_nil, Bool.or_false, Bool.false_or, Bool.true_or, Bool.or_true]
    refine ihc N _ ho.1 (by omega) ?_
    try simp_arith only [true_and]
    refine ihe N _ ho.2 (by omega) ?_
    simp only [Cn.seen] at h
    generalize c.seen fs.length cell kn = x at h
    generalize e.seen fs.length cell kn = y at h
    rcases x with _ | (_ | _) <;> rcases y with _ | (_ | _) <;> simp_arith only [obD, i_seen_truth_r1, nb1, nb2, bb1, bb2, bb3, bb4] <;> simpa [strongly, obD] using h
  | either c e ihc ihe =>
    intro N P ho hN h
    simp only [Cn.dep] at hN
    obtain ⟨N, rfl⟩ : ∃ M, N = M + 1 := ⟨N - 1, by omega⟩
    refine ⟨_, H.truth, rfl, ?_⟩
    simp_arith only [f_seen_truth, i_seen_truth, i_seen_truth_r5, Cn.d, okBE, List.any_cons, List.any_nil, Bool.or_false, Bool.false_or, Bool.true_or, Bool.or_true]
    refine ihc N _ ho.1 (by omega) ?_
    try simp_arith only [true_and]
    refine ihe N _ ho.2 (by omega) ?_
    simp only [Cn.seen] at h
    generalize c.seen fs.length cell kn = x at h
    generalize e.seen fs.length cell kn = y at h
    rcases x with _ | (_ | _) <;> rcases y with _ | (_ | _) <;> simp_arith only [obD, i_seen_truth_r1, nb1, nb2, bb1, bb2, bb3, bb4] <;> simpa [strongly, obD] using h
end
end Q
/-! The walks of what is seen: the law's side. -/
namespace Q
open PySem
theorem nb3 (b : Bool) : D.eq (.bl b) .non = false := rfl
theorem nb4 : D.eq .non .non = true := rfl
theorem szb : ((0 : Nat) < sizeLine) = True := eq_true (by decide)
theorem okOb : ((D.lst ([] : List D)).eqOk = true) = True := eq_true (by decide +kernel)
section
variable {T : Str → Option FD}
theorem minlof {x : Int} {p : Iv} (h : p.1 ≤ p.2) : (if x * p.2 < x * p.1 then x * p.2 else x * p.1) = lof x p := by
  unfold lof
  by_cases h0 : 0 ≤ x
  · have := mul_lo h0 h
    rw [if_neg (by omega), if_pos h0]
  · have := mul_hi (n := x) (by omega) h
    rw [if_neg h0]; split <;> omega
theorem maxhif {x : Int} {p : Iv} (h : p.1 ≤ p.2) : (if x * p.1 < x * p.2 then x * p.2 else x * p.1) = hif x p := by
  unfold hif
  by_cases h0 : 0 ≤ x
  · have := mul_lo h0 h
    rw [if_pos h0]; split <;> omega
  · have := mul_hi (n := x) (by omega) h
    rw [if_neg h0, if_neg (by omega)]
structure HLaw (T : Str → Option FD) : Prop where
  fspan : T "_law_form_span" = some f__law_form_span
  span : T "_law_span" = some f__law_span
  times : T "_law_times" = some f__law_times
  added : T "_law_added" = some f__law_added
  seen : T "_law_seen" = some f__law_seen
  truth : T "_law_seen_truth" = some f__law_seen_truth
theorem lfs_loop {k : Nat} {S : Sto} {c0 : Int} {xs : List Int} {cell : List Iv} (hl : xs.length = cell.length) (hc : cb cell) (hok : cellOk cell) : ∀ (m i : Nat) (a b : Int) (s4 s5 : Sl) (Z : Ends), i + m = cell.length →
    (∀ s4 s5, Z.nx [.val (.tup [.int c0, .tup (xs.map .int)]), .val (.tup (cell.map pr)), .val (.int (fsp (xs.drop i) (cell.drop i) a b).1), .val (.int (fsp (xs.drop i) (cell.drop i) a b).2), s4, s5] S) →
    forL (wG (.nm 4)) (wSs (Cl T k) i__law_form_span_b0) Z ((List.range' i m).map fun (k : Nat) => D.int (k : Int)) [.val (.tup [.int c0, .tup (xs.map .int)]), .val (.tup (cell.map pr)), .val (.int a), .val (.int b), s4, s5] S := by
  intro m
  induction m with
  | zero =>
    intro i a b s4 s5 Z hi h
    have e1 : xs.drop i = [] := List.drop_eq_nil_of_le (by omega)
    rw [e1] at h
    exact h _ _
  | succ m ih =>
    intro i a b s4 s5 Z hi h
    have h1 : i < xs.length := by omega
    have h2 : i < cell.length := by omega
    rw [List.drop_eq_getElem_cons h1, List.drop_eq_getElem_cons h2, fsp] at h
    have hp := hc cell[i] (List.getElem_mem _)
    have ho := hok cell[i] (List.getElem_mem _)
    have e1 : L2.atI (xs.map D.int) (i : Int) = some (.int xs[i]) := atN (by rw [List.getElem?_map, List.getElem?_eq_getElem h1]; rfl)
    have e2 : L2.atI (cell.map pr) (i : Int) = some (pr cell[i]) := atN (by rw [List.getElem?_map, List.getElem?_eq_getElem h2]; rfl)
    rw [List.range'_succ]
    simp_arith only [List.map_cons, forL, i__law_form_span_b0, e1, e2]
    simp_arith only [pr, minlof ho, maxhif ho]
    refine ⟨smr hp.1 _, smr hp.2 _, ih (i + 1) _ _ _ _ _ (by omega) h⟩
theorem w_law_fspan (H : HLaw T) {k : Nat} {S : Sto} {P : D → Sto → Prop} {c : Int} {xs : List Int} {cell : List Iv} (hl : xs.length = cell.length) (hn : cell.length ≤ 1000) (hc : cb cell) (hok : cellOk cell) (h : P (pr (fsp xs cell c c)) S) : Cl T (k + 1) "_law_form_span" [.tup [.int c, rowD xs], cellD cell] S P := by
  refine ⟨_, H.fspan, rfl, ?_⟩
  have l1 : lim62 (cell.length : Int) := by unfold lim62; omega
  simp_arith only [f__law_form_span, i__law_form_span, rowD, cellD, List.length_map, lim_0, l1, Int.sub_zero, Int.toNat_natCast]
  rw [rng0, List.range_eq_range']
  refine lfs_loop hl hc hok _ 0 c c _ _ _ (by omega) fun s4 s5 => ?_
  simp_arith only [i__law_form_span_r0]
  exact h
theorem w_law_span (H : HLaw T) {k : Nat} {S : Sto} {P : D → Sto → Prop} {s : Sn} {cell : List Iv} (hl : s.ok cell.length) (hn : cell.length ≤ 1000) (hc : cb cell) (hok : cellOk cell) (h : P (pr (s.sp cell)) S) : Cl T (k + 2) "_law_span" [s.d, cellD cell] S P := by
  refine ⟨_, H.span, rfl, ?_⟩
  cases s with
  | form c xs =>
    simp_arith only [f__law_span, i__law_span, Sn.d]
    refine w_law_fspan H hl hn hc hok ?_
    try simp_arith only [true_and]
    exact h
  | span lo hi =>
    simp_arith only [f__law_span, i__law_span, Sn.d]
    exact h
theorem w_law_times (H : HLaw T) {k : Nat} {S : Sto} {P : D → Sto → Prop} {s : Sn} {n : Nat} {f : Int} (ho : s.ok n) (hn : n ≤ 1000) (hf : -100 ≤ f ∧ f ≤ 100) (h : P (s.times f).d S) : Cl T (k + 1) "_law_times" [s.d, .int f] S P := by
  refine ⟨_, H.times, rfl, ?_⟩
  cases s with
  | form c xs =>
    have ho : xs.length = n := ho
    simp_arith only [f__law_times, i__law_times, Sn.d, rowD]
    refine ⟨sm hf _, by simp, ?_⟩
    refine compL_m (α := Int) .int (fun x => .int (f * x)) xs (by rw [sizeL]; omega) ?_ ?_
    · intro x hx K acc ha hK
      simp_arith only [true_and]
      exact ⟨sm hf _, ha, hK⟩
    · try simp_arith only [true_and]
      simpa [Sn.d, Sn.times, rowD, List.map_map, Function.comp_def] using h
  | span lo hi =>
    have ho : lo ≤ hi := ho
    simp_arith only [f__law_times, i__law_times, i__law_times_r1, Sn.d, pr]
    refine ⟨by simp, ?_⟩
    refine compL_m (α := Int) .int (fun x => .int (f * x)) [lo, hi] (by simp [sizeL]) ?_ ?_
    · intro x hx K acc ha hK
      simp_arith only [true_and]
      exact ⟨sm hf _, ha, hK⟩
    · simp_arith only [i__law_times_r0]
      have e1 := minlof (x := f) (p := (lo, hi)) ho
      have e2 := maxhif (x := f) (p := (lo, hi)) ho
      simp only [lof, hif] at e1 e2
      rw [e1, e2]
      by_cases h0 : 0 ≤ f
      · rw [Sn.times_pos h0] at h
        rw [if_pos h0, if_pos h0]; exact h
      · rw [Sn.times_neg h0] at h
        rw [if_neg h0, if_neg h0]; exact h
theorem zip_f1 (xs ys : List Int) : ((xs.zip ys).map fun p => D.int (p.1 + p.2)) = (List.zipWith (· + ·) xs ys).map .int := by
  induction xs generalizing ys with
  | nil => rfl
  | cons x xs ih => cases ys with
    | nil => rfl
    | cons y ys => simp [ih]
theorem w_law_added (H : HLaw T) {k : Nat} {S : Sto} {P : D → Sto → Prop} {a b : Sn} {cell : List Iv} (ha : a.ok cell.length) (hb : b.ok cell.length) (hn : cell.length ≤ 1000) (hc : cb cell) (hok : cellOk cell) (h : P (a.add cell b).d S) : Cl T (k + 3) "_law_added" [a.d, b.d, cellD cell] S P := by
  refine ⟨_, H.added, rfl, ?_⟩
  have spans : a.add cell b = .span ((a.sp cell).1 + (b.sp cell).1) ((a.sp cell).2 + (b.sp cell).2) → ∀ (x3 x4 x5 x6 : Sl) (Z : Ends), Z.rt = P → wSs (Cl T (k + 2)) i__law_added_r1 [.val a.d, .val b.d, .val (cellD cell), x3, x4, x5, x6] S Z := fun e x3 x4 x5 x6 Z hZ => by
    simp_arith only [i__law_added_r1]
    refine w_law_span H ha hn hc hok ?_
    simp_arith only [pr]
    refine w_law_span H hb hn hc hok ?_
    simp_arith only [pr, i__law_added_r0, hZ]
    rw [e] at h
    exact h
  cases a with
  | form c xs =>
    cases b with
    | form e ys =>
      have ha : xs.length = cell.length := ha
      have hb : ys.length = cell.length := hb
      simp_arith only [f__law_added, i__law_added, Sn.d, rowD]
      refine ⟨by simp [ha, hb], by simp, ?_⟩
      rw [zip_g]
      refine compL_m (α := Int × Int) (fun p => .tup [.int p.1, .int p.2]) (fun p => .int (p.1 + p.2)) (xs.zip ys) (by rw [sizeL]; simp; omega) ?_ ?_
      · intro x hx K acc ha hK
        simp_arith only [true_and]
        exact ⟨ha, hK⟩
      · rw [zip_f1]
        try simp_arith only [true_and]
        exact h
    | span lo hi =>
      simp_arith only [f__law_added, i__law_added, Sn.d]
      exact spans rfl _ _ _ _ _ rfl
  | span lo hi =>
    simp_arith only [f__law_added, i__law_added, Sn.d]
    exact spans rfl _ _ _ _ _ rfl
theorem unit_fs {fs : List Fc} (hnm : named fs) (hl : fs.length ≤ 4) {j : Nat} (hj : j < fs.length) : (fs.map fun f => if D.eq f.n (nmD j) = true then D.int 1 else D.int 0) = (unit fs.length j).map .int := by
  apply List.ext_getElem
  · simp [unit]
  · intro i h1 h2
    simp only [List.length_map] at h1
    simp only [List.getElem_map, unit, List.getElem_range]
    rw [hnm i fs[i] (List.getElem?_eq_getElem h1), nm_eq (by omega) (by omega)]
    simp only [beq_iff_eq]
    split <;> rfl
theorem w_law_seen (H : HLaw T) {fs : List Fc} (hnm : named fs) (hl : fs.length ≤ 4) {cell : List Iv} (hcl : cell.length = fs.length) (hc : cb cell) (hok : cellOk cell) {kd : D} {ts : List Str} {kn : Str → Sn} (hk : knowsS kd ts fs.length kn) {S : Sto} :
    ∀ (a : Am) (N : Nat) (P : D → Sto → Prop), a.ok fs.length ts → a.dep + 5 ≤ N → P (a.seen fs.length cell kn).d S → Cl T N "_law_seen" [a.d, .tup (fs.map Fc.d), cellD cell, kd] S P := by
  obtain ⟨ks, vs, rfl, hk⟩ := hk
  have hn : cell.length ≤ 1000 := by omega
  have sok : ∀ a : Am, a.ok fs.length ts → (a.seen fs.length cell kn).ok cell.length := fun a ha => by rw [hcl]; exact seen_ok hok (fun t ht => (hk t ht).2) a ha
  intro a
  induction a with
  | num i =>
    intro N P ho hN h
    obtain ⟨N, rfl⟩ : ∃ M, N = M + 2 := ⟨N - 2, by omega⟩
    refine ⟨_, H.seen, rfl, ?_⟩
    simp_arith only [f__law_seen, i__law_seen, Am.d, List.length_map]
    refine ⟨⟨by simp, by omega, by omega, by omega⟩, ?_⟩
    rw [Int.toNat_natCast, flat_rep]
    exact h
  | fact j =>
    intro N P ho hN h
    obtain ⟨N, rfl⟩ : ∃ M, N = M + 2 := ⟨N - 2, by omega⟩
    refine ⟨_, H.seen, rfl, ?_⟩
    have ho : j < fs.length := ho
    simp_arith only [f__law_seen, i__law_seen, i__law_seen_r9, Am.d, List.length_map]
    refine ⟨by simp, ?_⟩
    refine compL_m (α := Fc) Fc.d (fun f => if D.eq f.n (nmD j) = true then D.int 1 else D.int 0) fs (by rw [sizeL]; omega) ?_ ?_
    · intro f hf K acc ha hK
      obtain ⟨i, hi, rfl⟩ := List.mem_iff_getElem.mp hf
      have en := hnm i fs[i] (List.getElem?_eq_getElem hi)
      have eq1 : eqQ fs[i].n (nmD j) = true := by rw [en]; rfl
      simp_arith only [Fc.d, eq1]
      refine iteI (fun h => ?_) (fun h => ?_)
      · rw [if_pos h] at hK; exact ⟨ha, hK⟩
      · rw [if_neg h] at hK; exact ⟨ha, hK⟩
    · rw [unit_fs hnm hl ho]
      try simp_arith only [true_and]
      exact h
  | term t =>
    intro N P ho hN h
    obtain ⟨N, rfl⟩ : ∃ M, N = M + 1 := ⟨N - 1, by omega⟩
    refine ⟨_, H.seen, rfl, ?_⟩
    simp_arith only [f__law_seen, i__law_seen, i__law_seen_r9, Am.d, (hk t ho).1]
    exact h
  | times i a ih =>
    intro N P ho hN h
    simp only [Am.dep] at hN
    obtain ⟨N, rfl⟩ : ∃ M, N = M + 5 := ⟨N - 5, by omega⟩
    refine ⟨_, H.seen, rfl, ?_⟩
    simp_arith only [f__law_seen, i__law_seen, i__law_seen_r9, Am.d]
    refine ih (N + 4) _ ho.2 (by omega) ?_
    try simp_arith only [true_and]
    have := ho.1
    refine w_law_times H (sok a ho.2) hn (by omega) ?_
    try simp_arith only [true_and]
    exact h
  | part a i ih =>
    intro N P ho hN h
    simp only [Am.dep] at hN
    obtain ⟨N, rfl⟩ : ∃ M, N = M + 5 := ⟨N - 5, by omega⟩
    refine ⟨_, H.seen, rfl, ?_⟩
    simp_arith only [f__law_seen, i__law_seen, i__law_seen_r9, i__law_seen_r8, Am.d]
    refine ih (N + 4) _ ho.1 (by omega) ?_
    have hi := ho.2
    have sm9 : 0 < i ∧ i.natAbs < 2 ^ 9000 := ⟨by omega, pow9 (by omega) (by omega)⟩
    have so := sok a ho.1
    simp only [Am.seen] at h
    generalize a.seen fs.length cell kn = s at h so
    have spans : s.part cell i = .span ((s.sp cell).1 / i) ((s.sp cell).2 / i) → ∀ (x6 x7 x8 x9 x10 x12 : Sl) (Z : Ends), Z.rt = P → wSs (Cl T (N + 4)) i__law_seen_r0 [.val (Am.part a i).d, .val (.tup (fs.map Fc.d)), .val (cellD cell), .val (.dct ks vs), .val (.str "part"), .val s.d, x6, x7, x8, x9, x10, .no, x12] S Z := fun e x6 x7 x8 x9 x10 x12 Z hZ => by
      simp_arith only [i__law_seen_r0, Am.d]
      refine w_law_span H so hn hc hok ?_
      simp_arith only [pr]
      refine ⟨by simp, ?_⟩
      refine compL_m (α := Int) .int (fun x => .int (x / i)) [(s.sp cell).1, (s.sp cell).2] (by simp [sizeL]) ?_ ?_
      · intro x hx K acc ha hK
        simp_arith only [true_and]
        exact ⟨sm9, ha, hK⟩
      · simp_arith only [hZ]
        rw [e] at h
        exact h
    cases s with
    | span lo hi =>
      simp_arith only [Sn.d, i__law_seen_r7]
      exact spans rfl _ _ _ _ _ _ _ rfl
    | form c xs =>
      have so : xs.length = cell.length := so
      simp_arith only [Sn.d, rowD, i__law_seen_r7]
      refine ⟨by simp, ?_⟩
      refine compL_fm (α := Int) .int .int (fun x => !(x.fmod i == 0)) xs [] (by have := List.length_filter_le (fun x => !(x.fmod i == 0)) xs; rw [sizeL]; simp only [List.length_nil]; omega) ?_ ?_
      · intro x hx K acc ha hK
        simp_arith only [true_and]
        refine ⟨by omega, ?_⟩
        refine iteI (fun h => ?_) (fun h => ?_)
        · rw [if_pos h] at hK; exact ⟨ha h, hK⟩
        · rw [if_neg h] at hK; exact hK
      · simp_arith only [List.length_map]
        by_cases hall : (xs.all fun x => x.fmod i == 0) = true
        · rw [Sn.part_yes hall] at h
          have e0 : xs.filter (fun x => !(x.fmod i == 0)) = [] := by
            rw [List.filter_eq_nil_iff]; intro x hx
            have := List.all_eq_true.mp hall x hx
            simp only [this, Bool.not_true, Bool.false_eq_true, not_false_eq_true]
          simp_arith only [e0, List.append_nil]
          refine ⟨sm9, by simp, ?_⟩
          refine compL_m (α := Int) .int (fun x => .int (x / i)) xs (by rw [sizeL]; omega) ?_ ?_
          · intro x hx K acc ha hK
            simp_arith only [true_and]
            exact ⟨sm9, ha, hK⟩
          · try simp_arith only [true_and]
            simpa [Sn.d, rowD, List.map_map, Function.comp_def] using h
        · have sp := spans (Sn.part_no hall)
          have e0 : ((((xs.filter (fun x => !(x.fmod i == 0))).length : Nat) : Int) == 0) = false := by
            simp only [beq_eq_false_iff_ne, ne_eq]
            intro h0
            have h0 : (xs.filter (fun x => !(x.fmod i == 0))).length = 0 := by omega
            rw [List.length_eq_zero_iff, List.filter_eq_nil_iff] at h0
            apply hall
            rw [List.all_eq_true]
            intro x hx
            have := h0 x hx
            simpa using this
          simp_arith only [e0, List.length_append, List.length_map, Nat.zero_add]
          refine sp _ _ _ _ _ _ _ rfl
  | plus a b iha ihb =>
    intro N P ho hN h
    simp only [Am.dep] at hN
    obtain ⟨N, rfl⟩ : ∃ M, N = M + 5 := ⟨N - 5, by omega⟩
    refine ⟨_, H.seen, rfl, ?_⟩
    simp_arith only [f__law_seen, i__law_seen, i__law_seen_r9, i__law_seen_r8, Am.d]
    refine iha (N + 4) _ ho.1 (by omega) ?_
    simp_arith only [i__law_seen_r7, i__law_seen_r6]
    refine ihb (N + 4) _ ho.2 (by omega) ?_
    simp_arith only [i__law_seen_r5]
    refine w_law_added H (sok a ho.1) (sok b ho.2) hn hc hok ?_
    try simp_arith only [true_and]
    exact h
  | less a b iha ihb =>
    intro N P ho hN h
    simp only [Am.dep] at hN
    obtain ⟨N, rfl⟩ : ∃ M, N = M + 5 := ⟨N - 5, by omega⟩
    refine ⟨_, H.seen, rfl, ?_⟩
    simp_arith only [f__law_seen, i__law_seen, i__law_seen_r9, i__law_seen_r8, Am.d]
    refine iha (N + 4) _ ho.1 (by omega) ?_
    simp_arith only [i__law_seen_r7, i__law_seen_r6]
    refine ihb (N + 4) _ ho.2 (by omega) ?_
    simp_arith only [i__law_seen_r5, i__law_seen_r4]
    refine w_law_times H (sok b ho.2) hn (by decide) ?_
    try simp_arith only [true_and]
    refine w_law_added H (sok a ho.1) (Sn.times_ok _ (sok b ho.2)) hn hc hok ?_
    simp_arith only [i__law_seen_r3]
    exact h
  | least a b iha ihb =>
    intro N P ho hN h
    simp only [Am.dep] at hN
    obtain ⟨N, rfl⟩ : ∃ M, N = M + 5 := ⟨N - 5, by omega⟩
    refine ⟨_, H.seen, rfl, ?_⟩
    simp_arith only [f__law_seen, i__law_seen, i__law_seen_r9, i__law_seen_r8, Am.d]
    refine iha (N + 4) _ ho.1 (by omega) ?_
    simp_arith only [i__law_seen_r7, i__law_seen_r6]
    refine ihb (N + 4) _ ho.2 (by omega) ?_
    simp_arith only [i__law_seen_r5, i__law_seen_r4]
    refine w_law_times H (sok b ho.2) hn (by decide) ?_
    try simp_arith only [true_and]
    refine w_law_added H (sok a ho.1) (Sn.times_ok _ (sok b ho.2)) hn hc hok ?_
    simp_arith only [i__law_seen_r3]
    refine w_law_span H (Sn.add_ok hok (sok a ho.1) (Sn.times_ok _ (sok b ho.2))) hn hc hok ?_
    simp only [Am.seen, Sn.choice] at h
    have sa := sok a ho.1
    have sb := sok b ho.2
    generalize a.seen fs.length cell kn = x at h sa
    generalize b.seen fs.length cell kn = y at h sb
    generalize (x.add cell (y.times (-1))).sp cell = g at h
    simp_arith only [pr, i__law_seen_r2]
    by_cases g2 : g.2 ≤ 0
    · rw [if_pos g2] at h
      simp_arith only [eq_true g2]
      exact h
    · rw [if_neg g2] at h
      by_cases g1 : 0 ≤ g.1
      · rw [if_pos g1] at h
        simp_arith only [eq_false g2, eq_true g1]
        exact h
      · rw [if_neg g1] at h
        simp_arith only [eq_false g2, eq_false g1]
        refine w_law_span H sa hn hc hok ?_
        try simp_arith only [true_and]
        refine w_law_span H sb hn hc hok ?_
        simp_arith only [pr, i__law_seen_r1]
        exact h
  | most a b iha ihb =>
    intro N P ho hN h
    simp only [Am.dep] at hN
    obtain ⟨N, rfl⟩ : ∃ M, N = M + 5 := ⟨N - 5, by omega⟩
    refine ⟨_, H.seen, rfl, ?_⟩
    simp_arith only [f__law_seen, i__law_seen, i__law_seen_r9, i__law_seen_r8, Am.d]
    refine iha (N + 4) _ ho.1 (by omega) ?_
    simp_arith only [i__law_seen_r7, i__law_seen_r6]
    refine ihb (N + 4) _ ho.2 (by omega) ?_
    simp_arith only [i__law_seen_r5, i__law_seen_r4]
    refine w_law_times H (sok b ho.2) hn (by decide) ?_
    try simp_arith only [true_and]
    refine w_law_added H (sok a ho.1) (Sn.times_ok _ (sok b ho.2)) hn hc hok ?_
    simp_arith only [i__law_seen_r3]
    refine w_law_span H (Sn.add_ok hok (sok a ho.1) (Sn.times_ok _ (sok b ho.2))) hn hc hok ?_
    simp only [Am.seen, Sn.choice] at h
    have sa := sok a ho.1
    have sb := sok b ho.2
    generalize a.seen fs.length cell kn = x at h sa
    generalize b.seen fs.length cell kn = y at h sb
    generalize (x.add cell (y.times (-1))).sp cell = g at h
    simp_arith only [pr, i__law_seen_r2]
    by_cases g2 : g.2 ≤ 0
    · rw [if_pos g2] at h
      simp_arith only [eq_true g2]
      exact h
    · rw [if_neg g2] at h
      by_cases g1 : 0 ≤ g.1
      · rw [if_pos g1] at h
        simp_arith only [eq_false g2, eq_true g1]
        exact h
      · rw [if_neg g1] at h
        simp_arith only [eq_false g2, eq_false g1]
        refine w_law_span H sa hn hc hok ?_
        try simp_arith only [true_and]
        refine w_law_span H sb hn hc hok ?_
        simp_arith only [pr, i__law_seen_r1]
        exact h
theorem w_law_seent (H : HLaw T) {fs : List Fc} (hnm : named fs) (hl : fs.length ≤ 4) {cell : List Iv} (hcl : cell.length = fs.length) (hc : cb cell) (hok : cellOk cell) {kd : D} {ts : List Str} {kn : Str → Sn} (hk : knowsS kd ts fs.length kn) {S : Sto} :
    ∀ (c : Cn) (N : Nat) (P : D → Sto → Prop), c.ok fs.length ts → c.dep + 6 ≤ N → P (obD (c.seen fs.length cell kn)) S → Cl T N "_law_seen_truth" [c.d, .tup (fs.map Fc.d), cellD cell, kd] S P := by
  have hn : cell.length ≤ 1000 := by omega
  have sok : ∀ a : Am, a.ok fs.length ts → (a.seen fs.length cell kn).ok cell.length := fun a ha => by
    obtain ⟨ks, vs, _, hk⟩ := hk
    rw [hcl]; exact seen_ok hok (fun t ht => (hk t ht).2) a ha
  intro c
  induction c with
  | tru =>
    intro N P ho hN h
    obtain ⟨N, rfl⟩ : ∃ M, N = M + 1 := ⟨N - 1, by omega⟩
    refine ⟨_, H.truth, rfl, ?_⟩
    simp_arith only [f__law_seen_truth, i__law_seen_truth, Cn.d]
    exact h
  | not c ih =>
    intro N P ho hN h
    simp only [Cn.dep] at hN
    obtain ⟨N, rfl⟩ : ∃ M, N = M + 1 := ⟨N - 1, by omega⟩
    refine ⟨_, H.truth, rfl, ?_⟩
    simp_arith only [f__law_seen_truth, i__law_seen_truth, Cn.d]
    refine ih N _ ho (by omega) ?_
    simp only [Cn.seen] at h
    cases hx : c.seen fs.length cell kn <;> rw [hx] at h <;> simp_arith only [obD, i__law_seen_truth_r0] <;> exact h
  | is a b =>
    intro N P ho hN h
    simp only [Cn.dep] at hN
    obtain ⟨N, rfl⟩ : ∃ M, N = M + 5 := ⟨N - 5, by omega⟩
    refine ⟨_, H.truth, rfl, ?_⟩
    simp_arith only [f__law_seen_truth, i__law_seen_truth, i__law_seen_truth_r6, Cn.d, okBE, List.any_cons, List.any_nil, Bool.or_false, Bool.false_or, Bool.true_or, Bool.or_true]
    simp_arith only [i__law_seen_truth_r5]
    refine w_law_seen H hnm hl hcl hc hok hk a (N + 4) _ ho.1 (by omega) ?_
    try simp_arith only [true_and]
    refine w_law_seen H hnm hl hcl hc hok hk b (N + 4) _ ho.2 (by omega) ?_
    try simp_arith only [true_and]
    refine w_law_times H (sok b ho.2) hn (by decide) ?_
    try simp_arith only [true_and]
    refine w_law_added H (sok a ho.1) (Sn.times_ok _ (sok b ho.2)) hn hc hok ?_
    simp_arith only [i__law_seen_truth_r4]
    refine w_law_span H (Sn.add_ok hok (sok a ho.1) (Sn.times_ok _ (sok b ho.2))) hn hc hok ?_
    simp only [Cn.seen] at h
    generalize Sn.sp cell _ = g at h
    simp_arith only [pr, i__law_seen_truth_r3]
    simp_arith only [gapT] at h
    by_cases g1 : 0 < g.1
    · rw [if_pos (.inl g1)] at h
      simp_arith only [eq_true g1]
      exact h
    · by_cases g2 : g.2 < 0
      · rw [if_pos (.inr g2)] at h
        simp_arith only [eq_false g1, eq_true g2]
        exact h
      · rw [if_neg (by omega)] at h
        by_cases e1 : g.1 = 0
        · by_cases e2 : g.2 = 0
          · rw [if_pos ⟨e1, e2⟩] at h
            simp_arith only [e1, e2]
            exact h
          · rw [if_neg (by omega)] at h
            have e3 : (g.2 == 0) = false := by simp only [beq_eq_false_iff_ne, ne_eq]; exact e2
            simp_arith only [eq_false g2, e1, e3]
            exact h
        · rw [if_neg (by omega)] at h
          have e3 : (g.1 == 0) = false := by simp only [beq_eq_false_iff_ne, ne_eq]; exact e1
          simp_arith only [eq_false g1, eq_false g2, e3]
          exact h
  | lt a b =>
    intro N P ho hN h
    simp only [Cn.dep] at hN
    obtain ⟨N, rfl⟩ : ∃ M, N = M + 5 := ⟨N - 5, by omega⟩
    refine ⟨_, H.truth, rfl, ?_⟩
    simp_arith only [f__law_seen_truth, i__law_seen_truth, i__law_seen_truth_r6, Cn.d, okBE, List.any_cons, List.any_nil, Bool.or_false, Bool.false_or, Bool.true_or, Bool.or_true]
    simp_arith only [i__law_seen_truth_r5]
    refine w_law_seen H hnm hl hcl hc hok hk a (N + 4) _ ho.1 (by omega) ?_
    try simp_arith only [true_and]
    refine w_law_seen H hnm hl hcl hc hok hk b (N + 4) _ ho.2 (by omega) ?_
    try simp_arith only [true_and]
    refine w_law_times H (sok b ho.2) hn (by decide) ?_
    try simp_arith only [true_and]
    refine w_law_added H (sok a ho.1) (Sn.times_ok _ (sok b ho.2)) hn hc hok ?_
    simp_arith only [i__law_seen_truth_r4]
    refine w_law_span H (Sn.add_ok hok (sok a ho.1) (Sn.times_ok _ (sok b ho.2))) hn hc hok ?_
    simp only [Cn.seen] at h
    generalize Sn.sp cell _ = g at h
    simp_arith only [pr, i__law_seen_truth_r3]
    simp_arith only [gapT] at h
    by_cases g2 : g.2 < 0
    · rw [if_pos g2] at h
      simp_arith only [eq_true g2]
      exact h
    · rw [if_neg g2] at h
      by_cases g1 : 0 ≤ g.1
      · rw [if_pos g1] at h
        simp_arith only [eq_false g2, eq_true g1]
        exact h
      · rw [if_neg g1] at h
        simp_arith only [eq_false g2, eq_false g1]
        exact h
  | both c e ihc ihe =>
    intro N P ho hN h
    simp only [Cn.dep] at hN
    obtain ⟨N, rfl⟩ : ∃ M, N = M + 1 := ⟨N - 1, by omega⟩
    refine ⟨_, H.truth, rfl, ?_⟩
    simp_arith only [f__law_seen_truth, i__law_seen_truth, i__law_seen_truth_r6, Cn.d, okBE, List.any_cons, List.any_nil, Bool.or_false, Bool.false_or, Bool.true_or, Bool.or_true]
    refine ihc N _ ho.1 (by omega) ?_
    try simp_arith only [true_and]
    refine ihe N _ ho.2 (by omega) ?_
    simp only [Cn.seen] at h
    generalize c.seen fs.length cell kn = x at h
    generalize e.seen fs.length cell kn = y at h
    rcases x with _ | (_ | _) <;> rcases y with _ | (_ | _) <;> simp_arith only [obD, i__law_seen_truth_r2, i__law_seen_truth_r1, bb1, bb2, bb3, bb4, compL, okOb, List.any_cons, List.any_nil, nb2, nb3, nb4, Bool.or_false, Bool.false_or, Bool.true_or, Bool.or_true, szb] <;> refine ⟨by simp, ?_⟩ <;> (repeat' apply And.intro) <;> first | (simpa [strongly, obD] using h) | decide +kernel
  | either c e ihc ihe =>
    intro N P ho hN h
    simp only [Cn.dep] at hN
    obtain ⟨N, rfl⟩ : ∃ M, N = M + 1 := ⟨N - 1, by omega⟩
    refine ⟨_, H.truth, rfl, ?_⟩
    simp_arith only [f__law_seen_truth, i__law_seen_truth, i__law_seen_truth_r6, Cn.d, okBE, List.any_cons, List.any_nil, Bool.or_false, Bool.false_or, Bool.true_or, Bool.or_true]
    refine ihc N _ ho.1 (by omega) ?_
    try simp_arith only [true_and]
    refine ihe N _ ho.2 (by omega) ?_
    simp only [Cn.seen] at h
    generalize c.seen fs.length cell kn = x at h
    generalize e.seen fs.length cell kn = y at h
    rcases x with _ | (_ | _) <;> rcases y with _ | (_ | _) <;> simp_arith only [obD, i__law_seen_truth_r2, i__law_seen_truth_r1, bb1, bb2, bb3, bb4, compL, okOb, List.any_cons, List.any_nil, nb2, nb3, nb4, Bool.or_false, Bool.false_or, Bool.true_or, Bool.or_true, szb] <;> refine ⟨by simp, ?_⟩ <;> (repeat' apply And.intro) <;> first | (simpa [strongly, obD] using h) | decide +kernel
end
end Q
namespace K08
open PySem PySem.Spec PyProof.Rows L2 Q
def top (i : Nat) : Stmt := PySem.Challenge.pw_casesruled_k08_whole_seen_amounts.main.body.getD i (.Pass ⟨0, 0, 0, 0⟩)
def e_place_of : FE := ⟨"place_of", top 1, ["facts", "name", "k"], ["facts", "name"], [], false⟩
def e_constant : FE := ⟨"constant", top 3, ["number", "many"], ["number", "many"], [], false⟩
def e_form_sum : FE := ⟨"form_sum", top 4, ["one", "two", "factor", "x", "y"], ["one", "two", "factor"], [], false⟩
def e_form_span : FE := ⟨"form_span", top 5, ["form", "cell", "low", "high", "x", "least", "most"], ["form", "cell"], [], false⟩
def e_span_of : FE := ⟨"span_of", top 6, ["seen", "cell"], ["seen", "cell"], [], false⟩
def e_seen_times : FE := ⟨"seen_times", top 7, ["seen", "factor", "low", "high"], ["seen", "factor"], [], false⟩
def e_seen_sum : FE := ⟨"seen_sum", top 8, ["one", "two", "factor", "cell", "low", "high", "less", "more"], ["one", "two", "factor", "cell"], [], false⟩
def e_seen_part : FE := ⟨"seen_part", top 9, ["one", "number", "cell", "low", "high", "x"], ["one", "number", "cell"], [], false⟩
def e_seen_choice : FE := ⟨"seen_choice", top 10, ["one", "two", "is_least", "cell", "low", "high", "least", "most", "less", "more"], ["one", "two", "is_least", "cell"], [], false⟩
def e_seen_amount : FE := ⟨"seen_amount", top 11, ["value", "facts", "cell", "known", "word", "many", "one", "two", "place", "k"], ["value", "facts", "cell", "known"], [], false⟩
def e_seen_truth : FE := ⟨"seen_truth", top 12, ["value", "facts", "cell", "known", "word", "gap", "low", "high", "found", "one", "two", "strong"], ["value", "facts", "cell", "known"], [], false⟩
def e__law_same : FE := ⟨"_law_same", top 14, ["actual", "due", "k"], ["actual", "due"], [], false⟩
def e__law_pool : FE := ⟨"_law_pool", top 15, ["script", "salt", "cell"], ["script"], [], true⟩
def e__law_spread : FE := ⟨"_law_spread", top 16, ["cell", "blended", "whole_sum", "k"], ["cell"], [], false⟩
def e__law_draw : FE := ⟨"_law_draw", top 17, ["pool", "many", "value", "cell", "blended"], ["pool", "many"], [], false⟩
def e__law_facts : FE := ⟨"_law_facts", top 18, ["pool", "most", "names", "found", "k", "words", "low"], ["pool", "most"], [], false⟩
def e__law_amount : FE := ⟨"_law_amount", top 19, ["pool", "facts", "terms", "deep", "turn", "one"], ["pool", "facts", "terms", "deep"], [], false⟩
def e__law_condition : FE := ⟨"_law_condition", top 20, ["pool", "facts", "terms", "deep", "turn", "one"], ["pool", "facts", "terms", "deep"], [], false⟩
def e__law_place : FE := ⟨"_law_place", top 21, ["facts", "name", "k"], ["facts", "name"], [], false⟩
def e__law_worked : FE := ⟨"_law_worked", top 22, ["a", "facts", "case", "known", "word", "one", "two"], ["a", "facts", "case", "known"], [], false⟩
def e__law_truth : FE := ⟨"_law_truth", top 23, ["c", "facts", "case", "known", "word", "one", "two"], ["c", "facts", "case", "known"], [], false⟩
def e__law_cases : FE := ⟨"_law_cases", top 24, ["facts", "found", "fact", "longer", "row", "x"], ["facts"], [], false⟩
def e__law_whole : FE := ⟨"_law_whole", top 25, ["facts", "fact"], ["facts"], [], false⟩
def e__law_cell : FE := ⟨"_law_cell", top 26, ["pool", "facts", "found", "fact", "low"], ["pool", "facts"], [], false⟩
def e__law_cases_in : FE := ⟨"_law_cases_in", top 27, ["cell", "low", "high"], ["cell"], [], false⟩
def e__law_form_span : FE := ⟨"_law_form_span", top 28, ["form", "cell", "low", "high", "k", "ends"], ["form", "cell"], [], false⟩
def e__law_span : FE := ⟨"_law_span", top 29, ["seen", "cell"], ["seen", "cell"], [], false⟩
def e__law_times : FE := ⟨"_law_times", top 30, ["seen", "n", "ends", "x"], ["seen", "n"], [], false⟩
def e__law_added : FE := ⟨"_law_added", top 31, ["one", "two", "cell", "a", "b", "x", "y"], ["one", "two", "cell"], [], false⟩
def e__law_seen : FE := ⟨"_law_seen", top 32, ["a", "facts", "cell", "known", "word", "one", "two", "gap", "low", "high", "ends", "x", "fact"], ["a", "facts", "cell", "known"], [], false⟩
def e__law_seen_truth : FE := ⟨"_law_seen_truth", top 33, ["c", "facts", "cell", "known", "word", "gap", "low", "high", "one", "rows"], ["c", "facts", "cell", "known"], [], false⟩
def e_law : FE := ⟨"law", top 34, ["script", "pool", "facts", "a", "c", "cell", "one", "known", "told", "truth", "low", "high", "cases", "case", "values", "value", "fact", "x"], ["script"], [], false⟩
def g : PG_ := ⟨[], [e_place_of, e_constant, e_form_sum, e_form_span, e_span_of, e_seen_times, e_seen_sum, e_seen_part, e_seen_choice, e_seen_amount, e_seen_truth, e__law_same, e__law_pool, e__law_spread, e__law_draw, e__law_facts, e__law_amount, e__law_condition, e__law_place, e__law_worked, e__law_truth, e__law_cases, e__law_whole, e__law_cell, e__law_cases_in, e__law_form_span, e__law_span, e__law_times, e__law_added, e__law_seen, e__law_seen_truth, e_law]⟩
theorem g_ok : g.ok = true := by decide +kernel
theorem b_place_of : BindsFor e_place_of := fun K dvs a fd hl F n hn => by
  cases List.length_eq_zero_iff.mp hl
  exact ⟨[], by cases n <;> exact .nil, F.bindsN fun _ _ _ _ _ _ us hl => match us, hl with | [_, _], _ => rfl⟩
theorem b_constant : BindsFor e_constant := fun K dvs a fd hl F n hn => by
  cases List.length_eq_zero_iff.mp hl
  exact ⟨[], by cases n <;> exact .nil, F.bindsN fun _ _ _ _ _ _ us hl => match us, hl with | [_, _], _ => rfl⟩
theorem b_form_sum : BindsFor e_form_sum := fun K dvs a fd hl F n hn => by
  cases List.length_eq_zero_iff.mp hl
  exact ⟨[], by cases n <;> exact .nil, F.bindsN fun _ _ _ _ _ _ us hl => match us, hl with | [_, _, _], _ => rfl⟩
theorem b_form_span : BindsFor e_form_span := fun K dvs a fd hl F n hn => by
  cases List.length_eq_zero_iff.mp hl
  exact ⟨[], by cases n <;> exact .nil, F.bindsN fun _ _ _ _ _ _ us hl => match us, hl with | [_, _], _ => rfl⟩
theorem b_span_of : BindsFor e_span_of := fun K dvs a fd hl F n hn => by
  cases List.length_eq_zero_iff.mp hl
  exact ⟨[], by cases n <;> exact .nil, F.bindsN fun _ _ _ _ _ _ us hl => match us, hl with | [_, _], _ => rfl⟩
theorem b_seen_times : BindsFor e_seen_times := fun K dvs a fd hl F n hn => by
  cases List.length_eq_zero_iff.mp hl
  exact ⟨[], by cases n <;> exact .nil, F.bindsN fun _ _ _ _ _ _ us hl => match us, hl with | [_, _], _ => rfl⟩
theorem b_seen_sum : BindsFor e_seen_sum := fun K dvs a fd hl F n hn => by
  cases List.length_eq_zero_iff.mp hl
  exact ⟨[], by cases n <;> exact .nil, F.bindsN fun _ _ _ _ _ _ us hl => match us, hl with | [_, _, _, _], _ => rfl⟩
theorem b_seen_part : BindsFor e_seen_part := fun K dvs a fd hl F n hn => by
  cases List.length_eq_zero_iff.mp hl
  exact ⟨[], by cases n <;> exact .nil, F.bindsN fun _ _ _ _ _ _ us hl => match us, hl with | [_, _, _], _ => rfl⟩
theorem b_seen_choice : BindsFor e_seen_choice := fun K dvs a fd hl F n hn => by
  cases List.length_eq_zero_iff.mp hl
  exact ⟨[], by cases n <;> exact .nil, F.bindsN fun _ _ _ _ _ _ us hl => match us, hl with | [_, _, _, _], _ => rfl⟩
theorem b_seen_amount : BindsFor e_seen_amount := fun K dvs a fd hl F n hn => by
  cases List.length_eq_zero_iff.mp hl
  exact ⟨[], by cases n <;> exact .nil, F.bindsN fun _ _ _ _ _ _ us hl => match us, hl with | [_, _, _, _], _ => rfl⟩
theorem b_seen_truth : BindsFor e_seen_truth := fun K dvs a fd hl F n hn => by
  cases List.length_eq_zero_iff.mp hl
  exact ⟨[], by cases n <;> exact .nil, F.bindsN fun _ _ _ _ _ _ us hl => match us, hl with | [_, _, _, _], _ => rfl⟩
theorem b__law_same : BindsFor e__law_same := fun K dvs a fd hl F n hn => by
  cases List.length_eq_zero_iff.mp hl
  exact ⟨[], by cases n <;> exact .nil, F.bindsN fun _ _ _ _ _ _ us hl => match us, hl with | [_, _], _ => rfl⟩
theorem b__law_pool : BindsFor e__law_pool := fun K dvs a fd hl F n hn => by
  cases List.length_eq_zero_iff.mp hl
  exact ⟨[], by cases n <;> exact .nil, F.bindsN fun _ _ _ _ _ _ us hl => match us, hl with | [_], _ => rfl⟩
theorem b__law_spread : BindsFor e__law_spread := fun K dvs a fd hl F n hn => by
  cases List.length_eq_zero_iff.mp hl
  exact ⟨[], by cases n <;> exact .nil, F.bindsN fun _ _ _ _ _ _ us hl => match us, hl with | [_], _ => rfl⟩
theorem b__law_draw : BindsFor e__law_draw := fun K dvs a fd hl F n hn => by
  cases List.length_eq_zero_iff.mp hl
  exact ⟨[], by cases n <;> exact .nil, F.bindsN fun _ _ _ _ _ _ us hl => match us, hl with | [_, _], _ => rfl⟩
theorem b__law_facts : BindsFor e__law_facts := fun K dvs a fd hl F n hn => by
  cases List.length_eq_zero_iff.mp hl
  exact ⟨[], by cases n <;> exact .nil, F.bindsN fun _ _ _ _ _ _ us hl => match us, hl with | [_, _], _ => rfl⟩
theorem b__law_amount : BindsFor e__law_amount := fun K dvs a fd hl F n hn => by
  cases List.length_eq_zero_iff.mp hl
  exact ⟨[], by cases n <;> exact .nil, F.bindsN fun _ _ _ _ _ _ us hl => match us, hl with | [_, _, _, _], _ => rfl⟩
theorem b__law_condition : BindsFor e__law_condition := fun K dvs a fd hl F n hn => by
  cases List.length_eq_zero_iff.mp hl
  exact ⟨[], by cases n <;> exact .nil, F.bindsN fun _ _ _ _ _ _ us hl => match us, hl with | [_, _, _, _], _ => rfl⟩
theorem b__law_place : BindsFor e__law_place := fun K dvs a fd hl F n hn => by
  cases List.length_eq_zero_iff.mp hl
  exact ⟨[], by cases n <;> exact .nil, F.bindsN fun _ _ _ _ _ _ us hl => match us, hl with | [_, _], _ => rfl⟩
theorem b__law_worked : BindsFor e__law_worked := fun K dvs a fd hl F n hn => by
  cases List.length_eq_zero_iff.mp hl
  exact ⟨[], by cases n <;> exact .nil, F.bindsN fun _ _ _ _ _ _ us hl => match us, hl with | [_, _, _, _], _ => rfl⟩
theorem b__law_truth : BindsFor e__law_truth := fun K dvs a fd hl F n hn => by
  cases List.length_eq_zero_iff.mp hl
  exact ⟨[], by cases n <;> exact .nil, F.bindsN fun _ _ _ _ _ _ us hl => match us, hl with | [_, _, _, _], _ => rfl⟩
theorem b__law_cases : BindsFor e__law_cases := fun K dvs a fd hl F n hn => by
  cases List.length_eq_zero_iff.mp hl
  exact ⟨[], by cases n <;> exact .nil, F.bindsN fun _ _ _ _ _ _ us hl => match us, hl with | [_], _ => rfl⟩
theorem b__law_whole : BindsFor e__law_whole := fun K dvs a fd hl F n hn => by
  cases List.length_eq_zero_iff.mp hl
  exact ⟨[], by cases n <;> exact .nil, F.bindsN fun _ _ _ _ _ _ us hl => match us, hl with | [_], _ => rfl⟩
theorem b__law_cell : BindsFor e__law_cell := fun K dvs a fd hl F n hn => by
  cases List.length_eq_zero_iff.mp hl
  exact ⟨[], by cases n <;> exact .nil, F.bindsN fun _ _ _ _ _ _ us hl => match us, hl with | [_, _], _ => rfl⟩
theorem b__law_cases_in : BindsFor e__law_cases_in := fun K dvs a fd hl F n hn => by
  cases List.length_eq_zero_iff.mp hl
  exact ⟨[], by cases n <;> exact .nil, F.bindsN fun _ _ _ _ _ _ us hl => match us, hl with | [_], _ => rfl⟩
theorem b__law_form_span : BindsFor e__law_form_span := fun K dvs a fd hl F n hn => by
  cases List.length_eq_zero_iff.mp hl
  exact ⟨[], by cases n <;> exact .nil, F.bindsN fun _ _ _ _ _ _ us hl => match us, hl with | [_, _], _ => rfl⟩
theorem b__law_span : BindsFor e__law_span := fun K dvs a fd hl F n hn => by
  cases List.length_eq_zero_iff.mp hl
  exact ⟨[], by cases n <;> exact .nil, F.bindsN fun _ _ _ _ _ _ us hl => match us, hl with | [_, _], _ => rfl⟩
theorem b__law_times : BindsFor e__law_times := fun K dvs a fd hl F n hn => by
  cases List.length_eq_zero_iff.mp hl
  exact ⟨[], by cases n <;> exact .nil, F.bindsN fun _ _ _ _ _ _ us hl => match us, hl with | [_, _], _ => rfl⟩
theorem b__law_added : BindsFor e__law_added := fun K dvs a fd hl F n hn => by
  cases List.length_eq_zero_iff.mp hl
  exact ⟨[], by cases n <;> exact .nil, F.bindsN fun _ _ _ _ _ _ us hl => match us, hl with | [_, _, _], _ => rfl⟩
theorem b__law_seen : BindsFor e__law_seen := fun K dvs a fd hl F n hn => by
  cases List.length_eq_zero_iff.mp hl
  exact ⟨[], by cases n <;> exact .nil, F.bindsN fun _ _ _ _ _ _ us hl => match us, hl with | [_, _, _, _], _ => rfl⟩
theorem b__law_seen_truth : BindsFor e__law_seen_truth := fun K dvs a fd hl F n hn => by
  cases List.length_eq_zero_iff.mp hl
  exact ⟨[], by cases n <;> exact .nil, F.bindsN fun _ _ _ _ _ _ us hl => match us, hl with | [_, _, _, _], _ => rfl⟩
theorem b_law : BindsFor e_law := fun K dvs a fd hl F n hn => by
  cases List.length_eq_zero_iff.mp hl
  exact ⟨[], by cases n <;> exact .nil, F.bindsN fun _ _ _ _ _ _ us hl => match us, hl with | [_], _ => rfl⟩
theorem binds : ∀ e ∈ g.fes, BindsFor e := by
  intro e he
  simp only [g, List.mem_cons, List.not_mem_nil, or_false] at he
  rcases he with rfl | rfl | rfl | rfl | rfl | rfl | rfl | rfl | rfl | rfl | rfl | rfl | rfl | rfl | rfl | rfl | rfl | rfl | rfl | rfl | rfl | rfl | rfl | rfl | rfl | rfl | rfl | rfl | rfl | rfl | rfl | rfl
  · exact b_place_of
  · exact b_constant
  · exact b_form_sum
  · exact b_form_span
  · exact b_span_of
  · exact b_seen_times
  · exact b_seen_sum
  · exact b_seen_part
  · exact b_seen_choice
  · exact b_seen_amount
  · exact b_seen_truth
  · exact b__law_same
  · exact b__law_pool
  · exact b__law_spread
  · exact b__law_draw
  · exact b__law_facts
  · exact b__law_amount
  · exact b__law_condition
  · exact b__law_place
  · exact b__law_worked
  · exact b__law_truth
  · exact b__law_cases
  · exact b__law_whole
  · exact b__law_cell
  · exact b__law_cases_in
  · exact b__law_form_span
  · exact b__law_span
  · exact b__law_times
  · exact b__law_added
  · exact b__law_seen
  · exact b__law_seen_truth
  · exact b_law
theorem flats : ∀ e ∈ g.fes, ∀ d ∈ e.dv, flat0 d = true := by decide +kernel
abbrev R : PySem.W.OpenRow := PySem.W.OpenLaw.row PySem.Challenge.rw_casesruled_k08_whole_seen_amounts
abbrev hk : PySem.W.Hook := He.hookX 4 g.fa g.fn [] [] g.exB
def ob (s : PySem.W.SharedT) : He.AlX := He.obsX 4 g.fa g.fn [] [] g.exB (HandSHeadRun.getT s)
theorem ob_eq (s : PySem.W.SharedT) : ob s = hk.obs s.abs := He.obsX_eq (HandSHeadRun.getT_eq s)
def loose : List PySem.Str := (["place_of", "constant", "form_sum", "form_span", "span_of", "seen_times", "seen_sum", "seen_part", "seen_choice", "seen_amount", "seen_truth", "_law_same", "_law_pool", "_law_spread", "_law_draw", "_law_facts", "_law_amount", "_law_condition", "_law_place", "_law_worked", "_law_truth", "_law_cases", "_law_whole", "_law_cell", "_law_cases_in", "_law_form_span", "_law_span", "_law_times", "_law_added", "_law_seen"] : List PySem.Str) ++ (["_law_seen_truth"] : List PySem.Str)
set_option maxHeartbeats 0 in
theorem run (w : World) : HandSHeadRun.RunEq R (PySem.W.view R.prog [34]) hk ob 20000 loose w := by
  intro os
  kernel_rfl
theorem T_place_of : g.T "place_of" = some Q.f_place_of := by kernel_rfl
theorem T_constant : g.T "constant" = some Q.f_constant := by kernel_rfl
theorem T_form_sum : g.T "form_sum" = some Q.f_form_sum := by kernel_rfl
theorem T_form_span : g.T "form_span" = some Q.f_form_span := by kernel_rfl
theorem T_span_of : g.T "span_of" = some Q.f_span_of := by kernel_rfl
theorem T_seen_times : g.T "seen_times" = some Q.f_seen_times := by kernel_rfl
theorem T_seen_sum : g.T "seen_sum" = some Q.f_seen_sum := by kernel_rfl
theorem T_seen_part : g.T "seen_part" = some Q.f_seen_part := by kernel_rfl
theorem T_seen_choice : g.T "seen_choice" = some Q.f_seen_choice := by kernel_rfl
theorem T_seen_amount : g.T "seen_amount" = some Q.f_seen_amount := by kernel_rfl
theorem T_seen_truth : g.T "seen_truth" = some Q.f_seen_truth := by kernel_rfl
theorem T__law_same : g.T "_law_same" = some Q.f__law_same := by kernel_rfl
theorem T__law_pool : g.T "_law_pool" = some Q.f__law_pool := by kernel_rfl
theorem T__law_spread : g.T "_law_spread" = some Q.f__law_spread := by kernel_rfl
theorem T__law_draw : g.T "_law_draw" = some Q.f__law_draw := by kernel_rfl
theorem T__law_facts : g.T "_law_facts" = some Q.f__law_facts := by kernel_rfl
theorem T__law_amount : g.T "_law_amount" = some Q.f__law_amount := by kernel_rfl
theorem T__law_condition : g.T "_law_condition" = some Q.f__law_condition := by kernel_rfl
theorem T__law_place : g.T "_law_place" = some Q.f__law_place := by kernel_rfl
theorem T__law_worked : g.T "_law_worked" = some Q.f__law_worked := by kernel_rfl
theorem T__law_truth : g.T "_law_truth" = some Q.f__law_truth := by kernel_rfl
theorem T__law_cases : g.T "_law_cases" = some Q.f__law_cases := by kernel_rfl
theorem T__law_whole : g.T "_law_whole" = some Q.f__law_whole := by kernel_rfl
theorem T__law_cell : g.T "_law_cell" = some Q.f__law_cell := by kernel_rfl
theorem T__law_cases_in : g.T "_law_cases_in" = some Q.f__law_cases_in := by kernel_rfl
theorem T__law_form_span : g.T "_law_form_span" = some Q.f__law_form_span := by kernel_rfl
theorem T__law_span : g.T "_law_span" = some Q.f__law_span := by kernel_rfl
theorem T__law_times : g.T "_law_times" = some Q.f__law_times := by kernel_rfl
theorem T__law_added : g.T "_law_added" = some Q.f__law_added := by kernel_rfl
theorem T__law_seen : g.T "_law_seen" = some Q.f__law_seen := by kernel_rfl
theorem T__law_seen_truth : g.T "_law_seen_truth" = some Q.f__law_seen_truth := by kernel_rfl
def i_law_r0 : ISs := (.cons (.ifs (.and (.cmp .isn (.loc 9) (.cst .non)) (.cmp .ne (.loc 9) (.call "_law_truth" (.cons (.loc 4) (.cons (.loc 2) (.cons (.loc 13) (.cons (.loc 14) .nil))))))) (.cons (.ret (.cst (.bl false)))
  .nil) .nil)
  .nil)
def i_law_r1 : ISs := (.cons (.ifs (.or (.cmp .lt (.loc 15) (.loc 10)) (.or (.cmp .gt (.loc 15) (.loc 11)) (.and (.cmp .eq (.idx (.loc 8) (.cst (.int 0))) (.cst (.str "form"))) (.cmp .ne (.loc 15) (.idx (.call "_law_form_span" (.cons (.idx (.loc 8) (.cst (.int 1))) (.cons (.blt "tuple" (.cons (.comp (.tup (.cons (.loc 17) (.cons (.loc 17) .nil))) (.nm 17) (.seq (.loc 13)) .yes [17]) .nil)) .nil))) (.cst (.int 0))))))) (.cons (.ret (.cst (.bl false)))
  .nil) .nil)
  i_law_r0)
def i_law_r2 : ISs := (.cons (.asg (.nm 15) (.call "_law_worked" (.cons (.loc 3) (.cons (.loc 2) (.cons (.loc 13) (.cons (.loc 14) .nil))))))
  i_law_r1)
def i_law_b1 : ISs := (.cons (.asg (.nm 14) (.dct ["pp", "qq"] (.cons (.idx (.call "_law_form_span" (.cons (.idx (.idx (.loc 7) (.cst (.str "pp"))) (.cst (.int 1))) (.cons (.blt "tuple" (.cons (.comp (.tup (.cons (.loc 17) (.cons (.loc 17) .nil))) (.nm 17) (.seq (.loc 13)) .yes [17]) .nil)) .nil))) (.cst (.int 0))) (.cons (.call "_law_worked" (.cons (.loc 6) (.cons (.loc 2) (.cons (.loc 13) (.cons (.dct [] .nil) .nil))))) .nil))))
  i_law_r2)
def i_law_r3 : ISs := (.cons (.ifs (.and (.cmp .eq (.blt "len" (.cons (.loc 12) .nil)) (.cst (.int 1))) (.and (.or (.cmp .ne (.loc 10) (.loc 11)) (.cmp .is (.loc 9) (.cst .non))) (.cmp .eq (.idx (.idx (.loc 7) (.cst (.str "qq"))) (.cst (.int 0))) (.cst (.str "form"))))) (.cons (.ret (.cst (.bl false)))
  .nil) .nil)
  .nil)
def i_law_r4 : ISs := (.cons (.fors (.nm 13) (.seq (.loc 12)) i_law_b1)
  i_law_r3)
def i_law_r5 : ISs := (.cons (.asg (.nm 12) (.call "_law_cases_in" (.cons (.loc 5) .nil)))
  i_law_r4)
def i_law_r6 : ISs := (.cons (.ifs (.not (.v (.call "_law_same" (.cons (.call "span_of" (.cons (.loc 8) (.cons (.loc 5) .nil))) (.cons (.tup (.cons (.loc 10) (.cons (.loc 11) .nil))) .nil))))) (.cons (.ret (.cst (.bl false)))
  .nil) .nil)
  i_law_r5)
def i_law_r7 : ISs := (.cons (.asg (.tp [(.nm 10), (.nm 11)]) (.call "_law_span" (.cons (.loc 8) (.cons (.loc 5) .nil))))
  i_law_r6)
def i_law_r8 : ISs := (.cons (.ifs (.or (.not (.v (.call "_law_same" (.cons (.loc 8) (.cons (.call "_law_seen" (.cons (.loc 3) (.cons (.loc 2) (.cons (.loc 5) (.cons (.loc 7) .nil))))) .nil))))) (.not (.v (.call "_law_same" (.cons (.loc 9) (.cons (.call "_law_seen_truth" (.cons (.loc 4) (.cons (.loc 2) (.cons (.loc 5) (.cons (.loc 7) .nil))))) .nil)))))) (.cons (.ret (.cst (.bl false)))
  .nil) .nil)
  i_law_r7)
def i_law_r9 : ISs := (.cons (.par 8 9 (.call "seen_amount" (.cons (.loc 3) (.cons (.loc 2) (.cons (.loc 5) (.cons (.blt "dict" (.cons (.loc 7) .nil)) .nil))))) (.call "seen_truth" (.cons (.loc 4) (.cons (.loc 2) (.cons (.loc 5) (.cons (.blt "dict" (.cons (.loc 7) .nil)) .nil))))))
  i_law_r8)
def i_law_r10 : ISs := (.cons (.asg (.nm 7) (.dct ["pp", "qq"] (.cons (.tup (.cons (.cst (.str "form")) (.cons (.tup (.cons (.bin .sub (.call "_law_draw" (.cons (.loc 1) (.cons (.cst (.int 9)) .nil))) (.cst (.int 4))) (.cons (.blt "tuple" (.cons (.comp (.bin .sub (.call "_law_draw" (.cons (.loc 1) (.cons (.cst (.int 5)) .nil))) (.cst (.int 2))) (.nm 16) (.seq (.loc 2)) .yes [16]) .nil)) .nil))) .nil))) (.cons (.call "_law_seen" (.cons (.loc 6) (.cons (.loc 2) (.cons (.loc 5) (.cons (.dct [] .nil) .nil))))) .nil))))
  i_law_r9)
def i_law_b0 : ISs := (.cons (.asg (.nm 6) (.call "_law_amount" (.cons (.loc 1) (.cons (.loc 2) (.cons (.lst .nil) (.cons (.cst (.int 2)) .nil))))))
  i_law_r10)
def i_law_r11 : ISs := (.cons (.ret (.cst (.bl true)))
  .nil)
def i_law_r12 : ISs := (.cons (.fors (.nm 5) (.seq (.lst (.cons (.call "_law_cell" (.cons (.loc 1) (.cons (.loc 2) .nil))) (.cons (.call "_law_whole" (.cons (.loc 2) .nil)) (.cons (.blt "tuple" (.cons (.comp (.tup (.cons (.idx (.loc 16) (.cst (.int 1))) (.cons (.idx (.loc 16) (.cst (.int 1))) .nil))) (.nm 16) (.seq (.loc 2)) .yes [16]) .nil)) .nil))))) i_law_b0)
  i_law_r11)
def i_law_r13 : ISs := (.cons (.par 3 4 (.call "_law_amount" (.cons (.loc 1) (.cons (.loc 2) (.cons (.lst (.cons (.cst (.str "pp")) (.cons (.cst (.str "qq")) .nil))) (.cons (.cst (.int 3)) .nil))))) (.call "_law_condition" (.cons (.loc 1) (.cons (.loc 2) (.cons (.lst (.cons (.cst (.str "pp")) (.cons (.cst (.str "qq")) .nil))) (.cons (.cst (.int 3)) .nil))))))
  i_law_r12)
def i_law_r14 : ISs := (.cons (.asg (.nm 2) (.call "_law_facts" (.cons (.loc 1) (.cons (.cst (.int 3)) .nil))))
  i_law_r13)
def i_law : ISs := (.cons (.asg (.nm 1) (.call "_law_pool" (.cons (.loc 0) .nil)))
  i_law_r14)
def f_law : FD := ⟨1, 18, i_law⟩
theorem T_law : g.T "law" = some f_law := by kernel_rfl
end K08
namespace K08
open PySem Q
theorem okS_sn {s : Sn} {n : Nat} (h : s.ok n) (hn : n < 2 ^ 62) (k : Nat) : s.d.okS (k + 4) := by
  cases s with
  | form c xs =>
    have h : xs.length = n := h
    refine ⟨by simp, fun d hd => ?_⟩
    simp only [List.mem_cons, List.not_mem_nil, or_false] at hd
    rcases hd with rfl | rfl
    · exact True.intro
    · refine ⟨by simp, fun d hd => ?_⟩
      simp only [List.mem_cons, List.not_mem_nil, or_false] at hd
      rcases hd with rfl | rfl
      · exact True.intro
      · exact okS_row xs (by omega) k
  | span lo hi =>
    refine ⟨by simp, fun d hd => ?_⟩
    simp only [List.mem_cons, List.not_mem_nil, or_false] at hd
    rcases hd with rfl | rfl
    · exact True.intro
    · refine ⟨by simp, fun d hd => ?_⟩
      simp only [List.mem_cons, List.not_mem_nil, or_false] at hd
      rcases hd with rfl | rfl <;> exact True.intro
theorem okS_ob (o : Option Bool) (k : Nat) : (obD o).okS (k + 1) := by
  cases o <;> exact True.intro
theorem okS_pr (p : Iv) (k : Nat) : (pr p).okS (k + 2) := by
  refine ⟨by simp, fun d hd => ?_⟩
  simp only [List.mem_cons, List.not_mem_nil, or_false] at hd
  rcases hd with rfl | rfl <;> exact True.intro
theorem HS : HSeen g.T := ⟨T_span_of, T_form_span, T_form_sum, T_constant, T_seen_times, T_seen_sum, T_seen_part, T_seen_choice, T_seen_amount, T_seen_truth, T_place_of⟩
theorem HL : HLaw g.T := ⟨T__law_form_span, T__law_span, T__law_times, T__law_added, T__law_seen, T__law_seen_truth⟩
abbrev kn2 (p q : Sn) : Str → Sn := fun t => if t = ("pp" : Str) then p else q
theorem look2 (p q : D) : dLook ["pp", "qq"] [p, q] "pp" = some p ∧ dLook ["pp", "qq"] [p, q] "qq" = some q := by
  have h2 : ¬ ("pp" : Str) = "qq" := by decide +kernel
  simp [dLook, h2]
theorem qq_ne : ¬ ("qq" : Str) = "pp" := by decide +kernel
theorem knows2 {n : Nat} {p q : Sn} (hp : p.ok n) (hq : q.ok n) : knowsS (.dct ["pp", "qq"] [p.d, q.d]) ["pp", "qq"] n (kn2 p q) := by
  refine ⟨_, _, rfl, fun t ht => ?_⟩
  simp only [List.mem_cons, List.not_mem_nil, or_false] at ht
  rcases ht with rfl | rfl
  · rw [kn2, if_pos rfl]; exact ⟨(look2 _ _).1, hp⟩
  · rw [kn2, if_neg qq_ne]; exact ⟨(look2 _ _).2, hq⟩
abbrev kv2 (p q : Int) : Str → Int := fun t => if t = ("pp" : Str) then p else q
theorem knowsV (p q : Int) : knows (.dct ["pp", "qq"] [.int p, .int q]) ["pp", "qq"] (kv2 p q) := by
  refine ⟨_, _, rfl, fun t ht => ?_⟩
  simp only [List.mem_cons, List.not_mem_nil, or_false] at ht
  rcases ht with rfl | rfl
  · rw [kv2, if_pos rfl]; exact (look2 _ _).1
  · rw [kv2, if_neg qq_ne]; exact (look2 _ _).2
theorem knows0 (n : Nat) (kn : Str → Sn) : knowsS (.dct [] []) [] n kn := ⟨[], [], rfl, fun t ht => by simp at ht⟩
theorem knowsV0 (kn : Str → Int) : knows (.dct [] []) [] kn := ⟨[], [], rfl, fun t ht => by simp at ht⟩
abbrev Good (c : List Iv) : Prop := ∀ p ∈ c, -3 ≤ p.1 ∧ p.1 ≤ p.2 ∧ p.2 ≤ 6 ∧ p.2 + 1 - p.1 ≤ 5
abbrev dup (r : List Int) : List Iv := r.map fun x => (x, x)
theorem dup_d (r : List Int) : (r.map fun x => D.tup [.int x, .int x]) = (dup r).map pr := by
  rw [List.map_map]; rfl
theorem inner {ns : List Int} {fs : List Fc} (hl : fs.length ≤ 3) (hn : named fs) {a : Am} {c : Cn} {one : Am} (oa : a.ok fs.length ["pp", "qq"]) (oc : c.ok fs.length ["pp", "qq"]) (o1 : one.ok fs.length []) (da : a.dep ≤ 3) (dc : c.dep ≤ 5) (d1 : one.dep ≤ 2)
    {v : Int} {xs : List Int} (hxs : xs.length = fs.length) {qd : D} {told : Sn} {tr : Option Bool} {lo hi : Int} (tok : told.ok fs.length) {row : List Int} (hrow : row.length = fs.length) (hcb : cb (dup row)) {w : Int}
    (hw : a.val row (kv2 (fsp xs (dup row) v v).1 (one.val row fun _ => 0)) = w) (hv : told.holds row w) (hb : lo ≤ w ∧ w ≤ hi) (ht : ∀ k, tr = some k → c.val row (kv2 (fsp xs (dup row) v v).1 (one.val row fun _ => 0)) = k)
    (X5 s12 s14 s15 : Sl) {S : Sto} (hS : Pool S) (Z : Ends)
    (hZ : ∀ s14 s15, Z.nx [.val (.scr ns), .val (.obj 0), .val (.tup (fs.map Fc.d)), .val a.d, .val c.d, X5, .val one.d, .val (.dct ["pp", "qq"] [.tup [.str "form", .tup [.int v, .tup (xs.map .int)]], qd]), .val told.d, .val (obD tr), .val (.int lo), .val (.int hi), s12, .val (rowD row), s14, s15, .no, .no] S) :
    wSs (Cl g.T 39) i_law_b1 [.val (.scr ns), .val (.obj 0), .val (.tup (fs.map Fc.d)), .val a.d, .val c.d, X5, .val one.d, .val (.dct ["pp", "qq"] [.tup [.str "form", .tup [.int v, .tup (xs.map .int)]], qd]), .val told.d, .val (obD tr), .val (.int lo), .val (.int hi), s12, .val (rowD row), s14, s15, .no, .no] S Z := by
  have hok : cellOk (dup row) := fun p hp => by
    obtain ⟨x, _, rfl⟩ := List.mem_map.mp hp
    exact Int.le_refl _
  simp_arith only [i_law_b1, (look2 _ _).1]
  refine ⟨by simp, ?_⟩
  refine compL_m (α := Int) .int (fun x => .tup [.int x, .int x]) row (by rw [sizeL]; omega) ?_ ?_
  · intro x hx K acc ha hK
    try simp_arith only [true_and]
    exact ⟨ha, hK⟩
  rw [dup_d]
  try simp_arith only [true_and]
  refine w_law_fspan HL (by simp [hxs, hrow]) (by simp; omega) hcb hok ?_
  simp_arith only [pr]
  refine ⟨⟨by decide, by decide⟩, ?_⟩
  refine w_law_worked T__law_worked T__law_place hn (by omega) hrow (knowsV0 fun _ => 0) one 39 _ o1 (by omega) ?_
  try simp_arith only [true_and]
  refine ⟨⟨by decide, by decide +kernel⟩, ?_⟩
  simp_arith only [i_law_r2]
  have own14 : ∀ (i : Nat), i ∈ [14] → ∃ d, [Sl.val (.scr ns), .val (.obj 0), .val (.tup (fs.map Fc.d)), .val a.d, .val c.d, X5, .val one.d, .val (.dct ["pp", "qq"] [.tup [.str "form", .tup [.int v, .tup (xs.map .int)]], qd]), .val told.d, .val (obD tr), .val (.int lo), .val (.int hi), s12, .val (rowD row), .own (.dct ["pp", "qq"] [.int (fsp xs (dup row) v v).1, .int (one.val row fun _ => 0)]), s15, .no, .no][i]? = some (.own d) := fun i hi => by
    rw [List.mem_singleton.mp hi]; exact ⟨_, rfl⟩
  refine ⟨own14, ?_⟩
  refine w_law_worked T__law_worked T__law_place hn (by omega) hrow (knowsV _ _) a 39 _ oa (by omega) ?_
  rw [hw]
  have b1 : ¬ w < lo := by omega
  have b2 : ¬ hi < w := by omega
  have last : ∀ (Z : Ends), (∀ s14 s15, Z.nx [.val (.scr ns), .val (.obj 0), .val (.tup (fs.map Fc.d)), .val a.d, .val c.d, X5, .val one.d, .val (.dct ["pp", "qq"] [.tup [.str "form", .tup [.int v, .tup (xs.map .int)]], qd]), .val told.d, .val (obD tr), .val (.int lo), .val (.int hi), s12, .val (rowD row), s14, s15, .no, .no] S) → wSs (Cl g.T 39) i_law_r0 [.val (.scr ns), .val (.obj 0), .val (.tup (fs.map Fc.d)), .val a.d, .val c.d, X5, .val one.d, .val (.dct ["pp", "qq"] [.tup [.str "form", .tup [.int v, .tup (xs.map .int)]], qd]), .val told.d, .val (obD tr), .val (.int lo), .val (.int hi), s12, .val (rowD row), .val (.dct ["pp", "qq"] [.int (fsp xs (dup row) v v).1, .int (one.val row fun _ => 0)]), .val (.int w), .no, .no] S Z := fun Z hZ => by
    cases tr with
    | none =>
      simp_arith only [i_law_r0, obD]
      exact hZ _ _
    | some k =>
      simp_arith only [i_law_r0, obD]
      refine w_law_truth T__law_truth T__law_worked T__law_place hn (by omega) hrow (knowsV _ _) c 39 _ oc (by omega) ?_
      rw [ht k rfl]
      simp_arith only [beq_self_eq_true]
      exact hZ _ _
  cases told with
  | span l2 h2 =>
    simp_arith only [pool_flat hS, reduceCtorEq, and_false, or_self, freezeAll, freezeAt, List.foldl_cons, List.foldl_nil, i_law_r1, eq_false b1, eq_false b2, Sn.d, pr]
    exact last _ hZ
  | form c2 ys =>
    have tok : ys.length = fs.length := tok
    have hv : w = c2 + dotv ys row := hv
    simp_arith only [pool_flat hS, reduceCtorEq, and_false, or_self, freezeAll, freezeAt, List.foldl_cons, List.foldl_nil, i_law_r1, eq_false b1, eq_false b2, Sn.d, rowD]
    refine ⟨by simp, ?_⟩
    refine compL_m (α := Int) .int (fun x => .tup [.int x, .int x]) row (by rw [sizeL]; omega) ?_ ?_
    · intro x hx K acc ha hK
      try simp_arith only [true_and]
      exact ⟨ha, hK⟩
    rw [dup_d]
    try simp_arith only [true_and]
    refine w_law_fspan HL (xs := ys) (by simp [tok, hrow]) (by simp; omega) hcb hok ?_
    have e : (fsp ys (dup row) c2 c2).1 = c2 + dotv ys row := fsp_own _ _ _ _
    simp_arith only [pr, e, ← hv, beq_self_eq_true]
    exact last _ hZ
theorem body {ns : List Int} {fs : List Fc} (hl : fs.length ≤ 3) (hn : named fs) {a : Am} {c : Cn} (oa : a.ok fs.length ["pp", "qq"]) (oc : c.ok fs.length ["pp", "qq"]) (da : a.dep ≤ 3) (dc : c.dep ≤ 5) {cell : List Iv} (hcl : cell.length = fs.length) (hg : Good cell) (s6 s7 s8 s9 s10 s11 s12 s13 s14 s15 : Sl) {S : Sto} (hS : Pool S) (Z : Ends)
    (hZ : ∀ s6 s7 s8 s9 s10 s11 s12 s13 s14 s15 S, Pool S → Z.nx [.val (.scr ns), .val (.obj 0), .val (.tup (fs.map Fc.d)), .val a.d, .val c.d, .val (cellD cell), s6, s7, s8, s9, s10, s11, s12, s13, s14, s15, .no, .no] S) :
    wSs (Cl g.T 39) i_law_b0 [.val (.scr ns), .val (.obj 0), .val (.tup (fs.map Fc.d)), .val a.d, .val c.d, .val (cellD cell), s6, s7, s8, s9, s10, s11, s12, s13, s14, s15, .no, .no] S Z := by
  have hc : cb cell := fun p hp => by have := hg p hp; omega
  have hok : cellOk cell := fun p hp => (hg p hp).2.1
  simp_arith only [i_law_b0]
  refine w_law_amount T__law_amount T__law_draw T__law_spread hn (by omega) (ts := []) (by decide) 2 39 S _ hS (by decide) fun one S1 o1 d1 hS1 => ?_
  simp_arith only [i_law_r10]
  apply w_draw T__law_draw T__law_spread hS1 (by decide) (pow9 (by decide) (by decide))
  intro v S2 v0 v1 hS2
  try simp_arith only [true_and]
  refine ⟨by simp, ?_⟩
  refine compL_pool (R := fun d => ∃ i, d = .int i) _ S2 [] _ hS2 (by rw [sizeL]; simp; omega) (by simp) ?_ ?_
  · intro d hd S K acc hS hac hK
    try simp_arith only [true_and]
    apply w_draw T__law_draw T__law_spread hS (by decide) (pow9 (by decide) (by decide))
    intro v S2 v0 v1 hS2
    try simp_arith only [true_and]
    exact ⟨hac, hK _ _ ⟨_, rfl⟩ hS2⟩
  intro l S3 hll hR hS3
  have key : ∀ l : List D, (∀ d ∈ l, ∃ i : Int, d = .int i) → ∃ xs : List Int, l = xs.map .int := by
    intro l
    induction l with
    | nil => intro _; exact ⟨[], rfl⟩
    | cons d l ih =>
      intro h
      obtain ⟨i, rfl⟩ := h d (by simp)
      obtain ⟨xs, rfl⟩ := ih fun d hd => h d (by simp [hd])
      exact ⟨i :: xs, rfl⟩
  obtain ⟨xs, rfl⟩ := key l hR
  have hxs : xs.length = fs.length := by simpa using hll
  try simp_arith only [true_and]
  refine ⟨⟨by decide, by decide⟩, ?_⟩
  refine w_law_seen HL hn (by omega) hcl hc hok (knows0 _ (fun _ => .span 0 0)) one 39 _ o1 (by omega) ?_
  have qok : (one.seen fs.length cell (fun _ => .span 0 0)).ok fs.length := seen_ok (ts := []) hok (fun t ht => by simp at ht) one o1
  generalize hq : one.seen fs.length cell (fun _ => .span 0 0) = q at qok
  have hkn := knows2 (p := .form (v - 4) xs) (q := q) hxs qok
  have tok : (a.seen fs.length cell (kn2 (.form (v - 4) xs) q)).ok fs.length := seen_ok hok (fun t ht => by
    obtain ⟨_, _, _, h⟩ := hkn
    exact (h t ht).2) a oa
  try simp_arith only [true_and]
  refine ⟨⟨by decide, by decide +kernel⟩, ?_⟩
  simp_arith only [i_law_r9]
  refine w_seen_amount HS hn (by omega) hcl hc hok hkn a 39 _ oa (by omega) ?_
  try simp_arith only [true_and]
  refine w_seen_truth HS hn (by omega) hcl hc hok hkn c 39 _ oc (by omega) ?_
  simp_arith only [i_law_r8]
  have own7 : ∀ (i : Nat), i ∈ [7] → ∃ d, [Sl.val (.scr ns), .val (.obj 0), .val (.tup (fs.map Fc.d)), .val a.d, .val c.d, .val (cellD cell), .val one.d, .own (.dct ["pp", "qq"] [.tup [.str "form", .tup [.int (v - 4), .tup (xs.map .int)]], q.d]), .val (a.seen fs.length cell (kn2 (.form (v - 4) xs) q)).d, .val (obD (c.seen fs.length cell (kn2 (.form (v - 4) xs) q))), s10, s11, s12, s13, s14, s15, .no, .no][i]? = some (.own d) := fun i hi => by
    rw [List.mem_singleton.mp hi]; exact ⟨_, rfl⟩
  refine ⟨own7, ?_⟩
  refine w_law_seen HL hn (by omega) hcl hc hok hkn a 39 _ oa (by omega) ?_
  simp_arith only [pool_flat hS3, reduceCtorEq, and_false, or_self, freezeAll, freezeAt, List.foldl_cons, List.foldl_nil]
  refine w_same T__law_same 6 (k := 33) (okS_sn tok (by omega) 2) ?_
  try simp_arith only [true_and]
  refine w_law_seent HL hn (by omega) hcl hc hok hkn c 39 _ oc (by omega) ?_
  try simp_arith only [true_and]
  refine w_same T__law_same 6 (k := 33) (okS_ob _ 5) ?_
  simp_arith only [i_law_r7]
  refine w_law_span HL (by rw [hcl]; exact tok) (by omega) hc hok ?_
  simp_arith only [pr, i_law_r6]
  refine w_span_of HS.span_of HS.form_span (by rw [hcl]; exact tok) hc ?_
  try simp_arith only [true_and]
  refine w_same T__law_same 6 (k := 33) (okS_pr _ 4) ?_
  simp_arith only [i_law_r5]
  refine w_law_cases_in T__law_cases_in T__law_cases (by omega) (fun p hp => by have := hg p hp; omega) ?_
  simp_arith only [i_law_r4]
  have mem : ∀ row ∈ cases cell, row.length = fs.length ∧ inCell cell row = true := fun row hr => by
    have h1 := cases_row row hr
    have h2 := mem_cases cell row h1
    exact ⟨by omega, by rw [← h2]; exact decide_eq_true hr⟩
  have exq : ptc cell → (∃ c0 ys, q = .form c0 ys) → (Sn.sp cell (Am.seen fs.length cell (kn2 (.form (v - 4) xs) q) a)).1 = (Sn.sp cell (Am.seen fs.length cell (kn2 (.form (v - 4) xs) q) a)).2 ∧ c.seen fs.length cell (kn2 (.form (v - 4) xs) q) ≠ none := fun hp ⟨c0, ys, e⟩ => by
    have hx : ∀ t ∈ (["pp", "qq"] : List Str), (kn2 (.form (v - 4) xs) q t).exact := fun t _ => by
      unfold kn2
      split
      · exact True.intro
      · rw [e]; exact True.intro
    exact ⟨Sn.sp_pt hp (seen_exact (ts := ["pp", "qq"]) hp hx a oa), truth_exact (ts := ["pp", "qq"]) hp hx c oc⟩
  have fact : ∀ row ∈ cases cell, (Am.seen fs.length cell (kn2 (.form (v - 4) xs) q) a).holds row (a.val row (kv2 (fsp xs (dup row) (v - 4) (v - 4)).1 (one.val row fun _ => 0))) ∧
      ((Sn.sp cell (Am.seen fs.length cell (kn2 (.form (v - 4) xs) q) a)).1 ≤ a.val row (kv2 (fsp xs (dup row) (v - 4) (v - 4)).1 (one.val row fun _ => 0)) ∧ a.val row (kv2 (fsp xs (dup row) (v - 4) (v - 4)).1 (one.val row fun _ => 0)) ≤ (Sn.sp cell (Am.seen fs.length cell (kn2 (.form (v - 4) xs) q) a)).2) ∧
      (∀ k, c.seen fs.length cell (kn2 (.form (v - 4) xs) q) = some k → c.val row (kv2 (fsp xs (dup row) (v - 4) (v - 4)).1 (one.val row fun _ => 0)) = k) := fun row hr => by
    obtain ⟨hrl, hin⟩ := mem row hr
    obtain ⟨_, _, _, hko⟩ := hkn
    have hko : ∀ t ∈ (["pp", "qq"] : List Str), (kn2 (.form (v - 4) xs) q t).ok fs.length := fun t ht => (hko t ht).2
    have hh : ∀ t ∈ (["pp", "qq"] : List Str), (kn2 (.form (v - 4) xs) q t).holds row (kv2 (fsp xs (dup row) (v - 4) (v - 4)).1 (one.val row fun _ => 0) t) := fun t _ => by
      unfold kn2 kv2
      by_cases e : t = ("pp" : Str)
      · rw [if_pos e, if_pos e]; exact fsp_own _ _ _ _
      · rw [if_neg e, if_neg e, ← hq]
        exact seen_holds (ts := []) hok hcl hin hrl (fun t ht => by simp at ht) (fun t ht => by simp at ht) one o1
    have h1 := seen_holds hok hcl hin hrl hko hh a oa
    exact ⟨h1, Sn.sp_in hin h1, truth_holds hok hcl hin hrl hko hh c oc⟩
  have cbd : ∀ row ∈ cases cell, cb (dup row) := fun row hr => by
    obtain ⟨_, hin⟩ := mem row hr
    have key : ∀ (cell : List Iv) (row : List Int), Good cell → inCell cell row = true → cb (dup row) := by
      intro cell
      induction cell with
      | nil =>
        intro row _ h
        cases row with
        | nil => intro p hp; simp [dup] at hp
        | cons x r => simp [inCell] at h
      | cons p cell ih =>
        intro row hg h
        cases row with
        | nil => simp [inCell] at h
        | cons x r =>
          simp only [inCell, Bool.and_eq_true, decide_eq_true_eq] at h
          intro y hy
          have hp := hg p (by simp)
          rcases List.mem_cons.mp hy with rfl | hy
          · dsimp only; omega
          · exact ih r (fun q hq => hg q (by simp [hq])) h.2 y hy
    exact key cell row hg hin
  generalize Am.seen fs.length cell (kn2 (.form (v - 4) xs) q) a = told at tok exq fact
  generalize c.seen fs.length cell (kn2 (.form (v - 4) xs) q) = tr at exq fact
  refine forL_const (fun L => ∃ s13 s14 s15, L = [.val (.scr ns), .val (.obj 0), .val (.tup (fs.map Fc.d)), .val a.d, .val c.d, .val (cellD cell), .val one.d, .val (.dct ["pp", "qq"] [.tup [.str "form", .tup [.int (v - 4), .tup (xs.map .int)]], q.d]), .val told.d, .val (obD tr), .val (.int (Sn.sp cell told).1), .val (.int (Sn.sp cell told).2), .val (.lst ((cases cell).map rowD)), s13, s14, s15, .no, .no]) _ ?_ ?_ _ ⟨_, _, _, rfl⟩
  · rintro d hd L ⟨s13, s14, s15, rfl⟩ Z' hZ'
    obtain ⟨row, hr, rfl⟩ := List.mem_map.mp hd
    obtain ⟨f1, f2, f3⟩ := fact row hr
    refine inner hl hn oa oc o1 da dc d1 hxs tok (mem row hr).1 (cbd row hr) rfl f1 f2 f3 _ _ _ _ hS3 Z' fun s14 s15 => hZ' _ ⟨_, _, _, rfl⟩
  · rintro L ⟨s13, s14, s15, rfl⟩
    by_cases h1 : (cases cell).length = 1
    · have e1 : ((((cases cell).length : Nat) : Int) == 1) = true := by simp [h1]
      have hp := pt_of_one hok h1
      cases q with
      | span l2 h2 =>
        by_cases e2 : (Sn.sp cell told).1 = (Sn.sp cell told).2
        · cases tr with
          | none =>
            simp_arith only [i_law_r3, List.length_map, (look2 _ _).2, e1, e2, beq_self_eq_true, obD, Sn.d, pr]
            exact hZ _ _ _ _ _ _ _ _ _ _ _ hS3
          | some k =>
            simp_arith only [i_law_r3, List.length_map, (look2 _ _).2, e1, e2, beq_self_eq_true, obD, Sn.d, pr]
            exact hZ _ _ _ _ _ _ _ _ _ _ _ hS3
        · have e3 : ((Sn.sp cell told).1 == (Sn.sp cell told).2) = false := by simpa using e2
          simp_arith only [i_law_r3, List.length_map, (look2 _ _).2, e1, e3, Sn.d, pr]
          exact hZ _ _ _ _ _ _ _ _ _ _ _ hS3
      | form c0 ys =>
        obtain ⟨e2, e3⟩ := exq hp ⟨_, _, rfl⟩
        cases tr with
        | none => exact absurd rfl e3
        | some k =>
          simp_arith only [i_law_r3, List.length_map, (look2 _ _).2, e1, e2, beq_self_eq_true, obD]
          exact hZ _ _ _ _ _ _ _ _ _ _ _ hS3
    · have e1 : ((((cases cell).length : Nat) : Int) == 1) = false := by simp only [beq_eq_false_iff_ne, ne_eq]; omega
      simp_arith only [i_law_r3, List.length_map, e1]
      exact hZ _ _ _ _ _ _ _ _ _ _ _ hS3
theorem low_d (fs : List Fc) : (fs.map fun f => pr (f.lo, f.lo)) = (fs.map fun f => ((f.lo, f.lo) : Iv)).map pr := by
  rw [List.map_map]; rfl
theorem law_40 (ns : List Int) : Cl g.T 40 "law" [.scr ns] [] (fun r _ => r = .bl true) := by
  refine ⟨_, T_law, rfl, ?_⟩
  simp_arith only [f_law, i_law]
  apply w_pool T__law_pool
  intro S1 hS1
  simp_arith only [i_law_r14]
  refine w_law_factsN T__law_facts T__law_draw T__law_spread (most := 3) (by decide) hS1 ?_
  intro fs S2 hl hf hn hS2
  simp_arith only [i_law_r13]
  refine w_law_amount T__law_amount T__law_draw T__law_spread hn (by omega) (ts := ["pp", "qq"]) (by decide) 3 39 S2 _ hS2 (by decide) fun a S3 oa da hS3 => ?_
  try simp_arith only [true_and]
  refine w_law_condition T__law_condition T__law_amount T__law_draw T__law_spread hn (by omega) (ts := ["pp", "qq"]) (by decide) 3 39 S3 _ hS3 (by decide) fun c S4 oc dc hS4 => ?_
  simp_arith only [i_law_r12]
  refine w_law_cell T__law_cell T__law_draw T__law_spread hS4 hl hf ?_
  intro cell S5 hcl hg hS5
  try simp_arith only [true_and]
  refine w_lwhole T__law_whole (by omega) ?_
  try simp_arith only [true_and]
  refine ⟨by simp, ?_⟩
  refine compL_m Fc.d (fun f => pr (f.lo, f.lo)) fs (by rw [sizeL]; omega) ?_ ?_
  · intro x hx K acc hac hK
    simp_arith only [Fc.d]
    exact ⟨hac, hK⟩
  rw [low_d]
  try simp_arith only [true_and]
  have g2 : Good (fs.map Fc.iv) := fun p hp => by
    obtain ⟨f, h1, rfl⟩ := List.mem_map.mp hp
    have := hf f h1
    unfold Fc.ok at this
    simp only [Fc.iv]
    omega
  have g3 : Good (fs.map fun f => ((f.lo, f.lo) : Iv)) := fun p hp => by
    obtain ⟨f, h1, rfl⟩ := List.mem_map.mp hp
    have := hf f h1
    unfold Fc.ok at this
    dsimp only
    omega
  simp_arith only [forL]
  refine body hl hn oa oc da dc hcl hg _ _ _ _ _ _ _ _ _ _ hS5 _ fun _ _ _ _ _ _ _ _ _ _ S6 hS6 => ?_
  try simp_arith only [true_and]
  refine body hl hn oa oc da dc (by simp) g2 _ _ _ _ _ _ _ _ _ _ hS6 _ fun _ _ _ _ _ _ _ _ _ _ S7 hS7 => ?_
  try simp_arith only [true_and]
  refine body hl hn oa oc da dc (by simp) g3 _ _ _ _ _ _ _ _ _ _ hS7 _ fun _ _ _ _ _ _ _ _ _ _ S8 hS8 => ?_
  simp_arith only [i_law_r11]
def lev : Nat := 40
theorem law_pure : ∀ ns : List Int, ns.length ≤ 63 → Cl g.T lev "law" [.scr ns] [] (fun r _ => r = .bl true) := fun ns _ => law_40 ns
end K08
open PySem PySem.W PySem.Calls PyProof.Rows
set_option maxHeartbeats 0 in
theorem PySem.Challenge.cw_casesruled_k08_whole_seen_amounts_holds : PySem.Challenge.rw_casesruled_k08_whole_seen_amounts.Holds := by
  w_on; o_law
  refine HandSHeadRun.head_any (r := OpenLaw.row PySem.Challenge.rw_casesruled_k08_whole_seen_amounts) (q := view (OpenLaw.row PySem.Challenge.rw_casesruled_k08_whole_seen_amounts).prog [34]) (H := K08.hk) (ob := K08.ob) (M := 20000) (loose := K08.loose) (d := HandSHeadRun.topDef (OpenLaw.row PySem.Challenge.rw_casesruled_k08_whole_seen_amounts).prog 34) (kwd := []) K08.ob_eq
    (by kernel_rfl) (fun s => by kernel_rfl) K08.run (by kernel_rfl) (by kernel_rfl) (by kernel_rfl) (by rfl) (by first | assumption | decide +kernel) (by decide +kernel) ⟨rfl, rfl, rfl, rfl, rfl, by decide +kernel⟩ ?hw ?hc
  case hw => w_witness2
  case hc =>
    refine L2.walk_ofE (l := PySem.Challenge.rw_casesruled_k08_whole_seen_amounts) (n := 63) (k := K08.lev) (x := "script") (CX := L2.CX0) rfl (by decide) (by kernel_rfl) ⟨rfl, by decide, by decide⟩ ?F (fun _ _ _ _ z => z)
    intro w mg fa h Y G hmg0
    obtain ⟨K, KX, c⟩ := Y
    have hmg : mg ("law" : PySem.Str) = some (.ref fa) := by
      have e : (HandSHeadRun.topDef (OpenLaw.row PySem.Challenge.rw_casesruled_k08_whole_seen_amounts).prog 34).name = ("law" : PySem.Str) := by kernel_rfl
      rw [← e]
      exact hmg0
    have F := Q.facts_of (P := (PySem.Challenge.rw_casesruled_k08_whole_seen_amounts).prog) (w := w) KX G c K08.flats K08.binds
    have he : K08.e_law ∈ K08.g.fes := by simp [K08.g]
    obtain ⟨dvs, a, fd, D, hm, hr, hb⟩ := F.fn _ he
    have ea : a = fa := by
      have : mg ("law" : PySem.Str) = some (.ref a) := hm
      rw [hmg] at this
      cases this
      rfl
    subst ea
    have hdv : dvs = [] := by
      have := (hr (fun _ => none) [] (fun _ => False)).len
      exact List.length_eq_zero_iff.mp this.symm
    subst hdv
    refine ⟨K, fd, Q.SpQ K (Q.Cl K08.g.T K08.lev) "law" 1, KX, fun s v => ?_, fun H a ns hl ho hS => Q.law_sp (n := 63) K08.law_pure H a ns hl ho hS, fun base hKb hgb => Q.fns_ok K08.g_ok F _ _ he _ _ _ D hm⟩
    exact D.bindsA (ps := ["script"]) (fun _ _ _ _ _ _ us hl => match us, hl with | [_], _ => rfl) s [v] rfl
