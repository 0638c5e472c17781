import PyProof.Rows.All
import Wide.All
import OpenK.AllK
import Wide.FinOn
import PySem.Challenge.RW_casesruled_k03_amounts_told
import HandS.ForMost
import HandS.Nested
import HandS.HeadHook4
import HandS.TupAny
import HandS.TupMul
import HandS.Wide
import HandS.IsInst
import HandS.Deep
import HandS.Zip
import HandS.Flow
import HandS.Walk
import HandS.Dict
import HandS.Style
import HandS.Text
import HandS.Strs
import HandS.SetFor
import HandS.TupSets
import PyProof.Rows.SortShellAny
import HandS.DictComp
import HandS.WordsDict
import KE.KDictPairs
import HandS.More
import HandS.Conv
import KE.GoesEnum
import HandS.Iter
import HandS.Defaults
import HandS.Head0
import HandS.Head1
import HandS.Head2
import HandS.HeadEnd
import HandS.HeadHook1
import HandS.HeadHook2
import HandS.HeadHook3
import HandS.HeadWalk
import PyProof.StrLawsRepr
set_option Elab.async false
set_option linter.all false
set_option autoImplicit false
set_option maxRecDepth 100000
set_option maxHeartbeats 4000000
/-! Plain data D, the IR (IE, IS), its meaning (wE, wS). -/
namespace Q
open PySem

/-- a lambda's words: J(a, .., x), or J(a, .., x) is True -/
inductive LA where
  | nm (x : Str) (p : Pos)
  | ix (x : Str) (p : Pos) (i : Int) (k : Nat) (p2 p3 : Pos)
  deriving DecidableEq
structure LamE where
  a : Str
  ap : Pos
  f : Str
  fp : Pos
  as : List LA
  cp : Pos
  t : Option (Nat × Pos × Pos)
  scope : Scope
  deriving DecidableEq
def LA.expr : LA → Expr
  | .nm x p => .Name x p
  | .ix x p i k p2 p3 => .Subscript (.Name x p) (.Constant (.int i) k p2) p3
def LamE.args (l : LamE) : Arguments := ⟨[], [⟨l.a, none, l.ap⟩], none, [], [], none, []⟩
def LamE.body (l : LamE) : Expr := match l.t with
  | none => .Call (.Name l.f l.fp) (l.as.map LA.expr) [] l.cp
  | some (k, p, p2) => .Compare (.Call (.Name l.f l.fp) (l.as.map LA.expr) [] l.cp) [.Is] [.Constant (.bool true) k p] p2
/-- a lambda's function: its address, its code object, its words, its qualified name, its cells, what they hold -/
structure CloI where
  a : Addr
  c : Addr
  l : LamE
  q : Str
  cl : List (Str × Addr)
  ws : List L2.V
/-- plain data of Python; scr: the law's script; obj: a cell of the store -/
inductive D where
  | non | bl (b : Bool) | int (i : Int) | str (s : Str)
  | tup (l : List D) | lst (l : List D) | dct (ks : List Str) (vs : List D)
  | scr (ns : List Int) | obj (n : Nat)
  /-- a tuple that tuple() made of a list -/
  | xt (l : List D)
  /-- a lambda's function, by its key and what it captured -/
  | clo (i : CloI) (nm : Str) (caps : List D)

/-- a local name: no value, a value, a list or dict that this name alone holds -/
inductive Sl where
  | no | val (d : D) | own (d : D)
abbrev Lo := List Sl
abbrev Sto := List (List D)

mutual
def D.py : D → PyData
  | .non => .none
  | .bl b => .bool b
  | .int i => .int i
  | .str s => .str s
  | .tup l => .tuple (D.pys l)
  | .lst l => .list (D.pys l)
  | .dct _ _ => .dict []
  | .scr _ => .dict []
  | .obj _ => .dict []
  | .xt _ => .dict []
  | .clo _ _ _ => .dict []
def D.pys : List D → List PyData
  | [] => []
  | d :: r => d.py :: D.pys r
end
mutual
/-- no dict, no cell within -/
def D.plain : D → Bool
  | .tup l => D.plains l
  | .lst l => D.plains l
  | .dct _ _ => false
  | .scr _ => false
  | .obj _ => false
  | .xt _ => false
  | .clo _ _ _ => false
  | _ => true
def D.plains : List D → Bool
  | [] => true
  | d :: r => d.plain && D.plains r
end
mutual
/-- no list, no dict within -/
def D.flat : D → Bool
  | .tup l => D.flats l
  | .lst _ => false
  | .dct _ _ => false
  | .scr _ => false
  | .obj _ => false
  | .clo _ _ _ => false
  | .xt l => D.flats l
  | _ => true
def D.flats : List D → Bool
  | [] => true
  | d :: r => d.flat && D.flats r
end
mutual
/-- no dict within -/
def D.nodct : D → Bool
  | .tup l => D.nodcts l
  | .lst l => D.nodcts l
  | .dct _ _ => false
  | .clo _ _ _ => false
  | .scr _ => true
  | .obj _ => true
  | .xt l => D.nodcts l
  | _ => true
def D.nodcts : List D → Bool
  | [] => true
  | d :: r => d.nodct && D.nodcts r
end
/-- == may be asked -/
def D.eqOk (d : D) : Bool := d.plain && SeqAt.shaped d.py
def D.eq (a b : D) : Bool := PyData.eqv a.py b.py

/-! ### the IR -/
inductive BO where | add | sub | mul | fdiv | mod | pow
inductive CO where | eq | ne | lt | le | gt | ge | is | isn | mem | nmem
inductive IT where
  | nm (i : Nat) | tp (l : List IT)
mutual
inductive IE where
  | loc (i : Nat)
  | cst (d : D)
  | bin (op : BO) (a b : IE)
  | neg (a : IE)
  | not (a : IE)
  | and (a b : IE)
  | or (a b : IE)
  | ite (c : IC) (a b : IE)
  | cmp (op : CO) (a b : IE)
  | chain (o1 o2 : CO) (a b c : IE)
  | chain3 (o1 o2 o3 : CO) (a b c d : IE)
  | callv (i : Nat) (l : IEs)
  | callL (f : Str) (l : IEs) (nm : Str) (caps : List Nat)
  | tup (l : IEs)
  | lst (l : IEs)
  | new (l : IEs)
  | idx (a i : IE)
  | slc (a : IE) (lo hi : Option Int)
  | slcE (a : IE) (lo hi : IEo)
  | rev (a : IE)
  | call (f : Str) (l : IEs)
  | blt (f : String) (l : IEs)
  | isa (a : IE) (t : String)
  | comp (elt : IE) (t : IT) (src : II) (c : IC) (own : List Nat)
  | comp2 (elt : IE) (t1 : IT) (s1 : II) (t2 : IT) (s2 : II) (own : List Nat)
  | dct (ks : List Str) (l : IEs)
  | dcomp (k v : IE) (t : IT) (src : II) (c : IC) (own : List Nat)
/-- a test -/
inductive IC where
  | v (e : IE)
  | yes
  | not (a : IC)
  | and (a b : IC)
  | or (a b : IC)
  | cmp (op : CO) (a b : IE)
  | chain (o1 o2 : CO) (a b c : IE)
inductive IEs where
  | nil | cons (e : IE) (r : IEs)
inductive IEo where
  | no | so (e : IE)
/-- what a for walks -/
inductive II where
  | seq (e : IE)
  | rng (lo hi : IE)
  | rngd (lo hi : IE)
  | zip (a b : IE)
  | enm (e : IE)
  | wk (i : Nat)
  | pk (i : Nat)
end
mutual
inductive IS where
  | asg (t : IT) (e : IE)
  | asg2 (i j : Nat) (e : IE)
  | par (i j : Nat) (a b : IE)
  | aug (i : Nat) (op : BO) (e : IE)
  | setI (i : Nat) (k e : IE)
  | app (i : Nat) (e : IE)
  | ext (i : Nat) (e : IE)
  | pop (t : IT) (i : Nat)
  | ins (i : Nat) (e : IE)
  | upd (i : Nat) (e : IE)
  | pop2 (i j k : Nat)
  | expr (e : IE)
  | ret (e : IE)
  | ifs (c : IC) (a b : ISs)
  | whl (c : IC) (a : ISs)
  | fors (t : IT) (src : II) (a : ISs)
  | cont | brk | pass | never
inductive ISs where
  | nil | cons (s : IS) (r : ISs)
end

def IEs.len : IEs → Nat
  | .nil => 0
  | .cons _ r => r.len + 1
/-! ### the meaning of the operators -/
abbrev KF := D → Bool → Prop
def dAdd : D → D → KF → Prop
  | .int a, .int b, P => P (.int (a + b)) false
  | .str a, .str b, P => a.length + b.length ≤ sizeLine ∧ P (.str (a ++ b)) false
  | .tup a, .tup b, P => a.length + b.length ≤ sizeLine ∧ P (.tup (a ++ b)) false
  | .lst a, .lst b, P => a.length + b.length ≤ sizeLine ∧ P (.lst (a ++ b)) true
  | _, _, _ => False
def small64 (i : Int) : Prop := -(2 ^ 64) < i ∧ i < 2 ^ 64
def dMul : D → D → KF → Prop
  | .int a, .int b, P => (small64 a ∨ small64 b ∨ (a.natAbs < 2 ^ 4000 ∧ b.natAbs < 2 ^ 4000)) ∧ P (.int (a * b)) false
  | .tup a, .int k, P => (a ≠ [] ∧ 0 ≤ k ∧ k ≤ 1000 ∧ a.length ≤ 1000) ∧ P (.tup (List.replicate k.toNat a).flatten) false
  | _, _, _ => False
def dBin : BO → D → D → KF → Prop
  | .add, x, y, P => dAdd x y P
  | .sub, .int a, .int b, P => P (.int (a - b)) false
  | .mul, x, y, P => dMul x y P
  | .fdiv, .int a, .int b, P => (0 < b ∧ b.natAbs < 2 ^ 9000) ∧ P (.int (a / b)) false
  | .mod, .int a, .int b, P => b ≠ 0 ∧ P (.int (a.fmod b)) false
  | .pow, .int a, .int b, P => (0 ≤ b ∧ b ≤ 1000000 ∧ a.natAbs < 2 ^ 64) ∧ P (.int (a ^ b.toNat)) false
  | _, _, _, _ => False
/-- == of two may be asked -/
def eqQ : D → D → Bool
  | .str _, .str _ => true
  | x, y => x.eqOk && y.eqOk
/-- a dict's value at k -/
def dLook : List Str → List D → Str → Option D
  | k' :: ks, v :: vs, k => if k' = k then some v else dLook ks vs k
  | _, _, _ => none
def putKs (ks : List Str) (k : Str) : List Str := if ks.any (fun x => decide (x = k)) then ks else ks ++ [k]
def putVs (ks : List Str) (vs : List D) (k : Str) (v : D) : List D := if ks.any (fun x => decide (x = k)) then List.zipWith (fun k' v' => if k' = k then v else v') ks vs else vs ++ [v]
def strIn (i j : Str) : Bool := !(Builtin.Str.occurrences j i 0 j.length 1).isEmpty
def mgK (ks : List Str) : List Str → List Str
  | [] => ks
  | k :: r => mgK (putKs ks k) r
def mgV (ks : List Str) (vs : List D) : List Str → List D → List D
  | k :: r, v :: s => mgV (putKs ks k) (putVs ks vs k v) r s
  | _, _ => vs
def dMem : D → D → (Bool → Prop) → Prop
  | .str i, .str j, P => P (strIn i j)
  | x, .tup l, P => x.eqOk = true ∧ (D.tup l).eqOk = true ∧ P (l.any fun z => z.eq x)
  | x, .lst l, P => x.eqOk = true ∧ (D.lst l).eqOk = true ∧ P (l.any fun z => z.eq x)
  | .str k, .dct ks vs, P => ks.length = vs.length ∧ P (dLook ks vs k).isSome
  | _, _, _ => False
def lexInt : List Int → List Int → Bool
  | _, [] => false
  | [], _ :: _ => true
  | x :: xs, y :: ys => if x = y then lexInt xs ys else decide (x < y)
def dLt : D → D → (Bool → Prop) → Prop
  | .int a, .int b, P => P (decide (a < b))
  | .str a, .str b, P => P (decide (a.cps.toList < b.cps.toList))
  | _, _, _ => False
def D.isNon : D → Bool
  | .non => true
  | _ => false
def D.isBl (k : Bool) : D → Bool
  | .bl b => b == k
  | _ => false
def dCmp : CO → D → D → (Bool → Prop) → Prop
  | .eq, x, y, P => eqQ x y = true ∧ P (x.eq y)
  | .ne, x, y, P => eqQ x y = true ∧ P (!x.eq y)
  | .lt, x, y, P => dLt x y P
  | .gt, .int a, .int b, P => P (decide (b < a))
  | .gt, .str a, .str b, P => P (decide (b.cps.toList < a.cps.toList))
  | .le, .int a, .int b, P => P (decide (a ≤ b))
  | .le, .str a, .str b, P => P (!decide (b.cps.toList < a.cps.toList))
  | .ge, .int a, .int b, P => P (decide (b ≤ a))
  | .is, x, .non, P => P x.isNon
  | .isn, x, .non, P => P (!x.isNon)
  | .is, x, .bl k, P => P (x.isBl k)
  | .isn, x, .bl k, P => P (!x.isBl k)
  | .mem, x, y, P => dMem x y P
  | .nmem, x, y, P => dMem x y fun b => P (!b)
  | _, _, _, _ => False
/-- truth -/
def D.truth : D → (Bool → Prop) → Prop
  | .non, P => P false
  | .bl b, P => P b
  | .int i, P => P (i != 0)
  | .str s, P => s.length ≤ sizeLine ∧ P ((s.length : Int) != 0)
  | .tup l, P => P (!l.isEmpty)
  | .lst l, P => P (!l.isEmpty)
  | _, _ => False
def D.isA : D → String → Option Bool
  | .non, "str" | .non, "int" | .non, "bool" | .non, "tuple" | .non, "list" | .non, "dict" => some false
  | .bl _, "int" | .bl _, "bool" => some true
  | .bl _, "str" | .bl _, "tuple" | .bl _, "list" | .bl _, "dict" => some false
  | .int _, "int" => some true
  | .int _, "str" | .int _, "bool" | .int _, "tuple" | .int _, "list" | .int _, "dict" => some false
  | .str _, "str" => some true
  | .str _, "int" | .str _, "bool" | .str _, "tuple" | .str _, "list" | .str _, "dict" => some false
  | .tup _, "tuple" => some true
  | .tup _, "str" | .tup _, "int" | .tup _, "bool" | .tup _, "list" | .tup _, "dict" => some false
  | .lst _, "list" => some true
  | .lst _, "str" | .lst _, "int" | .lst _, "bool" | .lst _, "tuple" | .lst _, "dict" => some false
  | .xt _, "tuple" => some true
  | .xt _, "str" | .xt _, "int" | .xt _, "bool" | .xt _, "list" | .xt _, "dict" => some false
  | .dct _ _, "dict" => some true
  | .dct _ _, "str" | .dct _ _, "int" | .dct _ _, "bool" | .dct _ _, "tuple" | .dct _ _, "list" => some false
  | _, _ => none
def dIdx (S : Sto) : D → D → (D → Prop) → Prop
  | .tup l, .int i, P => ∃ d, L2.atI l i = some d ∧ P d
  | .lst l, .int i, P => ∃ d, L2.atI l i = some d ∧ P d
  | .obj n, .int i, P => ∃ l d, S[n]? = some l ∧ L2.atI l i = some d ∧ P d
  | .dct ks vs, .str k, P => ∃ d, dLook ks vs k = some d ∧ P d
  | .xt l, .int i, P => ∃ d, L2.atI l i = some d ∧ P d
  | .str z, .int i, P => ∃ c, z.length ≤ sizeLine ∧ L2.atI z.cps.toList i = some c ∧ P (.str ⟨#[c]⟩)
  | _, _, _ => False
/-- the part from lo to hi of a list -/
def cut {α : Type} (xs : List α) (lo hi : Option Int) : List α := (xs.drop (HT.sIx xs.length 0 lo)).take (HT.sIx xs.length xs.length hi - HT.sIx xs.length 0 lo)
def dRev : D → KF → Prop
  | .tup l, P => P (.tup l.reverse) false
  | .lst l, P => P (.lst l.reverse) true
  | .xt l, P => P (.tup l.reverse) false
  | _, _ => False
def dSlc : D → Option Int → Option Int → KF → Prop
  | .tup l, lo, hi, P => P (.tup (cut l lo hi)) false
  | .lst l, lo, hi, P => P (.lst (cut l lo hi)) true
  | .scr l, lo, hi, P => P (.lst ((cut l lo hi).map .int)) true
  | _, _, _, _ => False
def allB : List D → Option (List Bool)
  | [] => some []
  | .bl b :: r => (allB r).map (b :: ·)
  | _ :: _ => none
def allI : List D → Option (List Int)
  | [] => some []
  | .int i :: r => (allI r).map (i :: ·)
  | _ :: _ => none
def allS : List D → Option (List Str)
  | [] => some []
  | .str i :: r => (allS r).map (i :: ·)
  | _ :: _ => none
/-- pairs of a word and something -/
def allPr : List D → Option (List Str × List D)
  | [] => some ([], [])
  | .tup [.str k, v] :: r => (allPr r).map fun p => (k :: p.1, v :: p.2)
  | _ :: _ => none
/-- repr(x) -/
def dRepr (x : D) (P : Str → Prop) : Prop := ((x.plain = true ∧ x.py.hasDict = false) ∨ x = .dct [] []) ∧ x.py.showable = true ∧ x.py.depth ≤ 60 ∧ x.py.shown.length ≤ sizeLine ∧ P x.py.shown
/-- built-in functions -/
def dBlt (S : Sto) : String → List D → KF → Prop
  | "len", [.tup l], P => P (.int l.length) false
  | "len", [.lst l], P => P (.int l.length) false
  | "len", [.scr l], P => P (.int l.length) false
  | "len", [.str s], P => s.length ≤ sizeLine ∧ P (.int s.length) false
  | "len", [.dct ks _], P => P (.int ks.length) false
  | "len", [.xt l], P => P (.int l.length) false
  | "len", [.obj n], P => ∃ l, S[n]? = some l ∧ P (.int l.length) false
  | "all", [.lst l], P => ∃ bs, allB l = some bs ∧ P (.bl (bs.all id)) false
  | "any", [.lst l], P => ∃ bs, allB l = some bs ∧ P (.bl (bs.any id)) false
  | "sum", [.lst l], P => ∃ ns, allI l = some ns ∧ P (.int ns.sum) false
  | "tuple", [.lst l], P => P (.tup l) false
  | "tuple", [.tup l], P => P (.tup l) false
  | "list", [.lst l], P => P (.lst l) true
  | "list", [.tup l], P => P (.lst l) true
  | "list", [.scr l], P => P (.lst (l.map .int)) true
  | "int", [.int i], P => P (.int i) false
  | "min", [.int i, .int j], P => P (.int (if j < i then j else i)) false
  | "max", [.int i, .int j], P => P (.int (if j > i then j else i)) false
  | "min", [.lst l], P => ∃ ns m, allI l = some ns ∧ ns.min? = some m ∧ P (.int m) false
  | "max", [.lst l], P => ∃ ns m, allI l = some ns ∧ ns.max? = some m ∧ P (.int m) false
  | "dict", [.dct ks vs], P => P (.dct ks vs) true
  | "list", [.dct ks _], P => P (.lst (ks.map .str)) true
  | "sorted", [.lst l], P => ∃ ss, allS l = some ss ∧ ss.length < 64 ∧ ∀ ys : List Str, ys.Perm ss → PyProof.Rows.sortedS ys = true → P (.lst (ys.map .str)) true
  | "sortset", [.lst l], P => ∃ ss, allS l = some ss ∧ ss.length + 1 < 4096 ∧ ∀ ys : List Str, PyProof.Rows.sortedS ys = true → ys.Nodup → (∀ k, k ∈ ys ↔ k ∈ ss) → P (.lst (ys.map .str)) true
  | "dict", [.lst l], P => ∃ p, allPr l = some p ∧ p.1.Nodup ∧ P (.dct p.1 p.2) true
  | "dict", [.xt l], P => ∃ p, allPr l = some p ∧ p.1.Nodup ∧ P (.dct p.1 p.2) true
  | "xtuple", [.lst l], P => P (.xt l) false
  | "repr", [x], P => dRepr x fun t => P (.str t) false
  | "str", [.int i], P => i.natAbs.log2 < 1920 ∧ P (.str (toString i)) false
  | _, _, _ => False

def enumD (l : List D) : List D := l.mapIdx fun i v => .tup [.int i, v]

/-! ### the meaning of code -/
abbrev KE := D → Bool → Lo → Sto → Prop
abbrev KP := D → Lo → Sto → Prop
abbrev KT := Bool → Lo → Sto → Prop
abbrev Calls := Str → List D → Sto → (D → Sto → Prop) → Prop
structure Ends where
  nx : Lo → Sto → Prop
  rt : D → Sto → Prop
  bk : Lo → Sto → Prop := fun _ _ => False
  ct : Lo → Sto → Prop := fun _ _ => False

/-- e is only looked at: a list that its name alone holds stays so -/
def pk (e : IE) (t : Lo → Sto → KE → Prop) (L : Lo) (S : Sto) (P : KP) : Prop :=
  match e with
  | .loc i => (match L[i]? with
    | some (.val d) => P d L S
    | some (.own d) => P d L S
    | _ => False)
  | _ => t L S fun d _ L' S' => P d L' S'
/-- a target -/
def wG : IT → D → Lo → (Lo → Prop) → Prop
  | .nm i, d, L, P => P (L.set i (.val d))
  | .tp ts, d, L, P => ∃ ds, d = .tup ds ∧ wGs ts ds L P
where
  wGs : List IT → List D → Lo → (Lo → Prop) → Prop
  | [], [], L, P => P L
  | t :: ts, d :: ds, L, P => wG t d L fun L1 => wGs ts ds L1 P
  | _, _, _, _ => False
def IT.ix : IT → List Nat
  | .nm i => [i]
  | .tp ts => ixs ts
where
  ixs : List IT → List Nat
  | [] => []
  | t :: ts => IT.ix t ++ ixs ts
def wipeL (L : Lo) : List Nat → Lo
  | [] => L
  | v :: vs => (wipeL L vs).set v .no
/-- a comprehension's loop -/
def compL (t : D → Lo → (Lo → Prop) → Prop) (c : Lo → Sto → KT → Prop) (e : Lo → Sto → KE → Prop) (Lw : Lo) : List D → Sto → List D → (List D → Sto → Prop) → Prop
  | [], S, acc, P => P acc S
  | d :: ds, S, acc, P => t d Lw fun L1 => c L1 S fun b L2 S2 => L2 = L1 ∧ if b = true then e L1 S2 fun r _ L3 S3 => L3 = L1 ∧ acc.length < sizeLine ∧ compL t c e Lw ds S3 (acc ++ [r]) P else compL t c e Lw ds S2 acc P
def compL2 (t2 : D → Lo → (Lo → Prop) → Prop) (src : Lo → Sto → (List D → Lo → Sto → Prop) → Prop) (e : Lo → Sto → KE → Prop) (t1 : D → Lo → (Lo → Prop) → Prop) (ix : List Nat) (Lw : Lo) : List D → Sto → List D → (List D → Sto → Prop) → Prop
  | [], S, acc, P => P acc S
  | d :: ds, S, acc, P => t1 d Lw fun L1 => src L1 S fun xs L2 S2 => L2 = L1 ∧ compL t2 (fun L S k => k true L S) e (wipeL L1 ix) xs S2 acc fun acc' S3 => compL2 t2 src e t1 ix Lw ds S3 acc' P
/-- a dict comprehension's loop -/
def compD (t : D → Lo → (Lo → Prop) → Prop) (c : Lo → Sto → KT → Prop) (k v : Lo → Sto → KE → Prop) (Lw : Lo) : List D → Sto → List Str → List D → (List Str → List D → Sto → Prop) → Prop
  | [], S, ks, vs, P => P ks vs S
  | d :: ds, S, ks, vs, P => t d Lw fun L1 => c L1 S fun b L2 S2 => L2 = L1 ∧ if b = true then k L1 S2 fun y _ L3 S3 => ∃ s, y = .str s ∧ L3 = L1 ∧ v L1 S3 fun z _ L4 S4 => L4 = L1 ∧ ks.length < sizeLine ∧ compD t c k v Lw ds S4 (putKs ks s) (putVs ks vs s z) P else compD t c k v Lw ds S2 ks vs P
def rngList (lo : Int) (n : Nat) : List D := (List.range n).map fun (k : Nat) => .int (lo + (k : Int))
def rngDown (lo : Int) (n : Nat) : List D := (List.range n).map fun (k : Nat) => .int (lo - (k : Int))
def freezeAt (L : Lo) (i : Nat) : Lo := match L[i]? with
  | some (.own d) => L.set i (.val d)
  | _ => L
def freezeAll (L : Lo) (is : List Nat) : Lo := is.foldl freezeAt L
def lim62 (i : Int) : Prop := -(2 ^ 62) ≤ i ∧ i < 2 ^ 62
def Sto.flat (S : Sto) : Bool := S.all D.flats
def Sto.nodct (S : Sto) : Bool := S.all D.nodcts
def isOwnD : Option Sl → Bool
  | some (.own (.dct _ _)) => true
  | _ => false
/-- values of slots, none held alone -/
def capsP (L : Lo) : List Nat → (List D → Prop) → Prop
  | [], P => P []
  | i :: r, P => (match L[i]? with
    | some (.val d) => capsP L r fun ds => P (d :: ds)
    | _ => False)
def cloP (o : Option Sl) (P : D → Prop) : Prop := match o with
  | some (.val (.clo i nm caps)) => P (.clo i nm caps)
  | _ => False
/-- all that is lent is dicts -/
def lentD (L : Lo) : List Nat → Bool
  | [] => true
  | i :: r => isOwnD L[i]? && lentD L r

mutual
def wE (C : Calls) : IE → Lo → Sto → KE → Prop
  | .loc i, L, S, P => (match L[i]? with
    | some (.val d) => P d false L S
    | some (.own d) => P d false (L.set i (.val d)) S
    | _ => False)
  | .cst d, L, S, P => P d false L S
  | .bin op a b, L, S, P => pk a (wE C a) L S fun x L1 S1 => pk b (wE C b) L1 S1 fun y L2 S2 => dBin op x y fun r f => P r f L2 S2
  | .neg a, L, S, P => pk a (wE C a) L S fun x L1 S1 => ∃ i, x = .int i ∧ P (.int (-i)) false L1 S1
  | .not a, L, S, P => wE C a L S fun x _ L1 S1 => x.truth fun b => P (.bl (!b)) false L1 S1
  | .and a b, L, S, P => wE C a L S fun x _ L1 S1 => x.truth fun k => if k = true then wE C b L1 S1 P else P x false L1 S1
  | .or a b, L, S, P => wE C a L S fun x _ L1 S1 => x.truth fun k => if k = true then P x false L1 S1 else wE C b L1 S1 P
  | .ite c a b, L, S, P => wT C c L S fun k L1 S1 => if k = true then wE C a L1 S1 P else wE C b L1 S1 P
  | .cmp op a b, L, S, P => pk a (wE C a) L S fun x L1 S1 => pk b (wE C b) L1 S1 fun y L2 S2 => dCmp op x y fun k => P (.bl k) false L2 S2
  | .chain o1 o2 a b c, L, S, P => pk a (wE C a) L S fun x L1 S1 => pk b (wE C b) L1 S1 fun y L2 S2 => dCmp o1 x y fun k =>
      if k = true then pk c (wE C c) L2 S2 fun z L3 S3 => dCmp o2 y z fun k2 => P (.bl k2) false L3 S3 else P (.bl false) false L2 S2
  | .tup l, L, S, P => wEs C l L S fun ds L1 S1 => ds.length ≤ sizeLine ∧ P (.tup ds) false L1 S1
  | .lst l, L, S, P => wEs C l L S fun ds L1 S1 => ds.length ≤ sizeLine ∧ P (.lst ds) true L1 S1
  | .new l, L, S, P => wEs C l L S fun ds L1 S1 => ds.length ≤ sizeLine ∧ P (.obj S1.length) false L1 (S1 ++ [ds])
  | .idx a i, L, S, P => pk a (wE C a) L S fun x L1 S1 => pk i (wE C i) L1 S1 fun y L2 S2 => dIdx S2 x y fun r => P r false L2 S2
  | .slc a lo hi, L, S, P => pk a (wE C a) L S fun x L1 S1 => dSlc x lo hi fun r f => P r f L1 S1
  | .chain3 o1 o2 o3 a b c d, L, S, P => pk a (wE C a) L S fun x L1 S1 => pk b (wE C b) L1 S1 fun y L2 S2 => dCmp o1 x y fun k =>
      if k = true then pk c (wE C c) L2 S2 fun z L3 S3 => dCmp o2 y z fun k2 => if k2 = true then pk d (wE C d) L3 S3 fun u L4 S4 => dCmp o3 z u fun k3 => P (.bl k3) false L4 S4 else P (.bl false) false L3 S3 else P (.bl false) false L2 S2
  | .callv i l, L, S, P => cloP L[i]? fun f => wEs C l L S fun ds L1 S1 => C "!" (f :: ds) S1 fun r S2 => P r false L1 S2
  | .callL f l nm caps, L, S, P => wEs C l L S fun ds L1 S1 => ds.length = l.len ∧ capsP L1 caps fun cs => ∀ i : CloI, C f (ds ++ [.clo i nm cs]) S1 fun r S2 => P r false L1 S2
  | .rev a, L, S, P => pk a (wE C a) L S fun x L1 S1 => dRev x fun r f => P r f L1 S1
  | .slcE a lo hi, L, S, P => pk a (wE C a) L S fun x L1 S1 => wEo C lo L1 S1 fun l L2 S2 => wEo C hi L2 S2 fun h L3 S3 => dSlc x l h fun r f => P r f L3 S3
  | .call f l, L, S, P => wAs C l L S [] fun ds bs L1 S1 => ds.length = l.len ∧ (∀ i, i ∈ bs → ∃ d, L1[i]? = some (.own d)) ∧ C f ds S1 fun r S2 => if bs = [] ∨ (r.flat = true ∧ Sto.flat S2 = true) ∨ (lentD L1 bs = true ∧ r.nodct = true ∧ Sto.nodct S2 = true) then P r false L1 S2 else P r false (freezeAll L1 bs) S2
  | .blt f l, L, S, P => wPs C l L S fun ds L1 S1 => dBlt S1 f ds fun r g => P r g L1 S1
  | .isa a t, L, S, P => pk a (wE C a) L S fun x L1 S1 => ∃ b, x.isA t = some b ∧ P (.bl b) false L1 S1
  | .comp e t src c own, L, S, P => wI C src L S fun ds L1 S1 => (∀ i, i ∈ own → ∀ d, L1[i]? ≠ some (.own d)) ∧ compL (wG t) (wT C c) (wE C e) (wipeL L1 own) ds S1 [] fun acc S2 => P (.lst acc) true L1 S2
  | .dct ks l, L, S, P => wEs C l L S fun ds L1 S1 => (ks.length = ds.length ∧ ks.length ≤ 15 ∧ ks.Nodup) ∧ P (.dct ks ds) true L1 S1
  | .dcomp k v t src c own, L, S, P => wI C src L S fun ds L1 S1 => (∀ i, i ∈ own → ∀ d, L1[i]? ≠ some (.own d)) ∧ compD (wG t) (wT C c) (wE C k) (wE C v) (wipeL L1 own) ds S1 [] [] fun ks vs S2 => P (.dct ks vs) true L1 S2
  | .comp2 e t1 s1 t2 s2 own, L, S, P => wI C s1 L S fun ds L1 S1 => (∀ i, i ∈ own → ∀ d, L1[i]? ≠ some (.own d)) ∧ compL2 (wG t2) (wI C s2) (wE C e) (wG t1) t2.ix (wipeL L1 own) ds S1 [] fun acc S2 => P (.lst acc) true L1 S2
def wEs (C : Calls) : IEs → Lo → Sto → (List D → Lo → Sto → Prop) → Prop
  | .nil, L, S, P => P [] L S
  | .cons e r, L, S, P => wE C e L S fun d _ L1 S1 => wEs C r L1 S1 fun ds L2 S2 => P (d :: ds) L2 S2
def wPs (C : Calls) : IEs → Lo → Sto → (List D → Lo → Sto → Prop) → Prop
  | .nil, L, S, P => P [] L S
  | .cons e r, L, S, P => pk e (wE C e) L S fun d L1 S1 => wPs C r L1 S1 fun ds L2 S2 => P (d :: ds) L2 S2
/-- arguments of a def: lists held by a name alone are lent -/
def wAs (C : Calls) : IEs → Lo → Sto → List Nat → (List D → List Nat → Lo → Sto → Prop) → Prop
  | .nil, L, S, bs, P => P [] bs L S
  | .cons (.loc i) r, L, S, bs, P => (match L[i]? with
    | some (.val d) => wAs C r L S bs fun ds bs' L2 S2 => P (d :: ds) bs' L2 S2
    | some (.own d) => wAs C r L S (i :: bs) fun ds bs' L2 S2 => P (d :: ds) bs' L2 S2
    | _ => False)
  | .cons e r, L, S, bs, P => wE C e L S fun d _ L1 S1 => wAs C r L1 S1 bs fun ds bs' L2 S2 => P (d :: ds) bs' L2 S2
def wEo (C : Calls) : IEo → Lo → Sto → (Option Int → Lo → Sto → Prop) → Prop
  | .no, L, S, P => P none L S
  | .so e, L, S, P => pk e (wE C e) L S fun x L1 S1 => ∃ i, x = .int i ∧ P (some i) L1 S1
def wT (C : Calls) : IC → Lo → Sto → KT → Prop
  | .not a, L, S, P => wT C a L S fun b L1 S1 => P (!b) L1 S1
  | .and a b, L, S, P => wT C a L S fun k L1 S1 => if k = true then wT C b L1 S1 P else P false L1 S1
  | .or a b, L, S, P => wT C a L S fun k L1 S1 => if k = true then P true L1 S1 else wT C b L1 S1 P
  | .cmp op a b, L, S, P => pk a (wE C a) L S fun x L1 S1 => pk b (wE C b) L1 S1 fun y L2 S2 => dCmp op x y fun k => P k L2 S2
  | .chain o1 o2 a b c, L, S, P => pk a (wE C a) L S fun x L1 S1 => pk b (wE C b) L1 S1 fun y L2 S2 => dCmp o1 x y fun k =>
      if k = true then pk c (wE C c) L2 S2 fun z L3 S3 => dCmp o2 y z fun k2 => P k2 L3 S3 else P false L2 S2
  | .yes, L, S, P => P true L S
  | .v e, L, S, P => pk e (wE C e) L S fun x L1 S1 => x.truth fun k => P k L1 S1
def wI (C : Calls) : II → Lo → Sto → (List D → Lo → Sto → Prop) → Prop
  | .seq e, L, S, P => wE C e L S fun x _ L1 S1 => (match x with
    | .tup l => P l L1 S1
    | .lst l => P l L1 S1
    | .scr l => P (l.map .int) L1 S1
    | .xt l => P l L1 S1
    | .str z => P (z.cps.toList.map fun c => .str ⟨#[c]⟩) L1 S1
    | _ => False)
  | .rng a b, L, S, P => wE C a L S fun x _ L1 S1 => wE C b L1 S1 fun y _ L2 S2 => ∃ i j, x = .int i ∧ y = .int j ∧ lim62 i ∧ lim62 j ∧ P (rngList i (j - i).toNat) L2 S2
  | .rngd _ _, _, _, _ => False
  | .enm e, L, S, P => wE C e L S fun x _ L1 S1 => (match x with
    | .tup l => P (enumD l) L1 S1
    | .lst l => P (enumD l) L1 S1
    | _ => False)
  | .wk i, L, S, P => (match L[i]? with
    | some (.val (.tup l)) => P l L S
    | some (.val (.lst l)) => P l L S
    | some (.own (.lst l)) => P l (L.set i (.val (.lst l))) S
    | some (.val (.dct ks _)) => P (ks.map .str) L S
    | some (.own (.dct ks vs)) => P (ks.map .str) (L.set i (.val (.dct ks vs))) S
    | _ => False)
  | .pk i, L, S, P => (match L[i]? with
    | some (.val (.tup l)) => P l L S
    | some (.val (.lst l)) => P l L S
    | some (.val (.xt l)) => P l L S
    | some (.own (.lst l)) => P l L S
    | _ => False)
  | .zip a b, L, S, P => wE C a L S fun x _ L1 S1 => wE C b L1 S1 fun y _ L2 S2 => (match x, y with
    | .tup l, .tup m => l.length = m.length ∧ P (List.zipWith (fun u v => .tup [u, v]) l m) L2 S2
    | .lst l, .lst m => l.length = m.length ∧ P (List.zipWith (fun u v => .tup [u, v]) l m) L2 S2
    | _, _ => False)
end
end Q
/-! Statements' meaning; defs by tables; the translator. -/
namespace Q
open PySem

def asgF (t : IT) (d : D) (f : Bool) (L : Lo) (P : Lo → Prop) : Prop :=
  match t with
  | .nm i => P (L.set i (if f then .own d else .val d))
  | t => wG t d L P
def forL (t : D → Lo → (Lo → Prop) → Prop) (b : Lo → Sto → Ends → Prop) (Z : Ends) : List D → Lo → Sto → Prop
  | [], L, S => Z.nx L S
  | d :: ds, L, S => t d L fun L1 => b L1 S { nx := fun L2 S2 => forL t b Z ds L2 S2, rt := Z.rt, bk := Z.nx, ct := fun L2 S2 => forL t b Z ds L2 S2 }
def whlL (c : Lo → Sto → KT → Prop) (b : Lo → Sto → Ends → Prop) (Z : Ends) (L : Lo) (S : Sto) : Prop :=
  ∃ W : Nat → Lo → Sto → Prop, (∃ m, W m L S) ∧ ∀ m L S, W m L S → c L S fun k L1 S1 =>
    if k = true then b L1 S1 { nx := fun L2 S2 => ∃ m', m' < m ∧ W m' L2 S2, rt := Z.rt, bk := Z.nx, ct := fun L2 S2 => ∃ m', m' < m ∧ W m' L2 S2 } else Z.nx L1 S1
def flag (f : Bool) (d : D) : Sl := if f then .own d else .val d
mutual
def wS (C : Calls) : IS → Lo → Sto → Ends → Prop
  | .asg t e, L, S, Z => wE C e L S fun d f L1 S1 => asgF t d f L1 fun L2 => Z.nx L2 S1
  | .asg2 i j e, L, S, Z => wE C e L S fun d _ L1 S1 => Z.nx ((L1.set i (.val d)).set j (.val d)) S1
  | .par i j a b, L, S, Z => wE C a L S fun x f L1 S1 => wE C b L1 S1 fun y g L2 S2 => Z.nx ((L2.set i (flag f x)).set j (flag g y)) S2
  | .aug i op e, L, S, Z => ∃ x, L[i]? = some (.val x) ∧ wE C e L S fun y _ L1 S1 => (match x, y with
      | .int _, .int _ => dBin op x y fun r _ => Z.nx (L1.set i (.val r)) S1
      | .str _, .str _ => dBin op x y fun r _ => Z.nx (L1.set i (.val r)) S1
      | _, _ => False)
  | .setI i k e, L, S, Z => (∃ d, L[i]? = some (.own d) ∨ L[i]? = some (.val d)) ∧ wE C e L S fun d _ L1 S1 => pk k (wE C k) L1 S1 fun y L2 S2 => (match L2[i]?, y with
      | some (.val (.obj n)), .int z => ∃ l j, S2[n]? = some l ∧ _root_.L2.ixN l.length z = some j ∧ Z.nx L2 (S2.set n (l.set j d))
      | some (.own (.lst l)), .int z => ∃ j, _root_.L2.ixN l.length z = some j ∧ Z.nx (L2.set i (.own (.lst (l.set j d)))) S2
      | some (.own (.dct ks vs)), .str k => (ks.length = vs.length ∧ ks.length < sizeLine) ∧ Z.nx (L2.set i (.own (.dct (putKs ks k) (putVs ks vs k d)))) S2
      | _, _ => False)
  | .app i e, L, S, Z => (∃ l, L[i]? = some (.own (.lst l))) ∧ wE C e L S fun d _ L1 S1 => ∃ l, L1[i]? = some (.own (.lst l)) ∧ l.length < sizeLine ∧ Z.nx (L1.set i (.own (.lst (l ++ [d])))) S1
  | .ext i e, L, S, Z => (∃ l, L[i]? = some (.own (.lst l))) ∧ wE C e L S fun d _ L1 S1 => ∃ l m, L1[i]? = some (.own (.lst l)) ∧ d = .lst m ∧ l.length + m.length ≤ sizeLine ∧ Z.nx (L1.set i (.own (.lst (l ++ m)))) S1
  | .ins i e, L, S, Z => (∃ l, L[i]? = some (.own (.lst l))) ∧ wE C e L S fun d _ L1 S1 => ∃ l, L1[i]? = some (.own (.lst l)) ∧ l.length < sizeLine ∧ Z.nx (L1.set i (.own (.lst (d :: l)))) S1
  | .upd i e, L, S, Z => (∃ ks vs, L[i]? = some (.own (.dct ks vs))) ∧ wE C e L S fun d _ L1 S1 => ∃ ks vs ks2 vs2, L1[i]? = some (.own (.dct ks vs)) ∧ d = .dct ks2 vs2 ∧ ks.length + ks2.length ≤ sizeLine ∧ Z.nx (L1.set i (.own (.dct (mgK ks ks2) (mgV ks vs ks2 vs2)))) S1
  | .pop2 i j k, L, S, Z => ∃ l d e, L[k]? = some (.own (.lst (l ++ [e, d]))) ∧ Z.nx (((L.set k (.own (.lst l))).set i (.val d)).set j (.val e)) S
  | .pop t i, L, S, Z => ∃ l d, L[i]? = some (.own (.lst l)) ∧ l[l.length - 1]? = some d ∧ wG t d (L.set i (.own (.lst l.dropLast))) fun L2 => Z.nx L2 S
  | .expr e, L, S, Z => wE C e L S fun _ _ L1 S1 => Z.nx L1 S1
  | .ret e, L, S, Z => wE C e L S fun d _ _ S1 => Z.rt d S1
  | .ifs c a b, L, S, Z => wT C c L S fun k L1 S1 => if k = true then wSs C a L1 S1 Z else wSs C b L1 S1 Z
  | .whl c a, L, S, Z => whlL (wT C c) (wSs C a) Z L S
  | .fors t src a, L, S, Z => wI C src L S fun ds L1 S1 => forL (wG t) (wSs C a) Z ds L1 S1
  | .cont, L, S, Z => Z.ct L S
  | .brk, L, S, Z => Z.bk L S
  | .pass, L, S, Z => Z.nx L S
  | .never, _, _, _ => False
def wSs (C : Calls) : ISs → Lo → Sto → Ends → Prop
  | .nil, L, S, Z => Z.nx L S
  | .cons s r, L, S, Z => wS C s L S { Z with nx := fun L1 S1 => wSs C r L1 S1 Z }
end
/-- a def: parameters, all names, body -/
structure FD where
  np : Nat
  nn : Nat
  body : ISs
  /-- the last parameter is a lambda's function, that is called -/
  hl : Bool
def lo0 (ds : List D) (n : Nat) : Lo := ds.map .val ++ List.replicate (n - ds.length) .no
/-- the meaning within a def whose last argument is a lambda's function -/
def bindL (b : Bool) (C : Calls) (ds : List D) : Calls := match b with
  | false => C
  | true => fun f es S P => if f = "!" then (match es, ds.getLast? with
    | d :: r, some (.clo i nm caps) => d = .clo i nm caps ∧ C nm (r ++ caps) S P
    | _, _ => False) else C f es S P
/-- calls, at most k deep -/
def Cl (T : Str → Option FD) : Nat → Calls
  | 0 => fun _ _ _ _ => False
  | k + 1 => fun f ds S P => ∃ fd, T f = some fd ∧ ds.length = fd.np ∧ wSs (bindL fd.hl (Cl T k) ds) fd.body (lo0 ds fd.nn) S { nx := fun _ S1 => P .non S1, rt := P }

/-! ### the translator -/
def toLA : Expr → Option LA
  | .Name x p => some (.nm x p)
  | .Subscript (.Name x p) (.Constant (.int i) k p2) p3 => some (.ix x p i k p2 p3)
  | _ => none
def toLAs : List Expr → Option (List LA)
  | [] => some []
  | e :: r => do some ((← toLA e) :: (← toLAs r))
def toLam (args : Arguments) (body : Expr) (scope : Scope) : Option LamE := match args with
  | ⟨[], [⟨a, none, ap⟩], none, [], [], none, []⟩ => (match body with
    | .Call (.Name f fp) as [] cp => (toLAs as).map fun l => ⟨a, ap, f, fp, l, cp, none, scope⟩
    | .Compare (.Call (.Name f fp) as [] cp) [.Is] [.Constant (.bool true) k p] p2 => (toLAs as).map fun l => ⟨a, ap, f, fp, l, cp, some (k, p, p2), scope⟩
    | _ => none)
  | _ => none
/-- a lambda of the program: its key, the def that makes it, its words, what it captures -/
structure LE where
  key : Str
  by_ : Str
  l : LamE
  fr : List Str
structure TC where
  N : List Str
  gl : List (Str × D)
  fs : List (Str × Nat × List D)
  mu : Bool
  xt : Bool
  /-- defs whose last parameter is a lambda's function -/
  fl : List (Str × Nat)
  /-- this is such a def: its parameter -/
  lv : Option Str
  /-- the lambda that this def makes -/
  lam : Option LE
  /-- all lambdas -/
  les : List LE
def vis (sc : Scope) (x : Str) : Bool := match sc.names.lookup x with
  | some .local | some .cell | some .free => true
  | _ => false
def loc (sc : Scope) (x : Str) : Bool := match sc.names.lookup x with
  | some .local => true
  | _ => false
def glb (sc : Scope) (x : Str) : Bool := match sc.names.lookup x with
  | some .globalImplicit => true
  | _ => false
def fine (x : Str) : Bool := !(x == ("__debug__" : Str)) && !(x == ("__classdict__" : Str)) && !(x == ("__name__" : Str))
def toBO : Operator → Option BO
  | .Add => some .add | .Sub => some .sub | .Mult => some .mul | .FloorDiv => some .fdiv | .Mod => some .mod | .Pow => some .pow
  | _ => none
def toCO : CmpOp → CO
  | .Eq => .eq | .NotEq => .ne | .Lt => .lt | .LtE => .le | .Gt => .gt | .GtE => .ge | .Is => .is | .IsNot => .isn | .In => .mem | .NotIn => .nmem
def isBoolE : Expr → Bool
  | .Constant (.bool _) _ _ => true
  | _ => false
def strKeys : List (Option Expr) → Option (List Str)
  | [] => some []
  | some (.Constant (.str k) _ _) :: r => (strKeys r).map (k :: ·)
  | _ => none
def isConstE : Expr → Bool
  | .Constant _ _ _ => true
  | _ => false
def isNoneE : Expr → Bool
  | .Constant .none _ _ => true
  | _ => false
def intE : Expr → Option Int
  | .Constant (.int i) _ _ => some i
  | _ => none
def isTup : Expr → Bool
  | .Tuple _ _ _ => true
  | _ => false
def isSetE : Expr → Bool
  | .Set _ _ _ => true
  | _ => false
def cmpFine (op : CmpOp) (b : Expr) : Bool := match op with
  | .Is | .IsNot => isNoneE b || isBoolE b
  | .In | .NotIn => !isSetE b
  | _ => true
def builtins1 : List String := ["len", "all", "any", "sum", "min", "max"]
def types1 : List String := ["tuple", "list", "int", "dict"]
def isTys : List String := ["str", "int", "bool", "tuple", "list", "dict"]
def ofS (l : List String) (x : Str) : Option String := l.find? fun s => x == (s : Str)
def ownOf (N : List Str) (sc : Scope) : List (Str × Nat) := sc.names.filterMap fun (n, k) => if k == .local || k == .cell then (N.idxOf? n).map fun i => (n, i) else none
mutual
def trT (c : TC) (sc : Scope) : Nat → Expr → Option IT
  | 0, _ => none
  | n + 1, .Name x _ => if loc sc x || (sc.names.lookup x == some .cell) then (c.N.idxOf? x).map .nm else none
  | n + 1, .Tuple es _ _ => (trTs c sc n es).map .tp
  | _, _ => none
def trTs (c : TC) (sc : Scope) : Nat → List Expr → Option (List IT)
  | _, [] => some []
  | 0, _ => none
  | n + 1, e :: es => do some ((← trT c sc n e) :: (← trTs c sc n es))
end
def lamB (sc ls : Scope) (fr : List Str) : Bool := NdefX.ndefB sc ls fr && ls.names.all fun y => !decide (y.2 = .free) || decide (sc.names.lookup y.1 = some .cell)
def idxs (N : List Str) : List Str → Option (List Nat)
  | [] => some []
  | x :: r => do some ((← N.idxOf? x) :: (← idxs N r))
def cstS : List D → IEs
  | [] => .nil
  | d :: r => .cons (.cst d) (cstS r)
def addD : IEs → List D → IEs
  | .nil, ds => cstS ds
  | .cons e r, ds => .cons e (addD r ds)
def ixIn (c : TC) (scope : Scope) (n : Nat) (tg : Expr) : Bool := c.lv.isNone && match trT c scope n tg with
  | some t => t.ix.all fun i => ((ownOf c.N scope).map (·.2)).contains i
  | none => false
mutual
def trE (c : TC) : Nat → Scope → Expr → Option IE
  | 0, _, _ => none
  | n + 1, sc, e => match e with
    | .Name x _ => if fine x then (if vis sc x then (c.N.idxOf? x).map .loc else if glb sc x then (c.gl.lookup x).map .cst else none) else none
    | .Constant (.int i) _ _ => some (.cst (.int i))
    | .Constant (.bool i) _ _ => some (.cst (.bl i))
    | .Constant (.str i) _ _ => some (.cst (.str i))
    | .Constant .none _ _ => some (.cst .non)
    | .BinOp a op b _ => do some (.bin (← toBO op) (← trE c n sc a) (← trE c n sc b))
    | .UnaryOp .USub a _ => do some (.neg (← trE c n sc a))
    | .UnaryOp .Not a _ => do some (.not (← trE c n sc a))
    | .BoolOp op es _ => trB c n sc op es
    | .IfExp t a b _ => do some (.ite (← trC c n sc t) (← trE c n sc a) (← trE c n sc b))
    | .Compare a [op] [b] _ => if cmpFine op b then do some (.cmp (toCO op) (← trE c n sc a) (← trE c n sc b)) else none
    | .Compare a [o1, o2] [b, d] _ => if cmpFine o1 b && cmpFine o2 d && (o1 != .In) && (o1 != .NotIn) && (o2 != .In) && (o2 != .NotIn) then do some (.chain (toCO o1) (toCO o2) (← trE c n sc a) (← trE c n sc b) (← trE c n sc d)) else none
    | .Compare a [o1, o2, o3] [b, d, e4] _ => if cmpFine o1 b && cmpFine o2 d && cmpFine o3 e4 && (o1 != .In) && (o1 != .NotIn) && (o2 != .In) && (o2 != .NotIn) && (o3 != .In) && (o3 != .NotIn) then do some (.chain3 (toCO o1) (toCO o2) (toCO o3) (← trE c n sc a) (← trE c n sc b) (← trE c n sc d) (← trE c n sc e4)) else none
    | .Tuple es _ _ => (trEs c n sc es).map .tup
    | .List es _ => (trEs c n sc es).map (if c.mu then .new else .lst)
    | .Dict ks vs _ => do if ks.length == vs.length && decide (ks.length ≤ 15) then some (.dct (← strKeys ks) (← trEs c n sc vs)) else none
    | .DictComp k v [⟨tg, iter, ifs, 0⟩] scope _ =>
        if L2.blkC c.N sc scope (ownOf c.N scope) && ixIn c scope n tg then do
          some (.dcomp (← trE c n scope k) (← trE c n scope v) (← trT c scope n tg) (← trW c n sc (isTup tg) iter) (← (match ifs with | [] => some .yes | [t] => trC c n scope t | _ => none)) ((ownOf c.N scope).map (·.2)))
        else none
    | .Subscript a i _ => (match i with
      | .Slice none none (some (.UnaryOp .USub (.Constant (.int 1) _ _) _)) _ => do some (.rev (← trE c n sc a))
      | .Slice lo hi none _ => do some (.slcE (← trE c n sc a) (← trO c n sc lo) (← trO c n sc hi))
      | i => do some (.idx (← trE c n sc a) (← trE c n sc i)))
    | .Call (.Name f _) args [] _ => if glb sc f && fine f then (match c.fs.lookup f with
        | some (np, dv) => if args.length ≤ np && np ≤ args.length + dv.length && 0 < args.length && dv.all (fun d => d.flat) then do some (.call f (addD (← trEs c n sc args) (dv.drop (args.length + dv.length - np)))) else if args.isEmpty && np == 0 && dv.isEmpty then some (.call f .nil) else none
        | none => (match args with
          | [e1, e2, .Lambda la lb ls _] => (match c.fl.lookup f, c.lam with
            | some np, some le => if np == 3 && toLam la lb ls == some le.l && lamB sc ls le.fr then do some (.callL f (.cons (← trE c n sc e1) (.cons (← trE c n sc e2) .nil)) le.key (← idxs c.N le.fr)) else none
            | _, _ => none)
          | [a, .Name t _] => if f == ("isinstance" : Str) then (match ofS isTys t with
              | some T => if glb sc t then do some (.isa (← trE c n sc a) T) else none
              | none => none)
            else if f == ("min" : Str) then do some (.blt "min" (← trEs c n sc args)) else if f == ("max" : Str) then do some (.blt "max" (← trEs c n sc args)) else none
          | [a, _] => if f == ("min" : Str) then do some (.blt "min" (← trEs c n sc args)) else if f == ("max" : Str) then do some (.blt "max" (← trEs c n sc args)) else none
          | [a] => if f == ("repr" : Str) then do some (.blt "repr" (.cons (← trE c n sc a) .nil)) else if f == ("str" : Str) then do some (.blt "str" (.cons (← trE c n sc a) .nil)) else (match ofS builtins1 f with
            | some T => do some (.blt T (← trEs c n sc args))
            | none => (match ofS types1 f with
              | some T => if c.xt && T == "tuple" then do some (.blt "xtuple" (← trEs c n sc args)) else do some (.blt T (← trEs c n sc args))
              | none => if f == ("sorted" : Str) then (match a with
                | .Call (.Name g _) [b] [] _ => if g == ("set" : Str) && glb sc g && fine g then do some (.blt "sortset" (← trEs c n sc [b])) else do some (.blt "sorted" (← trEs c n sc args))
                | _ => do some (.blt "sorted" (← trEs c n sc args)))
                else none))
          | _ => none))
        else if c.lv == some f && vis sc f && fine f then (match args with
          | [a] => do some (.callv (← c.N.idxOf? f) (.cons (← trE c n sc a) .nil))
          | _ => none)
        else none
    | .ListComp elt [⟨tg, iter, ifs, 0⟩] scope _ =>
        if L2.blkC c.N sc scope (ownOf c.N scope) && ixIn c scope n tg then do
          some (.comp (← trE c n scope elt) (← trT c scope n tg) (← trJ c n sc (isTup tg) iter) (← (match ifs with | [] => some .yes | [t] => trC c n scope t | _ => none)) ((ownOf c.N scope).map (·.2)))
        else none
    | .ListComp elt [⟨tg, iter, [], 0⟩, ⟨tg1, iter1, [], 0⟩] scope _ =>
        if L2.blkC c.N sc scope (ownOf c.N scope) && ixIn c scope n tg && ixIn c scope n tg1 then do
          some (.comp2 (← trE c n scope elt) (← trT c scope n tg) (← trI c n sc (isTup tg) iter) (← trT c scope n tg1) (← trI c n scope (isTup tg1) iter1) ((ownOf c.N scope).map (·.2)))
        else none
    | _ => none
def trB (c : TC) : Nat → Scope → BoolOp → List Expr → Option IE
  | 0, _, _, _ => none
  | n + 1, sc, op, es => match es with
    | [] => none
    | [e] => trE c n sc e
    | e :: r => match op with
      | .And => do some (.and (← trE c n sc e) (← trB c n sc op r))
      | .Or => do some (.or (← trE c n sc e) (← trB c n sc op r))
def trEs (c : TC) : Nat → Scope → List Expr → Option IEs
  | _, _, [] => some .nil
  | 0, _, _ => none
  | n + 1, sc, e :: r => do some (.cons (← trE c n sc e) (← trEs c n sc r))
def trO (c : TC) : Nat → Scope → Option Expr → Option IEo
  | _, _, none => some .no
  | 0, _, _ => none
  | n + 1, sc, some e => do some (.so (← trE c n sc e))
def trC (c : TC) : Nat → Scope → Expr → Option IC
  | 0, _, _ => none
  | n + 1, sc, e => match e with
    | .UnaryOp .Not a _ => do some (.not (← trC c n sc a))
    | .BoolOp op es _ => trBC c n sc op es
    | .Compare a [op] [b] _ => if cmpFine op b then do some (.cmp (toCO op) (← trE c n sc a) (← trE c n sc b)) else none
    | .Compare a [o1, o2] [b, d] _ => if cmpFine o1 b && cmpFine o2 d && (o1 != .In) && (o1 != .NotIn) && (o2 != .In) && (o2 != .NotIn) then do some (.chain (toCO o1) (toCO o2) (← trE c n sc a) (← trE c n sc b) (← trE c n sc d)) else none
    | .Compare _ [_, _, _] [_, _, _] _ => none
    | .IfExp _ _ _ _ => none
    | e => do some (.v (← trE c n sc e))
def trBC (c : TC) : Nat → Scope → BoolOp → List Expr → Option IC
  | 0, _, _, _ => none
  | n + 1, sc, op, es => match es with
    | [] => none
    | [e] => trC c n sc e
    | e :: r => match op with
      | .And => do some (.and (← trC c n sc e) (← trBC c n sc op r))
      | .Or => do some (.or (← trC c n sc e) (← trBC c n sc op r))
def trW (c : TC) : Nat → Scope → Bool → Expr → Option II
  | 0, _, _, _ => none
  | n + 1, sc, tt, e => match e with
    | .Name x _ => if fine x && vis sc x then (c.N.idxOf? x).map .wk else none
    | e => trI c n sc tt e
/-- what a comprehension walks: in defs with xt a name's own list stays own -/
def trJ (c : TC) : Nat → Scope → Bool → Expr → Option II
  | 0, _, _, _ => none
  | n + 1, sc, tt, e => match e with
    | .Name x p => if c.xt then (if fine x && vis sc x then (c.N.idxOf? x).map .pk else none) else trI c n sc tt (.Name x p)
    | e => trI c n sc tt e
def trI (c : TC) : Nat → Scope → Bool → Expr → Option II
  | 0, _, _, _ => none
  | n + 1, sc, tt, e => match e with
    | .Call (.Name f _) [a] [] _ => if glb sc f && (f == ("range" : Str)) then do some (.rng (.cst (.int 0)) (← trE c n sc a)) else if tt && glb sc f && (f == ("enumerate" : Str)) then do some (.enm (← trE c n sc a)) else do some (.seq (← trE c n sc e))
    | .Call (.Name f _) [a, b] [] _ => if glb sc f && (f == ("range" : Str)) then do some (.rng (← trE c n sc a) (← trE c n sc b))
        else if tt && glb sc f && (f == ("zip" : Str)) then do some (.zip (← trE c n sc a) (← trE c n sc b)) else do some (.seq (← trE c n sc e))
    | e => do some (.seq (← trE c n sc e))
end
end Q
/-! The translator of statements and defs. -/
namespace Q
open PySem
def lcScope : Expr → Option Scope
  | .ListComp _ _ s _ => some s
  | .DictComp _ _ _ s _ => some s
  | _ => none
def swB (sc : Scope) (x : Str) (px : Pos) (e : Expr) : Bool := match lcScope e with
  | some s => loc sc x && px.line == e.pos.line && !(s.names.any fun (n, k) => n == x && (k == .local || k == .cell))
  | none => false
def isSDComp : Expr → Bool
  | .SetComp _ _ _ _ => true
  | _ => false
/-- a dict comprehension laid straight into a name: what it walks is told by its value -/
def trD (c : TC) (n : Nat) (sc : Scope) (e : Expr) : Option IE := match e with
  | .DictComp k v [⟨tg, iter, ifs, 0⟩] scope _ =>
    if L2.blkC c.N sc scope (ownOf c.N scope) && ixIn c scope n tg then do
      some (.dcomp (← trE c n scope k) (← trE c n scope v) (← trT c scope n tg) (← trI c n sc (isTup tg) iter) (← (match ifs with | [] => some .yes | [t] => trC c n scope t | _ => none)) ((ownOf c.N scope).map (·.2)))
    else none
  | _ => none
def isDC : Expr → Bool
  | .DictComp _ _ _ _ _ => true
  | _ => false
def trAE (c : TC) (n : Nat) (sc : Scope) (x : Str) (px : Pos) (e : Expr) : Option IE := if isDC e && swB sc x px e then trD c n sc e else trE c n sc e
def isSub : Expr → Bool
  | .Subscript _ _ _ => true
  | _ => false
def isTupE : Expr → Bool
  | .Tuple _ _ _ => true
  | _ => false
def tgt (sc : Scope) (x : Str) : Bool := loc sc x || (sc.names.lookup x == some .cell)
def parOk (sc : Scope) (x y : Str) (px py pt : Pos) (a b : Expr) : Bool :=
  loc sc x && loc sc y && !(x == y) && px.line == py.line && isPlain a && isPlain b && !(foldedForSure 8 a && foldedForSure 8 b) && !(constantsAlone 8 a && constantsAlone 8 b)
where isPlain : Expr → Bool
  | .Starred _ _ => false
  | _ => true
/-- one of the two names is a cell, or both values are constant: the pair is made -/
def parOkC (sc : Scope) (x y : Str) (a b : Expr) : Bool :=
  tgt sc x && tgt sc y && !(x == y) && (!(loc sc x && loc sc y) || (foldedForSure 8 a && foldedForSure 8 b)) && parOk.isPlain a && parOk.isPlain b
mutual
def trS (c : TC) (sc : Scope) : Nat → Stmt → Option IS
  | 0, _ => none
  | n + 1, .Assign [.Name x px] e pos => (match e with
      | .Call (.Attribute (.Name y py) m apos) [] [] cpos => if m == ("pop" : Str) && fine y && vis sc y && apos.endLine == cpos.line && tgt sc x then do some (.pop (.nm (← c.N.idxOf? x)) (← c.N.idxOf? y)) else none
      | e => if tgt sc x && !isSDComp e then do some (.asg (.nm (← c.N.idxOf? x)) (← trAE c n sc x px e)) else none)
  | n + 1, .Assign [.Name x _, .Name y _] e _ => if tgt sc x && tgt sc y && isSub e then do some (.asg2 (← c.N.idxOf? x) (← c.N.idxOf? y) (← trE c n sc e)) else none
  | n + 1, .Assign [.Tuple ts k tp] e pos => (match ts, e with
      | [.Name x px, .Name y py], .Tuple [.Call (.Attribute (.Name z pz) m apos) [] [] cpos, .Call (.Attribute (.Name z2 pz2) m2 apos2) [] [] cpos2] _ _ =>
        if parOk sc x y px py tp (.Call (.Attribute (.Name z pz) m apos) [] [] cpos) (.Call (.Attribute (.Name z2 pz2) m2 apos2) [] [] cpos2) && m == ("pop" : Str) && m2 == ("pop" : Str) && z == z2 && fine z && vis sc z && apos.endLine == cpos.line && apos2.endLine == cpos2.line then do some (.pop2 (← c.N.idxOf? x) (← c.N.idxOf? y) (← c.N.idxOf? z)) else none
      | [.Name x px, .Name y py], .Tuple [a, b] _ _ => if parOk sc x y px py tp a b || parOkC sc x y a b then do some (.par (← c.N.idxOf? x) (← c.N.idxOf? y) (← trE c n sc a) (← trE c n sc b)) else none
      | _, .Call (.Attribute (.Name y py) m apos) [] [] cpos => if m == ("pop" : Str) && fine y && vis sc y && apos.endLine == cpos.line then do some (.pop (← trT c sc n (.Tuple ts k tp)) (← c.N.idxOf? y)) else none
      | _, e => if !isTupE e then do some (.asg (← trT c sc n (.Tuple ts k tp)) (← trE c n sc e)) else none)
  | n + 1, .Assign [.Subscript (.Name x px) i sp] e pos => if fine x && vis sc x then do some (.setI (← c.N.idxOf? x) (← trE c n sc i) (← trE c n sc e)) else none
  | n + 1, .AugAssign (.Name x px) op e pos => if tgt sc x then do
      match (← toBO op) with
      | .add | .sub | .mul => some (.aug (← c.N.idxOf? x) (← toBO op) (← trE c n sc e))
      | _ => none
    else none
  | n + 1, .Expr e pos => (match e with
      | .Call (.Attribute (.Name y py) m apos) [a] [] cpos => if fine y && vis sc y && apos.endLine == cpos.line then (if m == ("append" : Str) then do some (.app (← c.N.idxOf? y) (← trE c n sc a)) else if m == ("extend" : Str) then do some (.ext (← c.N.idxOf? y) (← trE c n sc a)) else if m == ("update" : Str) then do some (.upd (← c.N.idxOf? y) (← trE c n sc a)) else none) else none
      | .Call (.Attribute (.Name y py) m apos) [.Constant (.int 0) _ _, a] [] cpos => if fine y && vis sc y && apos.endLine == cpos.line && m == ("insert" : Str) then do some (.ins (← c.N.idxOf? y) (← trE c n sc a)) else none
      | .Call (.Name f p) l [] cpos => do some (.expr (← trE c n sc (.Call (.Name f p) l [] cpos)))
      | .Constant (.str _) _ _ => some .pass
      | _ => none)
  | n + 1, .Return (some e) _ => do some (.ret (← trE c n sc e))
  | _ + 1, .Return none _ => some (.ret (.cst .non))
  | n + 1, .If t a b _ => do some (.ifs (← trC c n sc t) (← trSs c sc n a) (← trSs c sc n b))
  | n + 1, .While t a [] _ => do some (.whl (← trC c n sc t) (← trSs c sc n a))
  | n + 1, .For tg it a [] _ => do some (.fors (← trT c sc n tg) (← trI c n sc (isTup tg) it) (← trSs c sc n a))
  | _ + 1, .Continue _ => some .cont
  | _ + 1, .Break _ => some .brk
  | _ + 1, .Pass _ => some .pass
  | _ + 1, .Raise _ _ _ => some .never
  | _ + 1, _ => none
def trSs (c : TC) (sc : Scope) : Nat → List Stmt → Option ISs
  | _, [] => some .nil
  | 0, _ => none
  | n + 1, s :: r => do some (.cons (← trS c sc n s) (← trSs c sc n r))
end
end Q
/-! How plain data lies on the abstract heap. -/
namespace Q
open PySem PySem.Spec PyProof.Rows L2

def isM : HO → Bool
  | .lst _ => true
  | .dK _ => true
  | _ => false
/-- the object at f is a lambda's function -/
def LamO (f : Addr) (l : LamE) (q : Str) (cl : List (Str × Addr)) (c : Addr) : HO := .ext fun h => ∃ (od : Option Addr) (sl : Array (Option Value)) (pm ctv : Value), h.get? f = some (⟨.type "function", od, .func (PySem.W.kla_fn "<lambda>" q l.args l.body l.scope cl pm (.ref c) ctv), sl⟩ : Obj)
def isT : HO → Bool
  | .tbl _ => true
  | _ => false
theorem nt_of {o : HO} (h : isM o = true) : isT o = false := by cases o <;> first | rfl | cases h
def isK : HO → Bool
  | .tbl _ => true
  | .ext _ => true
  | _ => false
theorem nk_of {o : HO} (h : isM o = true) (k : isK o = true) : False := by cases o <;> simp_all [isM, isK]
theorem tab_go {H H' : Hp} (k : ∀ b o, H b = some o → isK o = true → H' b = some o) {P : Addr} {q : Str} (t : LamX.TabS H P q) : LamX.TabS H' P q := by
  obtain ⟨ps, h1, h2, h3⟩ := t
  refine ⟨ps, k _ _ h1 rfl, h2, fun pos cv hc => ?_⟩
  obtain ⟨c, e1, e2⟩ := h3 pos cv hc
  exact ⟨c, e1, k _ _ e2 rfl⟩
/-- the defs that make a lambda -/
def lamDefs : List Str := ["whole_paper", "is_whole_paper", "claim_paper", "is_claim_paper", "settled_paper", "is_settled_paper", "alike_paper", "is_alike_paper", "counts_paper", "is_counts_paper", "rises_paper", "is_rises_paper", "bounds_paper", "is_bounds_paper", "profile", "table_of", "change_table", "is_right_change"]
def hasG (K : PySem.W.Frag) (x : Str) : Bool := match PySem.W.nsIn K mainGlobals x with
  | some (some (.ref _)) => true
  | _ => false
def lamQ (x : Str) : Str := x ++ ".<locals>." ++ "<lambda>"
/-- the tables of code objects -/
def TabAll (K : PySem.W.Frag) (H : Hp) : Prop := ∀ x ∈ lamDefs, hasG K x = true → LamX.TabS H (He.cT K (x, none)).2 (lamQ x)
theorem TabAll.go {K : PySem.W.Frag} {H H' : Hp} (t : TabAll K H) (k : ∀ b o, H b = some o → isK o = true → H' b = some o) : TabAll K H' := fun x hx hg => tab_go k (t x hx hg)
section
variable (K : PySem.W.Frag) (H : Hp) (φ : List Addr) (W : Addr → Prop)
mutual
def Rep : D → V → Prop
  | .non, v => v = .non
  | .bl b, v => v = .bl b
  | .int i, v => v = .int i
  | .str s, v => v = .str s
  | .tup l, v => ∃ a vs, v = .ref a ∧ SqT K H a vs ∧ Reps l vs
  | .lst l, v => ∃ a, v = .ref a ∧ ¬ W a ∧ a ∉ φ ∧ ∃ vs, H a = some (.lst vs) ∧ Reps l vs
  | .dct ks ds, v => ∃ a, v = .ref a ∧ ¬ W a ∧ a ∉ φ ∧ ∃ kvs : List (Key × V), Rd H a (.dK kvs) ∧ kvs.map (·.1) = ks.map Sum.inr ∧ Reps ds (kvs.map (·.2))
  | .scr ns, v => ∃ a, v = .ref a ∧ ((∃ o, H a = some (.frz o (.lst (ns.map V.int)))) ∨ SqL K (fun _ => none) a (ns.map V.int))
  | .obj n, v => ∃ a, v = .ref a ∧ φ[n]? = some a
  | .clo i _ caps, v => v = .ref i.a ∧ H i.a = some (LamO i.a i.l i.q i.cl i.c) ∧ H i.c = some (LamX.CodeO i.c i.q) ∧ Reps caps i.ws
  | .xt l, v => ∃ a vs, v = .ref a ∧ (∃ o : Obj, H a = some (.frz o (.tup vs)) ∧ o.dict = none) ∧ Reps l vs
def Reps : List D → List V → Prop
  | [], [] => True
  | d :: ds, v :: vs => Rep d v ∧ Reps ds vs
  | _, _ => False
end
/-- what a list or a dict holds, at an address -/
def Top (d : D) (a : Addr) : Prop := match d with
  | .lst l => ∃ vs, H a = some (.lst vs) ∧ Reps K H φ W l vs
  | .dct ks ds => ∃ kvs : List (Key × V), H a = some (.dK kvs) ∧ kvs.map (·.1) = ks.map Sum.inr ∧ Reps K H φ W ds (kvs.map (·.2))
  | _ => False
/-- as it may be looked at -/
def RepP (d : D) (v : V) : Prop := Rep K H φ W d v ∨ ∃ a, v = .ref a ∧ a ∉ φ ∧ Top K H φ W d a
end
section
variable {K : PySem.W.Frag} {H H' : Hp} {φ φ' : List Addr} {W W' : Addr → Prop}
theorem Reps.len : ∀ {ds : List D} {vs : List V}, Reps K H φ W ds vs → ds.length = vs.length
  | [], [], _ => rfl
  | d :: ds, v :: vs, h => by simp only [Reps] at h; simp [Reps.len h.2]
  | [], _ :: _, h => by simp [Reps] at h
  | _ :: _, [], h => by simp [Reps] at h
theorem Reps.cons {d : D} {v : V} {ds : List D} {vs : List V} (h : Rep K H φ W d v) (h2 : Reps K H φ W ds vs) : Reps K H φ W (d :: ds) (v :: vs) := by simp only [Reps]; exact ⟨h, h2⟩
theorem Reps.nil : Reps K H φ W [] [] := by simp only [Reps]
theorem Reps.get : ∀ {ds : List D} {vs : List V} {i : Nat} {d : D}, Reps K H φ W ds vs → ds[i]? = some d → ∃ v, vs[i]? = some v ∧ Rep K H φ W d v
  | d :: ds, v :: vs, 0, _, h, e => by simp only [Reps] at h; simp at e; subst e; exact ⟨v, rfl, h.1⟩
  | d :: ds, v :: vs, i + 1, _, h, e => by simp only [Reps] at h; simp at e; simpa using Reps.get (i := i) h.2 e
  | [], vs, _, _, h, e => by simp at e
  | _ :: _, [], _, _, h, e => by simp [Reps] at h
theorem Reps.getv : ∀ {ds : List D} {vs : List V} {i : Nat} {v : V}, Reps K H φ W ds vs → vs[i]? = some v → ∃ d, ds[i]? = some d ∧ Rep K H φ W d v
  | d :: ds, v :: vs, 0, _, h, e => by simp only [Reps] at h; simp at e; subst e; exact ⟨d, rfl, h.1⟩
  | d :: ds, v :: vs, i + 1, _, h, e => by simp only [Reps] at h; simp at e; simpa using Reps.getv (i := i) h.2 e
  | [], [], _, _, h, e => by simp at e
  | [], _ :: _, _, _, h, e => by simp [Reps] at h
  | _ :: _, [], _, _, h, e => by simp [Reps] at h
theorem Reps.append : ∀ {ds es : List D} {vs us : List V}, Reps K H φ W ds vs → Reps K H φ W es us → Reps K H φ W (ds ++ es) (vs ++ us)
  | [], _, [], _, _, h => h
  | d :: ds, _, v :: vs, _, h, h2 => by simp only [Reps] at h; exact Reps.cons h.1 (Reps.append h.2 h2)
  | [], _, _ :: _, _, h, _ => by simp [Reps] at h
  | _ :: _, _, [], _, h, _ => by simp [Reps] at h
theorem Reps.take : ∀ {ds : List D} {vs : List V} (n : Nat), Reps K H φ W ds vs → Reps K H φ W (ds.take n) (vs.take n)
  | [], [], n, _ => by simp [Reps]
  | d :: ds, v :: vs, 0, _ => Reps.nil
  | d :: ds, v :: vs, n + 1, h => by simp only [Reps] at h; exact Reps.cons h.1 (Reps.take n h.2)
  | [], _ :: _, _, h => by simp [Reps] at h
  | _ :: _, [], _, h => by simp [Reps] at h
theorem Reps.drop : ∀ {ds : List D} {vs : List V} (n : Nat), Reps K H φ W ds vs → Reps K H φ W (ds.drop n) (vs.drop n)
  | [], [], n, _ => by simp [Reps]
  | d :: ds, v :: vs, 0, h => h
  | d :: ds, v :: vs, n + 1, h => by simp only [Reps] at h; exact Reps.drop n h.2
  | [], _ :: _, _, h => by simp [Reps] at h
  | _ :: _, [], _, h => by simp [Reps] at h
theorem Reps.set : ∀ {ds : List D} {vs : List V} {d : D} {v : V} (n : Nat), Reps K H φ W ds vs → Rep K H φ W d v → Reps K H φ W (ds.set n d) (vs.set n v)
  | [], [], _, _, n, _, _ => by simp [Reps]
  | d :: ds, v :: vs, _, _, 0, h, h2 => by simp only [Reps] at h; exact Reps.cons h2 h.2
  | d :: ds, v :: vs, _, _, n + 1, h, h2 => by simp only [Reps] at h; exact Reps.cons h.1 (Reps.set n h.2 h2)
  | [], _ :: _, _, _, _, h, _ => by simp [Reps] at h
  | _ :: _, [], _, _, _, h, _ => by simp [Reps] at h
theorem Reps.dropLast {ds : List D} {vs : List V} (h : Reps K H φ W ds vs) : Reps K H φ W ds.dropLast vs.dropLast := by
  rw [List.dropLast_eq_take, List.dropLast_eq_take, h.len]; exact h.take _
theorem Reps.rep {ds : List D} {vs : List V} (h : Reps K H φ W ds vs) : ∀ k : Nat, Reps K H φ W (List.replicate k ds).flatten (List.replicate k vs).flatten
  | 0 => Reps.nil
  | k + 1 => by rw [List.replicate_succ, List.replicate_succ]; exact h.append (Reps.rep h k)
theorem Reps.ints : ∀ (ns : List Int), Reps K H φ W (ns.map .int) (ns.map V.int)
  | [] => Reps.nil
  | n :: ns => Reps.cons (by simp only [Rep]) (Reps.ints ns)

/-- the heap goes on: what stands is kept, but for cells (and, for S, what W bears) -/
structure Tr (S : Bool) (H : Hp) (φ : List Addr) (W : Addr → Prop) (H' : Hp) (φ' : List Addr) (W' : Addr → Prop) : Prop where
  keep : ∀ a o, H a = some o → isT o = false → (isM o = true → a ∉ φ ∧ (S = true → ¬ W a)) → H' a = some o
  w : ∀ a, W' a → W a ∨ H a = none
  dom : ∀ a, H' a = none → H a = none
  pre : φ <+: φ'
  phi : ∀ a, a ∈ φ' → a ∈ φ ∨ H a = none
  tt : ∀ a ps, H a = some (.tbl ps) → ∃ ps', H' a = some (.tbl ps')
theorem Tr.refl {S : Bool} : Tr S H φ W H φ W := ⟨fun _ _ h _ _ => h, fun _ h => .inl h, fun _ h => h, List.prefix_refl _, fun _ h => .inl h, fun _ ps h => ⟨ps, h⟩⟩
theorem Tr.weak (t : Tr false H φ W H' φ' W') : Tr true H φ W H' φ' W' := ⟨fun a o h nt q => t.keep a o h nt fun m => ⟨(q m).1, fun z => nomatch z⟩, t.w, t.dom, t.pre, t.phi, t.tt⟩
theorem Tr.of {S : Bool} (t : Tr false H φ W H' φ' W') : Tr S H φ W H' φ' W' := by cases S; exact t; exact t.weak
theorem scr_sq {a : Addr} {xs : List V} (h : (∃ o, H a = some (.frz o (.lst xs))) ∨ SqL K (fun _ => none) a xs) : SqL K H a xs := by
  rcases h with ⟨o, h⟩ | h
  · exact .inl (.inr ⟨o, h⟩)
  · rcases h with (h | ⟨o, h⟩) | h
    · cases h
    · cases h
    · exact .inr h
theorem isM_none {H : Hp} {a : Addr} {o : HO} (h : H a = some o) (h2 : H a = none) : False := by rw [h] at h2; cases h2
theorem prefix_get {α : Type} {l m : List α} (h : l <+: m) {n : Nat} {a : α} (e : l[n]? = some a) : m[n]? = some a := by
  obtain ⟨t, rfl⟩ := h
  rw [List.getElem?_append_left (List.getElem?_eq_some_iff.mp e).1]; exact e
theorem SqT.go {S : Bool} (t : Tr S H φ W H' φ' W') {a : Addr} {vs : List V} (h : SqT K H a vs) : SqT K H' a vs := by
  rcases h with (h | ⟨o, h⟩) | h
  · exact .inl (.inl (t.keep _ _ h rfl (by intro z; cases z)))
  · exact .inl (.inr ⟨o, t.keep _ _ h rfl (by intro z; cases z)⟩)
  · exact .inr h
mutual
theorem Rep.go {S : Bool} (t : Tr S H φ W H' φ' W') : ∀ {d : D} {v : V}, Rep K H φ W d v → Rep K H' φ' W' d v
  | .non, v, h => by simp only [Rep] at h ⊢; exact h
  | .bl b, v, h => by simp only [Rep] at h ⊢; exact h
  | .int b, v, h => by simp only [Rep] at h ⊢; exact h
  | .str b, v, h => by simp only [Rep] at h ⊢; exact h
  | .tup l, v, h => by
    simp only [Rep] at h ⊢
    obtain ⟨a, vs, e, q, r⟩ := h
    exact ⟨a, vs, e, SqT.go t q, Reps.go t r⟩
  | .lst l, v, h => by
    simp only [Rep] at h ⊢
    obtain ⟨a, e, w, p, vs, q, r⟩ := h
    exact ⟨a, e, fun z => (t.w a z).elim w (isM_none q), fun z => (t.phi a z).elim p (isM_none q), vs, t.keep _ _ q rfl (fun _ => ⟨p, fun _ => w⟩), Reps.go t r⟩
  | .dct ks ds, v, h => by
    simp only [Rep] at h ⊢
    obtain ⟨a, e, w, p, vs, q, k, r⟩ := h
    have nn : H a = none → False := fun z => q.elim (fun q => isM_none q z) fun ⟨_, q⟩ => isM_none q z
    exact ⟨a, e, fun z => (t.w a z).elim w nn, fun z => (t.phi a z).elim p nn, vs, q.elim (fun q => .inl (t.keep _ _ q rfl (fun _ => ⟨p, fun _ => w⟩))) (fun ⟨o, q⟩ => .inr ⟨o, t.keep _ _ q rfl (fun z => by cases z)⟩), k, Reps.go t r⟩
  | .scr ns, v, h => by
    simp only [Rep] at h ⊢
    obtain ⟨a, e, q⟩ := h
    exact ⟨a, e, q.elim (fun ⟨o, q⟩ => .inl ⟨o, t.keep _ _ q rfl (by intro z; cases z)⟩) .inr⟩
  | .obj n, v, h => by
    simp only [Rep] at h ⊢
    obtain ⟨a, e, q⟩ := h
    exact ⟨a, e, prefix_get t.pre q⟩
  | .clo i nm caps, v, h => by
    simp only [Rep] at h ⊢
    exact ⟨h.1, t.keep _ _ h.2.1 rfl (by intro z; cases z), t.keep _ _ h.2.2.1 rfl (by intro z; cases z), Reps.go t h.2.2.2⟩
  | .xt l, v, h => by
    simp only [Rep] at h ⊢
    obtain ⟨a, vs, e, ⟨o, q, od⟩, r⟩ := h
    exact ⟨a, vs, e, ⟨o, t.keep _ _ q rfl (by intro z; cases z), od⟩, Reps.go t r⟩
theorem Reps.go {S : Bool} (t : Tr S H φ W H' φ' W') : ∀ {d : List D} {v : List V}, Reps K H φ W d v → Reps K H' φ' W' d v
  | [], [], _ => Reps.nil
  | d :: ds, v :: vs, h => by simp only [Reps] at h; exact Reps.cons (Rep.go t h.1) (Reps.go t h.2)
  | [], _ :: _, h => by simp [Reps] at h
  | _ :: _, [], h => by simp [Reps] at h
end
theorem Top.go (t : Tr false H φ W H' φ' W') {d : D} {a : Addr} (p : a ∉ φ) (h : Top K H φ W d a) : Top K H' φ' W' d a := by
  cases d with
  | lst l =>
    obtain ⟨vs, q, r⟩ := h
    exact ⟨vs, t.keep _ _ q rfl (fun _ => ⟨p, fun z => nomatch z⟩), Reps.go t r⟩
  | dct ks ds =>
    obtain ⟨vs, q, k, r⟩ := h
    exact ⟨vs, t.keep _ _ q rfl (fun _ => ⟨p, fun z => nomatch z⟩), k, Reps.go t r⟩
  | _ => exact h.elim
theorem Top.there {d : D} {a : Addr} (h : Top K H φ W d a) : ∃ o, H a = some o ∧ isM o = true := by
  cases d with
  | lst l => obtain ⟨vs, q, r⟩ := h; exact ⟨_, q, rfl⟩
  | dct ks ds => obtain ⟨vs, q, k, r⟩ := h; exact ⟨_, q, rfl⟩
  | _ => exact h.elim
theorem RepP.go (t : Tr false H φ W H' φ' W') {d : D} {v : V} (h : RepP K H φ W d v) : RepP K H' φ' W' d v := by
  rcases h with h | ⟨a, e, p, h⟩
  · exact .inl (h.go t)
  · obtain ⟨o, q, _⟩ := h.there
    exact .inr ⟨a, e, fun z => (t.phi a z).elim p (isM_none q), h.go t p⟩
theorem Tr.trans {S : Bool} {H2 : Hp} {φ2 : List Addr} {W2 : Addr → Prop} (t : Tr S H φ W H' φ' W') (u : Tr S H' φ' W' H2 φ2 W2) : Tr S H φ W H2 φ2 W2 where
  keep := fun a o h nt q => by
    have h1 := t.keep a o h nt q
    refine u.keep a o h1 nt fun m => ⟨fun z => (t.phi a z).elim (q m).1 (isM_none h), fun s z => (t.w a z).elim ((q m).2 s) (isM_none h)⟩
  w := fun a z => by
    rcases u.w a z with z | z
    · exact t.w a z
    · exact .inr (t.dom a z)
  dom := fun a z => t.dom a (u.dom a z)
  pre := t.pre.trans u.pre
  phi := fun a z => by
    rcases u.phi a z with z | z
    · exact t.phi a z
    · exact .inr (t.dom a z)
  tt := fun a ps h => by
    obtain ⟨ps1, h1⟩ := t.tt a ps h
    exact u.tt a ps1 h1
/-- W may shrink -/
theorem Tr.less {S : Bool} (h : ∀ a, W' a → W a) : Tr S H φ W H φ W' := ⟨fun _ _ h _ _ => h, fun a z => .inl (h a z), fun _ h => h, List.prefix_refl _, fun _ h => .inl h, fun _ ps h => ⟨ps, h⟩⟩
/-- a new object -/
theorem Tr.new {S : Bool} {p : Addr} {o : HO} (hp : H p = none) : Tr S H φ W (upd H p o) φ W :=
  ⟨fun a u h _ _ => by rw [upd_ne (ne_of_none h hp)]; exact h, fun _ h => .inl h, fun a z => by
    unfold upd at z; split at z
    · cases z
    · exact z, List.prefix_refl _, fun _ h => .inl h, fun a ps h => ⟨ps, by rw [upd_ne (ne_of_none h hp)]; exact h⟩⟩
/-- .. that W bears -/
theorem Tr.newW {S : Bool} {p : Addr} {o : HO} (hp : H p = none) : Tr S H φ W (upd H p o) φ (fun a => W a ∨ a = p) :=
  ⟨fun a u h _ _ => by rw [upd_ne (ne_of_none h hp)]; exact h, fun a z => z.elim .inl fun e => .inr (by rw [e]; exact hp), fun a z => by
    unfold upd at z; split at z
    · cases z
    · exact z, List.prefix_refl _, fun _ h => .inl h, fun a ps h => ⟨ps, by rw [upd_ne (ne_of_none h hp)]; exact h⟩⟩
end
end Q
/-! The state of a def's body, and lifted meanings. -/
namespace Q
open PySem PySem.Spec PyProof.Rows L2

abbrev Sg := L2.St
/-- a def's entry: the heap, what its callers hold alone, the cells -/
structure Fr where
  H0 : Hp
  Wc : Addr → Prop
  φ0 : List Addr
/-- a thing of this code's own -/
def Fr.fr (F : Fr) (a : Addr) : Prop := F.H0 a = none ∧ ¬ F.Wc a
def ownAt (L : Lo) (σ : Sg) (i : Nat) (a : Addr) : Prop := (∃ d, L[i]? = some (.own d)) ∧ σ[i]? = some (some (.ref a))
section
variable (K : PySem.W.Frag) (F : Fr) (H : Hp) (W : Addr → Prop) (φ : List Addr)
def SlotR (s : Sl) (x : Option (Option V)) : Prop := match s with
  | .no => True
  | .val d => ∃ v, x = some (some v) ∧ Rep K H φ W d v
  | .own d => ∃ a, x = some (some (.ref a)) ∧ W a ∧ F.fr a ∧ Top K H φ W d a
structure LoR (L : Lo) (σ : Sg) : Prop where
  len : L.length = σ.length
  at_ : ∀ (i : Nat) (s : Sl), L[i]? = some s → SlotR K F H W φ s σ[i]?
  apart : ∀ (i j : Nat) (a : Addr), ownAt L σ i a → ownAt L σ j a → i = j
structure StoR (S : Sto) : Prop where
  len : S.length = φ.length
  at_ : ∀ (n : Nat) (a : Addr) (l : List D), φ[n]? = some a → S[n]? = some l → ∃ vs, H a = some (.lst vs) ∧ vs.length ≤ sizeLine ∧ Reps K H φ W l vs
structure StR (L : Lo) (S : Sto) (σ : Sg) : Prop where
  ext : ∀ a o, F.H0 a = some o → isT o = false → (isM o = true → a ∉ F.φ0) → H a = some o
  dom : ∀ a, H a = none → F.H0 a = none
  wc : ∀ a, F.Wc a → W a
  wnew : ∀ a, W a → F.Wc a ∨ F.H0 a = none
  wt : ∀ a, W a → ∃ o, H a = some o ∧ isM o = true
  pre : F.φ0 <+: φ
  phi : ∀ a, a ∈ φ → a ∈ F.φ0 ∨ F.H0 a = none
  phw : ∀ a, a ∈ φ → ¬ W a
  nd : φ.Nodup
  tb : TabAll K H
  tt : ∀ a ps, F.H0 a = some (.tbl ps) → ∃ ps', H a = some (.tbl ps')
  st : StoR K H W φ S
  lo : LoR K F H W φ L σ
/-- an expression's value, by its flag -/
def VR (L : Lo) (σ : Sg) (f : Bool) (d : D) (v : V) : Prop := match f with
  | false => Rep K H φ W d v
  | true => ∃ a, v = .ref a ∧ W a ∧ F.fr a ∧ Top K H φ W d a ∧ ∀ i, ¬ ownAt L σ i a
end
def liftE (K : PySem.W.Frag) (t : Lo → Sto → KE → Prop) : TE := fun σ H Q => ∃ F W φ L S P, StR K F H W φ L S σ ∧ t L S P ∧
  ∀ d f L' S' H' W' φ' v, P d f L' S' → StR K F H' W' φ' L' S' σ → Tr false H φ W H' φ' W' → VR K F H' W' φ' L' σ f d v → Q v H'
def liftT (K : PySem.W.Frag) (t : Lo → Sto → KT → Prop) : TT := fun σ H Q => ∃ F W φ L S P, StR K F H W φ L S σ ∧ t L S P ∧
  ∀ b L' S' H' W' φ', P b L' S' → StR K F H' W' φ' L' S' σ → Tr false H φ W H' φ' W' → Q b H'
section
variable {K : PySem.W.Frag} {F : Fr} {H H' : Hp} {W W' : Addr → Prop} {φ φ' : List Addr} {L L' : Lo} {S S' : Sto} {σ : Sg}

theorem Tr.top (t : Tr false H φ W H' φ' W') {d : D} {a : Addr} (p : a ∉ φ) (h : Top K H φ W d a) : Top K H' φ' W' d a := h.go t p
theorem StR.phO (s : StR K F H W φ L S σ) {a : Addr} (h : W a) : a ∉ φ := fun z => s.phw a z h
/-- locals stay when the heap goes on -/
theorem LoR.go (t : Tr false H φ W H' φ' W') (h : LoR K F H W φ L σ) (hw : ∀ i a, ownAt L σ i a → a ∉ φ ∧ W' a) : LoR K F H' W' φ' L σ where
  len := h.len
  at_ := fun i s e => by
    have q := h.at_ i s e
    cases s with
    | no => trivial
    | val d => obtain ⟨v, e1, r⟩ := q; exact ⟨v, e1, r.go t⟩
    | own d =>
      obtain ⟨a, e1, w, h0, tp⟩ := q
      obtain ⟨p, w'⟩ := hw i a ⟨⟨d, e⟩, e1⟩
      exact ⟨a, e1, w', h0, tp.go t p⟩
  apart := h.apart
theorem StoR.go {S' : Bool} (t : Tr S' H φ W H' φ W') (hk : ∀ a, a ∈ φ → H' a = H a) (h : StoR K H W φ S) : StoR K H' W' φ S where
  len := h.len
  at_ := fun n a l e1 e2 => by
    obtain ⟨vs, q, z, r⟩ := h.at_ n a l e1 e2
    exact ⟨vs, by rw [hk a (List.mem_of_getElem? e1)]; exact q, z, r.go t⟩
/-- one address less is held -/
theorem StR.less (s : StR K F H W φ L S σ) (a : Addr) (ha : F.fr a) (hno : ∀ i, ¬ ownAt L σ i a) : StR K F H (fun b => W b ∧ b ≠ a) φ L S σ where
  ext := s.ext
  dom := s.dom
  wc := fun b h => ⟨s.wc b h, fun e => ha.2 (by rw [← e]; exact h)⟩
  wnew := fun b h => s.wnew b h.1
  wt := fun b h => s.wt b h.1
  pre := s.pre
  phi := s.phi
  phw := fun b h z => s.phw b h z.1
  nd := s.nd
  tb := s.tb
  tt := s.tt
  st := s.st.go (S' := false) (Tr.less fun b h => h.1) fun _ _ => rfl
  lo := s.lo.go (Tr.less fun b h => h.1) fun i b hb => by
    have hW : W b := by
      obtain ⟨⟨d, e⟩, e2⟩ := hb
      obtain ⟨b', e3, w, _⟩ := s.lo.at_ i _ e
      rw [e2] at e3; cases e3; exact w
    exact ⟨s.phO hW, hW, fun e => hno i (e ▸ hb)⟩
theorem Top.rep {d : D} {a : Addr} (h : Top K H φ W d a) (hw : ¬ W a) (hp : a ∉ φ) : Rep K H φ W d (.ref a) := by
  cases d with
  | lst l => simp only [Rep]; exact ⟨a, rfl, hw, hp, h⟩
  | dct ks ds => simp only [Rep]; obtain ⟨kvs, q, z⟩ := h; exact ⟨a, rfl, hw, hp, kvs, .inl q, z⟩
  | _ => exact h.elim
/-- a value is kept for good -/
theorem settle {f : Bool} {d : D} {v : V} (s : StR K F H W φ L S σ) (h : VR K F H W φ L σ f d v) : ∃ W', StR K F H W' φ L S σ ∧ Tr false H φ W H φ W' ∧ Rep K H φ W' d v := by
  cases f with
  | false => exact ⟨W, s, Tr.refl, h⟩
  | true =>
    obtain ⟨a, rfl, w, h0, tp, no⟩ := h
    refine ⟨_, s.less a h0 no, Tr.less fun b h => h.1, ?_⟩
    exact (tp.go (Tr.less fun b h => h.1) (s.phO w)).rep (fun z => z.2 rfl) (s.phO w)
theorem VR.repP {f : Bool} {d : D} {v : V} (s : StR K F H W φ L S σ) (h : VR K F H W φ L σ f d v) : RepP K H φ W d v := by
  cases f with
  | false => exact .inl h
  | true => obtain ⟨a, rfl, w, h0, tp, no⟩ := h; exact .inr ⟨a, rfl, s.phO w, tp⟩
/-- slots forgotten or told anew, the values being there -/
theorem StR.slots (s : StR K F H W φ L S σ) (hl : L'.length = L.length) (h : ∀ (i : Nat) (t : Sl), L'[i]? = some t → L[i]? = some t ∨ t = Sl.no ∨ ∃ d v, t = Sl.val d ∧ σ[i]? = some (some v) ∧ Rep K H φ W d v) : StR K F H W φ L' S σ where
  ext := s.ext
  dom := s.dom
  wc := s.wc
  wnew := s.wnew
  wt := s.wt
  pre := s.pre
  phi := s.phi
  phw := s.phw
  nd := s.nd
  tb := s.tb
  tt := s.tt
  st := s.st
  lo := by
    refine ⟨hl.trans s.lo.len, fun i t e => ?_, fun i j a hi hj => ?_⟩
    · rcases h i t e with h | rfl | ⟨d, v, rfl, e1, r⟩
      · exact s.lo.at_ i t h
      · trivial
      · exact ⟨v, e1, r⟩
    · have get : ∀ i, ownAt L' σ i a → ownAt L σ i a := fun i ⟨⟨d, e⟩, e2⟩ => by
        rcases h i _ e with h | h | ⟨_, _, h, _⟩
        · exact ⟨⟨d, h⟩, e2⟩
        · cases h
        · cases h
      exact s.lo.apart i j a (get i hi) (get j hj)
theorem set_cases {α : Type} {l : List α} {i j : Nat} {a b : α} (h : (l.set i a)[j]? = some b) : (j = i ∧ b = a) ∨ (j ≠ i ∧ l[j]? = some b) := by
  by_cases e : i = j
  · subst e
    have hl : i < l.length := by
      have := (List.getElem?_eq_some_iff.mp h).1
      simpa using this
    rw [List.getElem?_set_self hl] at h; cases h; exact .inl ⟨rfl, rfl⟩
  · rw [List.getElem?_set_ne e] at h; exact .inr ⟨fun z => e z.symm, h⟩
/-- a slot's list is kept for good -/
theorem StR.freeze (s : StR K F H W φ L S σ) {i : Nat} {d : D} (e : L[i]? = some (.own d)) : ∃ W' v, StR K F H W' φ (L.set i (.val d)) S σ ∧ Tr false H φ W H φ W' ∧ σ[i]? = some (some v) ∧ Rep K H φ W' d v := by
  obtain ⟨a, e1, w, h0, tp⟩ := s.lo.at_ i _ e
  have hp := s.phO w
  have rp : Rep K H φ (fun b => W b ∧ b ≠ a) d (.ref a) := (tp.go (Tr.less fun b h => h.1) hp).rep (fun z => z.2 rfl) hp
  have s1 : StR K F H W φ (L.set i .no) S σ := s.slots (by simp) fun j t et => by
    rcases set_cases et with ⟨_, rfl⟩ | ⟨_, h⟩
    · exact .inr (.inl rfl)
    · exact .inl h
  have s2 := s1.less a h0 fun j hj => by
    obtain ⟨⟨d', e'⟩, e2⟩ := hj
    rcases set_cases e' with ⟨_, h⟩ | ⟨hn, h⟩
    · cases h
    · exact hn (s.lo.apart j i a ⟨⟨d', h⟩, e2⟩ ⟨⟨d, e⟩, e1⟩)
  refine ⟨_, .ref a, s2.slots (by simp) fun j t et => ?_, Tr.less fun b h => h.1, e1, rp⟩
  rcases set_cases et with ⟨rfl, rfl⟩ | ⟨hn, h⟩
  · exact .inr (.inr ⟨d, _, rfl, e1, rp⟩)
  · exact .inl (by rw [List.getElem?_set_ne (Ne.symm hn)]; exact h)
/-- a slot is read -/
theorem StR.val (s : StR K F H W φ L S σ) {i : Nat} {d : D} (e : L[i]? = some (.val d)) : ∃ v, σ[i]? = some (some v) ∧ Rep K H φ W d v := s.lo.at_ i _ e
theorem StR.own (s : StR K F H W φ L S σ) {i : Nat} {d : D} (e : L[i]? = some (.own d)) : ∃ a, σ[i]? = some (some (.ref a)) ∧ W a ∧ F.fr a ∧ a ∉ φ ∧ Top K H φ W d a := by
  obtain ⟨a, e1, w, h0, tp⟩ := s.lo.at_ i _ e
  exact ⟨a, e1, w, h0, s.phO w, tp⟩
/-- the heap grows by an object that nobody holds alone -/
theorem StR.grow (s : StR K F H W φ L S σ) {p : Addr} {o : HO} (hp : H p = none) : StR K F (upd H p o) W φ L S σ where
  ext := fun a u h nt q => by
    have := s.ext a u h nt q
    rw [upd_ne (ne_of_none this hp)]; exact this
  dom := fun a z => s.dom a (by
    unfold upd at z; split at z
    · cases z
    · exact z)
  wc := s.wc
  wnew := s.wnew
  wt := fun a h => by
    obtain ⟨u, e, m⟩ := s.wt a h
    exact ⟨u, by rw [upd_ne (ne_of_none e hp)]; exact e, m⟩
  pre := s.pre
  phi := s.phi
  phw := s.phw
  nd := s.nd
  tb := s.tb.go fun b o e _ => by rw [upd_ne (ne_of_none e hp)]; exact e
  tt := fun a ps h => by
    obtain ⟨ps', e⟩ := s.tt a ps h
    exact ⟨ps', by rw [upd_ne (ne_of_none e hp)]; exact e⟩
  st := ⟨s.st.len, fun n a l e1 e2 => by
    obtain ⟨vs, q, z, r⟩ := s.st.at_ n a l e1 e2
    exact ⟨vs, by rw [upd_ne (ne_of_none q hp)]; exact q, z, r.go (S := false) (Tr.new hp)⟩⟩
  lo := s.lo.go (Tr.new hp) fun i a ⟨⟨d, e⟩, e2⟩ => by
    obtain ⟨a', e3, w, _, p, _⟩ := s.own e
    rw [e2] at e3; cases e3; exact ⟨p, w⟩
/-- a new object that the code holds alone -/
theorem StR.growW (s : StR K F H W φ L S σ) {p : Addr} {o : HO} (hp : H p = none) (hm : isM o = true) (hz : p ∉ φ := by assumption) : StR K F (upd H p o) (fun a => W a ∨ a = p) φ L S σ where
  ext := (s.grow (o := o) hp).ext
  dom := (s.grow (o := o) hp).dom
  wc := fun a h => .inl (s.wc a h)
  wnew := fun a h => h.elim (s.wnew a) fun e => .inr (by rw [e]; exact s.dom p hp)
  wt := fun a h => h.elim ((s.grow (o := o) hp).wt a) fun e => ⟨o, by rw [e]; exact upd_same, hm⟩
  pre := s.pre
  phi := s.phi
  phw := fun a h z => z.elim (s.phw a h) fun e => hz (e ▸ h)
  nd := s.nd
  tb := s.tb.go fun b o e _ => by rw [upd_ne (ne_of_none e hp)]; exact e
  tt := fun a ps h => by
    obtain ⟨ps', e⟩ := s.tt a ps h
    exact ⟨ps', by rw [upd_ne (ne_of_none e hp)]; exact e⟩
  st := ⟨s.st.len, fun n a l e1 e2 => by
    obtain ⟨vs, q, z, r⟩ := s.st.at_ n a l e1 e2
    exact ⟨vs, by rw [upd_ne (ne_of_none q hp)]; exact q, z, r.go (S := false) (Tr.newW hp)⟩⟩
  lo := s.lo.go (Tr.newW hp) fun i a ⟨⟨d, e⟩, e2⟩ => by
    obtain ⟨a', e3, w, _, p, _⟩ := s.own e
    rw [e2] at e3; cases e3; exact ⟨p, .inl w⟩
theorem StR.phN (s : StR K F H W φ L S σ) {p : Addr} (hp : H p = none) : p ∉ φ := fun z => by
  obtain ⟨n, hn⟩ := List.mem_iff_getElem?.mp z
  have hl : n < S.length := by rw [s.st.len]; exact (List.getElem?_eq_some_iff.mp hn).1
  obtain ⟨vs, q, _⟩ := s.st.at_ n p S[n] hn (List.getElem?_eq_getElem hl)
  rw [hp] at q; cases q
theorem StR.frN (s : StR K F H W φ L S σ) {p : Addr} (hp : H p = none) : F.fr p := ⟨s.dom p hp, fun z => by
  obtain ⟨o, e, _⟩ := s.wt p (s.wc p z)
  rw [hp] at e; cases e⟩
theorem StR.noOwn (s : StR K F H W φ L S σ) {p : Addr} (hp : H p = none) : ∀ i, ¬ ownAt L σ i p := fun i ⟨⟨d, e⟩, e2⟩ => by
  obtain ⟨a', e3, w, _, _, t⟩ := s.own e
  rw [e2] at e3; cases e3
  obtain ⟨o, q, _⟩ := t.there
  rw [hp] at q; cases q
end
end Q
/-! Lambdas: how they are made. -/
namespace Q
open PySem PySem.Spec PyProof.Rows L2
section
variable {X : Cx} {pins : List (Addr × Obj)} {σ : L2.St} {H : Hp} {s : Shared}
theorem lamO_ne {f c : Addr} {l : LamE} {q : Str} {cl : List (Str × Addr)} (ps : Array Value) : LamO f l q cl c ≠ .tbl ps := fun z => by
  unfold LamO at z
  cases z
theorem codeO_nt {c : Addr} {q : Str} (ps : Array Value) : LamX.CodeO c q ≠ .tbl ps := LamX.codeO_ne ps
/-- the new function's object is told -/
theorem inv_lam {l : LamE} {q : Str} {cl : List (Str × Addr)} {c : Addr} {t' : Nat} {pm ctv : Value} (I : Inv X pins σ H s) :
    Inv X pins σ (upd H s.heap.objs.size (LamO s.heap.objs.size l q cl c)) { s with heap := s.heap.push (PySem.W.kla_obj "<lambda>" q l.args l.body l.scope cl pm c ctv), toks := t' } := by
  have here : (s.heap.push (PySem.W.kla_obj "<lambda>" q l.args l.body l.scope cl pm c ctv)).get? s.heap.objs.size = some (PySem.W.kla_obj "<lambda>" q l.args l.body l.scope cl pm c ctv) := Heap.get?_push_size _ rfl
  refine I.laid (a := s.heap.objs.size) (fun _ _ e => Heap.get?_push_of_some _ e) (Nat.le_refl _) ?_
  refine ⟨⟨_, _, pm, ctv, here⟩, ⟨_, here⟩, ?_⟩
  rintro h1 h2 ⟨od, sl, p, t, z⟩ st
  exact ⟨od, sl, p, t, st _ z⟩
theorem up_none {H : Hp} {a b : Addr} {o : HO} (e : upd H a o b = none) : H b = none := by
  unfold upd at e
  split at e
  · cases e
  · exact e
/-- what is there when a lambda has been made -/
structure LamGo (K : PySem.W.Frag) (H H1 : Hp) : Prop where
  ext : LamX.ExtN H H1
  dom : ∀ b, H1 b = none → H b = none
  tab : TabAll K H → TabAll K H1
  tt : ∀ a ps, H a = some (.tbl ps) → ∃ ps', H1 a = some (.tbl ps')
theorem lam_make {c P : Addr} {l : LamE} {pos : Pos} {E : Value → Shared → Prop} {Q : Value → Shared → Prop} (I : Inv X pins σ H s) (TB : LamX.TabB X.base X.mg c P) (hcode : X.env.code = .ref c)
    (hT : LamX.TabS H P (X.env.qual ++ "<lambda>")) (one : ∀ x ∈ lamDefs, hasG X.K x = true → (He.cT X.K (x, none)).2 = P → lamQ x = X.env.qual ++ "<lambda>") (hfree : ∀ y ∈ l.scope.names, y.2 = .free → ∃ c, X.env.cells.lookup y.1 = some c)
    (h : ∀ (f c' : Addr) (H1 : Hp) (s' : Shared), Inv X pins σ H1 s' → LamGo X.K H H1 → H1 f = some (LamO f l (X.env.qual ++ "<lambda>") (cloFrom X.env.cells l.scope.names []) c') → H1 c' = some (LamX.CodeO c' (X.env.qual ++ "<lambda>")) → Q (.ref f) s') :
    wpAny (model X.prog X.w) X.A (eval (.Lambda l.args l.body l.scope pos) X.env) Q E s := by
  obtain ⟨ps, hP, ht, ha⟩ := hT
  have bP : s.heap.BuiltinsAt X.mg P := TB.bm.keeps I.bk
  have oP : s.heap.get? P = some { cls := .none, data := .fields ps } := I.hok P _ hP
  have clo := L2.closure_ok (env := X.env) hfree
  refine PySem.W.kla_eval rfl ?_
  cases hc : codeAmong pos ps.toList with
  | some cv =>
    obtain ⟨c', rfl, hco⟩ := ha pos cv hc
    refine PySem.W.kla_makeFunctionHit (mg := X.mg) (c := c) (P := P) (ps := ps) clo I.ok.glob (I.mod.glob.keeps I.bk) hcode (TB.code.keeps I.bk) oP ht hc bP fun ctv h' tk hx hsz => ?_
    have I1 : Inv X pins σ H { s with heap := h', toks := tk } := I.kept hx
    have nF : H h'.objs.size = none := I1.hok.fresh (Nat.le_refl _)
    have I2 := inv_lam (l := l) (q := X.env.qual ++ "<lambda>") (cl := cloFrom X.env.cells l.scope.names []) (c := c') (t' := tk) (pm := (X.mg "__name__").getD .none) (ctv := ctv) I1
    have kp : ∀ b o, H b = some o → upd H h'.objs.size (LamO h'.objs.size l (X.env.qual ++ "<lambda>") (cloFrom X.env.cells l.scope.names []) c') b = some o := fun b o e => (upd_ne (ne_of_none e nF)).trans e
    exact h _ c' _ _ I2 ⟨fun b o e _ => kp b o e, fun b e => up_none e, fun t => t.go fun b o e _ => kp b o e, fun a ps e => ⟨ps, kp a _ e⟩⟩ upd_same (kp _ _ hco)
  | none =>
    refine PySem.W.kla_makeFunction (mg := X.mg) (c := c) (P := P) (ps := ps) clo I.ok.glob (I.mod.glob.keeps I.bk) hcode (TB.code.keeps I.bk) oP ht hc TB.gP bP fun c' ctv h' tk hx hge hlt hrec htb => ?_
    obtain ⟨c2, oc, vs, t, e2, hoc, hd, hv⟩ := hrec
    cases e2
    have nC : H c' = none := I.hok.fresh hge
    have I1 := LamX.inv_table (t' := tk) (more := #[rawInt pos.line, rawInt pos.col, .ref c']) (h' := h') I hP hx htb hge ⟨oc, vs, t, hoc, hd, hv⟩
    have nF := I1.hok.fresh (Nat.le_refl _)
    have I2 := inv_lam (l := l) (q := X.env.qual ++ "<lambda>") (cl := cloFrom X.env.cells l.scope.names []) (c := c') (t' := tk) (pm := (X.mg "__name__").getD .none) (ctv := ctv) I1
    have k1 : ∀ b o, H b = some o → b ≠ P → upd (upd H P (.tbl (ps ++ #[rawInt pos.line, rawInt pos.col, .ref c']))) c' (LamX.CodeO c' (X.env.qual ++ "<lambda>")) b = some o := fun b o e n => by
      rw [upd_ne (ne_of_none e nC), upd_ne n]
      exact e
    have k2 : ∀ b o, upd (upd H P (.tbl (ps ++ #[rawInt pos.line, rawInt pos.col, .ref c']))) c' (LamX.CodeO c' (X.env.qual ++ "<lambda>")) b = some o → upd (upd (upd H P (.tbl (ps ++ #[rawInt pos.line, rawInt pos.col, .ref c']))) c' (LamX.CodeO c' (X.env.qual ++ "<lambda>"))) h'.objs.size (LamO h'.objs.size l (X.env.qual ++ "<lambda>") (cloFrom X.env.cells l.scope.names []) c') b = some o := fun b o e => (upd_ne (ne_of_none e nF)).trans e
    have nP : ∀ b o, H b = some o → (∀ ps, o ≠ .tbl ps) → b ≠ P := fun b o e n z => n ps (Option.some.inj (e.symm.trans (by rw [z]; exact hP)))
    have eL : (ps ++ #[rawInt pos.line, rawInt pos.col, .ref c']).toList = ps.toList ++ [rawInt pos.line, rawInt pos.col, .ref c'] := by simp
    refine h _ c' _ _ I2 ⟨fun b o e n => k2 b o (k1 b o e (nP b o e n)), fun b e => up_none (up_none (up_none e)), fun hA x hx hg => ?_, fun a ps0 e => ?_⟩ upd_same (k2 _ _ upd_same)
    rotate_left
    · by_cases hb : a = P
      · exact ⟨_, k2 _ _ (by rw [hb, upd_ne (ne_of_none hP nC), upd_same])⟩
      · exact ⟨ps0, k2 _ _ (k1 _ _ e hb)⟩
    obtain ⟨ps', a1, a2, a3⟩ := hA x hx hg
    by_cases hb : (He.cT X.K (x, none)).2 = P
    · rw [one x hx hg hb]
      rw [hb, hP] at a1
      cases a1
      refine ⟨_, k2 _ _ (by rw [hb, upd_ne (ne_of_none hP nC), upd_same]), by rw [eL]; exact PySem.TriplesOk_snoc _ _ _ _ ht, fun p' cv hcv => ?_⟩
      rw [eL] at hcv
      rcases LamX.among_app _ ht hcv with z | z
      · obtain ⟨c0, e1, e2⟩ := ha p' cv z
        exact ⟨c0, e1, k2 _ _ (k1 _ _ e2 (nP _ _ e2 codeO_nt))⟩
      · exact ⟨c', z, k2 _ _ upd_same⟩
    · refine ⟨ps', k2 _ _ (k1 _ _ a1 hb), a2, fun p' cv hcv => ?_⟩
      obtain ⟨c0, e1, e2⟩ := a3 p' cv hcv
      exact ⟨c0, e1, k2 _ _ (k1 _ _ e2 (nP _ _ e2 codeO_nt))⟩
def tLam (K : PySem.W.Frag) (P : Addr) (l : LamE) (q : Str) (cl : List (Str × Addr)) : TE := fun σ H Q => LamX.TabS H P q ∧ ∀ (f c' : Addr) (H1 : Hp), LamGo K H H1 → H1 f = some (LamO f l q cl c') → H1 c' = some (LamX.CodeO c' q) → Q (.ref f) H1
theorem pe_lam {c P : Addr} {l : LamE} {pos : Pos} {q : Str} (TB : LamX.TabB X.base X.mg c P) (hcode : X.env.code = .ref c) (hq : X.env.qual ++ "<lambda>" = q) (one : ∀ x ∈ lamDefs, hasG X.K x = true → (He.cT X.K (x, none)).2 = P → lamQ x = q)
    (hfree : ∀ y ∈ l.scope.names, y.2 = .free → X.env.scope.names.lookup y.1 = some .cell ∨ X.env.scope.names.lookup y.1 = some .free) :
    PE X (.Lambda l.args l.body l.scope pos) (tLam X.K P l q (cloFrom X.env.cells l.scope.names [])) := by
  subst hq
  refine ⟨fun pins s σ H Q I h => ?_⟩
  obtain ⟨hT, h⟩ := h
  have hf : ∀ y ∈ l.scope.names, y.2 = .free → ∃ c, X.env.cells.lookup y.1 = some c := fun y hy e => (hfree y hy e).elim (fun z => I.ok.has _ (.inl z)) fun z => I.ok.has _ (.inr z)
  exact lam_make I TB hcode hT one hf fun f c' H1 s' I1 g h1 h2 => ⟨.ref f, H1, I1, rfl, h f c' H1 g h1 h2⟩
end
section
variable {K : PySem.W.Frag} {F : Fr} {H H1 : Hp} {W : Addr → Prop} {φ : List Addr} {L : Lo} {S : Sto} {σ : Sg}
theorem LamGo.kp (g : LamGo K H H1) : ∀ a o, H a = some o → isT o = false → H1 a = some o := fun a o e t => g.ext a o e fun ps z => by rw [z] at t; cases t
theorem LamGo.tr (g : LamGo K H H1) : Tr false H φ W H1 φ W := ⟨fun a o e t _ => g.kp a o e t, fun _ h => .inl h, g.dom, List.prefix_refl _, fun _ h => .inl h, g.tt⟩
theorem StR.lam (s : StR K F H W φ L S σ) (g : LamGo K H H1) : StR K F H1 W φ L S σ where
  ext := fun a o e t m => g.kp a o (s.ext a o e t m) t
  dom := fun a z => s.dom a (g.dom a z)
  wc := s.wc
  wnew := s.wnew
  wt := fun a w => by
    obtain ⟨o, e, m⟩ := s.wt a w
    exact ⟨o, g.kp a o e (nt_of m), m⟩
  pre := s.pre
  phi := s.phi
  phw := s.phw
  nd := s.nd
  tb := g.tab s.tb
  tt := fun a ps h => by
    obtain ⟨ps1, h1⟩ := s.tt a ps h
    exact g.tt a ps1 h1
  st := ⟨s.st.len, fun n a l e1 e2 => by
    obtain ⟨vs, q, z, r⟩ := s.st.at_ n a l e1 e2
    exact ⟨vs, g.kp _ _ q rfl, z, r.go (g.tr)⟩⟩
  lo := s.lo.go g.tr fun i a ⟨⟨d, e⟩, e2⟩ => by
    obtain ⟨a', e3, w, _, p, _⟩ := s.own e
    rw [e2] at e3; cases e3; exact ⟨p, w⟩
end
end Q
/-! The operators, over the heap. -/
namespace Q
open PySem PySem.Spec PyProof.Rows L2

def OpX (X : Cx) (f : Value → Value → Sem Value) : R2 := fun x y H Q => ∃ r, OpR X f r ∧ r x y H Q
theorem opX (X : Cx) (f : Value → Value → Sem Value) : OpR X f (OpX X f) := fun pins s σ H x y v u Q I rx ry h => by
  obtain ⟨r, hr, h⟩ := h
  exact hr pins s σ H x y v u Q I rx ry h
def CaX (X : Cx) (f : Value) : List V → Hp → VK → Prop := fun xs H Q => ∃ r, CallR X f r ∧ r xs H Q
theorem caX (X : Cx) (f : Value) : CallR X f (CaX X f) := fun pins s σ H xs us Q I rr h => by
  obtain ⟨r', hr, h⟩ := h
  exact hr pins s σ H xs us Q I rr h
def IxX (X : Cx) : R2 := fun x y H Q => ∃ r, IxR X r ∧ r x y H Q
theorem ixX (X : Cx) : IxR X (IxX X) := fun e1 e2 pins s σ H x y v u Q I rx ry h => by
  obtain ⟨r, hr, h⟩ := h
  exact hr e1 e2 pins s σ H x y v u Q I rx ry h
def SlX (X : Cx) : V → Option Int → Option Int → Hp → VK → Prop := fun x lo hi H Q => ∃ r, SlR X r ∧ r x lo hi H Q
theorem slX (X : Cx) : SlR X (SlX X) := fun pins s σ H x v vl vu lo hi sl Q I rx hs pl pu h => by
  obtain ⟨r, hr, h⟩ := h
  exact hr pins s σ H x v vl vu lo hi sl Q I rx hs pl pu h

section
variable {K : PySem.W.Frag} {F : Fr} {H : Hp} {W : Addr → Prop} {φ : List Addr} {L : Lo} {S : Sto} {σ : Sg}
theorem RepP.of {d : D} {v : V} (h : Rep K H φ W d v) : RepP K H φ W d v := .inl h
theorem RepP.int {i : Int} {v : V} (h : RepP K H φ W (.int i) v) : v = .int i := by
  rcases h with h | ⟨_, _, _, h⟩
  · simpa only [Rep] using h
  · exact h.elim
theorem RepP.str {i : Str} {v : V} (h : RepP K H φ W (.str i) v) : v = .str i := by
  rcases h with h | ⟨_, _, _, h⟩
  · simpa only [Rep] using h
  · exact h.elim
theorem RepP.bl {i : Bool} {v : V} (h : RepP K H φ W (.bl i) v) : v = .bl i := by
  rcases h with h | ⟨_, _, _, h⟩
  · simpa only [Rep] using h
  · exact h.elim
theorem RepP.non {v : V} (h : RepP K H φ W .non v) : v = .non := by
  rcases h with h | ⟨_, _, _, h⟩
  · simpa only [Rep] using h
  · exact h.elim
theorem RepP.tup {l : List D} {v : V} (h : RepP K H φ W (.tup l) v) : ∃ a vs, v = .ref a ∧ SqT K H a vs ∧ Reps K H φ W l vs := by
  rcases h with h | ⟨_, _, _, h⟩
  · simpa only [Rep] using h
  · exact h.elim
theorem RepP.lst {l : List D} {v : V} (h : RepP K H φ W (.lst l) v) : ∃ a vs, v = .ref a ∧ a ∉ φ ∧ H a = some (.lst vs) ∧ Reps K H φ W l vs := by
  rcases h with h | ⟨a, e, p, vs, h, r⟩
  · simp only [Rep] at h
    obtain ⟨a, e, w, p, vs, h, r⟩ := h
    exact ⟨a, vs, e, p, h, r⟩
  · exact ⟨a, vs, e, p, h, r⟩
theorem RepP.dct {ks : List Str} {l : List D} {v : V} (h : RepP K H φ W (.dct ks l) v) : ∃ a, ∃ kvs : List (Key × V), v = .ref a ∧ a ∉ φ ∧ Rd H a (.dK kvs) ∧ kvs.map (·.1) = ks.map Sum.inr ∧ Reps K H φ W l (kvs.map (·.2)) := by
  rcases h with h | ⟨a, e, p, vs, h, k, r⟩
  · simp only [Rep] at h
    obtain ⟨a, e, w, p, vs, h, k, r⟩ := h
    exact ⟨a, vs, e, p, h, k, r⟩
  · exact ⟨a, vs, e, p, .inl h, k, r⟩
theorem RepP.scr {ns : List Int} {v : V} (h : RepP K H φ W (.scr ns) v) : ∃ a, v = .ref a ∧ ((∃ o, H a = some (.frz o (.lst (ns.map V.int)))) ∨ SqL K (fun _ => none) a (ns.map V.int)) := by
  rcases h with h | ⟨_, _, _, h⟩
  · simpa only [Rep] using h
  · exact h.elim
theorem RepP.xt {l : List D} {v : V} (h : RepP K H φ W (.xt l) v) : ∃ a vs, v = .ref a ∧ (∃ o : Obj, H a = some (.frz o (.tup vs)) ∧ o.dict = none) ∧ Reps K H φ W l vs := by
  rcases h with h | ⟨_, _, _, h⟩
  · simpa only [Rep] using h
  · exact h.elim
theorem RepP.obj {n : Nat} {v : V} (h : RepP K H φ W (.obj n) v) : ∃ a, v = .ref a ∧ φ[n]? = some a := by
  rcases h with h | ⟨_, _, _, h⟩
  · simpa only [Rep] using h
  · exact h.elim
/-- what an operator's answer has to serve -/
def Fin (K : PySem.W.Frag) (F : Fr) (H : Hp) (W : Addr → Prop) (φ : List Addr) (L : Lo) (S : Sto) (σ : Sg) (R : KF) (Q : VK) : Prop :=
  ∀ d f w H' W', R d f → StR K F H' W' φ L S σ → Tr false H φ W H' φ W' → VR K F H' W' φ L σ f d w → Q w H'
section
variable {R : KF} {Q : VK}
theorem Fin.same (q : Fin K F H W φ L S σ R Q) (s : StR K F H W φ L S σ) {d : D} {v : V} (h : R d false) (r : Rep K H φ W d v) : Q v H := q d false v H W h s Tr.refl r
theorem Fin.newL (q : Fin K F H W φ L S σ R Q) (s : StR K F H W φ L S σ) {l : List D} {vs : List V} (h : R (.lst l) true) (r : Reps K H φ W l vs) {p : Addr} (hp : H p = none) : Q (.ref p) (upd H p (.lst vs)) := by
  refine q (.lst l) true (.ref p) _ _ h (s.growW hp rfl (s.phN hp)) (Tr.newW hp) ⟨p, rfl, .inr rfl, s.frN hp, ⟨vs, upd_same, r.go (S := false) (Tr.newW hp)⟩, s.noOwn hp⟩
theorem Fin.newT (q : Fin K F H W φ L S σ R Q) (s : StR K F H W φ L S σ) {l : List D} {vs : List V} (h : R (.tup l) false) (r : Reps K H φ W l vs) {p : Addr} (hp : H p = none) : Q (.ref p) (upd H p (.tup vs)) := by
  refine q (.tup l) false (.ref p) _ _ h (s.grow hp) (Tr.new hp) ?_
  show Rep _ _ _ _ _ _
  simp only [Rep]
  exact ⟨p, vs, rfl, .inl (.inl upd_same), r.go (S := false) (Tr.new hp)⟩
end
theorem Reps.nil_iff {l : List D} {vs : List V} (h : Reps K H φ W l vs) : vs = [] ↔ l = [] := by
  have := h.len
  constructor <;> intro e <;> subst e
  · exact List.length_eq_zero_iff.mp this
  · exact List.length_eq_zero_iff.mp this.symm
variable {X : Cx} {R : KF} {Q : VK} {x y : D} {v u : V}
theorem prim_add (hK : X.K = K) (s : StR K F H W φ L S σ) (hx : RepP K H φ W x v) (hy : RepP K H φ W y u) (h : dAdd x y R) (q : Fin K F H W φ L S σ R Q) : OpX X (binaryOp .Add) v u H Q := by
  subst hK
  unfold dAdd at h
  split at h
  · have := hx.int; have := hy.int; subst_vars
    exact ⟨_, op_add, _, _, rfl, rfl, q.same s h (by simp only [Rep])⟩
  · have := hx.str; have := hy.str; subst_vars
    exact ⟨_, op_add_str, _, _, rfl, rfl, h.1, q.same s h.2 (by simp only [Rep])⟩
  · obtain ⟨a, xs, rfl, e1, r1⟩ := hx.tup
    obtain ⟨b, ys, rfl, e2, r2⟩ := hy.tup
    refine ⟨_, op_catA, a, b, xs, ys, rfl, rfl, e1, e2, by rw [← r1.len, ← r2.len]; exact h.1, fun z => ?_, fun z z2 => ?_, fun z z2 p hp => q.newT s h.2 (r1.append r2) hp⟩
    · have := r1.nil_iff.mp z; subst this
      exact q.same s (v := .ref b) h.2 (by simp only [Rep]; exact ⟨b, ys, rfl, e2, by simpa using r2⟩)
    · have := r2.nil_iff.mp z2; subst this
      exact q.same s (v := .ref a) h.2 (by simp only [Rep]; exact ⟨a, xs, rfl, e1, by simpa using r1⟩)
  · obtain ⟨a, xs, rfl, _, e1, r1⟩ := hx.lst
    obtain ⟨b, ys, rfl, _, e2, r2⟩ := hy.lst
    exact ⟨_, op_cat, a, b, xs, ys, rfl, rfl, e1, e2, by rw [← r1.len, ← r2.len]; exact h.1, fun p hp => q.newL s h.2 (r1.append r2) hp⟩
  · exact h.elim
theorem tuple_mul1 (l : Addr) (items : Array Value) (n : Nat) (dd : Option Addr) (sl : Array (Option Value)) (u : Tok) :
    Meets (Builtin.«tuple.__mul__» ⟨[.ref l, .int 1 u], []⟩) (fun _ R s => s.heap.get? l = some { cls := .type "tuple", dict := dd, data := .seq items n, slots := sl } ∧
      R (.ok (.ret (Value.ref l))) s) :=
  .of_wp fun prog w A R s h => by
    obtain ⟨hp, g, d, tk, os⟩ := s
    obtain ⟨hl, h⟩ := h
    have f1 := AutoSeq1.idx_int
    wp_walk using wpAny_loadPart' hl
    exact ⟨_, rfl, h⟩
theorem tuple_mul0 (l : Addr) (items : Array Value) (n : Nat) (dd : Option Addr) (sl : Array (Option Value)) (u : Tok) (c1 : (items.isEmpty || (0 : Int) == 1) = false) :
    Meets (Builtin.«tuple.__mul__» ⟨[.ref l, .int 0 u], []⟩) (fun _ R s => s.heap.get? l = some { cls := .type "tuple", dict := dd, data := .seq items n, slots := sl } ∧
      R (.ok (.ret (Value.ref s.heap.objs.size))) { s with heap := s.heap.push { cls := Value.type "tuple", data := Data.seq #[] }, toks := s.toks }) :=
  .of_wp fun prog w A R s h => by
    obtain ⟨hp, g, d, tk, os⟩ := s
    obtain ⟨hl, h⟩ := h
    have f1 := AutoSeq1.idx_int
    wp_walk using wpAny_loadPart' hl
    repeat (first
      | (refine wpAny_ite_false (decide_eq_false (by rw [c1]; exact Bool.false_ne_true)) ?_; wp_walk using wpAny_loadPart' hl))
    exact ⟨_, rfl, h⟩
/-- a tuple, once or not at all -/
def rRep01 (K : PySem.W.Frag) : R2 := fun x y H Q => ∃ l k xs, x = .ref l ∧ y = .int k ∧ SqT K H l xs ∧ xs ≠ [] ∧ ((k = 1 ∧ Q (.ref l) H) ∨ (k = 0 ∧ ∀ p, H p = none → Q (.ref p) (upd H p (.tup []))))
theorem op_rep01 {X : Cx} : OpR X (binaryOp .Mult) (rRep01 X.K) := by
  intro pins s σ H x y v u Q I rx ry h
  obtain ⟨l, k, xs, rfl, rfl, hT, hne, q⟩ := h
  cases rx
  obtain ⟨t, rfl⟩ := ry
  obtain ⟨its, r, ⟨⟨cls, dd, data, sl⟩, ho, hc, n, hd⟩, hs⟩ := I.tuple hT
  simp only at hc hd
  subst hc hd
  have hle : its.length = xs.length := r.length.symm
  have hn : its ≠ [] := fun e => hne (by
    rw [e] at hle
    exact List.eq_nil_of_length_eq_zero hle.symm)
  have hi : its.toArray.isEmpty = false := by
    cases its with
    | nil => exact absurd rfl hn
    | cons a b => rfl
  rcases q with ⟨rfl, q⟩ | ⟨rfl, q⟩
  · refine wpAny_binaryOp_repeat_ref (T := "tuple") (U := "int") (by decide) ⟨_, ho, rfl⟩ (fun s' => typeIs_int s' 1 t) noFill_tuple_mul F.fills_int_mul F.slot_int_rmul repeat_tuple F.slot_int_index.lookup
      (call_meets F.slot_int_rmul (typeIs_int s 1 t) F.entry_int_rmul (F.args_int_rmul_2 _ _) (int_rmul_tuple 1 t l its.toArray n dd sl)
        ⟨ho, rfl, ⟨_, ho, rfl⟩, call_meets F.slot_tuple_mul ⟨_, ho, rfl⟩ F.entry_tuple_mul (F.args_tuple_mul_2 _ _) (tuple_mul1 l its.toArray n dd sl t) ⟨ho, ?_⟩⟩)
    exact ⟨.ref l, H, I, rfl, q⟩
  · refine wpAny_binaryOp_repeat_ref (T := "tuple") (U := "int") (by decide) ⟨_, ho, rfl⟩ (fun s' => typeIs_int s' 0 t) noFill_tuple_mul F.fills_int_mul F.slot_int_rmul repeat_tuple F.slot_int_index.lookup
      (call_meets F.slot_int_rmul (typeIs_int s 0 t) F.entry_int_rmul (F.args_int_rmul_2 _ _) (int_rmul_tuple 0 t l its.toArray n dd sl)
        ⟨ho, rfl, ⟨_, ho, rfl⟩, call_meets F.slot_tuple_mul ⟨_, ho, rfl⟩ F.entry_tuple_mul (F.args_tuple_mul_2 _ _) (tuple_mul0 l its.toArray n dd sl t (by rw [hi]; rfl)) ⟨ho, ?_⟩⟩)
    refine ⟨.ref s.heap.objs.size, _, I.laid (t' := s.toks) (o := .tup []) (fun b ob q => Heap.get?_push_of_some _ q) (Nat.le_refl _) ?_, rfl, q _ (I.hok.fresh (Nat.le_refl _))⟩
    exact ⟨Nat.zero_le _, [], .nil, IsTup.new _ _⟩
theorem prim_mul (hK : X.K = K) (s : StR K F H W φ L S σ) (hx : RepP K H φ W x v) (hy : RepP K H φ W y u) (h : dMul x y R) (q : Fin K F H W φ L S σ R Q) : OpX X (binaryOp .Mult) v u H Q := by
  subst hK
  unfold dMul at h
  split at h
  · have := hx.int; have := hy.int; subst_vars
    rename_i _ _ _ i j
    obtain ⟨h, hr⟩ := h
    have hq : Q (.int (i * j)) H := q.same s hr (by simp only [Rep])
    rcases h with h | h | ⟨h1, h2⟩
    · exact ⟨_, op_mul, _, _, rfl, rfl, .inl h, hq⟩
    · exact ⟨_, op_mul, _, _, rfl, rfl, .inr h, hq⟩
    · exact ⟨_, op_mulW, _, _, rfl, rfl, wide_mul h1 h2 (by decide) (by decide) (by decide), hq⟩
  · have := hy.int; subst this
    obtain ⟨a, xs, rfl, e1, r1⟩ := hx.tup
    obtain ⟨⟨h1, h2, h3, h4⟩, h⟩ := h
    rename_i l k
    by_cases hk : 2 ≤ k
    · exact ⟨_, op_repT, a, _, xs, rfl, rfl, e1, fun z => h1 (r1.nil_iff.mp z), hk, h3, by rw [← r1.len]; exact h4, fun p hp => q.newT s h (r1.rep _) hp⟩
    · have hk2 : k = 1 ∨ k = 0 := by omega
      refine ⟨_, op_rep01, a, k, xs, rfl, rfl, e1, fun z => h1 (r1.nil_iff.mp z), ?_⟩
      rcases hk2 with rfl | rfl
      · refine .inl ⟨rfl, q.same s h ?_⟩
        simp only [Rep]
        exact ⟨a, xs, rfl, e1, by simpa using r1⟩
      · exact .inr ⟨rfl, fun p hp => q.newT s h (r1.rep 0) hp⟩
  · exact h.elim
def opOf : BO → Operator
  | .add => .Add | .sub => .Sub | .mul => .Mult | .fdiv => .FloorDiv | .mod => .Mod | .pow => .Pow
theorem prim_bin {op : BO} (hK : X.K = K) (s : StR K F H W φ L S σ) (hx : RepP K H φ W x v) (hy : RepP K H φ W y u) (h : dBin op x y R) (q : Fin K F H W φ L S σ R Q) : OpX X (binaryOp (opOf op)) v u H Q := by
  unfold dBin at h
  split at h
  · exact prim_add hK s hx hy h q
  · have := hx.int; have := hy.int; subst_vars
    exact ⟨_, op_sub, _, _, rfl, rfl, q.same s h (by simp only [Rep])⟩
  · exact prim_mul hK s hx hy h q
  · have := hx.int; have := hy.int; subst_vars
    exact ⟨_, op_fdivW, _, _, rfl, rfl, wide_div h.1.1 h.1.2 (by decide) (by decide), q.same s h.2 (by simp only [Rep])⟩
  · have := hx.int; have := hy.int; subst_vars
    exact ⟨_, op_modN, _, _, rfl, rfl, h.1, q.same s h.2 (by simp only [Rep])⟩
  · have := hx.int; have := hy.int; subst_vars
    exact ⟨_, op_pow, _, _, rfl, rfl, h.1, q.same s h.2 (by simp only [Rep])⟩
  · exact h.elim
/-! comparisons -/
mutual
theorem Rep.dp : ∀ {d : D} {v : V}, Rep K H φ W d v → d.plain = true → Dp K H v d.py
  | .non, v, h, _ => by simp only [Rep] at h; subst h; exact .non
  | .bl b, v, h, _ => by simp only [Rep] at h; subst h; exact .bl b
  | .int b, v, h, _ => by simp only [Rep] at h; subst h; exact .int b
  | .str b, v, h, _ => by simp only [Rep] at h; subst h; exact .str b
  | .tup l, v, h, p => by
    simp only [Rep] at h
    obtain ⟨a, vs, rfl, q, r⟩ := h
    exact .tup q (Reps.dp r (by simpa only [D.plain] using p))
  | .lst l, v, h, p => by
    simp only [Rep] at h
    obtain ⟨a, rfl, _, _, vs, q, r⟩ := h
    exact .lst (SqL.of q) (Reps.dp r (by simpa only [D.plain] using p))
  | .dct _ _, v, h, p => by simp [D.plain] at p
  | .scr _, v, h, p => by simp [D.plain] at p
  | .obj _, v, h, p => by simp [D.plain] at p
  | .xt _, v, h, p => by simp [D.plain] at p
theorem Reps.dp : ∀ {d : List D} {v : List V}, Reps K H φ W d v → D.plains d = true → DpAll K H v (D.pys d)
  | [], [], _, _ => .nil
  | d :: ds, v :: vs, h, p => by
    simp only [Reps] at h
    simp only [D.plains, Bool.and_eq_true] at p
    exact .cons (Rep.dp h.1 p.1) (Reps.dp h.2 p.2)
  | [], _ :: _, h, _ => by simp [Reps] at h
  | _ :: _, [], h, _ => by simp [Reps] at h
end
theorem RepP.dp {d : D} {v : V} (h : RepP K H φ W d v) (p : d.plain = true) : Dp K H v d.py := by
  rcases h with h | ⟨a, rfl, _, t⟩
  · exact h.dp p
  · cases d with
    | lst l =>
      obtain ⟨vs, q, r⟩ := t
      exact .lst (SqL.of q) (r.dp (by simpa only [D.plain] using p))
    | dct _ _ => simp [D.plain] at p
    | _ => exact t.elim
theorem pys_any (x : D) : ∀ l : List D, (D.pys l).any (fun z => PyData.eqv z x.py) = l.any fun z => z.eq x
  | [] => rfl
  | d :: r => by simp only [D.pys, List.any_cons, pys_any x r]; rfl
theorem eqOk_iff {d : D} (h : d.eqOk = true) : d.plain = true ∧ SeqAt.shaped d.py = true := by simpa [D.eqOk] using h
theorem op_inT (hu : X.A.units + 65 < cLine) : OpR X (compareOp .In) (fun x y H Q => ∃ d ds, Dp X.K H x d ∧ Dp X.K H y (.tuple ds) ∧ SeqAt.shaped d = true ∧ SeqAt.shaped (.tuple ds) = true ∧ Q (.bl (ds.any fun z => PyData.eqv z d)) H) := by
  intro pins s σ H x y v u Q I rx ry h
  obtain ⟨d, ds, hd, he, sd, se, q⟩ := h
  obtain ⟨as, r1⟩ := Dp.reads I d x v hd rx
  obtain ⟨bs, r2⟩ := Dp.reads I (.tuple ds) y u he ry
  exact SeqAt.in_tuple_reads r2 r1 (SeqAt.canLay_of_shaped se) (SeqAt.canLay_of_shaped sd) (room_in_shaped sd hu) ⟨.bl _, H, I, rfl, q⟩
theorem op_notInT (hu : X.A.units + 65 < cLine) : OpR X (compareOp .NotIn) (fun x y H Q => ∃ d ds, Dp X.K H x d ∧ Dp X.K H y (.tuple ds) ∧ SeqAt.shaped d = true ∧ SeqAt.shaped (.tuple ds) = true ∧ Q (.bl (!ds.any fun z => PyData.eqv z d)) H) := by
  intro pins s σ H x y v u Q I rx ry h
  obtain ⟨d, ds, hd, he, sd, se, q⟩ := h
  obtain ⟨as, r1⟩ := Dp.reads I d x v hd rx
  obtain ⟨bs, r2⟩ := Dp.reads I (.tuple ds) y u he ry
  exact SeqAt.notIn_tuple_reads r2 r1 (SeqAt.canLay_of_shaped se) (SeqAt.canLay_of_shaped sd) (room_in_shaped sd hu) ⟨.bl _, H, I, rfl, q⟩
/-! dicts -/
theorem look_rep {k : Str} : ∀ {ks : List Str} {l : List D} {kvs : List (Key × V)}, kvs.map (·.1) = ks.map Sum.inr → Reps K H φ W l (kvs.map (·.2)) →
    (∀ d, dLook ks l k = some d → ∃ w, valV kvs (Sum.inr k) = some w ∧ Rep K H φ W d w) ∧ (ks.length = l.length → (valV kvs (Sum.inr k : Key)).isSome = (dLook ks l k).isSome)
  | [], l, [], _, _ => ⟨fun d h => by simp [dLook] at h, fun _ => rfl⟩
  | [], _, _ :: _, e, _ => by simp at e
  | _ :: _, _, [], e, _ => by simp at e
  | k' :: ks, [], kv :: kvs, e, r => by simp [Reps] at r
  | k' :: ks, d :: l, kv :: kvs, e, r => by
    simp only [List.map_cons, List.cons.injEq] at e
    simp only [List.map_cons, Reps] at r
    have ih := look_rep (k := k) (ks := ks) e.2 r.2
    by_cases h : k' = k
    · subst h
      have : valV (kv :: kvs) (Sum.inr k' : Key) = some kv.2 := valV_pos e.1
      rw [this]
      exact ⟨fun d' hd => by
        rw [dLook, if_pos rfl] at hd
        cases hd
        exact ⟨_, rfl, r.1⟩, fun _ => by rw [dLook, if_pos rfl]; rfl⟩
    · have : valV (kv :: kvs) (Sum.inr k : Key) = valV kvs (Sum.inr k) := valV_neg (by rw [e.1]; intro z; cases z; exact h rfl)
      rw [this]
      exact ⟨fun d' hd => by
        rw [dLook, if_neg h] at hd
        exact ih.1 d' hd, fun hl => by rw [dLook, if_neg h]; exact ih.2 (by simpa using hl)⟩
theorem op_inDk (hu : X.A.units + 1 < cLine) : OpR X (compareOp .In) (fun y x H Q => ∃ a o, x = .ref a ∧ DGet H a y o ∧ Q (.bl o.isSome) H) := by
  intro pins s σ H x y v u Q I rx ry h
  obtain ⟨a, o, rfl, g, q⟩ := h
  cases ry
  exact d_in hu I g rx fun s' I' => ⟨.bl _, H, I', rfl, q⟩
theorem op_notInDk (hu : X.A.units + 1 < cLine) : OpR X (compareOp .NotIn) (fun y x H Q => ∃ a o, x = .ref a ∧ DGet H a y o ∧ Q (.bl (!o.isSome)) H) := by
  intro pins s σ H x y v u Q I rx ry h
  obtain ⟨a, o, rfl, g, q⟩ := h
  cases ry
  exact d_notIn hu I g rx fun s' I' => ⟨.bl _, H, I', rfl, q⟩
theorem op_isB : OpR X (compareOp .Is) (fun x y H Q => ∃ b, y = .bl b ∧ Q (.bl (decide (x = .bl b))) H) := by
  intro pins s σ H x y v u Q I rx ry h
  obtain ⟨b, rfl, q⟩ := h
  cases (show u = Value.bool b from ry)
  by_cases e : x = .bl b
  · subst e
    cases (show v = Value.bool b from rx)
    exact wpAny_is_self rfl ⟨.bl true, H, I, rfl, by simpa using q⟩
  · have hv : plainIs v (.bool b) = true ∧ v ≠ .bool b := by
      cases x <;> first
        | (cases rx; exact ⟨rfl, fun z => by first | (cases z; exact e rfl) | cases z⟩)
        | (obtain ⟨t, rfl⟩ := rx; exact ⟨rfl, fun z => by cases z⟩)
    exact wpAny_is_other hv.1 hv.2 ⟨.bl false, H, I, rfl, by simpa [e] using q⟩
theorem op_isnB : OpR X (compareOp .IsNot) (fun x y H Q => ∃ b, y = .bl b ∧ Q (.bl (!decide (x = .bl b))) H) := by
  intro pins s σ H x y v u Q I rx ry h
  obtain ⟨b, rfl, q⟩ := h
  cases (show u = Value.bool b from ry)
  by_cases e : x = .bl b
  · subst e
    cases (show v = Value.bool b from rx)
    exact wpAny_isNot_self rfl ⟨.bl false, H, I, rfl, by simpa using q⟩
  · have hv : plainIs v (.bool b) = true ∧ v ≠ .bool b := by
      cases x <;> first
        | (cases rx; exact ⟨rfl, fun z => by first | (cases z; exact e rfl) | cases z⟩)
        | (obtain ⟨t, rfl⟩ := rx; exact ⟨rfl, fun z => by cases z⟩)
    exact wpAny_isNot_other hv.1 hv.2 ⟨.bl true, H, I, rfl, by simpa [e] using q⟩
theorem isBl_dec {d : D} {k : Bool} (h : RepP K H φ W d v) : decide (v = .bl k) = d.isBl k := by
  rcases h with h | ⟨a, rfl, _, t⟩
  · cases d with
    | non => simp only [Rep] at h; subst h; rfl
    | bl b => simp only [Rep] at h; subst h; cases b <;> cases k <;> rfl
    | int b => simp only [Rep] at h; subst h; rfl
    | str b => simp only [Rep] at h; subst h; rfl
    | tup l => simp only [Rep] at h; obtain ⟨a, vs, rfl, _⟩ := h; rfl
    | lst l => simp only [Rep] at h; obtain ⟨a, rfl, _⟩ := h; rfl
    | dct ks l => simp only [Rep] at h; obtain ⟨a, rfl, _⟩ := h; rfl
    | scr l => simp only [Rep] at h; obtain ⟨a, rfl, _⟩ := h; rfl
    | obj l => simp only [Rep] at h; obtain ⟨a, rfl, _⟩ := h; rfl
    | xt l => simp only [Rep] at h; obtain ⟨a, vs, rfl, _⟩ := h; rfl
    | clo _ _ _ => simp only [Rep] at h; obtain ⟨rfl, _⟩ := h; rfl
  · cases d with
    | lst l => rfl
    | dct ks l => rfl
    | _ => exact t.elim
theorem prim_mem {P : Bool → Prop} (hK : X.K = K) (hu : X.A.units + 200 < cLine) (hx : RepP K H φ W x v) (hy : RepP K H φ W y u) (h : dMem x y P) (q : ∀ b, P b → Q (.bl b) H) : OpX X (compareOp .In) v u H Q := by
  subst hK
  unfold dMem at h
  split at h
  · have := hx.str; have := hy.str; subst_vars
    exact ⟨_, op_in_str, _, _, rfl, rfl, q _ h⟩
  · obtain ⟨h1, h2, h⟩ := h
    have h1 := eqOk_iff h1; have h2 := eqOk_iff h2
    exact ⟨_, op_inT (by omega), _, _, hx.dp h1.1, hy.dp h2.1, h1.2, h2.2, by rw [pys_any]; exact q _ h⟩
  · obtain ⟨h1, h2, h⟩ := h
    have h1 := eqOk_iff h1; have h2 := eqOk_iff h2
    exact ⟨_, op_inD (by omega), _, _, hx.dp h1.1, hy.dp h2.1, h1.2, h2.2, by rw [pys_any]; exact q _ h⟩
  · have := hx.str; subst this
    obtain ⟨a, kvs, rfl, _, e, ek, r⟩ := hy.dct
    rename_i kk _ _ _
    have := (look_rep (k := kk) ek r).2 h.1
    refine ⟨_, op_inDk (by omega), a, _, rfl, .inl ⟨kvs, .inr _, e, rfl, rfl⟩, ?_⟩
    rw [this]; exact q _ h.2
  · exact h.elim
theorem prim_nmem {P : Bool → Prop} (hK : X.K = K) (hu : X.A.units + 200 < cLine) (hx : RepP K H φ W x v) (hy : RepP K H φ W y u) (h : dMem x y fun b => P (!b)) (q : ∀ b, P b → Q (.bl b) H) : OpX X (compareOp .NotIn) v u H Q := by
  subst hK
  unfold dMem at h
  split at h
  · have := hx.str; have := hy.str; subst_vars
    exact ⟨_, L2.op_notIn_str, _, _, rfl, rfl, q _ h⟩
  · obtain ⟨h1, h2, h⟩ := h
    have h1 := eqOk_iff h1; have h2 := eqOk_iff h2
    exact ⟨_, op_notInT (by omega), _, _, hx.dp h1.1, hy.dp h2.1, h1.2, h2.2, by rw [pys_any]; exact q _ h⟩
  · obtain ⟨h1, h2, h⟩ := h
    have h1 := eqOk_iff h1; have h2 := eqOk_iff h2
    exact ⟨_, op_notInD (by omega), _, _, hx.dp h1.1, hy.dp h2.1, h1.2, h2.2, by rw [pys_any]; exact q _ h⟩
  · have := hx.str; subst this
    obtain ⟨a, kvs, rfl, _, e, ek, r⟩ := hy.dct
    rename_i kk _ _ _
    have := (look_rep (k := kk) ek r).2 h.1
    refine ⟨_, op_notInDk (by omega), a, _, rfl, .inl ⟨kvs, .inr _, e, rfl, rfl⟩, ?_⟩
    rw [this]; exact q _ h.2
  · exact h.elim
theorem prim_lt {P : Bool → Prop} (hx : RepP K H φ W x v) (hy : RepP K H φ W y u) (h : dLt x y P) (q : ∀ b, P b → Q (.bl b) H) : OpX X (compareOp .Lt) v u H Q := by
  unfold dLt at h
  split at h
  · have := hx.int; have := hy.int; subst_vars
    exact ⟨_, op_lt, _, _, rfl, rfl, q _ h⟩
  · have := hx.str; have := hy.str; subst_vars
    exact ⟨_, op_lt_str, _, _, rfl, rfl, q _ h⟩
  · exact h.elim
theorem isNon_dec {d : D} (h : RepP K H φ W d v) : decide (v = .non) = d.isNon := by
  rcases h with h | ⟨a, rfl, _, t⟩
  · cases d with
    | non => simp only [Rep] at h; subst h; rfl
    | bl b => simp only [Rep] at h; subst h; rfl
    | int b => simp only [Rep] at h; subst h; rfl
    | str b => simp only [Rep] at h; subst h; rfl
    | tup l => simp only [Rep] at h; obtain ⟨a, vs, rfl, _⟩ := h; rfl
    | lst l => simp only [Rep] at h; obtain ⟨a, rfl, _⟩ := h; rfl
    | dct ks l => simp only [Rep] at h; obtain ⟨a, rfl, _⟩ := h; rfl
    | scr l => simp only [Rep] at h; obtain ⟨a, rfl, _⟩ := h; rfl
    | obj l => simp only [Rep] at h; obtain ⟨a, rfl, _⟩ := h; rfl
    | xt l => simp only [Rep] at h; obtain ⟨a, vs, rfl, _⟩ := h; rfl
    | clo _ _ _ => simp only [Rep] at h; obtain ⟨rfl, _⟩ := h; rfl
  · cases d with
    | lst l => rfl
    | dct ks l => rfl
    | _ => exact t.elim
theorem eqQ_cases {x y : D} (h : eqQ x y = true) : (∃ a b, x = .str a ∧ y = .str b) ∨ (x.eqOk = true ∧ y.eqOk = true) := by
  cases x <;> cases y <;> first | exact .inl ⟨_, _, rfl, rfl⟩ | exact .inr (by simpa [eqQ] using h)
def coOf : CO → CmpOp
  | .eq => .Eq | .ne => .NotEq | .lt => .Lt | .le => .LtE | .gt => .Gt | .ge => .GtE | .is => .Is | .isn => .IsNot | .mem => .In | .nmem => .NotIn
theorem prim_cmp {op : CO} {P : Bool → Prop} (hK : X.K = K) (hu : X.A.units + 200 < cLine) (hx : RepP K H φ W x v) (hy : RepP K H φ W y u) (h : dCmp op x y P) (q : ∀ b, P b → Q (.bl b) H) : OpX X (compareOp (coOf op)) v u H Q := by
  unfold dCmp at h
  split at h
  · subst hK
    obtain ⟨h0, h⟩ := h
    rcases eqQ_cases h0 with ⟨a, b, rfl, rfl⟩ | ⟨h1, h2⟩
    · have := hx.str; have := hy.str; subst_vars
      exact ⟨_, op_eq, rfl, by rw [dec_str]; exact q _ h⟩
    · have h1 := eqOk_iff h1; have h2 := eqOk_iff h2
      exact ⟨_, op_eqD (by omega), _, _, hx.dp h1.1, hy.dp h2.1, h1.2, h2.2, q _ h⟩
  · subst hK
    obtain ⟨h0, h⟩ := h
    rcases eqQ_cases h0 with ⟨a, b, rfl, rfl⟩ | ⟨h1, h2⟩
    · have := hx.str; have := hy.str; subst_vars
      exact ⟨_, op_ne, rfl, by rw [dec_str]; exact q _ h⟩
    · have h1 := eqOk_iff h1; have h2 := eqOk_iff h2
      exact ⟨_, op_neD (by omega), _, _, hx.dp h1.1, hy.dp h2.1, h1.2, h2.2, q _ h⟩
  · exact prim_lt hx hy h q
  · have := hx.int; have := hy.int; subst_vars
    exact ⟨_, op_gt, _, _, rfl, rfl, q _ h⟩
  · have := hx.str; have := hy.str; subst_vars
    exact ⟨_, op_gt_str, _, _, rfl, rfl, q _ h⟩
  · have := hx.int; have := hy.int; subst_vars
    exact ⟨_, op_le, _, _, rfl, rfl, q _ h⟩
  · have := hx.str; have := hy.str; subst_vars
    exact ⟨_, op_le_str, _, _, rfl, rfl, q _ h⟩
  · have := hx.int; have := hy.int; subst_vars
    exact ⟨_, op_ge, _, _, rfl, rfl, q _ h⟩
  · have := hy.non; subst this
    exact ⟨_, op_isN, rfl, by rw [isNon_dec hx]; exact q _ h⟩
  · have := hy.non; subst this
    exact ⟨_, op_notN, rfl, by rw [isNon_dec hx]; exact q _ h⟩
  · have := hy.bl; subst this
    exact ⟨_, op_isB, _, rfl, by rw [isBl_dec hx]; exact q _ h⟩
  · have := hy.bl; subst this
    exact ⟨_, op_isnB, _, rfl, by rw [isBl_dec hx]; exact q _ h⟩
  · exact prim_mem hK hu hx hy h q
  · exact prim_nmem hK hu hx hy h q
  · exact h.elim
theorem isEmpty_len {l : List D} {vs : List V} (h : l.length = vs.length) : (!l.isEmpty) = !vs.isEmpty := by
  cases l <;> cases vs <;> simp_all
theorem prim_truth {P : Bool → Prop} {d : D} (h : RepP K H φ W d v) (t : d.truth P) : ∃ k, TruV K v H k ∧ P k := by
  unfold D.truth at t
  split at t
  · have := h.non; subst this; exact ⟨_, rfl, t⟩
  · have := h.bl; subst this; exact ⟨_, rfl, t⟩
  · have := h.int; subst this; exact ⟨_, rfl, t⟩
  · have := h.str; subst this; exact ⟨_, ⟨t.1, rfl⟩, t.2⟩
  · obtain ⟨a, vs, rfl, q, r⟩ := h.tup
    exact ⟨_, .inr (.inl ⟨vs, q, isEmpty_len r.len⟩), t⟩
  · obtain ⟨a, vs, rfl, _, q, r⟩ := h.lst
    exact ⟨_, .inl ⟨vs, SqL.of q, isEmpty_len r.len⟩, t⟩
  · exact t.elim
end
end Q
/-! Sets of words made of a list, and their sorted list. -/
namespace SW
open PySem PySem.Spec PyProof.Rows L2
section
variable {P : Program} {w : World} {A : Around} {E : Value → Shared → Prop} {s : Shared} {a : Addr} {S : Str → Bool} {n : Nat}
abbrev SK (P : Program) (w : World) : KeyKind P w Str := PySem.strKind P w
/-- the table can be walked -/
def Wk (w : World) (t : SetTable) : Prop := Ris t.place.toList ∧ (w.params.followText "set-order" = true ∨ t.led = true)
/-- entries es are the words S, n of them -/
structure Es (P : Program) (w : World) (es : Array (Int × Value)) (S : Str → Bool) (n : Nat) : Prop where
  el : ElemsOf (SK P w) es.toList
  me : ∀ k, S k = true ↔ ∃ e ∈ es.toList, (SK P w).is k e.2 = true
  sz : es.size = n
  lt : es.size < scanBound
  nd : es.toList.Pairwise fun e f => ∀ k, (SK P w).is k e.2 = true → (SK P w).is k f.2 = false
def WS (P : Program) (w : World) (h : Heap) (a : Addr) (S : Str → Bool) (n : Nat) : Prop :=
  ∃ o es ep t, h.get? a = some o ∧ o.ExactSet ∧ o.data = .set es ep t ∧ t.fits es.size = true ∧ Wk w t ∧ Es P w es S n
theorem WS.at {h h' : Heap} (R : WS P w h a S n) (k : ∀ o, h.get? a = some o → h'.get? a = some o) : WS P w h' a S n := by
  obtain ⟨o, es, ep, t, q, r⟩ := R
  exact ⟨o, es, ep, t, k o q, r⟩
theorem WS.cong {h : Heap} {S' : Str → Bool} {m : Nat} (R : WS P w h a S n) (e : ∀ k, S' k = S k) (en : m = n) : WS P w h a S' m := by
  rw [show S' = S from funext e, en]; exact R
theorem wk_new {t : SetTable} (es : Array (Int × Value)) (i : Int) (x : Value) (r : Wk w t) : Wk w (layNew t es i x).2.1 :=
  ⟨layNew_ris t es i x r.1, r.2.imp id fun z => (layNew_led t es i x).trans z⟩
theorem wk_relay {t : SetTable} (es : Array (Int × Value)) (m : Nat) (r : Wk w t) : Wk w (relayAll t es m).2.1 :=
  ⟨relayAll_ris t es m, r.2.imp id fun z => (relayAll_led t es m).trans z⟩
theorem wk_off {t : SetTable} (r : Wk w t) : Wk w { t with plain := false } := r
theorem Es.perm {es es' : Array (Int × Value)} (r : Es P w es S n) (p : es'.toList.Perm es.toList) : Es P w es' S n := by
  have z : es'.size = es.size := by simpa using p.length_eq
  exact ⟨r.el.perm p, fun k => (r.me k).trans ⟨fun ⟨e, h1, h2⟩ => ⟨e, p.mem_iff.mpr h1, h2⟩, fun ⟨e, h1, h2⟩ => ⟨e, p.mem_iff.mp h1, h2⟩⟩, z.trans r.sz, by rw [z]; exact r.lt,
    (p.pairwise_iff fun {e f} h k hf => by
      cases q : (SK P w).is k e.2
      · rfl
      · rw [h k q] at hf; cases hf).mpr r.nd⟩
theorem put_ws {h : Heap} {o : Obj} {es es' : Array (Int × Value)} {ep : Nat} {t t' : SetTable} (q : h.get? a = some o) (x : o.ExactSet) (d : o.data = .set es ep t) (f : t'.fits es'.size = true) (k : Wk w t') (r : Es P w es' S n) :
    (h.update a (Obj.putSet es' t')).get? a = some { o with data := .set es' (ep + 1) t' } ∧ WS P w (h.update a (Obj.putSet es' t')) a S n := by
  have g := store_at (es' := es') (t' := t') q d
  exact ⟨g, _, es', _, t', g, x, rfl, f, k, r⟩
theorem tail_ws {g : Bool → Sem Unit} (hg : ∀ b s1 Q1, Q1 () s1 → wpAny (model P w) A (g b) Q1 E s1) {o : Obj} {es es1 : Array (Int × Value)} {ep : Nat} {t t1 : SetTable}
    (q : s.heap.get? a = some o) (x : o.ExactSet) (d : o.data = .set es ep t) (f : t1.fits es1.size = true) (k : Wk w t1) (r : Es P w es1 S n) {dm : Bool} {R : Option Bool → Shared → Prop}
    (hR : ∀ h', Heap.SameBut a s.heap h' → WS P w h' a S n → R (some true) { s with heap := h' }) :
    wpAny (model P w) A (do
        storeSet a es1 t1
        if (!dm && t1.tooFull) = true then
          do
            g (relayAll t1 es1 (SetTable.grown es1.size)).2.2
            storeSet a (relayAll t1 es1 (SetTable.grown es1.size)).1 (relayAll t1 es1 (SetTable.grown es1.size)).2.1
            pure (some true)
        else pure (some true)) R E s := by
  refine wpAny_bind (wpAny_storeSet_of q d ?_ (fits_of_scanBound r.lt))
  obtain ⟨q1, w1⟩ := put_ws q x d f k r
  have b1 := Heap.SameBut.update s.heap a (Obj.putSet es1 t1)
  by_cases full : (!dm && t1.tooFull) = true
  · rw [if_pos full]
    have p2 := relayAll_perm t1 es1 (SetTable.grown es1.size)
    have f2 := relayAll_fits t1 es1 (SetTable.grown es1.size)
    have k2 := wk_relay es1 (SetTable.grown es1.size) k
    generalize relayAll t1 es1 (SetTable.grown es1.size) = Y at p2 f2 k2
    have r2 := r.perm p2
    refine wpAny_bind (hg _ _ _ (wpAny_bind (wpAny_storeSet_of q1 rfl ?_ (fits_of_scanBound r2.lt))))
    exact wpAny_pure (hR _ (b1.trans (Heap.SameBut.update _ a _)) (put_ws q1 x rfl f2 k2 r2).2)
  · rw [if_neg full]
    exact wpAny_pure (hR _ b1 w1)
theorem add_ws {k : Str} {x : Value} (kx : (SK P w).is k x = true) (sx : x.scannable = true) (R : WS P w s.heap a S n) (room : n + 1 < scanBound) {Q : Bool → Shared → Prop}
    (hQ : ∀ h', Heap.SameBut a s.heap h' → WS P w h' a (fun j => S j || decide (j = k)) (if S k = true then n else n + 1) → Q (!S k) { s with heap := h' }) :
    wpAny (model P w) A (setAddHashed a x ((SK P w).hash k)) Q E s := by
  obtain ⟨o, es, ep, t, q, ex, d, f, wk, r⟩ := R
  have note : ∀ (b : Bool) {s1 : Shared} {Q1 : Unit → Shared → Prop}, Q1 () s1 → wpAny (model P w) A (match b with | true => rule "set.scan.the-table-gave-way" | false => pure ()) Q1 E s1 := by
    intro b s1 Q1 z
    cases b
    · exact wpAny_pure z
    · exact wpAny_rule z
  unfold setAddHashed setAddHashedIn setAddByScan
  refine wpAny_holding (wpAny_bind (wpAny_setState_of q d f ?_))
  simp only [byScan_of sx r.lt r.el, ↓reduceIte]
  refine wpAny_bind (wpAny_bind (wpAny_rule (wpAny_bind (wpAny_setScan_of kx q d f r.el ?_))))
  cases hi : es.toList.findIdx? (fun e => (SK P w).is k e.2) with
  | some j =>
    obtain ⟨j1, j2, _⟩ := List.findIdx?_eq_some_iff_getElem.mp hi
    have old : S k = true := (r.me k).mpr ⟨_, List.getElem_mem j1, j2⟩
    have sm : ∀ i, (S i || decide (i = k)) = S i := fun i => by
      by_cases e : i = k
      · rw [e, old]; rfl
      · simp [e]
    have fin := hQ s.heap (Heap.SameBut.refl a s.heap) (WS.cong ⟨o, es, ep, t, q, ex, d, f, wk, r⟩ sm (if_pos old))
    rw [old] at fin
    exact wpAny_pure (wpAny_pure fin)
  | none =>
    have new : S k = false := by
      cases z : S k
      · rfl
      · obtain ⟨e, e1, e2⟩ := (r.me k).mp z
        have := List.findIdx?_eq_none_iff.mp hi e e1
        rw [e2] at this; cases this
    have p1 := layNew_perm t es ((SK P w).hash k) x
    have f1 := layNew_fits t es ((SK P w).hash k) x
    have k1 := wk_new es ((SK P w).hash k) x wk
    dsimp only
    generalize layNew t es ((SK P w).hash k) x = Y at p1 f1 k1
    obtain ⟨es1, t1, dm, gave⟩ := Y
    dsimp only at p1 f1 k1 ⊢
    rw [Array.toList_push] at p1
    have z1 : es1.size = n + 1 := by
      have := p1.length_eq
      simp only [Array.length_toList, List.length_append, List.length_singleton, r.sz] at this
      exact this
    have r1 : Es P w es1 (fun j => S j || decide (j = k)) (n + 1) := ⟨(r.el.push kx sx).perm p1, mem_push_iff kx r.me p1, z1, by rw [z1]; exact room,
      (p1.pairwise_iff fun {e f} h j hf => by
        cases q : (SK P w).is j e.2
        · rfl
        · rw [h j q] at hf; cases hf).mpr (List.pairwise_append.mpr ⟨r.nd, List.pairwise_singleton _ _, fun e he f hf j hj => by
          rw [List.mem_singleton.mp hf]
          have sj := (r.me j).mpr ⟨e, he, hj⟩
          cases q : (SK P w).is j x
          · rfl
          · rw [(SK P w).inj x j k q kx, new] at sj; cases sj⟩)⟩
    rw [new] at hQ
    simp only [Bool.false_eq_true, ↓reduceIte, Bool.not_false] at hQ
    refine wpAny_bind (note _ ?_)
    by_cases pl : t1.plain = true
    · rw [if_pos pl]
      refine wpAny_bind ?_
      rw [hashByValue_scannable 8 sx]
      refine wpAny_pure ?_
      refine tail_ws (fun b s1 Q1 z => by cases b <;> first | exact wpAny_pure z | exact wpAny_rule z) q ex d ?_ ?_ r1 fun h' b1 w1 => wpAny_pure (hQ h' b1 w1)
      · split
        · exact f1
        · exact SetTable.fits_plain_off f1
      · split
        · exact k1
        · exact wk_off k1
    · rw [if_neg pl]
      refine wpAny_bind (wpAny_pure ?_)
      simp only [↓reduceIte]
      exact tail_ws (fun b s1 Q1 z => by cases b <;> first | exact wpAny_pure z | exact wpAny_rule z) q ex d f1 k1 r1 fun h' b1 w1 => wpAny_pure (hQ h' b1 w1)
/-- the words of the first i items -/
def wordsTo (xs : List Str) (i : Nat) : Str → Bool := fun k => (xs.take i).any (· == k)
/-- the set S holds the words of the first i items -/
def Upto (P : Program) (w : World) (S : Addr) (xs : List Str) (i : Nat) (h : Heap) : Prop := ∃ m, m ≤ i ∧ WS P w h S (wordsTo xs i) m
theorem Upto.at {h h' : Heap} {S : Addr} {xs : List Str} {i : Nat} (R : Upto P w S xs i h) (k : ∀ o, h.get? S = some o → h'.get? S = some o) : Upto P w S xs i h' := by
  obtain ⟨m, l, r⟩ := R
  exact ⟨m, l, r.at k⟩
theorem wordsTo_succ (xs : List Str) (i : Nat) (hi : i < xs.length) (j : Str) : wordsTo xs (i + 1) j = (wordsTo xs i j || decide (j = xs.getD i Str.empty)) := by
  unfold wordsTo
  have e : xs.getD i Str.empty = xs[i] := by simp [List.getD_eq_getElem?_getD, hi]
  rw [e, List.take_succ_eq_append_getElem hi, List.any_append]
  by_cases q : j = xs[i]
  · subst q; simp
  · have : (xs[i] == j) = false := by simpa using fun h : xs[i] = j => q h.symm
    simp [this, q]
/-- what every item asks -/
theorem loop_ws {R : Result → Shared → Prop} {I S : Addr} {fp wr : List Addr} {G : Array GenState → Array GenState → Prop} {m : Nat} {V1 : Nat → Value → Prop} {St : Nat → Shared → Prop}
    (W : WalksS P w A.in1 I fp wr G m V1 St) (out : S ∉ fp) (xs : List Str) (hx : xs.length = m) (few : m + 1 < scanBound) (val : ∀ i v, V1 i v → ∃ t, v = .str (xs.getD i Str.empty) t)
    (fin : Shared → Prop) (hfin : ∀ s1, fin s1 → R (.ok (.ret .none)) s1) :
    ∀ (k i : Nat) (s : Shared), m = i + k → St i s → Upto P w S xs i s.heap → (∀ s1, Moved (S :: wr) G s s1 → Upto P w S xs m s1.heap → fin s1) →
      codeAny (model P w) A (.builtin "set.update.loop" ⟨[.ref S, .ref I], []⟩) R s := by
  have outw : S ∉ wr := fun h => out (W.sub _ h)
  have wider : ∀ b, b ∈ wr → b ∈ S :: wr := fun b => List.mem_cons_of_mem S
  intro k
  induction k with
  | zero =>
    intro i s e st up h
    obtain rfl : m = i := e
    refine codeAny_builtin F.entry_set_update_loop ?_
    rw [Around.under_plainId F.plain_set_update_loop _]
    refine wpAny_bind (m := pyNext (.ref I)) (W.done s _ _ st fun s1 mv => ?_)
    exact wpAny_pure (hfin _ (h s1 (mv.mono wider) (up.at fun o => mv.heap S o outw)))
  | succ k ih =>
    intro i s e st up h
    refine codeAny_builtin F.entry_set_update_loop ?_
    rw [Around.under_plainId F.plain_set_update_loop _]
    refine wpAny_bind (m := pyNext (.ref I)) (W.item i s _ _ (by omega) st fun v s1 hv st1 mv => ?_)
    obtain ⟨t, rfl⟩ := val i v hv
    obtain ⟨n, hn, up1⟩ := up.at fun o => mv.heap S o outw
    refine wpAny_bind (m := holding [_] (setAdd S _)) (wpAny_holding ?_)
    unfold setAdd
    refine wpAny_holding (wpAny_bind ((SK P w).pyHash (strKind_is P w _ t) ?_))
    refine add_ws (s := { s1 with toks := s1.toks + 1 }) (strKind_is P w _ t) rfl up1 (by omega) fun h1 sb up2 => ?_
    have up3 : Upto P w S xs (i + 1) h1 := ⟨_, by split <;> omega, up2.cong (wordsTo_succ xs i (by omega)) rfl⟩
    have st2 := W.frame (i + 1) s1 h1 (s1.toks + 1) st1 (Nat.le_succ _) fun b hb o q => (sb.2 b fun z => out (z ▸ hb)).trans q
    refine wpAny_pure ⟨plainId_quiet F.plain_set_update_loop _, ih (i + 1) _ (by omega) st2 up3 fun s2 mv2 up4 => h s2 ?_ up4⟩
    exact Moved.trans W.gtrans ((mv.mono wider).then_heap (Nat.le_succ _) fun b o hb q => (sb.2 b fun z => hb (z ▸ List.mem_cons_self)).trans q) mv2
end
end SW
set_option maxHeartbeats 3200000
/-! set(xs) of a list of words; sorted of it. -/
namespace SW
open PySem PySem.Spec PyProof.Rows L2
/-- the new set -/
abbrev nset (w : World) : Obj := { cls := .type "set", dict := none, data := .set #[] 0 (.fresh 0 0 (!w.params.followText "set-order")) }
section
variable {P : Program} {w : World} {A : Around} {E : Value → Shared → Prop} {s : Shared}
theorem nset_ws {h : Heap} {a : Addr} (q : h.get? a = some (nset w)) : WS P w h a (fun _ => false) 0 := by
  refine ⟨_, #[], 0, _, q, ⟨rfl, rfl, rfl⟩, rfl, by rfl, ⟨List.Pairwise.nil, ?_⟩, ⟨fun e h => by simp at h, fun k => by simp, rfl, by decide, List.Pairwise.nil⟩⟩
  show w.params.followText "set-order" = true ∨ (!w.params.followText "set-order") = true
  cases w.params.followText "set-order" <;> simp
theorem set_list {l : Addr} {its : Array Value} {xs : List Str} {Q : Value → Shared → Prop} (hh : A.handled = none) (hl : s.heap.IsList l its) (hi : StrsAre its.toList xs) (few : xs.length + 1 < scanBound)
    (hQ : ∀ (h' : Heap) (tk m : Nat), m ≤ xs.length → WS P w h' s.heap.objs.size (fun k => xs.any (· == k)) m → (∀ b o, s.heap.get? b = some o → h'.get? b = some o) → Q (.ref s.heap.objs.size) { s with heap := h', toks := tk }) :
    wpAny (model P w) A (call (.type "set") [.ref l]) Q E s := by
  have hxs : xs.length = its.size := by rw [← StrsAre.len_eq hi, Array.length_toList]
  have ⟨_, _, mro⟩ := F.called_set.mro
  have made := F.called_set.made; have subs := F.called_set.sub
  have nt := F.called_set.notType; have cc := F.called_set.canCreate; have tc := F.typeCall_set_1 (.ref l)
  refine wpAny_call (codeAny_of_tree (show wpAny _ _ (callAny (.type "set") _) _ _ _ from ?_))
  refine wpAny_pure ⟨Code.quiet_builtin _ (by decide +kernel), codeAny_builtin F.entry_type_call ?_⟩
  rw [Around.under_plain (weight_type_call_type "set" [.ref l] []) rfl]
  repeat (any_goals (first | assumption | wp_step))
  refine codeAny_mono (code_set_led1 (.ref l) (E := E) (Q₁ := fun v s1 => v = .ref s.heap.objs.size ∧ s1 = { s with heap := s.heap.push (nset w) }) ⟨rfl, rfl⟩) fun r s1 hr => ?_
  match r, hr with
  | .error _, hr => exact hr
  | .ok (.ret _), ⟨e1, e2⟩ =>
    subst e1; subst e2
    have at0 : (s.heap.push (nset w)).get? s.heap.objs.size = some (nset w) := Heap.get?_push_size _ rfl
    have ty : Shared.TypeIs { s with heap := s.heap.push (nset w) } (.ref s.heap.objs.size) "set" := ⟨_, at0, rfl⟩
    have look := F.called_set.init.lookup; have bnd := F.called_set.init.bind (.ref s.heap.objs.size)
    repeat (any_goals (first | assumption | wp_step))
    refine codeAny_mono (codeAny_call_builtin (R := wants (fun v s2 => v = .none ∧ ∃ h' tk m, s2 = { s with heap := h', toks := tk } ∧ m ≤ xs.length ∧ WS P w h' s.heap.objs.size (fun k => xs.any (· == k)) m ∧
      (∀ b o, s.heap.get? b = some o → h'.get? b = some o)) E) F.called_set.init.plain F.entry_set_init (check_set_init_1 ty ?_)) fun r2 s2 hr2 => ?_
    · obtain ⟨⟨oc, od, odt, osl⟩, ho, hc, nl, hd⟩ := hl
      simp only at hc hd
      subst hc; subst hd
      have ho1 := Heap.get?_push_of_some (nset w) ho
      have s1 := F.sub_list_set; have s2 := F.sub_list_frozenset
      have ne : (Value.type "list" == Value.type "dict") = false := by decide
      have li : (s.heap.push (nset w)).IsList l its := ⟨_, ho1, rfl, nl, rfl⟩
      unfold Builtin.«set.__init__» noKeywords Builtin.Frozenset.updateFrom
      generalize gI : pyIter = It
      wp_walk
      subst gI
      refine wpAny_pyIter_list li (wpAny_bind (wpAny_runValue ?_))
      have lt : l < s.heap.objs.size := Heap.lt_size ho
      have sz : (s.heap.push (nset w)).objs.size = s.heap.objs.size + 1 := Heap.size_push ..
      have free : ∀ b, s.heap.objs.size ≤ b → ∀ o, s.heap.get? b ≠ some o := fun b hb o q => absurd (Nat.lt_of_lt_of_le (Heap.lt_size q) hb) (Nat.lt_irrefl _)
      refine loop_ws (P := P) (w := w) ((Walks.list (by simp [hh]) _ l (Nat.ne_of_lt (by rw [sz]; exact Nat.lt_succ_of_lt lt)) its).toS) (S := s.heap.objs.size) (by rw [sz]; simp only [List.mem_cons, List.not_mem_nil, or_false, not_or]; exact ⟨Nat.ne_of_lt (Nat.lt_succ_self _), Nat.ne_of_gt lt⟩)
        xs hxs (by rw [← hxs]; exact few) (fun i v hv => SS.strs_at hi i v (by rw [Array.getElem?_toList]; exact hv))
        (fun s1 => ∃ h' tk m, s1 = { s with heap := h', toks := tk } ∧ m ≤ xs.length ∧ WS P w h' s.heap.objs.size (fun k => xs.any (· == k)) m ∧ (∀ b o, s.heap.get? b = some o → h'.get? b = some o))
        (fun s1 h1 => ?_) its.size 0 _ (by omega) ⟨⟨_, Heap.get?_push_size _ rfl, rfl, rfl⟩, li.push _⟩ ⟨0, Nat.le_refl _, (nset_ws (Heap.get?_push_of_some _ at0)).cong (fun _ => rfl) rfl⟩ fun s1 mv ⟨m, hm, up⟩ => ?_
      · show wpAny _ _ _ _ _ _
        exact wpAny_pure (wpAny_pure ⟨rfl, h1⟩)
      · obtain ⟨h', g', d', tk', os'⟩ := s1
        obtain rfl : g' = s.gens := mv.gens
        obtain rfl : d' = s.drawn := mv.drawn
        obtain rfl : os' = s.os := mv.os
        refine ⟨h', tk', m, rfl, by omega, up.cong (fun k => ?_) rfl, fun b o q => ?_⟩
        · unfold wordsTo
          rw [← hxs, List.take_length]
        · refine mv.heap b o ?_ (Heap.get?_push_of_some _ (Heap.get?_push_of_some _ q))
          have bl := Heap.lt_size q
          rw [sz]
          simp only [List.mem_cons, List.not_mem_nil, or_false, not_or]
          exact ⟨Nat.ne_of_lt bl, Nat.ne_of_lt (Nat.lt_succ_of_lt bl)⟩
    · match r2, hr2 with
      | .error _, hr2 => exact hr2
      | .ok (.ret _), ⟨e1, h', tk, m, e2, hm, ws, kp⟩ =>
        subst e1; subst e2
        repeat (any_goals (first | assumption | wp_step))
        exact hQ h' tk m hm ws kp
theorem strs_all {es : List (Int × Value)} (h : ElemsOf (SK P w) es) : ∀ v ∈ es.map (·.2), ∃ x t, v = Value.str x t := fun v hv => by
  obtain ⟨e, he, rfl⟩ := List.mem_map.mp hv
  obtain ⟨⟨k, hk, _⟩, _⟩ := h e he
  obtain ⟨t, q⟩ := Value.isStrOf_shape hk
  exact ⟨k, t, q⟩
theorem is_str {k x : Str} {t : Tok} : (SK P w).is k (.str x t) = true ↔ k = x := by
  constructor
  · intro h
    exact (SK P w).inj _ _ _ h (strKind_is P w x t)
  · rintro rfl; exact strKind_is P w k t
/-- sorted(s) of a set of words -/
theorem sorted_ws {a : Addr} {S : Str → Bool} {n : Nat} {Q : Value → Shared → Prop} (R : WS P w s.heap a S n) (hh : A.handled = none)
    (hQ : ∀ s' p (out : Array Value) (c : Nat) (ys : List Str), (∀ b o, s.heap.get? b = some o → s'.heap.get? b = some o) → s'.gens = s.gens → s'.os = s.os → s.heap.objs.size ≤ p →
      s'.heap.get? p = some (seqObj "list" out c) → StrsAre out.toList ys → ys.length = n → sortedS ys = true → ys.Nodup → (∀ k, k ∈ ys ↔ S k = true) → Q (.ref p) s') :
    wpAny (model P w) A (call (.builtin "sorted") [.ref a]) Q E s := by
  obtain ⟨o, es, ep, t, q, ex, d, f, wk, r⟩ := R
  refine Calls.call_function_entry kind_sorted plain_sorted entry_sorted (args_sorted1 _) ?_
  unfold Builtin.«sorted»
  refine wpAny_bind (m := checkCount "sorted" 1 1 _) (wpAny_pure (wpAny_bind ?_))
  refine collect_set (A := A.in1) hh ⟨o, q, ex.1, d⟩ f r.lt wk.1 wk.2 fun s1 vs keep up sg so pm => ?_
  have len : vs.length = n := by simpa [r.sz] using pm.length_eq
  have small : vs.length ≤ sizeLine := by rw [len, ← r.sz]; exact fits_of_scanBound r.lt
  have wds : StrsAre vs (vs.map strOf) := strsAre_map vs fun v hv => strs_all r.el v (pm.mem_iff.mp hv)
  have distinct : (vs.map strOf).Nodup := by
    refine (pm.map strOf).nodup_iff.mpr ?_
    rw [List.map_map]
    refine List.pairwise_map.mpr (r.nd.imp_of_mem fun {e e'} he he' h eq => ?_)
    obtain ⟨⟨k, hk, _⟩, _⟩ := r.el e he
    obtain ⟨⟨k', hk', _⟩, _⟩ := r.el e' he'
    obtain ⟨u, hu⟩ := Value.isStrOf_shape hk
    obtain ⟨u', hu'⟩ := Value.isStrOf_shape hk'
    simp only [Function.comp_def, hu, hu', strOf] at eq
    subst eq
    have := h k hk
    rw [hk'] at this
    cases this
  have member : ∀ k, k ∈ vs.map strOf ↔ S k = true := fun k => by
    rw [r.me k, (pm.map strOf).mem_iff, List.map_map, List.mem_map]
    constructor
    · rintro ⟨e, he, rfl⟩
      obtain ⟨⟨k, hk, _⟩, _⟩ := r.el e he
      obtain ⟨u, hu⟩ := Value.isStrOf_shape hk
      refine ⟨e, he, ?_⟩
      simp only [Function.comp_def, hu, strOf]
      exact strKind_is P w k u
    · rintro ⟨e, he, hk⟩
      obtain ⟨u, hu⟩ := Value.isStrOf_shape hk
      exact ⟨e, he, by simp only [Function.comp_def, hu, strOf]⟩
  refine wpAny_bind (wpAny_newList (wpAny_bind (wpAny_holding ?_)) small)
  have lo : (s1.heap.push (seqObj "list" vs.toArray 0)).get? s1.heap.objs.size = some (seqObj "list" vs.toArray 0) := Heap.get?_push_size _ rfl
  refine wpAny_call_entry slot_list_sort ⟨_, lo, rfl⟩ entry_list_sort
    (list_sort_treeKAny strKind_oneLt lo wds.keysOf (fun v1 v2 tl z => keyKind_strs (by rw [← z]; exact wds)) small fun st hp hs => ⟨_, rfl, ?_⟩) (args_list_sort _)
  obtain ⟨ys, y1, y2, y3⟩ := sorted_out_str wds hp hs
  obtain ⟨c, hc⟩ := sortedHeap_at (vs := vs) (out := (arrOf st).map (·.2)) lo
  refine wpAny_pure ⟨_, rfl, hQ _ s1.heap.objs.size _ c ys (fun b u e => ?_) sg so up hc y1 ?_ y3 (y2.nodup_iff.mpr distinct) fun k => (y2.mem_iff).trans (member k)⟩
  · have e1 := keep b u e
    have bl := Heap.lt_size e1
    refine (sortedHeap_old (Nat.ne_of_lt bl) ?_).trans (Heap.get?_push_of_some _ e1)
    rw [size_push']; exact Nat.lt_succ_of_lt bl
  · rw [y2.length_eq, List.length_map, len]
end
end SW
/-! dict(ps) of a tuple of pairs that tuple() made; sorted(set(xs)) as a call. -/
namespace Q
open PySem PySem.Spec PyProof.Rows L2
theorem putK_app {acc kvs : List (Key × V)} (h : ((acc ++ kvs).map (·.1)).Nodup) : mergeK acc kvs = acc ++ kvs := by
  induction kvs generalizing acc with
  | nil => simp [mergeK]
  | cons kv kvs ih =>
    have hn : valV acc kv.1 = none := by
      cases e : valV acc kv.1 with
      | none => rfl
      | some v =>
        have := valV_in e
        rw [List.map_append, List.nodup_append] at h
        exact (h.2.2 _ this _ (by simp) rfl).elim
    show mergeK (putK acc kv.1 kv.2) kvs = _
    rw [putK_new kv.2 hn, ih (by simpa using h)]
    simp
section
variable {X : Cx}
/-- tuple(xs), the new object known -/
theorem call_xtuple : CallR X (.type "tuple") (fun xs H Q => ∃ (p : Addr) (ys : List V), xs = [.ref p] ∧ SqL X.K H p ys ∧ ∀ (l : Addr) (o : Obj), o.dict = none → H l = none → Q (.ref l) (upd H l (.frz o (.tup ys)))) := by
  intro pins s σ H xs us Q I r h
  obtain ⟨p, ys, rfl, hq, q⟩ := h
  obtain ⟨u, rfl, rx⟩ := vals1 r
  cases rx
  obtain ⟨its, r', pl, hz⟩ := I.list hq
  have hlen := r'.length
  refine call_tuple_list pl.isList (fun h1 kp => ?_) (by simp only [List.size_toArray]; omega)
  have I1 : Inv X pins σ H { s with heap := h1 } := I.kept (t' := s.toks) kp
  refine ⟨.ref h1.objs.size, _, I1.laid (t' := s.toks) (o := .frz { cls := .type "tuple", data := .seq its.toArray } (.tup ys)) (fun b o e => Heap.get?_push_of_some _ e) (Nat.le_refl _) ?_, rfl, q _ _ rfl (I1.hok.fresh (Nat.le_refl _))⟩
  exact ⟨Heap.get?_push_size _ rfl, hz, its, r', IsTup.new _ _⟩
/-- dict(ps) of such a tuple -/
theorem call_dictX (hcalm : X.calm = true) : CallR X (.type "dict") (fun xs H Q => ∃ (a : Addr) (o : Obj) (ps : List Addr) (kvs : List (Key × V)), xs = [.ref a] ∧ H a = some (.frz o (.tup (ps.map V.ref))) ∧ o.dict = none ∧ Paired (fun p kv => SqT X.K H p [kV kv.1, kv.2]) ps kvs ∧
    ∀ p, H p = none → Q (.ref p) (upd H p (.dK (mergeK [] kvs)))) := by
  intro pins s σ H xs us Q I r q
  obtain ⟨a, o, ps, kvs, rfl, hq, od, hp, q⟩ := q
  obtain ⟨u, rfl, rx⟩ := vals1 r
  cases rx
  obtain ⟨ho, hz, its, rv, pl⟩ := I.hok a _ hq
  have ei := refs_at rv
  subst ei
  rw [List.length_map] at hz
  obtain ⟨prs, rel, hl, hpr⟩ := pairs_of I hp
  obtain ⟨o', ho', hc, n, hd⟩ := pl
  rw [ho] at ho'
  cases ho'
  -- the pairs as the library tells them
  have keyed : ∀ (j : Nat) (hj : j < ps.length), ∃ u : Value, IsTup s.heap ps[j] #[u, (prs[j]'(by omega)).2] ∧ keyIs (prs[j]'(by omega)).1 u = true := fun j hj => by
    obtain ⟨b, u, e1, e2, e3⟩ := hpr j (prs[j]'(by omega)) (List.getElem?_eq_getElem (by omega))
    rw [List.getElem?_eq_getElem hj] at e1
    cases e1
    exact ⟨u, e2, e3⟩
  let vp : List (Value × Value) := (List.range ps.length).attach.map fun j => (Classical.choose (keyed j.1 (List.mem_range.mp j.2)), (prs[j.1]'(by have := List.mem_range.mp j.2; omega)).2)
  have vlen : vp.length = ps.length := by simp [vp]
  have vat : ∀ (j : Nat) (hj : j < ps.length), vp[j]? = some (Classical.choose (keyed j hj), (prs[j]'(by omega)).2) := fun j hj => by
    simp [vp, hj]
  have items : PairItems s.heap (ps.map Value.ref).toArray (fun j => ps.getD j 0) vp := by
    refine ⟨by simp [vlen], fun j k v hj => ?_⟩
    have hj1 : j < ps.length := by have := (List.getElem?_eq_some_iff.mp hj).1; omega
    rw [vat j hj1] at hj
    cases hj
    have g : ps.getD j 0 = ps[j] := by simp [List.getD_eq_getElem?_getD, hj1]
    obtain ⟨h1, _⟩ := Classical.choose_spec (keyed j hj1)
    refine ⟨by simp [hj1, g], .inl ?_⟩
    show s.heap.IsTuple (ps.getD j 0) _
    rw [g]
    exact h1
  have have_ : PairsHave (mixKind X.prog X.w) vp.length (PairRel vp) prs := ⟨by rw [vlen, hl], fun i key v hi => by
    have hi1 : i < ps.length := by have := (List.getElem?_eq_some_iff.mp hi).1; omega
    rw [show PairRel vp i key v = (vp[i]? = some (key, v)) from rfl, vat i hi1] at hi
    cases hi
    exact ⟨(prs[i]'(by omega)).1, List.getElem?_eq_getElem (by omega), (Classical.choose_spec (keyed i hi1)).2⟩⟩
  refine PySem.call_dict_pairs (knd := mixKind X.prog X.w) (PairArg.tuple a (ps.map Value.ref).toArray (fun j => ps.getD j 0) vp) (I.ok.hd hcalm) ⟨⟨o, n, ho, hc, od, hd⟩, items⟩ have_ (by rw [vlen]; exact hz) fun h' tk hd' k => ?_
  have hm : (s.heap.objs.size == sysModules) = false := beq_eq_false_iff_ne.mpr (Nat.ne_of_gt I.big)
  have hlen : (mergeK [] kvs).length ≤ sizeLine := by
    refine Nat.le_trans (length_mergeK kvs []) ?_
    rw [List.length_nil, Nat.zero_add, rel.length, hl]
    exact hz
  exact ⟨.ref s.heap.objs.size, upd H s.heap.objs.size (.dK (mergeK [] kvs)), I.laid (t' := tk) (fun b o e => k b o (by simp) e) (Nat.le_refl _) (show ObjOk X.prog X.w _ _ _ (.dK (mergeK [] kvs)) from ⟨hlen, hm, merged [] prs, KV.merge rel .nil, hd'⟩), rfl, q _ (I.hok.fresh (Nat.le_refl _))⟩
end
end Q
/-! set(xs) and sorted(s) of words, as calls over the layer. -/
namespace Q
open PySem PySem.Spec PyProof.Rows L2
/-- the set of words at a -/
def WsO (P : Program) (w : World) (a : Addr) (S : Str → Bool) (n : Nat) : HO := .ext fun h => SW.WS P w h a S n
theorem strs_of : ∀ {ws : List Str} {us : List Value}, Vals (ws.map V.str) us → StrsAre us ws
  | [], _, .nil => .nil
  | w :: ws, _, .cons r t => by
    obtain ⟨k, rfl⟩ := r
    exact .cons w k (strs_of t)
section
variable {X : Cx}
theorem cr_words (hc : X.calm = true) : CallR X (.type "set") (fun xs H Q => ∃ (l : Addr) (ws : List Str), xs = [.ref l] ∧ SqL X.K H l (ws.map V.str) ∧ ws.length + 1 < scanBound ∧
    ∀ (a : Addr) (m : Nat), m ≤ ws.length → H a = none → Q (.ref a) (upd H a (WsO X.prog X.w a (fun k => ws.any (· == k)) m))) := by
  intro pins s σ H xs us Q I r h
  obtain ⟨l, ws, rfl, hq, few, q⟩ := h
  rw [Vals.ref1 r]
  obtain ⟨its, rv, pl, _⟩ := I.list hq
  refine SW.set_list (I.ok.hd hc) pl.isList (by simpa using strs_of rv) few fun h1 tk m hm ws1 kp => ?_
  have ⟨o, _, _, _, ho, _⟩ := ws1
  exact ⟨.ref _, _, I.laid (t' := tk) (o := WsO X.prog X.w s.heap.objs.size _ m) kp (Nat.le_refl _) ⟨ws1, ⟨o, ho⟩, fun h2 h3 p k => p.at k⟩, rfl, q _ m hm (I.hok.fresh (Nat.le_refl _))⟩
theorem cr_sortedW (hc : X.calm = true) : CallR X (.builtin "sorted") (fun xs H Q => ∃ (a : Addr) (S : Str → Bool) (n : Nat), xs = [.ref a] ∧ H a = some (WsO X.prog X.w a S n) ∧ n ≤ sizeLine ∧
    ∀ (ys : List Str) (p : Addr), sortedS ys = true → ys.Nodup → (∀ k, k ∈ ys ↔ S k = true) → ys.length = n → H p = none → Q (.ref p) (upd H p (.lst (ys.map V.str)))) := by
  intro pins s σ H xs us Q I r h
  obtain ⟨a, S, n, rfl, ha, hn, q⟩ := h
  rw [Vals.ref1 r]
  have W : SW.WS X.prog X.w s.heap a S n := (I.hok a _ ha).1
  refine SW.sorted_ws W (I.ok.hd hc) fun s1 p out c ys kp sg so hp hg hw hl hs hd hm => ?_
  have fresh := I.hok.fresh hp
  have size : (ys.map V.str).length ≤ sizeLine := by rw [List.length_map, hl]; exact hn
  have new : ObjOk X.prog X.w (upd H p (.lst (ys.map V.str))) s1.heap p (.lst (ys.map V.str)) := ⟨size, out.toList, c, vals_of_strs hw, hg⟩
  exact ⟨.ref p, _, I.call' (ch := []) so (Un.laid kp hp fresh) (I.hok.laid kp hp new) (by rw [sg]; exact I.bare) (fun _ z => nomatch z), rfl, q ys p hs hd hm hl fresh⟩
end
end Q
/-! t[::-1] of tuples. -/
namespace HT
open PySem PySem.Spec PyProof.Rows
theorem adjust_rev (n : Nat) : Builtin.Slice.sliceAdjust none none (-1) (n : Int) = ((n : Int) - 1, -1) := by
  unfold Builtin.Slice.sliceAdjust
  rfl
theorem places_rev (n : Nat) : Builtin.Slice.slicePlaces ((n : Int) - 1) (-1) (-1) = n := by
  unfold Builtin.Slice.slicePlaces
  have h1 : ¬ ((-1 : Int) > 0) := by decide
  rw [if_neg h1]
  by_cases h : (n : Int) - 1 > -1
  · rw [if_pos h, show (- -1 : Int) = 1 by decide, Int.ediv_one]; omega
  · rw [if_neg h]; omega
section
variable {prog : Program} {w : World} {A : Around} {E : Value → Shared → Prop} {s : Shared}
theorem sliceApplied_rev {sl : Addr} {vs : Value} {n : Nat} {Q : Int × Int × Nat → Shared → Prop} (hs : s.heap.IsSliceOf sl .none .none vs) (ps : IsPart vs (some (-1)))
    (h : Q ((n : Int) - 1, -1, n) s) : wpAny (model prog w) A (Builtin.Slice.sliceApplied (.ref sl) (pure (n : Int))) Q E s := by
  obtain ⟨os, hos, hcs, hds⟩ := id hs
  unfold Builtin.Slice.sliceApplied Builtin.Slice.sliceFields
  refine wpAny_bind (wpAny_bind (wpAny_field hos hds (x := .none) rfl (wpAny_bind (wpAny_field hos hds (x := .none) rfl (wpAny_bind (wpAny_field hos hds (x := vs) rfl (wpAny_pure ?_)))))))
  refine wpAny_bind (slicePart_ ps ?_)
  show wpAny _ _ (if ((-1 : Int) == 0) = true then _ else _) _ _ s
  rw [if_neg (by decide)]
  refine wpAny_bind (slicePart_none (wpAny_bind (slicePart_none (wpAny_bind (wpAny_pure ?_)))))
  show wpAny _ _ (match Builtin.Slice.sliceAdjust none none (-1) (n : Int) with | (lo, hi) => pure (lo, (-1 : Int), Builtin.Slice.slicePlaces lo hi (-1))) _ _ s
  rw [adjust_rev n]
  show wpAny _ _ (pure ((n : Int) - 1, (-1 : Int), Builtin.Slice.slicePlaces ((n : Int) - 1) (-1) (-1))) _ _ s
  rw [places_rev]
  exact wpAny_pure h
theorem pick_rev (xs : Array Value) : ((List.range xs.size).filterMap fun (m : Nat) => xs[((xs.size : Int) - 1 + (m : Int) * (-1)).toNat]?).toArray = xs.toList.reverse.toArray := by
  have e : (List.range xs.size).filterMap (fun (m : Nat) => xs[((xs.size : Int) - 1 + (m : Int) * (-1)).toNat]?) = ((List.range xs.size).map fun k => xs.size - 1 - k).filterMap (fun k => xs[k]?) := by
    rw [List.filterMap_map]
    refine congrArg (fun f => List.filterMap f (List.range xs.size)) ?_
    funext m
    have : ((xs.size : Int) - 1 + (m : Int) * (-1)).toNat = xs.size - 1 - m := by omega
    show _ = xs[xs.size - 1 - m]?
    rw [this]
  rw [e, PySem.W.krv_range, List.filterMap_reverse, PySem.W.krv_all]
theorem getItem_tuple_rev {t sl : Addr} {items : Array Value} {vs : Value} {Q : Value → Shared → Prop} (ht : IsTup s.heap t items) (hs : s.heap.IsSliceOf sl .none .none vs) (ps : IsPart vs (some (-1)))
    (h : Q (.ref s.heap.objs.size) { s with heap := s.heap.push { cls := .type "tuple", data := .seq items.toList.reverse.toArray } })
    (hsz : items.size ≤ sizeLine) : wpAny (model prog w) A (getItem (.ref t) (.ref sl)) Q E s := by
  have htake : sizeOk (.seq items.toList.reverse.toArray) := by
    show items.toList.reverse.toArray.size ≤ sizeLine
    rw [List.size_toArray, List.length_reverse, Array.length_toList]
    exact hsz
  obtain ⟨os, hos, hcs, hds⟩ := id hs
  have hTs : s.TypeIs (.ref sl) "slice" := ⟨os, hos, hcs⟩
  unfold getItem
  try with_reducible refine wpAny_holding ?_
  first | refine wpAny_bind (wpAny_pure ?_) | skip
  refine wpAny_bind (wpAny_sequenceKey ht.typeIs (by decide) ?_)
  refine wpAny_bind (wpAny_callSpecial?_slot (name := Str.ofString "__getitem__") ht.typeIs PyProof.Rows.slot_tuple_getitem
    (wpAny_call_entry PyProof.Rows.slot_tuple_getitem ht.typeIs entry_tuple_getitem ?_ (args_tuple_getitem _ _)))
  show wpAny _ _ (Builtin.Tuple.tupleItemsOf (.ref t) >>= _) _ _ s
  refine wpAny_bind (tupleItemsOf_ ht ?_)
  refine wpAny_bind (wpAny_typeOf hTs ?_)
  rw [if_pos (by decide)]
  refine wpAny_bind (sliceApplied_rev hs ps ?_)
  have hno : ¬ ((((items.size : Int) - 1) == 0 && (-1 : Int) == 1 && items.size == items.size) = true) := by
    intro q
    rw [Bool.and_eq_true, Bool.and_eq_true] at q
    exact absurd q.1.2 (by decide)
  show wpAny _ _ (if (((items.size : Int) - 1) == 0 && (-1 : Int) == 1 && items.size == items.size) = true then _ else _) _ _ s
  rw [if_neg hno, pick_rev]
  first
    | exact wpAny_bind (m := Builtin.Tuple.tupleExact _) (wpAny_newObj_type (wpAny_pure ⟨_, rfl, wpAny_pure h⟩) htake)
    | exact wpAny_bind (m := Builtin.Tuple.tupleExact _) (wpAny_newObj_type (wpAny_bind (wpAny_pure (wpAny_pure ⟨_, rfl, wpAny_pure h⟩))) htake)
    | exact wpAny_bind (wpAny_bind (m := Builtin.Tuple.tupleExact _) (wpAny_newObj_type (wpAny_pure (wpAny_pure ⟨_, rfl, wpAny_pure h⟩)) htake))
    | exact wpAny_bind (wpAny_bind (m := Builtin.Tuple.tupleExact _) (wpAny_newObj_type (wpAny_pure ⟨_, rfl, wpAny_pure h⟩) htake))
end
end HT
namespace L2
open PySem PySem.Spec PyProof.Rows
section
variable {X : Cx}
def tRevA (K : PySem.W.Frag) (te : TE) : TE := fun σ H Q => te σ H fun x H1 => (∃ a xs, x = .ref a ∧ SqT K H1 a xs ∧ ∀ p, H1 p = none → Q (.ref p) (upd H1 p (.tup xs.reverse))) ∨ (∃ a xs, x = .ref a ∧ SqL K H1 a xs ∧ ∀ p, H1 p = none → Q (.ref p) (upd H1 p (.lst xs.reverse)))
theorem pe_revA {e : Expr} {te : TE} {k : Nat} {p1 p2 p3 pos : Pos} (he : PE X e te) : PE X (.Subscript e (.Slice none none (some (.UnaryOp .USub (.Constant (.int 1) k p1) p2)) p3) pos) (tRevA X.K te) := by
  refine ⟨fun pins s σ H Q I h => ?_⟩
  refine Subscript_ (thn (he.run pins s σ H _ I h) fun v s1 ⟨x, H1, I1, r1, q1⟩ => ?_)
  have hst : PO X (some (.UnaryOp .USub (.Constant (.int 1) k p1) p2)) (tPart (tUn (rU fun i => .int (-i)) (tC (.int 1)))) := po_some (pe_un un_neg pe_int)
  refine wpAny_Slice (thn (po_none.run pins s1 σ H1 (fun o H2 => o = none ∧ H2 = H1) I1 ⟨rfl, rfl⟩) fun vl s2 ⟨l, H2, I2, pl, el, e2⟩ => ?_)
  subst el e2
  refine thn (po_none.run pins s2 σ H2 (fun o H3 => o = none ∧ H3 = H2) I2 ⟨rfl, rfl⟩) fun vu s3 ⟨u, H3, I3, pu, eu, e3⟩ => ?_
  subst eu e3
  refine thn (hst.run pins s3 σ H3 (fun o H4 => o = some (-1) ∧ H4 = H3) I3 ⟨1, rfl, -1, rfl, rfl, rfl⟩) fun vs s4 ⟨o, H4, I4, ps, eo, e4⟩ => ?_
  subst eo e4
  have I5 : Inv X pins σ H4 { s4 with heap := s4.heap.push { cls := .type "slice", data := .fields #[vl, vu, vs] } } := I4.kept (t' := s4.toks) fun b ob q => Heap.get?_push_of_some _ q
  rcases q1 with ⟨a, xs, ex, hx, q⟩ | ⟨a, xs, ex, hx, q⟩
  · subst ex
    cases r1
    obtain ⟨its, r, ht, hz⟩ := I5.tuple hx
    have hlen := r.length
    cases pl
    cases pu
    show wpAny (model X.prog X.w) X.A (subscriptTail e (.Slice none none (some (.UnaryOp .USub (.Constant (.int 1) k p1) p2)) p3) (.ref a) (.ref s4.heap.objs.size)) (EP X pins σ Q) X.xe { s4 with heap := s4.heap.push { cls := .type "slice", data := .fields #[.none, .none, vs] } }
    refine tail_any (ops := [.ref a, .ref s4.heap.objs.size]) ht.typeIs PyProof.Rows.slot_tuple_getitem.lookup ?_ (by with_unfolding_all rfl)
    refine HT.getItem_tuple_rev ht (Heap.IsSliceOf.new _ .none .none vs) ps ?_ (by rw [List.size_toArray]; omega)
    refine ⟨.ref _, _, I5.laid (t' := s4.toks) (o := .tup xs.reverse) (fun b ob q => Heap.get?_push_of_some _ q) (Nat.le_refl _) ?_, rfl, q _ (I5.hok.fresh (Nat.le_refl _))⟩
    exact ⟨by rw [List.length_reverse]; exact hz, _, r.reverse, IsTup.new _ _⟩
  · subst ex
    cases r1
    obtain ⟨its, r, ht, hz⟩ := I5.list hx
    have hlen := r.length
    show wpAny (model X.prog X.w) X.A (subscriptTail e (.Slice none none (some (.UnaryOp .USub (.Constant (.int 1) k p1) p2)) p3) (.ref a) (.ref s4.heap.objs.size)) (EP X pins σ Q) X.xe { s4 with heap := s4.heap.push { cls := .type "slice", data := .fields #[vl, vu, vs] } }
    refine tail_any (ops := [.ref a, .ref s4.heap.objs.size]) ht.isList.typeIs (PySem.slot_list_getitem.lookup) ?_ (by with_unfolding_all rfl)
    refine wpAny_getItem_list_slice ht.isList (Heap.IsSliceOf.new _ vl vu vs) pl pu ps (by decide) ?_ (by rw [List.size_toArray]; omega)
    rw [PySem.W.krv_pick]
    refine ⟨.ref _, _, I5.laid (t' := s4.toks) (o := .lst xs.reverse) (fun b ob q => Heap.get?_push_of_some _ q) (Nat.le_refl _) ?_, rfl, q _ (I5.hok.fresh (Nat.le_refl _))⟩
    exact ⟨by rw [List.length_reverse]; exact hz, _, 0, r.reverse, Heap.get?_push_size _ rfl⟩
end
end L2
/-! Built-in functions, subscripts, over the heap. -/
namespace Q
open PySem PySem.Spec PyProof.Rows L2
theorem kitTab : ∀ t ∈ ["NoneType", "bool", "int", "str", "tuple", "list", "dict"], ∀ T ∈ isTys, kitB t T = some (t == T || (t == "bool" && T == "int")) := by decide +kernel
section
variable {K : PySem.W.Frag} {F : Fr} {H : Hp} {W : Addr → Prop} {φ : List Addr} {L : Lo} {S : Sto} {σ : Sg} {X : Cx} {R : KF} {Q : VK} {x y : D} {v u : V}
def tyName : D → String
  | .non => "NoneType" | .bl _ => "bool" | .int _ => "int" | .str _ => "str" | .tup _ => "tuple" | .lst _ => "list" | .dct _ _ => "dict" | .xt _ => "tuple" | _ => ""
theorem tyX_of (h : RepP K H φ W x v) (hn : tyName x ≠ "") : TyX K H v (.type (tyName x)) := by
  cases x with
  | non => have := h.non; subst this; exact .base .non
  | bl b => have := h.bl; subst this; exact .base (.bl b)
  | int b => have := h.int; subst this; exact .base (.int b)
  | str b => have := h.str; subst this; exact .base (.str b)
  | tup l =>
    obtain ⟨a, vs, rfl, (q | ⟨o, q⟩) | ⟨o, its, n, h1, h2, _⟩, r⟩ := h.tup
    · exact .base (.tup q)
    · exact .fTuple q
    · exact .kTuple h1 h2
  | lst l => obtain ⟨a, vs, rfl, _, q, r⟩ := h.lst; exact .base (.lst q)
  | dct ks l =>
    obtain ⟨a, vs, rfl, _, q, r⟩ := h.dct
    rcases q with q | ⟨o, q⟩
    · exact .base (.dK q)
    · exact .fDict q
  | scr _ => exact (hn rfl).elim
  | obj _ => exact (hn rfl).elim
  | xt l => obtain ⟨a, vs, rfl, ⟨o, q, _⟩, r⟩ := h.xt; exact .fTuple q
  | clo _ _ _ => exact (hn rfl).elim
theorem tyName_mem : ∀ x : D, tyName x ≠ "" → tyName x ∈ ["NoneType", "bool", "int", "str", "tuple", "list", "dict"] := fun x h => by
  cases x <;> first
    | exact (h rfl).elim
    | (show _ ∈ _; simp [tyName])
theorem isA_eq {T : String} {b : Bool} (hT : T ∈ isTys) (h : x.isA T = some b) : tyName x ≠ "" ∧ b = (tyName x == T || (tyName x == "bool" && T == "int")) := by
  have hT' : T = "str" ∨ T = "int" ∨ T = "bool" ∨ T = "tuple" ∨ T = "list" ∨ T = "dict" := by simpa [isTys] using hT
  cases x <;> rcases hT' with rfl | rfl | rfl | rfl | rfl | rfl <;> simp [D.isA, tyName] at h ⊢ <;> exact h
theorem isA_kit {T : String} {b : Bool} (hT : T ∈ isTys) (h : x.isA T = some b) : tyName x ≠ "" ∧ kitB (tyName x) T = some b := by
  obtain ⟨h1, h2⟩ := isA_eq hT h
  exact ⟨h1, by rw [h2]; exact kitTab _ (tyName_mem x h1) _ hT⟩
theorem prim_isa {T : String} {b : Bool} (hK : X.K = K) (hT : T ∈ isTys) (h : x.isA T = some b) (hx : RepP K H φ W x v) (q : Q (.bl b) H) : CaX X (.builtin "isinstance") [v, .ty T] H Q := by
  subst hK
  obtain ⟨h1, h2⟩ := isA_kit hT h
  exact ⟨_, call_isi, _, _, _, _, _, rfl, .ty T, tyX_of hx h1, kit_ty h2, q⟩
theorem atI_rep {l : List D} {vs : List V} {i : Int} {d : D} (r : Reps K H φ W l vs) (h : L2.atI l i = some d) : ∃ w, L2.atI vs i = some w ∧ Rep K H φ W d w := by
  unfold L2.atI at h ⊢
  rw [← r.len]
  cases e : L2.ixN l.length i with
  | none => rw [e] at h; simp at h
  | some j => rw [e] at h; exact r.get h
theorem ix_dk (hu : X.A.units + 1 < cLine) : IxR X (fun x y H Q => ∃ a v, x = .ref a ∧ DGet H a y (some v) ∧ Q v H) := by
  intro e1 e2 pins s σ H x y v u Q I rx ry h hs
  obtain ⟨a, w, rfl, g, q⟩ := h
  cases rx
  exact tail_any (dict_typeIs I g) slot_dict_getitem.lookup (d_getItem hu I g ry fun w' s' I' r => ⟨w, H, I', r, q⟩) hs
theorem prim_idx {P : D → Prop} (hK : X.K = K) (hu : X.A.units + 200 < cLine) (s : StR K F H W φ L S σ) (hx : RepP K H φ W x v) (hy : RepP K H φ W y u) (h : dIdx S x y P) (q : ∀ d w, P d → Rep K H φ W d w → Q w H) : IxX X v u H Q := by
  subst hK
  unfold dIdx at h
  split at h
  · have := hy.int; subst this
    obtain ⟨a, vs, rfl, e, r⟩ := hx.tup
    obtain ⟨d, h1, h2⟩ := h
    obtain ⟨w, hw, rw'⟩ := atI_rep r h1
    exact ⟨_, ix_tup, a, vs, _, w, rfl, rfl, e, hw, q d w h2 rw'⟩
  · have := hy.int; subst this
    obtain ⟨a, vs, rfl, _, e, r⟩ := hx.lst
    obtain ⟨d, h1, h2⟩ := h
    obtain ⟨w, hw, rw'⟩ := atI_rep r h1
    exact ⟨_, ix_list, a, vs, _, w, rfl, rfl, SqL.of e, hw, q d w h2 rw'⟩
  · have := hy.int; subst this
    obtain ⟨a, rfl, e⟩ := hx.obj
    obtain ⟨l, d, h0, h1, h2⟩ := h
    obtain ⟨vs, hq, _, r⟩ := s.st.at_ _ _ _ e h0
    obtain ⟨w, hw, rw'⟩ := atI_rep r h1
    exact ⟨_, ix_list, a, vs, _, w, rfl, rfl, SqL.of hq, hw, q d w h2 rw'⟩
  · have := hy.str; subst this
    obtain ⟨a, kvs, rfl, _, e, ek, r⟩ := hx.dct
    obtain ⟨d, h1, h2⟩ := h
    obtain ⟨w, hw, rw'⟩ := (look_rep ek r).1 d h1
    exact ⟨_, ix_dk (by omega), a, w, rfl, .inl ⟨kvs, .inr _, e, rfl, hw.symm⟩, q d w h2 rw'⟩
  · have := hy.int; subst this
    obtain ⟨a, vs, rfl, ⟨o, e, _⟩, r⟩ := hx.xt
    obtain ⟨d, h1, h2⟩ := h
    obtain ⟨w, hw, rw'⟩ := atI_rep r h1
    exact ⟨_, ix_tup, a, vs, _, w, rfl, rfl, .inl (.inr ⟨o, e⟩), hw, q d w h2 rw'⟩
  · have := hx.str; have := hy.int; subst_vars
    obtain ⟨c, h0, h1, h2⟩ := h
    exact ⟨_, ix_str, _, _, c, rfl, rfl, h0, h1, q _ _ h2 (by simp only [Rep])⟩
  · exact h.elim
theorem Reps.strs : ∀ (ks : List Str), Reps K H φ W (ks.map .str) (ks.map (kV ∘ Sum.inr))
  | [] => Reps.nil
  | n :: ns => Reps.cons (by simp only [Rep]; rfl) (Reps.strs ns)
theorem Fin.newD (q : Fin K F H W φ L S σ R Q) (s : StR K F H W φ L S σ) {ks : List Str} {l : List D} {kvs : List (Key × V)} (h : R (.dct ks l) true) (ek : kvs.map (·.1) = ks.map Sum.inr) (r : Reps K H φ W l (kvs.map (·.2))) {p : Addr} (hp : H p = none) : Q (.ref p) (upd H p (.dK kvs)) :=
  q (.dct ks l) true (.ref p) _ _ h (s.growW hp rfl (s.phN hp)) (Tr.newW hp) ⟨p, rfl, .inr rfl, s.frN hp, ⟨kvs, upd_same, ek, r.go (S := false) (Tr.newW hp)⟩, s.noOwn hp⟩
theorem cut_rep {l : List D} {vs : List V} {lo hi : Option Int} (r : Reps K H φ W l vs) : Reps K H φ W (cut l lo hi) (cutV vs lo hi) := by
  unfold cut cutV
  rw [r.len]
  exact (r.drop _).take _
theorem cut_map {α β : Type} (f : α → β) (l : List α) (lo hi : Option Int) : (cut l lo hi).map f = cut (l.map f) lo hi := by
  unfold cut
  simp [List.map_take, List.map_drop]
theorem prim_slc {lo hi : Option Int} (hK : X.K = K) (s : StR K F H W φ L S σ) (hx : RepP K H φ W x v) (h : dSlc x lo hi R) (q : Fin K F H W φ L S σ R Q) : SlX X v lo hi H Q := by
  subst hK
  unfold dSlc at h
  split at h
  · obtain ⟨a, vs, rfl, e, r⟩ := hx.tup
    refine ⟨_, sl_tupA, a, vs, rfl, e, fun z => ?_, fun _ p hp => q.newT s h (cut_rep r) hp⟩
    have ec : cutV vs lo hi = vs := by unfold cutV; rw [z.1, z.2]; simp
    have hc := cut_rep (lo := lo) (hi := hi) r
    rw [ec] at hc
    exact q.same s h (by simp only [Rep]; exact ⟨a, vs, rfl, e, hc⟩)
  · obtain ⟨a, vs, rfl, _, e, r⟩ := hx.lst
    exact ⟨_, sl_list, a, vs, rfl, SqL.of e, fun p hp => q.newL s h (cut_rep r) hp⟩
  · obtain ⟨a, rfl, e⟩ := hx.scr
    refine ⟨_, sl_list, a, _, rfl, scr_sq e, fun p hp => q.newL s h ?_ hp⟩
    rw [cut_map]
    exact cut_rep (Reps.ints _)
  · exact h.elim
theorem allB_rep : ∀ {l : List D} {bs : List Bool} {vs : List V}, allB l = some bs → Reps K H φ W l vs → vs = bs.map V.bl
  | [], _, [], h, _ => by simp [allB] at h; subst h; rfl
  | .bl b :: l, bs, v :: vs, h, r => by
    simp only [allB] at h
    cases e : allB l with
    | none => rw [e] at h; simp at h
    | some cs =>
      rw [e] at h; simp at h; subst h
      simp only [Reps, Rep] at r
      rw [r.1, allB_rep e r.2]; rfl
  | [], _, _ :: _, h, r => by simp [Reps] at r
  | .bl _ :: _, _, [], h, r => by simp [Reps] at r
  | .non :: _, _, _, h, r => by simp [allB] at h
  | .int _ :: _, _, _, h, r => by simp [allB] at h
  | .str _ :: _, _, _, h, r => by simp [allB] at h
  | .tup _ :: _, _, _, h, r => by simp [allB] at h
  | .lst _ :: _, _, _, h, r => by simp [allB] at h
  | .dct _ _ :: _, _, _, h, r => by simp [allB] at h
  | .scr _ :: _, _, _, h, r => by simp [allB] at h
  | .obj _ :: _, _, _, h, r => by simp [allB] at h
theorem allI_rep : ∀ {l : List D} {bs : List Int} {vs : List V}, allI l = some bs → Reps K H φ W l vs → vs = bs.map V.int
  | [], _, [], h, _ => by simp [allI] at h; subst h; rfl
  | .int b :: l, bs, v :: vs, h, r => by
    simp only [allI] at h
    cases e : allI l with
    | none => rw [e] at h; simp at h
    | some cs =>
      rw [e] at h; simp at h; subst h
      simp only [Reps, Rep] at r
      rw [r.1, allI_rep e r.2]; rfl
  | [], _, _ :: _, h, r => by simp [Reps] at r
  | .int _ :: _, _, [], h, r => by simp [Reps] at r
  | .non :: _, _, _, h, r => by simp [allI] at h
  | .bl _ :: _, _, _, h, r => by simp [allI] at h
  | .str _ :: _, _, _, h, r => by simp [allI] at h
  | .tup _ :: _, _, _, h, r => by simp [allI] at h
  | .lst _ :: _, _, _, h, r => by simp [allI] at h
  | .dct _ _ :: _, _, _, h, r => by simp [allI] at h
  | .scr _ :: _, _, _, h, r => by simp [allI] at h
  | .obj _ :: _, _, _, h, r => by simp [allI] at h
theorem allS_rep : ∀ {l : List D} {bs : List Str} {vs : List V}, allS l = some bs → Reps K H φ W l vs → vs = bs.map V.str
  | [], _, [], h, _ => by simp [allS] at h; subst h; rfl
  | .str b :: l, bs, v :: vs, h, r => by
    simp only [allS] at h
    cases e : allS l with
    | none => rw [e] at h; simp at h
    | some cs =>
      rw [e] at h; simp at h; subst h
      simp only [Reps, Rep] at r
      rw [r.1, allS_rep e r.2]; rfl
  | [], _, _ :: _, h, r => by simp [Reps] at r
  | .str _ :: _, _, [], h, r => by simp [Reps] at r
  | .non :: _, _, _, h, r => by simp [allS] at h
  | .bl _ :: _, _, _, h, r => by simp [allS] at h
  | .int _ :: _, _, _, h, r => by simp [allS] at h
  | .tup _ :: _, _, _, h, r => by simp [allS] at h
  | .lst _ :: _, _, _, h, r => by simp [allS] at h
  | .dct _ _ :: _, _, _, h, r => by simp [allS] at h
  | .scr _ :: _, _, _, h, r => by simp [allS] at h
  | .obj _ :: _, _, _, h, r => by simp [allS] at h
  | .xt _ :: _, _, _, h, r => by simp [allS] at h
theorem Reps.words : ∀ (ns : List Str), Reps K H φ W (ns.map .str) (ns.map V.str)
  | [] => Reps.nil
  | n :: ns => Reps.cons (by simp only [Rep]) (Reps.words ns)
theorem allPr_rep : ∀ {l : List D} {p : List Str × List D} {vs : List V}, allPr l = some p → Reps K H φ W l vs →
    ∃ (ps : List Addr) (kvs : List (Key × V)), vs = ps.map V.ref ∧ Paired (fun p kv => SqT K H p [kV kv.1, kv.2]) ps kvs ∧ kvs.map (·.1) = p.1.map Sum.inr ∧ Reps K H φ W p.2 (kvs.map (·.2))
  | [], p, [], h, _ => by
    simp only [allPr, Option.some.injEq] at h
    subst h
    exact ⟨[], [], rfl, .nil, rfl, Reps.nil⟩
  | [], _, _ :: _, h, r => by simp [Reps] at r
  | _ :: _, _, [], h, r => by simp [Reps] at r
  | d :: l, p, v :: vs, h, r => by
    unfold allPr at h
    split at h
    · rename_i h0; cases h0
    · rename_i k x r' e
      injection e with e1 e2
      subst e1; subst e2
      obtain ⟨q, hq, rfl⟩ := Option.map_eq_some_iff.mp h
      simp only [Reps] at r
      obtain ⟨r1, r2⟩ := r
      obtain ⟨ps, kvs, e1, e2, e3, e4⟩ := allPr_rep hq r2
      simp only [Rep] at r1
      obtain ⟨a, us, rfl, hs, hr⟩ := r1
      match us, hr, hs with
      | [u1, u2], hr, hs =>
        simp only [Reps, Rep] at hr
        obtain ⟨rfl, hr, _⟩ := hr
        exact ⟨a :: ps, (Sum.inr k, u2) :: kvs, by rw [e1]; rfl, .cons hs e2, by simp [e3], Reps.cons hr e4⟩
      | [], hr, _ => simp [Reps] at hr
      | [_], hr, _ => simp [Reps] at hr
      | _ :: _ :: _ :: _, hr, _ => simp [Reps] at hr
    · cases h
inductive RepPs (K : PySem.W.Frag) (H : Hp) (φ : List Addr) (W : Addr → Prop) : List D → List V → Prop where
  | nil : RepPs K H φ W [] []
  | cons {d : D} {v : V} {ds : List D} {vs : List V} (h : RepP K H φ W d v) (r : RepPs K H φ W ds vs) : RepPs K H φ W (d :: ds) (v :: vs)
theorem RepPs.one {d : D} {vs : List V} (h : RepPs K H φ W [d] vs) : ∃ v, vs = [v] ∧ RepP K H φ W d v := by
  cases h with
  | cons h r => cases r; exact ⟨_, rfl, h⟩
theorem RepPs.two {d e : D} {vs : List V} (h : RepPs K H φ W [d, e] vs) : ∃ v u, vs = [v, u] ∧ RepP K H φ W d v ∧ RepP K H φ W e u := by
  cases h with
  | cons h r =>
    cases r with
    | cons h2 r => cases r; exact ⟨_, _, rfl, h, h2⟩
theorem RepPs.go {H' : Hp} {φ' : List Addr} {W' : Addr → Prop} (t : Tr false H φ W H' φ' W') : ∀ {ds : List D} {vs : List V}, RepPs K H φ W ds vs → RepPs K H' φ' W' ds vs
  | _, _, .nil => .nil
  | _, _, .cons h r => .cons (h.go t) (r.go t)
theorem call_lenDr : CallR X (.builtin "len") (fun xs H Q => ∃ a kvs, xs = [V.ref a] ∧ Rd H a (.dK kvs) ∧ Q (.int kvs.length) H) := by
  intro pins s σ H xs us Q I r h
  obtain ⟨a, kvs, rfl, e, q⟩ := h
  rw [Vals.ref1 r]
  exact d_len I e fun t s' I' => ⟨.int _, H, I', ⟨_, rfl⟩, q⟩
def bltV (T : String) : Value := if T = "xtuple" then .type "tuple" else if types1.contains T then .type T else .builtin T
theorem prim_blt {T : String} {ds : List D} {vs : List V} (hK : X.K = K) (hc : X.calm = true) (s : StR K F H W φ L S σ) (r : RepPs K H φ W ds vs) (hT : T ≠ "sortset") (hT2 : T ≠ "repr") (hT3 : T ≠ "str") (h : dBlt S T ds R) (q : Fin K F H W φ L S σ R Q) : CaX X (bltV T) vs H Q := by
  subst hK
  unfold dBlt at h
  split at h
  · obtain ⟨v, rfl, h1⟩ := r.one
    obtain ⟨a, vs, rfl, e, r⟩ := h1.tup
    refine ⟨_, call_len, _, _, rfl, .inr ⟨vs, e, rfl⟩, q.same s h (by simp only [Rep]; rw [r.len])⟩
  · obtain ⟨v, rfl, h1⟩ := r.one
    obtain ⟨a, vs, rfl, _, e, r⟩ := h1.lst
    refine ⟨_, call_len, _, _, rfl, .inl ⟨vs, SqL.of e, rfl⟩, q.same s h (by simp only [Rep]; rw [r.len])⟩
  · obtain ⟨v, rfl, h1⟩ := r.one
    obtain ⟨a, rfl, e⟩ := h1.scr
    refine ⟨_, call_len, _, _, rfl, .inl ⟨_, scr_sq e, rfl⟩, q.same s h (by simp only [Rep, List.length_map])⟩
  · obtain ⟨v, rfl, h1⟩ := r.one
    have := h1.str; subst this
    exact ⟨_, call_len, _, _, rfl, ⟨h.1, rfl⟩, q.same s h.2 (by simp only [Rep])⟩
  · obtain ⟨v, rfl, h1⟩ := r.one
    obtain ⟨a, kvs, rfl, _, e, k, r⟩ := h1.dct
    refine ⟨_, call_lenDr, _, _, rfl, e, q.same s h ?_⟩
    simp only [Rep]
    have := congrArg List.length k
    simp only [List.length_map] at this
    rw [this]
  · obtain ⟨v, rfl, h1⟩ := r.one
    obtain ⟨a, vs, rfl, ⟨o, e, _⟩, r⟩ := h1.xt
    refine ⟨_, call_len, _, _, rfl, .inr ⟨vs, .inl (.inr ⟨o, e⟩), rfl⟩, q.same s h (by simp only [Rep]; rw [r.len])⟩
  · obtain ⟨v, rfl, h1⟩ := r.one
    obtain ⟨a, rfl, e⟩ := h1.obj
    obtain ⟨l, h0, h⟩ := h
    obtain ⟨vs, hq, _, r⟩ := s.st.at_ _ _ _ e h0
    refine ⟨_, call_len, _, _, rfl, .inl ⟨vs, SqL.of hq, rfl⟩, q.same s h (by simp only [Rep]; rw [r.len])⟩
  · obtain ⟨v, rfl, h1⟩ := r.one
    obtain ⟨a, vs, rfl, _, e, r⟩ := h1.lst
    obtain ⟨bs, h0, h⟩ := h
    have := allB_rep h0 r; subst this
    exact ⟨_, cr_all hc, _, _, rfl, SqL.of e, q.same s h (by simp only [Rep])⟩
  · obtain ⟨v, rfl, h1⟩ := r.one
    obtain ⟨a, vs, rfl, _, e, r⟩ := h1.lst
    obtain ⟨bs, h0, h⟩ := h
    have := allB_rep h0 r; subst this
    exact ⟨_, cr_any hc, _, _, rfl, SqL.of e, q.same s h (by simp only [Rep])⟩
  · obtain ⟨v, rfl, h1⟩ := r.one
    obtain ⟨a, vs, rfl, _, e, r⟩ := h1.lst
    obtain ⟨bs, h0, h⟩ := h
    have := allI_rep h0 r; subst this
    exact ⟨_, cr_sum hc, _, _, rfl, SqL.of e, q.same s h (by simp only [Rep])⟩
  · obtain ⟨v, rfl, h1⟩ := r.one
    obtain ⟨a, vs, rfl, _, e, r⟩ := h1.lst
    exact ⟨_, call_tuple_of, _, _, rfl, .inl ⟨SqL.of e, fun p hp => q.newT s h r hp⟩⟩
  · obtain ⟨v, rfl, h1⟩ := r.one
    obtain ⟨a, vs, rfl, e, r⟩ := h1.tup
    exact ⟨_, call_tuple_of, _, _, rfl, .inr ⟨e, q.same s h (by simp only [Rep]; exact ⟨a, vs, rfl, e, r⟩)⟩⟩
  · obtain ⟨v, rfl, h1⟩ := r.one
    obtain ⟨a, vs, rfl, _, e, r⟩ := h1.lst
    exact ⟨_, call_list_of, _, _, rfl, .inl (SqL.of e), fun p hp => q.newL s h r hp⟩
  · obtain ⟨v, rfl, h1⟩ := r.one
    obtain ⟨a, vs, rfl, e, r⟩ := h1.tup
    exact ⟨_, call_list_of, _, _, rfl, .inr e, fun p hp => q.newL s h r hp⟩
  · obtain ⟨v, rfl, h1⟩ := r.one
    obtain ⟨a, rfl, e⟩ := h1.scr
    exact ⟨_, call_list_of, _, _, rfl, .inl (scr_sq e), fun p hp => q.newL s h (Reps.ints _) hp⟩
  · obtain ⟨v, rfl, h1⟩ := r.one
    have := h1.int; subst this
    exact ⟨_, call_int1, .inl ⟨_, rfl, q.same s h (by simp only [Rep])⟩⟩
  · obtain ⟨v, u, rfl, h1, h2⟩ := r.two
    have := h1.int; have := h2.int; subst_vars
    exact ⟨_, call_min2 hc, _, _, rfl, q.same s h (by simp only [Rep])⟩
  · obtain ⟨v, u, rfl, h1, h2⟩ := r.two
    have := h1.int; have := h2.int; subst_vars
    exact ⟨_, call_max2 hc, _, _, rfl, q.same s h (by simp only [Rep])⟩
  · obtain ⟨v, rfl, h1⟩ := r.one
    obtain ⟨a, vs, rfl, _, e, r⟩ := h1.lst
    obtain ⟨ns, m, h0, hm, h⟩ := h
    have := allI_rep h0 r; subst this
    rw [List.min?_eq_some_iff] at hm
    refine ⟨_, cr_min hc, _, ns, rfl, SqL.of e, List.length_pos_of_mem hm.1, fun m' h1 h2 => ?_⟩
    have : m' = m := Int.le_antisymm (h2 m hm.1) (hm.2 m' h1)
    rw [this]
    exact q.same s h (by simp only [Rep])
  · obtain ⟨v, rfl, h1⟩ := r.one
    obtain ⟨a, vs, rfl, _, e, r⟩ := h1.lst
    obtain ⟨ns, m, h0, hm, h⟩ := h
    have := allI_rep h0 r; subst this
    rw [List.max?_eq_some_iff] at hm
    refine ⟨_, cr_max hc, _, ns, rfl, SqL.of e, List.length_pos_of_mem hm.1, fun m' h1 h2 => ?_⟩
    have : m' = m := Int.le_antisymm (hm.2 m' h1) (h2 m hm.1)
    rw [this]
    exact q.same s h (by simp only [Rep])
  · obtain ⟨v, rfl, h1⟩ := r.one
    obtain ⟨a, kvs, rfl, _, e, ek, r⟩ := h1.dct
    exact ⟨_, call_dictD, a, kvs, rfl, e, fun p hp => q.newD s h ek r hp⟩
  · obtain ⟨v, rfl, h1⟩ := r.one
    obtain ⟨a, kvs, rfl, _, e, ek, r⟩ := h1.dct
    refine ⟨_, call_listD hc, a, kvs, rfl, e, fun p hp => q.newL s h ?_ hp⟩
    have : kvs.map (fun kv => kV kv.1) = (kvs.map (·.1)).map kV := by rw [List.map_map]; rfl
    rw [this, ek, List.map_map]
    exact Reps.strs _
  · obtain ⟨v, rfl, h1⟩ := r.one
    obtain ⟨a, vs, rfl, _, e, r⟩ := h1.lst
    obtain ⟨ss, h0, h64, h⟩ := h
    have := allS_rep h0 r; subst this
    exact ⟨_, cr_sortedS, a, ss, rfl, SqL.of e, h64, fun ys p h1 h2 hp => q.newL s (h ys h1 h2) (Reps.words ys) hp⟩
  · exact absurd rfl hT
  · obtain ⟨v, rfl, h1⟩ := r.one
    obtain ⟨a, vs, rfl, _, e, r⟩ := h1.lst
    obtain ⟨p, h0, hn, h⟩ := h
    obtain ⟨ps, kvs, rfl, e2, e3, e4⟩ := allPr_rep h0 r
    refine ⟨_, call_dictP hc, a, ps, kvs, rfl, SqL.of e, e2, fun b hb => ?_⟩
    have em : mergeK [] kvs = kvs := putK_app (acc := []) (by rw [List.nil_append, e3]; exact List.Pairwise.map _ (fun _ _ h z => h (Sum.inr.inj z)) hn)
    rw [em]
    exact q.newD s h e3 e4 hb
  · obtain ⟨v, rfl, h1⟩ := r.one
    obtain ⟨a, vs, rfl, ⟨o, e, od⟩, r⟩ := h1.xt
    obtain ⟨p, h0, hn, h⟩ := h
    obtain ⟨ps, kvs, rfl, e2, e3, e4⟩ := allPr_rep h0 r
    refine ⟨_, call_dictX hc, a, o, ps, kvs, rfl, e, od, e2, fun b hb => ?_⟩
    have em : mergeK [] kvs = kvs := putK_app (acc := []) (by rw [List.nil_append, e3]; exact List.Pairwise.map _ (fun _ _ h z => h (Sum.inr.inj z)) hn)
    rw [em]
    exact q.newD s h e3 e4 hb
  · obtain ⟨v, rfl, h1⟩ := r.one
    obtain ⟨a, vs, rfl, _, e, r⟩ := h1.lst
    refine ⟨_, call_xtuple, a, vs, rfl, SqL.of e, fun p o od hp => ?_⟩
    refine q (.xt _) false (.ref p) _ _ h (s.grow hp) (Tr.new hp) ?_
    show Rep _ _ _ _ _ _
    simp only [Rep]
    exact ⟨p, vs, rfl, ⟨o, upd_same, od⟩, r.go (S := false) (Tr.new hp)⟩
  · exact absurd rfl hT2
  · exact absurd rfl hT3
  · exact h.elim
end
end Q
/-! Soundness: expressions. -/
namespace Q
open PySem PySem.Spec PyProof.Rows L2

def liftP (K : PySem.W.Frag) (t : Lo → Sto → KP → Prop) : TE := fun σ H Q => ∃ F W φ L S P, StR K F H W φ L S σ ∧ t L S P ∧
  ∀ d L' S' H' W' φ' v, P d L' S' → StR K F H' W' φ' L' S' σ → Tr false H φ W H' φ' W' → RepP K H' φ' W' d v → Q v H'
/-- a list of values, each kept for good -/
def liftA (K : PySem.W.Frag) (t : Lo → Sto → (List D → Lo → Sto → Prop) → Prop) : TA := fun σ H Q => ∃ F W φ L S P, StR K F H W φ L S σ ∧ t L S P ∧
  ∀ ds L' S' H' W' φ' vs, P ds L' S' → StR K F H' W' φ' L' S' σ → Tr false H φ W H' φ' W' → Reps K H' φ' W' ds vs → Q vs H'
/-- .. each looked at -/
def liftQ (K : PySem.W.Frag) (t : Lo → Sto → (List D → Lo → Sto → Prop) → Prop) : TA := fun σ H Q => ∃ F W φ L S P, StR K F H W φ L S σ ∧ t L S P ∧
  ∀ ds L' S' H' W' φ' vs, P ds L' S' → StR K F H' W' φ' L' S' σ → Tr false H φ W H' φ' W' → RepPs K H' φ' W' ds vs → Q vs H'
/-- what is lent -/
def LentR (K : PySem.W.Frag) (H : Hp) (φ : List Addr) (W : Addr → Prop) (σ : Sg) (bs : List Nat) (ds : List D) (vs : List V) : Prop :=
  Reps K H φ (fun a => W a ∧ ∀ i ∈ bs, σ[i]? ≠ some (some (.ref a))) ds vs
def liftC (K : PySem.W.Frag) (t : List Nat → Lo → Sto → (List D → List Nat → Lo → Sto → Prop) → Prop) : TA := fun σ H Q => ∃ bs0 F W φ L S P, StR K F H W φ L S σ ∧ t bs0 L S P ∧
  ∀ ds bs L' S' H' W' φ' vs, P ds bs L' S' → StR K F H' W' φ' L' S' σ → Tr false H φ W H' φ' W' → (∀ i, i ∈ bs0 → i ∈ bs) → LentR K H' φ' W' σ bs ds vs → Q vs H'

theorem PE.imp {X : Cx} {e : Expr} {t u : TE} (h : PE X e t) (k : ∀ σ H Q, u σ H Q → t σ H Q) : PE X e u := ⟨fun pins s σ H Q I hw => h.run pins s σ H Q I (k σ H Q hw)⟩
theorem PA.imp {X : Cx} {e : List Expr} {t u : TA} (h : PA X e t) (k : ∀ σ H Q, u σ H Q → t σ H Q) : PA X e u := ⟨fun pos pins s σ H Q I hw => h.run pos pins s σ H Q I (k σ H Q hw)⟩
theorem PT.imp {X : Cx} {e : Expr} {t u : TT} (h : PT X e t) (k : ∀ σ H Q, u σ H Q → t σ H Q) : PT X e u := ⟨fun pins s σ H Q I hw => h.run pins s σ H Q I (k σ H Q hw)⟩
theorem PW.imp {X : Cx} {e : Expr} {t u : TT} (h : PW X e t) (k : ∀ σ H Q, u σ H Q → t σ H Q) : PW X e u := ⟨fun wh pins s σ H Q I hw => h.run wh pins s σ H Q I (k σ H Q hw)⟩
theorem PI.imp {X : Cx} {tg e : Expr} {t u : TI} (h : PI X tg e t) (k : ∀ σ H Q, u σ H Q → t σ H Q) : PI X tg e u := ⟨fun pins s σ H Q I hw => h.run pins s σ H Q I (k σ H Q hw)⟩
theorem PO.imp {X : Cx} {e : Option Expr} {t u : TO} (h : PO X e t) (k : ∀ σ H Q, u σ H Q → t σ H Q) : PO X e u := by
  refine ⟨?_⟩
  intro pins s σ H Q I hw
  exact h.run pins s σ H Q I (k σ H Q hw)

/-- the state at a call, besides Env0 -/
structure Pre (K : PySem.W.Frag) (H : Hp) (W : Addr → Prop) (φ : List Addr) (S : Sto) : Prop where
  wt : ∀ a, W a → ∃ o, H a = some o ∧ isM o = true
  nd : φ.Nodup
  phw : ∀ a, a ∈ φ → ¬ W a
  tb : TabAll K H
  st : StoR K H W φ S
/-- the end of a call -/
def Post (K : PySem.W.Frag) (H : Hp) (W : Addr → Prop) (φ : List Addr) (R : D → Sto → Prop) (Q : VK) : Prop :=
  ∀ r S' H' φ' v, R r S' → Tr false H φ W H' φ' W → Pre K H' W φ' S' → Rep K H' φ' W r v → Q v H'
abbrev noX : XK := fun _ _ _ => False
/-- a def keeps its meaning C; pre: what it asks of the state besides -/
structure FnG (P : Program) (w : World) (K : PySem.W.Frag) (mg : Str → Option Value) (base : Heap) (k : Nat) (f : Addr) (fd : FuncData) (ps : List Str) (C : Calls) (nm : Str) (pre : List Env → Shared → Hp → List D → Prop) : Prop where
  run : ∀ (A : Around) (outer : List Env) (s : Shared) (H : Hp) (args : Args) (us : List Value) (vs : List V) (W : Addr → Prop) (φ : List Addr) (S : Sto) (ds : List D) (R : D → Sto → Prop) (Q : VK),
    Room k A → A.guards = some [] → Env0 P w K mg base A outer s H → BindsTo s fd args (ps.zip us) → Vals vs us → vs.length = ps.length → Pre K H W φ S → Reps K H φ W ds vs → pre outer s H ds → C nm ds S R → Post K H W φ R Q →
    codeAny (model P w) A (.call (.ref f) args) (CR CX0 outer P w H s Q noX) s
/-- a lambda's function with its cells -/
def CloAt (outer : List Env) (s : Shared) (H : Hp) (le : LE) : D → Prop
  | .clo i nm _ => nm = le.key ∧ i.l = le.l ∧ i.q = lamQ le.by_ ∧ NdefX.CellsAt i.cl le.fr (i.ws.map some) s.heap H ∧ ∀ y c, i.cl.lookup y = some c → c ∉ frs outer
  | _ => False
structure LamOk (P : Program) (w : World) (K : PySem.W.Frag) (mg : Str → Option Value) (base : Heap) (k : Nat) (le : LE) (C : Calls) : Prop where
  run : ∀ (A : Around) (outer : List Env) (s : Shared) (H : Hp) (i : CloI) (caps : List D) (us : List Value) (vs : List V) (W : Addr → Prop) (φ : List Addr) (S : Sto) (ds : List D) (R : D → Sto → Prop) (Q : VK),
    Room k A → A.guards = some [] → Env0 P w K mg base A outer s H → Vals vs us → Pre K H W φ S → Reps K H φ W ds vs → Rep K H φ W (.clo i le.key caps) (.ref i.a) → CloAt outer s H le (.clo i le.key caps) → C le.key (ds ++ caps) S R → Post K H W φ R Q →
    codeAny (model P w) A (.call (.ref i.a) ⟨us, []⟩) (CR CX0 outer P w H s Q noX) s
/-- what a def with a lambda's function asks -/
def preL (les : List LE) : List Env → Shared → Hp → List D → Prop := fun outer s H ds => ∃ d le, le ∈ les ∧ ds.getLast? = some d ∧ CloAt outer s H le d

def bnames : List String := ["len", "all", "any", "sum", "tuple", "list", "int", "str", "bool", "dict", "isinstance", "range", "zip", "min", "max", "sorted", "set", "repr", "enumerate"]
structure GX (c : TC) (C : Calls) (sc : Scope) (X : Cx) : Prop where
  N : X.N = c.N
  nd : c.N.Nodup
  calm : X.calm = true
  xe : X.xe = fun _ _ => False
  fn : ∀ x, sc.names.lookup x = some NameKind.cell → X.fn x = true
  sc : ∀ x, X.env.scope.names.lookup x = sc.names.lookup x ∨ (sc.names.lookup x = some .free ∧ X.env.scope.names.lookup x = some .cell)
  kind : X.env.scope.kind = .function
  hu : X.A.units + 200 < cLine
  bi : ∀ b ∈ bnames, X.mg (b : Str) = none
  gl : ∀ x d, c.gl.lookup x = some d → ∃ u v, X.mg x = some u ∧ RelV v u ∧ ∀ H φ W, Rep X.K H φ W d v
  gd : X.A.guards = some []
  fs : ∀ f np dv, c.fs.lookup f = some (np, dv) → ∃ (a : Addr) (fd : FuncData) (ps : List Str) (k : Nat), X.mg f = some (.ref a) ∧ PySem.W.keepIn X.K (.ref a) = true ∧ ps.length = np ∧
    Room k X.A ∧ FnG X.prog X.w X.K X.mg X.base k a fd ps C f (fun _ _ _ _ => True) ∧
    ∀ n, n ≤ dv.length → ∃ us ws, Binds X.K fd ps us ∧ Vals ws us ∧ ∀ H φ W, Reps X.K H φ W (dv.drop n) ws
  fl : ∀ f np, c.fl.lookup f = some np → ∃ (a : Addr) (fd : FuncData) (ps : List Str) (k : Nat), X.mg f = some (.ref a) ∧ PySem.W.keepIn X.K (.ref a) = true ∧ ps.length = np ∧
    Room k X.A ∧ FnG X.prog X.w X.K X.mg X.base k a fd ps C f (preL c.les) ∧ Binds X.K fd ps []
  lv : ∀ x, c.lv = some x → X.stack = X.env :: X.outer ∧ X.ex = [] ∧ ∀ d es S P, C "!" (d :: es) S P → ∃ (i : CloI) (caps : List D) (le : LE) (C0 : Calls) (k : Nat), d = .clo i le.key caps ∧ CloAt X.outer X.s_0 X.H_0 le d ∧ Room k X.A ∧
    LamOk X.prog X.w X.K X.mg X.base k le C0 ∧ C0 le.key (es ++ caps) S P
  lm : ∀ le, c.lam = some le → le ∈ c.les ∧ le.by_ ∈ lamDefs ∧ hasG X.K le.by_ = true ∧ X.env.qual ++ "<lambda>" = lamQ le.by_ ∧ X.env.code = .ref (He.cT X.K (le.by_, none)).1 ∧
    LamX.TabB X.base X.mg (He.cT X.K (le.by_, none)).1 (He.cT X.K (le.by_, none)).2 ∧ ∀ x ∈ lamDefs, hasG X.K x = true → (He.cT X.K (x, none)).2 = (He.cT X.K (le.by_, none)).2 → lamQ x = lamQ le.by_
/-- an expression's meaning holds -/
structure SE (X : Cx) (C : Calls) (e : Expr) (i : IE) : Prop where
  l : ∀ j, i = .loc j → PE X e (tVar j)
  v : PE X e (liftE X.K (wE C i))
  p : PE X e (liftP X.K (pk i (wE C i)))
def IE.isLoc : IE → Bool
  | .loc _ => true
  | _ => false
section
variable {X : Cx} {C : Calls} {c : TC} {sc : Scope}
theorem SE.of {e : Expr} {i : IE} (hn : i.isLoc = false) (h : PE X e (liftE X.K (wE C i))) : SE X C e i := by
  refine ⟨fun j e => (by rw [e] at hn; cases hn), h, PE.imp h fun σ H Q ⟨F, W, φ, L, S, P, s, ht, q⟩ => ?_⟩
  refine ⟨F, W, φ, L, S, fun d _ L' S' => P d L' S', s, ?_, fun d f L' S' H' W' φ' v hP s' t vr => q d L' S' H' W' φ' v hP s' t (vr.repP s')⟩
  cases i <;> first | exact ht | cases hn
theorem GX.vis (G : GX c C sc X) {x : Str} (h : vis sc x = true) : Vis X.env.scope x := by
  unfold Q.vis at h
  have := G.sc x
  unfold Vis
  cases e : sc.names.lookup x with
  | none => rw [e] at h; cases h
  | some k =>
    rw [e] at h this
    cases k <;> simp_all
    rcases this with z | z
    · exact .inr (.inr z)
    · exact .inr (.inl z)
theorem GX.gl_ (G : GX c C sc X) {x : Str} (h : glb sc x = true) : Gl X x := by
  unfold glb at h
  have := G.sc x
  unfold Gl Env.kindOf
  cases e : sc.names.lookup x with
  | none => rw [e] at h; cases h
  | some k =>
    rw [e] at h this
    cases k <;> simp_all
theorem idx_get {l : List Str} {x : Str} {i : Nat} (h : l.idxOf? x = some i) : l[i]? = some x := by
  rw [List.idxOf?_eq_some_iff] at h
  obtain ⟨h, e, _⟩ := h
  rw [List.getElem?_eq_getElem h]
  have : l[i] = x := by simpa using e
  rw [this]
theorem fine_of {x : Str} (h : fine x = true) : (x == ("__debug__" : Str)) = false ∧ (x == ("__classdict__" : Str)) = false ∧ x ≠ "__name__" := by
  unfold fine at h
  simp only [Bool.and_eq_true, Bool.not_eq_true'] at h
  refine ⟨h.1.1, h.1.2, fun z => ?_⟩
  have := h.2
  rw [z] at this
  simp at this
/-- a name of the def -/
theorem se_loc (G : GX c C sc X) {x : Str} {i : Nat} {pos : Pos} (hf : fine x = true) (hv : vis sc x = true) (hi : c.N.idxOf? x = some i) : SE X C (.Name x pos) (.loc i) := by
  have hN : X.N[i]? = some x := by rw [G.N]; exact idx_get hi
  obtain ⟨f1, f2, f3⟩ := fine_of hf
  have h := pe_var (pos := pos) hN (G.vis hv) f1 f2
  refine ⟨fun j e => (by cases e; exact h), PE.imp h fun σ H Q ⟨F, W, φ, L, S, P, s, ht, q⟩ => ?_, PE.imp h fun σ H Q ⟨F, W, φ, L, S, P, s, ht, q⟩ => ?_⟩
  · simp only [wE] at ht
    split at ht
    · rename_i d e
      obtain ⟨v, e1, r⟩ := s.val e
      exact ⟨v, e1, q d false L S H W φ v ht s Tr.refl r⟩
    · rename_i d e
      obtain ⟨W', v, s', t, e1, r⟩ := s.freeze e
      exact ⟨v, e1, q d false _ S H W' φ v ht s' t r⟩
    · exact ht.elim
  · simp only [pk] at ht
    split at ht
    · rename_i d e
      obtain ⟨v, e1, r⟩ := s.val e
      exact ⟨v, e1, q d L S H W φ v ht s Tr.refl (.inl r)⟩
    · rename_i d e
      obtain ⟨a, e1, w, _, p, t⟩ := s.own e
      exact ⟨.ref a, e1, q d L S H W φ _ ht s Tr.refl (.inr ⟨a, rfl, p, t⟩)⟩
    · exact ht.elim
theorem se_cst {e : Expr} {d : D} {v : V} (h : PE X e (tC v)) (r : ∀ H φ W, Rep X.K H φ W d v) : SE X C e (.cst d) :=
  SE.of rfl (PE.imp h fun σ H Q ⟨F, W, φ, L, S, P, s, ht, q⟩ => q d false L S H W φ v ht s Tr.refl (r _ _ _))
theorem bin_go {a b : Expr} {ia ib : IE} {K : PySem.W.Frag} {r : R2} {P : D → D → Lo → Sto → Prop} {σ : Sg} {H : Hp} {Q : VK} {F : Fr} {W : Addr → Prop} {φ : List Addr} {L : Lo} {S : Sto} {C : Calls} (s : StR K F H W φ L S σ)
    (ht : pk ia (wE C ia) L S fun x L1 S1 => pk ib (wE C ib) L1 S1 fun y L2 S2 => P x y L2 S2)
    (q : ∀ x y L2 S2 H2 W2 φ2 v u, P x y L2 S2 → StR K F H2 W2 φ2 L2 S2 σ → Tr false H φ W H2 φ2 W2 → RepP K H2 φ2 W2 x v → RepP K H2 φ2 W2 y u → r v u H2 Q) :
    tOp r (liftP K (pk ia (wE C ia))) (liftP K (pk ib (wE C ib))) σ H Q :=
  ⟨F, W, φ, L, S, _, s, ht, fun x L1 S1 H1 W1 φ1 v h1 s1 t1 r1 => ⟨F, W1, φ1, L1, S1, _, s1, h1, fun y L2 S2 H2 W2 φ2 u h2 s2 t2 r2 => q x y L2 S2 H2 W2 φ2 v u h2 s2 (t1.trans t2) (r1.go t2) r2⟩⟩
theorem se_bin {a b : Expr} {ia ib : IE} {op : Operator} {bo : BO} {pos : Pos} (hop : toBO op = some bo) (ha : SE X C a ia) (hb : SE X C b ib) : SE X C (.BinOp a op b pos) (.bin bo ia ib) := by
  have e : op = opOf bo := by cases op <;> simp [toBO] at hop <;> subst hop <;> rfl
  subst e
  refine SE.of rfl (PE.imp (pe_op (opX X _) ha.p hb.p) fun σ H Q ⟨F, W, φ, L, S, P, s, ht, q⟩ => ?_)
  simp only [wE] at ht
  exact bin_go (a := a) (b := b) s ht fun x y L2 S2 H2 W2 φ2 v u h2 s2 t2 rx ry => prim_bin rfl s2 rx ry h2 fun d f w H3 W3 hr s3 t3 vr => q d f L2 S2 H3 W3 φ2 w hr s3 (t2.trans t3) vr
theorem se_neg {a : Expr} {ia : IE} {pos : Pos} (ha : SE X C a ia) : SE X C (.UnaryOp .USub a pos) (.neg ia) := by
  refine SE.of rfl (PE.imp (pe_un un_neg ha.p) fun σ H Q ⟨F, W, φ, L, S, P, s, ht, q⟩ => ?_)
  simp only [wE] at ht
  refine ⟨F, W, φ, L, S, _, s, ht, fun x L1 S1 H1 W1 φ1 v h1 s1 t1 r1 => ?_⟩
  obtain ⟨i, rfl, h1⟩ := h1
  have := r1.int; subst this
  exact ⟨i, rfl, q _ _ L1 S1 H1 W1 φ1 _ h1 s1 t1 (by show Rep _ _ _ _ _ _; simp only [Rep])⟩
theorem co_eq (op : CmpOp) : coOf (toCO op) = op := by cases op <;> rfl
theorem cmp_mark {op : CmpOp} {b : Expr} (h : cmpFine op b = true) : behindInMarks op b = false := by
  cases b <;> first | rfl | (cases op <;> first | rfl | (simp [cmpFine, isSetE] at h; done) | simp [behindInMarks])
theorem se_cmp {a b : Expr} {ia ib : IE} {op : CmpOp} {pos : Pos} (G : GX c C sc X) (hf : cmpFine op b = true) (ha : SE X C a ia) (hb : SE X C b ib) : SE X C (.Compare a [op] [b] pos) (.cmp (toCO op) ia ib) := by
  refine SE.of rfl (PE.imp (pe_cmpR (opX X _) ha.p hb.p (cmp_mark hf)) fun σ H Q ⟨F, W, φ, L, S, P, s, ht, q⟩ => ?_)
  simp only [wE] at ht
  refine bin_go (a := a) (b := b) s ht fun x y L2 S2 H2 W2 φ2 v u h2 s2 t2 rx ry => ?_
  have := prim_cmp (X := X) rfl G.hu rx ry h2 (Q := Q) fun k hk => q _ _ L2 S2 H2 W2 φ2 _ hk s2 t2 (by show Rep _ _ _ _ _ _; simp only [Rep])
  rw [co_eq] at this
  exact this
theorem pt_cmp_ {a b : Expr} {ia ib : IE} {op : CmpOp} {pos : Pos} (G : GX c C sc X) (hf : cmpFine op b = true) (ha : SE X C a ia) (hb : SE X C b ib) : PT X (.Compare a [op] [b] pos) (liftT X.K (wT C (.cmp (toCO op) ia ib))) := by
  refine PT.imp (pt_cmpR (opX X _) ha.p hb.p (cmp_mark hf)) fun σ H Q ⟨F, W, φ, L, S, P, s, ht, q⟩ => ?_
  simp only [wT] at ht
  refine bin_go (a := a) (b := b) s ht fun x y L2 S2 H2 W2 φ2 v u h2 s2 t2 rx ry => ?_
  have := prim_cmp (X := X) rfl G.hu rx ry h2 (Q := fun x H' => ∃ k, x = .bl k ∧ Q k H') fun k hk => ⟨k, rfl, q _ L2 S2 H2 W2 φ2 hk s2 t2⟩
  rw [co_eq] at this
  exact this
end
end Q
/-! Soundness: the other expressions. -/
namespace Q
open PySem PySem.Spec PyProof.Rows L2
section
variable {X : Cx} {C : Calls} {c : TC} {sc : Scope}
theorem last_marks {o1 o2 : CmpOp} {b d : Expr} (h : cmpFine o2 d = true) : lastMarks [o1, o2] [b, d] = false := cmp_mark h
theorem chain_go {a b d : Expr} {ia ib id : IE} {o1 o2 : CmpOp} {P : Bool → Lo → Sto → Prop} {σ : Sg} {H : Hp} {Q : VK} {F : Fr} {W : Addr → Prop} {φ : List Addr} {L : Lo} {S : Sto} (hu : X.A.units + 200 < cLine) (s : StR X.K F H W φ L S σ)
    (ht : pk ia (wE C ia) L S fun x L1 S1 => pk ib (wE C ib) L1 S1 fun y L2 S2 => dCmp (toCO o1) x y fun k =>
      if k = true then pk id (wE C id) L2 S2 fun z L3 S3 => dCmp (toCO o2) y z fun k2 => P k2 L3 S3 else P false L2 S2)
    (q : ∀ k L2 S2 H2 W2 φ2, P k L2 S2 → StR X.K F H2 W2 φ2 L2 S2 σ → Tr false H φ W H2 φ2 W2 → Q (.bl k) H2) :
    tChain (OpX X (compareOp o1)) (OpX X (compareOp o2)) (liftP X.K (pk ia (wE C ia))) (liftP X.K (pk ib (wE C ib))) (liftP X.K (pk id (wE C id))) σ H Q := by
  refine ⟨F, W, φ, L, S, _, s, ht, fun x L1 S1 H1 W1 φ1 v h1 s1 t1 r1 => ⟨F, W1, φ1, L1, S1, _, s1, h1, fun y L2 S2 H2 W2 φ2 u h2 s2 t2 r2 => ?_⟩⟩
  have t12 := t1.trans t2
  have := prim_cmp (X := X) rfl hu (r1.go t2) r2 h2 (Q := fun z H3 => ∃ k, z = .bl k ∧ (if k = true then liftP X.K (pk id (wE C id)) σ H3 (fun w' H4 => OpX X (compareOp o2) u w' H4 Q) else Q (.bl false) H3)) fun k hk => ?_
  · rw [co_eq] at this; exact this
  · refine ⟨k, rfl, ?_⟩
    cases k with
    | true =>
      rw [if_pos rfl] at hk ⊢
      refine ⟨F, W2, φ2, L2, S2, _, s2, hk, fun z L3 S3 H3 W3 φ3 w h3 s3 t3 r3 => ?_⟩
      have := prim_cmp (X := X) rfl hu (r2.go t3) r3 h3 (Q := Q) fun k hk => q k L3 S3 H3 W3 φ3 hk s3 (t12.trans t3)
      rw [co_eq] at this; exact this
    | false =>
      rw [if_neg (by decide)] at hk ⊢
      exact q _ _ _ _ _ _ hk s2 t12
theorem se_chain {a b d : Expr} {ia ib id : IE} {o1 o2 : CmpOp} {pos : Pos} (G : GX c C sc X) (hf : cmpFine o2 d = true) (ha : SE X C a ia) (hb : SE X C b ib) (hd : SE X C d id) : SE X C (.Compare a [o1, o2] [b, d] pos) (.chain (toCO o1) (toCO o2) ia ib id) := by
  refine SE.of rfl (PE.imp (pe_chain (opX X _) (opX X _) ha.p hb.p hd.p (last_marks hf)) fun σ H Q ⟨F, W, φ, L, S, P, s, ht, q⟩ => ?_)
  simp only [wE] at ht
  exact chain_go (a := a) (b := b) (d := d) (P := fun k L S => P (.bl k) false L S) G.hu s ht fun k L2 S2 H2 W2 φ2 h2 s2 t2 => q _ _ L2 S2 H2 W2 φ2 _ h2 s2 t2 (by show Rep _ _ _ _ _ _; simp only [Rep])
theorem pt_chain_ {a b d : Expr} {ia ib id : IE} {o1 o2 : CmpOp} {pos : Pos} (G : GX c C sc X) (hf : cmpFine o2 d = true) (ha : SE X C a ia) (hb : SE X C b ib) (hd : SE X C d id) : PT X (.Compare a [o1, o2] [b, d] pos) (liftT X.K (wT C (.chain (toCO o1) (toCO o2) ia ib id))) := by
  refine PT.imp (pt_chain (opX X _) (opX X _) ha.p hb.p hd.p (last_marks hf)) fun σ H Q ⟨F, W, φ, L, S, P, s, ht, q⟩ => ?_
  simp only [wT] at ht
  exact chain_go (a := a) (b := b) (d := d) (P := P) G.hu s ht fun k L2 S2 H2 W2 φ2 h2 s2 t2 => ⟨k, rfl, q _ L2 S2 H2 W2 φ2 h2 s2 t2⟩
theorem VR.settle {K : PySem.W.Frag} {F : Fr} {H : Hp} {W : Addr → Prop} {φ : List Addr} {L : Lo} {S : Sto} {σ : Sg} {f : Bool} {d : D} {v : V} (s : StR K F H W φ L S σ) (h : VR K F H W φ L σ f d v) : ∃ W', StR K F H W' φ L S σ ∧ Tr false H φ W H φ W' ∧ Rep K H φ W' d v := Q.settle s h
theorem se_not {a : Expr} {ia : IE} {pos : Pos} (ha : SE X C a ia) : SE X C (.UnaryOp .Not a pos) (.not ia) := by
  refine SE.of rfl (PE.imp (pe_notT ha.v) fun σ H Q ⟨F, W, φ, L, S, P, s, ht, q⟩ => ?_)
  simp only [wE] at ht
  refine ⟨F, W, φ, L, S, _, s, ht, fun d f L1 S1 H1 W1 φ1 v h1 s1 t1 vr => ?_⟩
  obtain ⟨k, hk, hp⟩ := prim_truth (vr.repP s1) h1
  exact ⟨k, hk, q _ _ L1 S1 H1 W1 φ1 _ hp s1 t1 (by show Rep _ _ _ _ _ _; simp only [Rep])⟩
theorem se_and {a b : Expr} {r : List Expr} {ia ib : IE} {pos : Pos} (ha : SE X C a ia) (hb : SE X C (.BoolOp .And (b :: r) pos) ib) : SE X C (.BoolOp .And (a :: b :: r) pos) (.and ia ib) := by
  refine SE.of rfl (PE.imp (pe_andT ha.v hb.v) fun σ H Q ⟨F, W, φ, L, S, P, s, ht, q⟩ => ?_)
  simp only [wE] at ht
  refine ⟨F, W, φ, L, S, _, s, ht, fun d f L1 S1 H1 W1 φ1 v h1 s1 t1 vr => ?_⟩
  obtain ⟨k, hk, hp⟩ := prim_truth (vr.repP s1) h1
  refine ⟨k, hk, ?_⟩
  cases k with
  | true =>
    rw [if_pos rfl] at hp ⊢
    exact ⟨F, W1, φ1, L1, S1, P, s1, hp, fun d f L2 S2 H2 W2 φ2 u h2 s2 t2 vr => q d f L2 S2 H2 W2 φ2 u h2 s2 (t1.trans t2) vr⟩
  | false =>
    rw [if_neg (by decide)] at hp ⊢
    obtain ⟨W2, s2, t2, r⟩ := vr.settle s1
    exact q d false L1 S1 H1 W2 φ1 v hp s2 (t1.trans t2) r
theorem se_or {a b : Expr} {r : List Expr} {ia ib : IE} {pos : Pos} (ha : SE X C a ia) (hb : SE X C (.BoolOp .Or (b :: r) pos) ib) : SE X C (.BoolOp .Or (a :: b :: r) pos) (.or ia ib) := by
  refine SE.of rfl (PE.imp (pe_orT ha.v hb.v) fun σ H Q ⟨F, W, φ, L, S, P, s, ht, q⟩ => ?_)
  simp only [wE] at ht
  refine ⟨F, W, φ, L, S, _, s, ht, fun d f L1 S1 H1 W1 φ1 v h1 s1 t1 vr => ?_⟩
  obtain ⟨k, hk, hp⟩ := prim_truth (vr.repP s1) h1
  refine ⟨k, hk, ?_⟩
  cases k with
  | false =>
    rw [if_neg (by decide)] at hp ⊢
    exact ⟨F, W1, φ1, L1, S1, P, s1, hp, fun d f L2 S2 H2 W2 φ2 u h2 s2 t2 vr => q d f L2 S2 H2 W2 φ2 u h2 s2 (t1.trans t2) vr⟩
  | true =>
    rw [if_pos rfl] at hp ⊢
    obtain ⟨W2, s2, t2, r⟩ := vr.settle s1
    exact q d false L1 S1 H1 W2 φ1 v hp s2 (t1.trans t2) r
theorem se_one {a : Expr} {op : BoolOp} {ia : IE} {pos : Pos} (ha : SE X C a ia) : SE X C (.BoolOp op [a] pos) ia := ⟨fun j e => pe_one (ha.l j e), pe_one ha.v, pe_one ha.p⟩
theorem se_ite {t a b : Expr} {it : IC} {ia ib : IE} {pos : Pos} (hc : PT X t (liftT X.K (wT C it))) (ha : SE X C a ia) (hb : SE X C b ib) : SE X C (.IfExp t a b pos) (.ite it ia ib) := by
  refine SE.of rfl (PE.imp (pe_ifExp hc ha.v hb.v) fun σ H Q ⟨F, W, φ, L, S, P, s, ht, q⟩ => ?_)
  simp only [wE] at ht
  refine ⟨F, W, φ, L, S, _, s, ht, fun k L1 S1 H1 W1 φ1 h1 s1 t1 => ?_⟩
  cases k with
  | true =>
    rw [if_pos rfl] at h1 ⊢
    exact ⟨F, W1, φ1, L1, S1, P, s1, h1, fun d f L2 S2 H2 W2 φ2 u h2 s2 t2 vr => q d f L2 S2 H2 W2 φ2 u h2 s2 (t1.trans t2) vr⟩
  | false =>
    rw [if_neg (by decide)] at h1 ⊢
    exact ⟨F, W1, φ1, L1, S1, P, s1, h1, fun d f L2 S2 H2 W2 φ2 u h2 s2 t2 vr => q d f L2 S2 H2 W2 φ2 u h2 s2 (t1.trans t2) vr⟩
/-! tests -/
theorem pt_v {e : Expr} {i : IE} (h : SE X C e i) (he : ∀ whole, isTrue e X.env whole = (do let v ← whole; standAt e.pos; holding [v] (truthy v))) : PT X e (liftT X.K (wT C (.v i))) := by
  refine PT.imp (pt_truth h.p he) fun σ H Q ⟨F, W, φ, L, S, P, s, ht, q⟩ => ?_
  simp only [wT] at ht
  refine ⟨F, W, φ, L, S, _, s, ht, fun d L1 S1 H1 W1 φ1 v h1 s1 t1 r => ?_⟩
  obtain ⟨k, hk, hp⟩ := prim_truth r h1
  exact ⟨k, hk, q k L1 S1 H1 W1 φ1 hp s1 t1⟩
theorem pt_not_ {a : Expr} {ia : IC} {pos : Pos} (ha : PT X a (liftT X.K (wT C ia))) : PT X (.UnaryOp .Not a pos) (liftT X.K (wT C (.not ia))) := by
  refine PT.imp (pt_not ha) fun σ H Q ⟨F, W, φ, L, S, P, s, ht, q⟩ => ?_
  simp only [wT] at ht
  exact ⟨F, W, φ, L, S, _, s, ht, fun b L1 S1 H1 W1 φ1 hb s1 t1 => q _ L1 S1 H1 W1 φ1 hb s1 t1⟩
theorem pw_and1_ {a : Expr} {ia : IC} {pos : Pos} (ha : PT X a (liftT X.K (wT C ia))) : PW X (.BoolOp .And [a] pos) (liftT X.K (wT C ia)) := pw_and1 ha
theorem pw_or1_ {a : Expr} {ia : IC} {pos : Pos} (ha : PT X a (liftT X.K (wT C ia))) : PW X (.BoolOp .Or [a] pos) (liftT X.K (wT C ia)) := pw_or1 ha
theorem pw_and_ {a b : Expr} {r : List Expr} {ia ib : IC} {pos : Pos} (ha : PT X a (liftT X.K (wT C ia))) (hb : PW X (.BoolOp .And (b :: r) pos) (liftT X.K (wT C ib))) : PW X (.BoolOp .And (a :: b :: r) pos) (liftT X.K (wT C (.and ia ib))) := by
  refine PW.imp (pw_and ha hb) fun σ H Q ⟨F, W, φ, L, S, P, s, ht, q⟩ => ?_
  simp only [wT] at ht
  refine ⟨F, W, φ, L, S, _, s, ht, fun k L1 S1 H1 W1 φ1 h1 s1 t1 => ?_⟩
  cases k with
  | true =>
    rw [if_pos rfl] at h1 ⊢
    exact ⟨F, W1, φ1, L1, S1, P, s1, h1, fun b L2 S2 H2 W2 φ2 h2 s2 t2 => q b L2 S2 H2 W2 φ2 h2 s2 (t1.trans t2)⟩
  | false =>
    rw [if_neg (by decide)] at h1 ⊢
    exact q _ _ _ _ _ _ h1 s1 t1
theorem pw_or_ {a b : Expr} {r : List Expr} {ia ib : IC} {pos : Pos} (ha : PT X a (liftT X.K (wT C ia))) (hb : PW X (.BoolOp .Or (b :: r) pos) (liftT X.K (wT C ib))) : PW X (.BoolOp .Or (a :: b :: r) pos) (liftT X.K (wT C (.or ia ib))) := by
  refine PW.imp (pw_or ha hb) fun σ H Q ⟨F, W, φ, L, S, P, s, ht, q⟩ => ?_
  simp only [wT] at ht
  refine ⟨F, W, φ, L, S, _, s, ht, fun k L1 S1 H1 W1 φ1 h1 s1 t1 => ?_⟩
  cases k with
  | true =>
    rw [if_pos rfl] at h1 ⊢
    exact q _ _ _ _ _ _ h1 s1 t1
  | false =>
    rw [if_neg (by decide)] at h1 ⊢
    exact ⟨F, W1, φ1, L1, S1, P, s1, h1, fun b L2 S2 H2 W2 φ2 h2 s2 t2 => q b L2 S2 H2 W2 φ2 h2 s2 (t1.trans t2)⟩
/-! lists of expressions -/
theorem pas_nil : PA X [] (liftA X.K (wEs C .nil)) := PA.imp pa_nil fun σ H Q ⟨F, W, φ, L, S, P, s, ht, q⟩ => by
  simp only [wEs] at ht
  exact q [] L S H W φ [] ht s Tr.refl Reps.nil
theorem pas_cons {e : Expr} {es : List Expr} {i : IE} {l : IEs} (h : SE X C e i) (hr : PA X es (liftA X.K (wEs C l))) (hs : starEach (e :: es) X.env = (false, eval e X.env) :: starEach es X.env) : PA X (e :: es) (liftA X.K (wEs C (.cons i l))) := by
  refine PA.imp (pa_cons h.v hr hs) fun σ H Q ⟨F, W, φ, L, S, P, s, ht, q⟩ => ?_
  simp only [wEs] at ht
  refine ⟨F, W, φ, L, S, _, s, ht, fun d f L1 S1 H1 W1 φ1 v h1 s1 t1 vr => ?_⟩
  obtain ⟨W2, s2, t2, r⟩ := vr.settle s1
  refine ⟨F, W2, φ1, L1, S1, _, s2, h1, fun ds L2 S2 H3 W3 φ3 vs h3 s3 t3 rs => ?_⟩
  exact q _ L2 S2 H3 W3 φ3 _ h3 s3 ((t1.trans t2).trans t3) (Reps.cons (r.go t3) rs)
theorem pps_nil : PA X [] (liftQ X.K (wPs C .nil)) := PA.imp pa_nil fun σ H Q ⟨F, W, φ, L, S, P, s, ht, q⟩ => by
  simp only [wPs] at ht
  exact q [] L S H W φ [] ht s Tr.refl .nil
theorem pps_cons {e : Expr} {es : List Expr} {i : IE} {l : IEs} (h : SE X C e i) (hr : PA X es (liftQ X.K (wPs C l))) (hs : starEach (e :: es) X.env = (false, eval e X.env) :: starEach es X.env) : PA X (e :: es) (liftQ X.K (wPs C (.cons i l))) := by
  refine PA.imp (pa_cons h.p hr hs) fun σ H Q ⟨F, W, φ, L, S, P, s, ht, q⟩ => ?_
  simp only [wPs] at ht
  refine ⟨F, W, φ, L, S, _, s, ht, fun d L1 S1 H1 W1 φ1 v h1 s1 t1 r => ?_⟩
  refine ⟨F, W1, φ1, L1, S1, _, s1, h1, fun ds L2 S2 H3 W3 φ3 vs h3 s3 t3 rs => ?_⟩
  exact q _ L2 S2 H3 W3 φ3 _ h3 s3 (t1.trans t3) (.cons (r.go t3) rs)
theorem Rep.lessW {K : PySem.W.Frag} {H : Hp} {φ : List Addr} {W W' : Addr → Prop} {d : D} {v : V} (h : Rep K H φ W d v) (hw : ∀ a, W' a → W a) : Rep K H φ W' d v := h.go (S := false) (Tr.less hw)
abbrev wA (C : Calls) (l : IEs) : List Nat → Lo → Sto → (List D → List Nat → Lo → Sto → Prop) → Prop := fun bs L S P => wAs C l L S bs P
theorem pcs_nil : PA X [] (liftC X.K (wA C .nil)) := PA.imp pa_nil fun σ H Q ⟨bs, F, W, φ, L, S, P, s, ht, q⟩ => by
  simp only [wA, wAs] at ht
  exact q [] bs L S H W φ [] ht s Tr.refl (fun _ h => h) Reps.nil
theorem wAs_cons {i : IE} {l : IEs} {L : Lo} {S : Sto} {bs : List Nat} {P : List D → List Nat → Lo → Sto → Prop} (hn : i.isLoc = false) : wAs C (.cons i l) L S bs P = wE C i L S fun d _ L1 S1 => wAs C l L1 S1 bs fun ds bs' L2 S2 => P (d :: ds) bs' L2 S2 := by
  cases i <;> first | rfl | cases hn
theorem pcs_cons {e : Expr} {es : List Expr} {i : IE} {l : IEs} (h : SE X C e i) (hr : PA X es (liftC X.K (wA C l))) (hs : starEach (e :: es) X.env = (false, eval e X.env) :: starEach es X.env) : PA X (e :: es) (liftC X.K (wA C (.cons i l))) := by
  cases hl : i.isLoc with
  | false =>
    refine PA.imp (pa_cons h.v hr hs) fun σ H Q ⟨bs0, F, W, φ, L, S, P, s, ht, q⟩ => ?_
    simp only [wA] at ht
    rw [wAs_cons hl] at ht
    refine ⟨F, W, φ, L, S, _, s, ht, fun d f L1 S1 H1 W1 φ1 v h1 s1 t1 vr => ?_⟩
    obtain ⟨W2, s2, t2, r⟩ := vr.settle s1
    refine ⟨bs0, F, W2, φ1, L1, S1, _, s2, h1, fun ds bs L2 S2 H3 W3 φ3 vs h3 s3 t3 hb rs => ?_⟩
    exact q _ bs L2 S2 H3 W3 φ3 _ h3 s3 ((t1.trans t2).trans t3) hb (Reps.cons ((r.go t3).lessW fun a z => z.1) rs)
  | true =>
    cases i <;> try cases hl
    rename_i j
    refine PA.imp (pa_cons (h.l j rfl) hr hs) fun σ H Q ⟨bs0, F, W, φ, L, S, P, s, ht, q⟩ => ?_
    simp only [wA, wAs] at ht
    split at ht
    · rename_i d e
      obtain ⟨v, e1, r⟩ := s.val e
      refine ⟨v, e1, bs0, F, W, φ, L, S, _, s, ht, fun ds bs L2 S2 H3 W3 φ3 vs h3 s3 t3 hb rs => ?_⟩
      exact q _ bs L2 S2 H3 W3 φ3 _ h3 s3 t3 hb (Reps.cons ((r.go t3).lessW fun a z => z.1) rs)
    · rename_i d e
      obtain ⟨a, e1, w, _, p, t⟩ := s.own e
      refine ⟨.ref a, e1, _, F, W, φ, L, S, _, s, ht, fun ds bs L2 S2 H3 W3 φ3 vs h3 s3 t3 hb rs => ?_⟩
      refine q _ bs L2 S2 H3 W3 φ3 _ h3 s3 t3 (fun k hk => hb k (List.mem_cons_of_mem _ hk)) (Reps.cons ?_ rs)
      have hj : j ∈ bs := hb j List.mem_cons_self
      obtain ⟨o, eo, _⟩ := t.there
      have p3 : a ∉ φ3 := fun z => (t3.phi a z).elim p (isM_none eo)
      have tp := (t.go t3 p).go (Tr.less (W' := fun a => W3 a ∧ ∀ i ∈ bs, σ[i]? ≠ some (some (.ref a))) fun b hb => hb.1) p3
      exact tp.rep (fun z => z.2 j hj e1) p3
    · exact ht.elim
theorem cst_tail {dv : List D} {L : Lo} {S : Sto} {bs : List Nat} : ∀ {P : List D → List Nat → Lo → Sto → Prop}, wAs C (addD .nil dv) L S bs P = P dv bs L S := by
  show ∀ {P}, wAs C (cstS dv) L S bs P = P dv bs L S
  induction dv with
  | nil => intro P; simp only [cstS, wAs]
  | cons d r ih => intro P; simp only [cstS, wAs, wE]; rw [ih]
theorem wAs_addD {dv : List D} : ∀ {l : IEs} {L : Lo} {S : Sto} {bs : List Nat} {P : List D → List Nat → Lo → Sto → Prop}, wAs C (addD l dv) L S bs P = wAs C l L S bs fun ds bs' L' S' => P (ds ++ dv) bs' L' S'
  | .nil, L, S, bs, P => by rw [cst_tail]; simp only [wAs, List.nil_append]
  | .cons i r, L, S, bs, P => by
    cases hl : i.isLoc with
    | false =>
      rw [show addD (.cons i r) dv = .cons i (addD r dv) by rfl, wAs_cons hl, wAs_cons hl]
      congr 1
      funext d f L1 S1
      exact wAs_addD
    | true =>
      cases i <;> try cases hl
      rename_i j
      rw [show addD (.cons (.loc j) r) dv = .cons (.loc j) (addD r dv) by rfl]
      simp only [wAs]
      split
      · rw [wAs_addD]; simp only [List.cons_append]
      · rw [wAs_addD]; simp only [List.cons_append]
      · rfl
mutual
theorem Rep.flat {K : PySem.W.Frag} {H : Hp} {φ : List Addr} {W W' : Addr → Prop} : ∀ {d : D} {v : V}, d.flat = true → Rep K H φ W d v → Rep K H φ W' d v
  | .non, v, _, h => by simp only [Rep] at h ⊢; exact h
  | .bl b, v, _, h => by simp only [Rep] at h ⊢; exact h
  | .int b, v, _, h => by simp only [Rep] at h ⊢; exact h
  | .str b, v, _, h => by simp only [Rep] at h ⊢; exact h
  | .tup l, v, f, h => by
    simp only [Rep] at h ⊢
    obtain ⟨a, vs, e, q, r⟩ := h
    exact ⟨a, vs, e, q, Reps.flat (by simpa only [D.flat] using f) r⟩
  | .lst l, v, f, _ => by simp [D.flat] at f
  | .dct _ _, v, f, _ => by simp [D.flat] at f
  | .scr _, v, f, _ => by simp [D.flat] at f
  | .obj _, v, f, _ => by simp [D.flat] at f
  | .xt l, v, f, h => by
    simp only [Rep] at h ⊢
    obtain ⟨a, vs, e, q, r⟩ := h
    exact ⟨a, vs, e, q, Reps.flat (by simpa only [D.flat] using f) r⟩
theorem Reps.flat {K : PySem.W.Frag} {H : Hp} {φ : List Addr} {W W' : Addr → Prop} : ∀ {d : List D} {v : List V}, D.flats d = true → Reps K H φ W d v → Reps K H φ W' d v
  | [], [], _, _ => Reps.nil
  | d :: ds, v :: vs, f, h => by
    simp only [D.flats, Bool.and_eq_true] at f
    simp only [Reps] at h
    exact Reps.cons (Rep.flat f.1 h.1) (Reps.flat f.2 h.2)
  | [], _ :: _, _, h => by simp [Reps] at h
  | _ :: _, [], _, h => by simp [Reps] at h
end
mutual
theorem Rep.nodct {K : PySem.W.Frag} {H : Hp} {φ : List Addr} {W W' : Addr → Prop} (hw : ∀ a, W' a → W a ∨ ∃ kvs : List (Key × V), H a = some (.dK kvs)) : ∀ {d : D} {v : V}, d.nodct = true → Rep K H φ W d v → Rep K H φ W' d v
  | .non, v, _, h => by simp only [Rep] at h ⊢; exact h
  | .bl b, v, _, h => by simp only [Rep] at h ⊢; exact h
  | .int b, v, _, h => by simp only [Rep] at h ⊢; exact h
  | .str b, v, _, h => by simp only [Rep] at h ⊢; exact h
  | .tup l, v, f, h => by
    simp only [Rep] at h ⊢
    obtain ⟨a, vs, e, q, r⟩ := h
    exact ⟨a, vs, e, q, Reps.nodct hw (by simpa only [D.nodct] using f) r⟩
  | .lst l, v, f, h => by
    simp only [Rep] at h ⊢
    obtain ⟨a, e, nw, np, vs, q, r⟩ := h
    refine ⟨a, e, fun w => ?_, np, vs, q, Reps.nodct hw (by simpa only [D.nodct] using f) r⟩
    rcases hw a w with z | ⟨kvs, z⟩
    · exact nw z
    · rw [q] at z; cases z
  | .dct _ _, v, f, _ => by simp [D.nodct] at f
  | .scr _, v, _, h => by simp only [Rep] at h ⊢; exact h
  | .obj _, v, _, h => by simp only [Rep] at h ⊢; exact h
  | .xt l, v, f, h => by
    simp only [Rep] at h ⊢
    obtain ⟨a, vs, e, q, r⟩ := h
    exact ⟨a, vs, e, q, Reps.nodct hw (by simpa only [D.nodct] using f) r⟩
theorem Reps.nodct {K : PySem.W.Frag} {H : Hp} {φ : List Addr} {W W' : Addr → Prop} (hw : ∀ a, W' a → W a ∨ ∃ kvs : List (Key × V), H a = some (.dK kvs)) : ∀ {d : List D} {v : List V}, D.nodcts d = true → Reps K H φ W d v → Reps K H φ W' d v
  | [], [], _, _ => Reps.nil
  | d :: ds, v :: vs, f, h => by
    simp only [D.nodcts, Bool.and_eq_true] at f
    simp only [Reps] at h
    exact Reps.cons (Rep.nodct hw f.1 h.1) (Reps.nodct hw f.2 h.2)
  | [], _ :: _, _, h => by simp [Reps] at h
  | _ :: _, [], _, h => by simp [Reps] at h
end
theorem lentD_at {L : Lo} : ∀ {bs : List Nat}, lentD L bs = true → ∀ i, i ∈ bs → ∃ ks vs, L[i]? = some (.own (.dct ks vs))
  | j :: bs, h, i, hi => by
    simp only [lentD, Bool.and_eq_true] at h
    rcases List.mem_cons.mp hi with rfl | hi
    · have h := h.1
      unfold isOwnD at h
      split at h
      · rename_i ks vs e; exact ⟨ks, vs, e⟩
      · cases h
    · exact lentD_at h.2 i hi
/-- lent lists are let go for good -/
theorem StR.freezeL {K : PySem.W.Frag} {F : Fr} {H : Hp} {φ : List Addr} {S : Sto} {σ : Sg} : ∀ {bs : List Nat} {W : Addr → Prop} {L : Lo}, StR K F H W φ L S σ → (∀ i, i ∈ bs → ∃ d, L[i]? = some (.own d) ∨ L[i]? = some (.val d)) →
    ∃ W', StR K F H W' φ (freezeAll L bs) S σ ∧ Tr false H φ W H φ W' ∧ ∀ a, W' a → W a ∧ ∀ i ∈ bs, (∃ d, L[i]? = some (.own d)) → σ[i]? ≠ some (some (.ref a))
  | [], W, L, s, h => ⟨W, s, Tr.refl, fun a w => ⟨w, by simp⟩⟩
  | i :: bs, W, L, s, h => by
    obtain ⟨d, hd⟩ := h i List.mem_cons_self
    have key : ∃ W1, StR K F H W1 φ (freezeAt L i) S σ ∧ Tr false H φ W H φ W1 ∧ ∀ a, W1 a → W a ∧ ((∃ d, L[i]? = some (.own d)) → σ[i]? ≠ some (some (.ref a))) := by
      unfold freezeAt
      rcases hd with hd | hd
      · rw [hd]
        obtain ⟨a, e1, w, h0, tp⟩ := s.lo.at_ i _ hd
        obtain ⟨W1, v, s1, t1, e2, r⟩ := s.freeze hd
        refine ⟨W1, s1, t1, fun b wb => ⟨?_, fun _ e3 => ?_⟩⟩
        · rcases t1.w b wb with z | z
          · exact z
          · obtain ⟨o, eo, _⟩ := s1.wt b wb
            rw [z] at eo; cases eo
        · rw [e3] at e2; cases e2
          rw [e1] at e3; cases e3
          cases d with
          | lst l => simp only [Rep] at r; obtain ⟨c, ec, nw, _⟩ := r; cases ec; exact nw wb
          | dct _ _ => simp only [Rep] at r; obtain ⟨c, ec, nw, _⟩ := r; cases ec; exact nw wb
          | _ => exact tp.elim
      · rw [hd]
        exact ⟨W, s, Tr.refl, fun a w => ⟨w, fun ⟨d', e⟩ => by cases e⟩⟩
    obtain ⟨W1, s1, t1, k1⟩ := key
    have hv : ∀ j, j ∈ bs → ∃ d, (freezeAt L i)[j]? = some (.own d) ∨ (freezeAt L i)[j]? = some (.val d) := fun j hj => by
      obtain ⟨e, he⟩ := h j (List.mem_cons_of_mem _ hj)
      unfold freezeAt
      split
      · rename_i d' hd'
        by_cases hij : i = j
        · subst hij
          exact ⟨d', .inr (List.getElem?_set_self (List.getElem?_eq_some_iff.mp hd').1)⟩
        · rw [List.getElem?_set_ne hij]; exact ⟨e, he⟩
      · exact ⟨e, he⟩
    obtain ⟨W2, s2, t2, k2⟩ := StR.freezeL s1 hv
    refine ⟨W2, s2, t1.trans t2, fun a w => ?_⟩
    obtain ⟨w1, n1⟩ := k2 a w
    obtain ⟨w0, n0⟩ := k1 a w1
    refine ⟨w0, fun j hj ho => ?_⟩
    rcases List.mem_cons.mp hj with rfl | hj
    · exact n0 ho
    · by_cases hij : i = j
      · subst hij; exact n0 ho
      · refine n1 j hj ?_
        obtain ⟨d', ho⟩ := ho
        unfold freezeAt
        split
        · rw [List.getElem?_set_ne hij]; exact ⟨d', ho⟩
        · exact ⟨d', ho⟩
/-- the callee runs -/
theorem run_G {k : Nat} {f : Addr} {fd : FuncData} {ps : List Str} {nm : Str} {pre : List Env → Shared → Hp → List D → Prop} {pins : List (Addr × Obj)} {σ : Sg} {H : Hp} {s : Shared} {Q : VK} {us xs : List Value} {vs dvs : List V} {W : Addr → Prop} {φ : List Addr} {S : Sto} {ds : List D} {R : D → Sto → Prop}
    (hF : FnG X.prog X.w X.K X.mg X.base k f fd ps C nm pre) (hr : Room k X.A) (gd : X.A.guards = some []) (hB : Binds X.K fd ps xs) (hV : Vals dvs xs) (I : Inv X pins σ H s) (r : Vals vs us) (hl : (vs ++ dvs).length = ps.length)
    (pr : Pre X.K H W φ S) (rp : Reps X.K H φ W ds (vs ++ dvs)) (hp : pre X.stack s H ds) (hc : C nm ds S R) (po : Post X.K H W φ R Q) : wpAny (model X.prog X.w) X.A (call (.ref f) us) (EP X pins σ Q) X.xe s := by
  have r2 : Vals (vs ++ dvs) (us ++ xs) := r.append hV
  have hlu : (us ++ xs).length = ps.length := by rw [← r2.length]; exact hl
  have hx : Passes CX0 X noX := pass0
  refine wpAny_call (codeAny_mono (hF.run X.A X.stack s H ⟨us, []⟩ (us ++ xs) (vs ++ dvs) W φ S ds R Q hr gd I.env0 (hB s us I.kIn hlu) r2 hl pr rp hp hc po) fun z s' hq => ?_)
  match z, hq with
  | .error e, hq => exact hx pins σ H s e s' I hq
  | .ok (.ret u), hq => exact I.after hq
  | .ok .next, hq => exact False.elim hq
  | .ok .brk, hq => exact False.elim hq
  | .ok .cont, hq => exact False.elim hq
def tCallG (K : PySem.W.Frag) (np : Nat) (C : Calls) (nm : Str) (dvs : List V) (t : TA) : TE := fun σ H Q => t σ H fun vs H1 => (vs ++ dvs).length = np ∧ ∃ W φ S ds R, Pre K H1 W φ S ∧ Reps K H1 φ W ds (vs ++ dvs) ∧ C nm ds S R ∧ Post K H1 W φ R Q
theorem pe_callG {k : Nat} {x : Str} {f : Addr} {fd : FuncData} {ps : List Str} {nm : Str} {xs : List Value} {dvs : List V} {e : Expr} {es : List Expr} {t : TA} {p pos : Pos}
    (hF : FnG X.prog X.w X.K X.mg X.base k f fd ps C nm (fun _ _ _ _ => True)) (hr : Room k X.A) (gd : X.A.guards = some []) (hg : Gl X x) (hm : X.mg x = some (.ref f)) (hk : PySem.W.keepIn X.K (.ref f) = true) (hB : Binds X.K fd ps xs) (hV : Vals dvs xs)
    (ha : PA X (e :: es) t) (hdb : (x == ("__debug__" : Str)) = false) (he : starEach (e :: es) X.env = (false, eval e X.env) :: starEach es X.env) (hpl : (backTo pos (starEach es X.env)).any (·.1) = false) :
    PE X (.Call (.Name x p) (e :: es) [] pos) (tCallG X.K ps.length C nm dvs t) := by
  refine ⟨fun pins s σ H Q I h => wpAny_Call_Name_kw (ld_glob I hg hm ?_ hdb)⟩
  refine PySem.W.callWith_K (h₀ := X.base) I.ok.mod.kin hk (thn (ha.run pos pins s σ H _ I h) fun us s1 hh => ?_) he hpl
  obtain ⟨vs, H1, I1, r, hl, W, φ, S, ds, R, pr, rp, hc, po⟩ := hh
  exact ⟨I1.kIn, run_G hF hr gd hB hV I1 r hl pr rp True.intro hc po⟩
/-- a call of a def -/
theorem se_call {f : Str} {e : Expr} {es : List Expr} {l : IEs} {np : Nat} {dv : List D} {n : Nat} {p pos : Pos} (G : GX c C sc X) (hg : glb sc f = true) (hf : fine f = true) (hl : c.fs.lookup f = some (np, dv)) (hn : n ≤ dv.length)
    (ha : PA X (e :: es) (liftC X.K (wA C l))) (hlen : (addD l (dv.drop n)).len = np) (hs : starEach (e :: es) X.env = (false, eval e X.env) :: starEach es X.env) (hpl : (backTo pos (starEach es X.env)).any (·.1) = false) : SE X C (.Call (.Name f p) (e :: es) [] pos) (.call f (addD l (dv.drop n))) := by
  obtain ⟨a, fd, ps, k, hm, hk, hps, hr, hF, hb⟩ := G.fs f np dv hl
  obtain ⟨us, ws, hB, hV, hD⟩ := hb n hn
  obtain ⟨f1, f2, f3⟩ := fine_of hf
  refine SE.of rfl (PE.imp (pe_callG hF hr G.gd (G.gl_ hg) hm hk hB hV ha f1 hs hpl) fun σ H Q ⟨F, W, φ, L, S, P, s, ht, q⟩ => ?_)
  simp only [wE] at ht
  rw [wAs_addD] at ht
  refine ⟨[], F, W, φ, L, S, _, s, ht, fun ds bs L1 S1 H1 W1 φ1 vs h1 s1 t1 _ rs => ?_⟩
  obtain ⟨hdl, hown, h1⟩ := h1
  have hWl : ∀ a, (W1 a ∧ ∀ i ∈ bs, σ[i]? ≠ some (some (.ref a))) → W1 a := fun a z => z.1
  refine ⟨?_, fun a => W1 a ∧ ∀ i ∈ bs, σ[i]? ≠ some (some (.ref a)), φ1, S1, ds ++ dv.drop n, _, ⟨fun a w => s1.wt a w.1, s1.nd, fun a z w => s1.phw a z w.1, s1.tb, s1.st.go (S' := false) (Tr.less hWl) (fun _ _ => rfl)⟩, Reps.append rs (hD _ _ _), h1, fun r S2 H2 φ2 v hp t2 pr2 rr => ?_⟩
  · rw [List.length_append, ← rs.len, ← (hD H1 φ1 W1).len, ← List.length_append, hdl, hps]; exact hlen
  · obtain ⟨_, nd2, phw2, tb2, st2⟩ := pr2
    have kp : ∀ {W' : Addr → Prop}, ∀ (a : Addr) (o : HO), H1 a = some o → isT o = false → (isM o = true → a ∉ φ1 ∧ (false = true → ¬ W' a)) → H2 a = some o := fun a o h nt m => t2.keep a o h nt fun k => ⟨(m k).1, fun z => nomatch z⟩
    have keep : ∀ {W' : Addr → Prop}, (∀ a, W' a → W1 a) → Tr false H1 φ1 W1 H2 φ2 W' := fun hw => ⟨kp, fun a z => .inl (hw a z), t2.dom, t2.pre, t2.phi, t2.tt⟩
    have go : ∀ {W' : Addr → Prop} {L' : Lo}, StR X.K F H1 W' φ1 L' S1 σ → (∀ a, W' a → W1 a) → (∀ a, a ∈ φ2 → ¬ W' a) → StoR X.K H2 W' φ2 S2 → StR X.K F H2 W' φ2 L' S2 σ := fun {W' L'} s' hw hph hst => by
      have tt : Tr false H1 φ1 W' H2 φ2 W' := ⟨kp, fun _ z => .inl z, t2.dom, t2.pre, t2.phi, t2.tt⟩
      exact {
        ext := fun a o h0 nt hM => by
          have e1 := s'.ext a o h0 nt hM
          refine t2.keep a o e1 nt fun m => ⟨fun z => ?_, fun z => nomatch z⟩
          exact (s'.phi a z).elim (hM m) (fun z => by rw [h0] at z; cases z)
        dom := fun a z => s'.dom a (t2.dom a z)
        wc := s'.wc
        wnew := s'.wnew
        wt := fun a w => by
          obtain ⟨o, eo, m⟩ := s'.wt a w
          exact ⟨o, t2.keep a o eo (nt_of m) fun _ => ⟨s'.phO w, fun z => nomatch z⟩, m⟩
        pre := s'.pre.trans t2.pre
        phi := fun a z => (t2.phi a z).elim (s'.phi a) fun z => .inr (s'.dom a z)
        phw := hph
        nd := nd2
        tb := tb2
        tt := fun a ps h => by
          obtain ⟨ps1, h1⟩ := s'.tt a ps h
          exact t2.tt a ps1 h1
        st := hst
        lo := s'.lo.go tt fun i a hh => by
          obtain ⟨⟨d, e⟩, e2⟩ := hh
          obtain ⟨a', e3, w, _, p, _⟩ := s'.own e
          rw [e2] at e3; cases e3; exact ⟨p, w⟩ }
    have phwW : ∀ a, a ∈ φ2 → ¬ W1 a := fun a z w => by
      rcases t2.phi a z with z | z
      · exact s1.phw a z w
      · obtain ⟨o, eo, _⟩ := s1.wt a w
        rw [z] at eo; cases eo
    by_cases hc : bs = [] ∨ (r.flat = true ∧ Sto.flat S2 = true) ∨ (lentD L1 bs = true ∧ r.nodct = true ∧ Sto.nodct S2 = true)
    · rw [if_pos hc] at hp
      rcases hc with rfl | ⟨hrf, hSf⟩ | ⟨hlD, hrn, hSn⟩
      · have hWe : (fun a => W1 a ∧ ∀ i ∈ ([] : List Nat), σ[i]? ≠ some (some (.ref a))) = W1 := by funext a; simp
        rw [hWe] at st2 rr
        exact q r false L1 S2 H2 W1 φ2 v hp (go s1 (fun _ h => h) phwW st2) (t1.trans (keep fun _ h => h)) rr
      · refine q r false L1 S2 H2 W1 φ2 v hp (go s1 (fun _ h => h) phwW ⟨st2.len, fun m b l e1 e2 => ?_⟩) (t1.trans (keep fun _ h => h)) (rr.flat hrf)
        obtain ⟨vs', q', z', r'⟩ := st2.at_ m b l e1 e2
        exact ⟨vs', q', z', r'.flat (List.all_eq_true.mp hSf l (List.mem_of_getElem? e2))⟩
      · have hw : ∀ a, W1 a → (W1 a ∧ ∀ i ∈ bs, σ[i]? ≠ some (some (.ref a))) ∨ ∃ kvs : List (Key × V), H2 a = some (.dK kvs) := fun a w => by
          by_cases hx : ∀ i ∈ bs, σ[i]? ≠ some (some (.ref a))
          · exact .inl ⟨w, hx⟩
          · refine .inr ?_
            simp only [Classical.not_forall] at hx
            obtain ⟨i, hi, hx⟩ := hx
            have hx := Classical.not_not.mp hx
            obtain ⟨ks, vs, eo⟩ := lentD_at hlD i hi
            obtain ⟨a', e1, _, h0, tp⟩ := s1.lo.at_ i _ eo
            rw [hx] at e1; cases e1
            obtain ⟨kvs, ek, _⟩ := tp
            exact ⟨kvs, t2.keep a _ ek rfl fun _ => ⟨s1.phO w, fun z => nomatch z⟩⟩
        refine q r false L1 S2 H2 W1 φ2 v hp (go s1 (fun _ h => h) phwW ⟨st2.len, fun m b l e1 e2 => ?_⟩) (t1.trans (keep fun _ h => h)) (rr.nodct hw hrn)
        obtain ⟨vs', q', z', r'⟩ := st2.at_ m b l e1 e2
        exact ⟨vs', q', z', r'.nodct hw (List.all_eq_true.mp hSn l (List.mem_of_getElem? e2))⟩
    · rw [if_neg hc] at hp
      obtain ⟨W3, s3, t3, k3⟩ := s1.freezeL (bs := bs) fun i hi => ⟨_, .inl (hown i hi).choose_spec⟩
      have hw3 : ∀ a, W3 a → W1 a ∧ ∀ i ∈ bs, σ[i]? ≠ some (some (.ref a)) := fun a w => ⟨(k3 a w).1, fun i hi => (k3 a w).2 i hi (hown i hi)⟩
      refine q r false _ S2 H2 W3 φ2 v hp (go s3 (fun a w => (hw3 a w).1) (fun a z w => phwW a z (hw3 a w).1) ?_) (t1.trans (keep fun a w => (hw3 a w).1)) (rr.lessW hw3)
      exact st2.go (S' := false) (Tr.less hw3) fun _ _ => rfl
end
end Q
/-! Soundness: a lambda handed to a def, its call there. -/
namespace Q
open PySem PySem.Spec PyProof.Rows L2
section
variable {K : PySem.W.Frag} {F : Fr} {H H1 H2 : Hp} {W W1 : Addr → Prop} {φ φ1 φ2 : List Addr} {L L1 : Lo} {S S1 S2 : Sto} {σ : Sg}
theorem toLAs_eq : ∀ {es : List Expr} {l : List LA}, toLAs es = some l → es = l.map LA.expr
  | [], l, h => by simp only [toLAs] at h; cases h; rfl
  | e :: es, l, h => by
    simp only [toLAs, Option.bind_eq_bind, Option.bind_eq_some_iff] at h
    obtain ⟨a, ha, r, hr, h⟩ := h
    cases h
    rw [List.map_cons, ← toLAs_eq hr]
    congr 1
    unfold toLA at ha
    split at ha <;> first | (cases ha; rfl) | cases ha
theorem toLam_eq {a : Arguments} {b : Expr} {sc : Scope} {l : LamE} (h : toLam a b sc = some l) : a = l.args ∧ b = l.body ∧ sc = l.scope := by
  unfold toLam at h
  split at h
  · split at h
    · obtain ⟨r, hr, rfl⟩ := Option.map_eq_some_iff.mp h
      exact ⟨rfl, by rw [toLAs_eq hr]; rfl, rfl⟩
    · obtain ⟨r, hr, rfl⟩ := Option.map_eq_some_iff.mp h
      exact ⟨rfl, by rw [toLAs_eq hr]; rfl, rfl⟩
    · cases h
  · cases h
/-- behind a call to which nothing was lent -/
theorem StR.called (s : StR K F H1 W φ1 L S1 σ) (t : Tr false H1 φ1 W H2 φ2 W) (p : Pre K H2 W φ2 S2) : StR K F H2 W φ2 L S2 σ where
  ext := fun a o h0 nt hM => by
    have e1 := s.ext a o h0 nt hM
    refine t.keep a o e1 nt fun m => ⟨fun z => ?_, fun z => nomatch z⟩
    exact (s.phi a z).elim (hM m) (fun z => by rw [h0] at z; cases z)
  dom := fun a z => s.dom a (t.dom a z)
  wc := s.wc
  wnew := s.wnew
  wt := p.wt
  pre := s.pre.trans t.pre
  phi := fun a z => (t.phi a z).elim (s.phi a) fun z => .inr (s.dom a z)
  phw := p.phw
  nd := p.nd
  tb := p.tb
  tt := fun a ps h => by
    obtain ⟨ps1, h1⟩ := s.tt a ps h
    exact t.tt a ps1 h1
  st := p.st
  lo := s.lo.go t fun i a hh => by
    obtain ⟨⟨d, e⟩, e2⟩ := hh
    obtain ⟨a', e3, w, _, q, _⟩ := s.own e
    rw [e2] at e3; cases e3; exact ⟨q, w⟩
theorem StR.toPre (s : StR K F H W φ L S σ) : Pre K H W φ S := ⟨s.wt, s.nd, s.phw, s.tb, s.st⟩
theorem caps_rep (s : StR K F H W φ L S σ) : ∀ {caps : List Nat} {P : List D → Prop}, capsP L caps P → ∃ cs ws, P cs ∧ Reps K H φ W cs ws ∧ ws.map some = caps.map (NdefX.slotAt σ)
  | [], P, h => ⟨[], [], h, Reps.nil, rfl⟩
  | i :: r, P, h => by
    simp only [capsP] at h
    cases e : L[i]? with
    | none => rw [e] at h; exact h.elim
    | some t =>
      rw [e] at h
      cases t with
      | no => exact h.elim
      | own d => exact h.elim
      | val d =>
        obtain ⟨v, e1, rv⟩ := s.val e
        obtain ⟨cs, ws, hp, rr, hw⟩ := caps_rep s h
        exact ⟨d :: cs, v :: ws, hp, Reps.cons rv rr, by rw [List.map_cons, List.map_cons, hw, NdefX.slotAt_of e1]⟩
theorem idxs_eq {N : List Str} : ∀ {xs : List Str} {l : List Nat}, idxs N xs = some l → l.map (fun j => N[j]?) = xs.map some
  | [], l, h => by simp only [idxs] at h; cases h; rfl
  | x :: xs, l, h => by
    simp only [idxs, Option.bind_eq_bind, Option.bind_eq_some_iff] at h
    obtain ⟨i, hi, r, hr, h⟩ := h
    cases h
    rw [List.map_cons, List.map_cons, idxs_eq hr, idx_get hi]
end
section
variable {X : Cx} {C : Calls} {c : TC} {sc : Scope}
/-- a call without arguments -/
theorem se_call0 {f : Str} {p pos : Pos} (G : GX c C sc X) (hg : glb sc f = true) (hf : fine f = true) (hl : c.fs.lookup f = some (0, [])) : SE X C (.Call (.Name f p) [] [] pos) (.call f .nil) := by
  obtain ⟨a, fd, ps, k, hm, hk, hps, hr, hF, hb⟩ := G.fs f 0 [] hl
  obtain ⟨us, ws, hB, hV, hD⟩ := hb 0 (Nat.le_refl _)
  obtain ⟨f1, f2, f3⟩ := fine_of hf
  refine SE.of rfl ⟨fun pins s σ H Q I h => wpAny_Call_Name_kw (ld_glob I (G.gl_ hg) hm ?_ f1)⟩
  obtain ⟨F, W, φ, L, S, P, st, ht, q⟩ := h
  simp only [wE, wAs] at ht
  obtain ⟨_, _, ht⟩ := ht
  have hw : ws = [] := by
    have := (hD H φ W).len
    exact List.length_eq_zero_iff.mp this.symm
  subst hw
  refine PySem.W.callWith_K0 I.kIn hk (run_G (us := []) (vs := []) hF hr G.gd hB hV I .nil (by simpa using hps.symm) st.toPre Reps.nil True.intro ht fun r S' H' φ' v hR t' p' rr => ?_)
  rw [if_pos (Or.inl True.intro)] at hR
  exact q r false L S' H' W φ' v hR (st.called t' p') t' rr
theorem se_callL {f : Str} {e1 e2 : Expr} {i1 i2 : IE} {le : LE} {caps : List Nat} {la : Arguments} {lb : Expr} {ls : Scope} {lp p pos : Pos} (G : GX c C sc X) (hg : glb sc f = true) (hf : fine f = true) (hl : c.fl.lookup f = some 3) (hlam : c.lam = some le)
    (hla : toLam la lb ls = some le.l) (hnd : lamB sc ls le.fr = true) (hix : idxs c.N le.fr = some caps) (h1 : SE X C e1 i1) (h2 : SE X C e2 i2)
    (hs1 : ∀ es, starEach (e1 :: es) X.env = (false, eval e1 X.env) :: starEach es X.env) (hs2 : ∀ es, starEach (e2 :: es) X.env = (false, eval e2 X.env) :: starEach es X.env) :
    SE X C (.Call (.Name f p) [e1, e2, .Lambda la lb ls lp] [] pos) (.callL f (.cons i1 (.cons i2 .nil)) le.key caps) := by
  obtain ⟨rfl, rfl, rfl⟩ := toLam_eq hla
  obtain ⟨a, fd, ps, k, hm, hk, hps, hr, hF, hB⟩ := G.fl f 3 hl
  obtain ⟨m1, m2, m3, m4, m5, m6, m7⟩ := G.lm le hlam
  obtain ⟨f1, f2, f3⟩ := fine_of hf
  unfold lamB at hnd
  simp only [Bool.and_eq_true, Bool.or_eq_true, Bool.not_eq_true', decide_eq_true_eq, decide_eq_false_iff_not, List.all_eq_true] at hnd
  obtain ⟨hnd, hcell⟩ := hnd
  have toX : ∀ x k, (k = NameKind.cell ∨ k = NameKind.free) → sc.names.lookup x = some k → X.env.scope.names.lookup x = some .cell ∨ X.env.scope.names.lookup x = some .free := fun x k hk e => by
    have := G.sc x
    rcases hk with rfl | rfl
    · rcases this with z | z
      · exact .inl (z.trans e)
      · rw [e] at z; cases z.1
    · rcases this with z | z
      · exact .inr (z.trans e)
      · exact .inl z.2
  have hfree : ∀ y ∈ le.l.scope.names, y.2 = .free → X.env.scope.names.lookup y.1 = some .cell ∨ X.env.scope.names.lookup y.1 = some .free := fun y hy e => by
    rcases NdefX.ndef_free hnd y hy e with z | z
    · exact toX _ _ (.inl rfl) z
    · exact toX _ _ (.inr rfl) z
  have hfn : ∀ y ∈ le.l.scope.names, y.2 = .free → X.fn y.1 = true := fun y hy e => G.fn _ ((hcell y hy).elim (fun z => absurd e z) id)
  have h3 := pa_cons h1.v (pa_cons h2.v (pa_cons (pe_lam (pos := lp) m6 m5 m4 m7 hfree) pa_nil) (hs2 _)) (hs1 _)
  have hspl : (backTo pos (starEach [e2, .Lambda le.l.args le.l.body le.l.scope lp] X.env)).any (·.1) = false := by
    rw [hs2]; rfl
  refine SE.of rfl ⟨fun pins s σ H Q I h => wpAny_Call_Name_kw (ld_glob I (G.gl_ hg) hm ?_ f1)⟩
  obtain ⟨F, W, φ, L, S, P, st, ht, q⟩ := h
  simp only [wE, wEs] at ht
  refine PySem.W.callWith_K (h₀ := X.base) I.ok.mod.kin hk (thn (h3.run pos pins s σ H (fun vs H1 => ∃ (ci : CloI) (d1 d2 : D) (cs : List D) (L1 : Lo) (S1 : Sto) (W1 : Addr → Prop) (φ1 : List Addr), StR X.K F H1 W1 φ1 L1 S1 σ ∧ Tr false H φ W H1 φ1 W1 ∧
      Reps X.K H1 φ1 W1 [d1, d2, .clo ci le.key cs] vs ∧ ci.l = le.l ∧ ci.q = lamQ le.by_ ∧ ci.cl = cloFrom X.env.cells le.l.scope.names [] ∧ ci.ws.map some = caps.map (NdefX.slotAt σ) ∧ C f [d1, d2, .clo ci le.key cs] S1 (fun r S2 => P r false L1 S2)) I ?_) fun us s1 hh => ?_) (hs1 _) hspl
  · refine ⟨F, W, φ, L, S, _, st, ht, fun d1 g1 L1 S1 H1 W1 φ1 v1 hp1 st1 t1 vr1 => ?_⟩
    obtain ⟨W1', st1', t1', r1⟩ := settle st1 vr1
    refine ⟨F, W1', φ1, L1, S1, _, st1', hp1, fun d2 g2 L2 S2 H2 W2 φ2 v2 hp2 st2 t2 vr2 => ?_⟩
    obtain ⟨W2', st2', t2', r2⟩ := settle st2 vr2
    obtain ⟨_, hp2⟩ := hp2
    obtain ⟨cs, ws, hp3, rr, hw⟩ := caps_rep st2' hp2
    refine ⟨st2'.tb _ m2 m3, fun fa c' H3 g a1 a2 => ?_⟩
    have gt : Tr false H2 φ2 W2' H3 φ2 W2' := g.tr
    refine ⟨⟨fa, c', le.l, lamQ le.by_, cloFrom X.env.cells le.l.scope.names [], ws⟩, d1, d2, cs, L2, S2, W2', φ2, st2'.lam g, ((((t1.trans t1').trans t2).trans t2').trans gt), ?_, rfl, rfl, rfl, hw, hp3 _⟩
    refine Reps.cons (((r1.go t2).go t2').go gt) (Reps.cons (r2.go gt) (Reps.cons ?_ Reps.nil))
    simp only [Rep]
    exact ⟨trivial, a1, a2, rr.go gt⟩
  · obtain ⟨vs, H1, I1, r, ci, d1, d2, cs, L1, S1, W1, φ1, st1, t1, rp, e1, e2, e3, e4, hc⟩ := hh
    have cap : NdefX.Caps X ci.cl le.fr caps := by
      rw [e3]
      exact NdefX.Caps.made I1.ok hfree (NdefX.ndef_fr hnd) (by rw [G.N]; exact idxs_eq hix)
    have hvl : (vs ++ []).length = ps.length := by rw [List.append_nil, ← rp.len, hps]; rfl
    refine ⟨I1.kIn, run_G hF hr G.gd hB .nil I1 r hvl st1.toPre (by rw [List.append_nil]; exact rp) ⟨.clo ci le.key cs, le, m1, rfl, rfl, e1, e2, ?_, fun y cc ec hm => ?_⟩ hc fun x S' H' φ' v hR t' p' rr => ?_⟩
    · rw [e4]; exact NdefX.cells_of I1 cap
    · have ecx := cap.sub y cc ec
      rcases List.mem_cons.mp (I1.stkSub _ hm) with z | z
      · exact I1.cne y cc ecx z
      · obtain ⟨_, o, ho, _⟩ := I1.ok.funs.mem z
        rw [e3] at ec
        rcases cloFrom_mem (PySem.mem_of_lookup ec) with hz | ⟨hz, _⟩
        · cases hz
        · have := I1.ok.cab y cc (hfn _ hz rfl) ecx
          exact absurd (Nat.lt_of_lt_of_le (Heap.lt_size ho) this) (Nat.lt_irrefl _)
    · exact q x false L1 S' H' W1 φ' v hR (st1.called t' p') (t1.trans t') rr
theorem se_callv {x : Str} {i : Nat} {e : Expr} {ie : IE} {p pos : Pos} (G : GX c C sc X) (hx : c.lv = some x) (hv : vis sc x = true) (hf : fine x = true) (hi : c.N.idxOf? x = some i) (he : SE X C e ie)
    (hs : ∀ es, starEach (e :: es) X.env = (false, eval e X.env) :: starEach es X.env) : SE X C (.Call (.Name x p) [e] [] pos) (.callv i (.cons ie .nil)) := by
  obtain ⟨g1, g2, g3⟩ := G.lv x hx
  obtain ⟨f1, f2, f3⟩ := fine_of hf
  have ha := pas_cons he (pas_nil (C := C)) (hs [])
  have hpl : (backTo pos (starEach ([] : List Expr) X.env)).any (·.1) = false := rfl
  refine SE.of rfl ⟨fun pins s σ H Q I h => ?_⟩
  obtain ⟨F, W, φ, L, S, P, st, ht, q⟩ := h
  have hw : wE C (.callv i (.cons ie .nil)) L S P = cloP L[i]? fun f => wEs C (.cons ie .nil) L S fun ds L1 S1 => C "!" (f :: ds) S1 fun r S2 => P r false L1 S2 := by rw [wE]
  rw [hw] at ht
  unfold cloP at ht
  split at ht
  · rename_i ci nm cs eL
    obtain ⟨v, es, rv⟩ := st.val eL
    have rv0 := rv
    simp only [Rep] at rv
    obtain ⟨rfl, ra, rc, rw_⟩ := rv
    refine wpAny_Call_Name_kw (thn ((pe_var (pos := p) (by rw [G.N]; exact idx_get hi) (G.vis hv) f1 f2).run pins s σ H (fun v H1 => v = .ref ci.a ∧ H1 = H) I ⟨.ref ci.a, es, rfl, rfl⟩) fun u s1 hh => ?_)
    obtain ⟨v, H1, I1, r1, rfl, rfl⟩ := hh
    obtain rfl : u = Value.ref ci.a := r1
    have fnAt : ∀ {H1 : Hp} {s1 : Shared}, Inv X pins σ H1 s1 → H1 ci.a = some (LamO ci.a ci.l ci.q ci.cl ci.c) → PySem.W.FnAt ci.a s1.heap := fun {H1 s1} I e => by
      obtain ⟨⟨od, sl, pm, ctv, z⟩, _, _⟩ := I.hok ci.a _ e
      exact ⟨_, od, _, sl, z⟩
    refine PySem.W.callWith_F (first := []) (fnAt I1 ra) (thn (ha.run pos pins s1 σ _ (fun vs H2 => ∃ ds L1 S1 W1 φ1, StR X.K F H2 W1 φ1 L1 S1 σ ∧ Tr false H1 φ W H2 φ1 W1 ∧ Reps X.K H2 φ1 W1 ds vs ∧ C "!" (.clo ci nm cs :: ds) S1 (fun r S2 => P r false L1 S2)) I1
      ⟨F, W, φ, L, S, _, st, ht, fun ds L1 S1 H2 W1 φ1 vs hp st1 t1 rs => ⟨ds, L1, S1, W1, φ1, st1, t1, rs, hp⟩⟩) fun us s2 hh => ?_) (hs []) hpl
    obtain ⟨vs, H2, I2, r, ds, L1, S1, W1, φ1, st1, t1, rs, hc⟩ := hh
    have rv2 : Rep X.K H2 φ1 W1 (.clo ci nm cs) (.ref ci.a) := rv0.go t1
    have rv3 := rv2
    simp only [Rep] at rv3
    refine ⟨fnAt I2 rv3.2.1, ?_⟩
    show wpAny _ _ (call (.ref ci.a) us) _ _ _
    obtain ⟨ci', caps', le, C0, k, ed, hcl, hr, hL, hC0⟩ := g3 _ _ _ _ hc
    cases ed
    obtain ⟨c1, c2, c3, c4, c5⟩ := hcl
    have nex : ∀ b : Addr, b ∉ X.ex := fun b z => by rw [g2] at z; cases z
    have later := NdefX.CellsAt.later c4 c5 (fun y cc _ => nex cc) I2
    have hcl2 : CloAt X.stack s2 H2 le (.clo ci le.key cs) := by
      refine ⟨rfl, c2, c3, later, fun y cc ec hm => ?_⟩
      rw [g1] at hm
      have hm2 : cc ∈ X.env.locals :: frs X.outer := by
        have := I2.stkSub cc (by rw [g1]; exact hm)
        exact this
      rcases List.mem_cons.mp hm2 with z | z
      · obtain ⟨_, _, o, ho, hd⟩ := later.all y cc ec
        obtain ⟨m, ⟨o', es', ep', ho', hd', _⟩, _⟩ := I2.loc
        rw [z, ho'] at ho; cases ho; rw [hd'] at hd; cases hd
      · exact c5 y cc ec z
    have hx : Passes CX0 X noX := pass0
    refine wpAny_call (codeAny_mono (hL.run X.A X.stack s2 H2 ci cs us vs W1 φ1 S1 ds _ Q hr G.gd I2.env0 r st1.toPre rs rv2 hcl2 hC0 fun y S' H' φ' w hR t' p' rr => q y false L1 S' H' W1 φ' w hR (st1.called t' p') (t1.trans t') rr) fun z s' hq => ?_)
    match z, hq with
    | .error e, hq => exact hx pins σ H2 s2 e s' I2 hq
    | .ok (.ret u), hq => exact I2.after hq
    | .ok .next, hq => exact False.elim hq
    | .ok .brk, hq => exact False.elim hq
    | .ok .cont, hq => exact False.elim hq
  · exact ht.elim
/-- a op1 b op2 c op3 d -/
def tChain3 (r1 r2 r3 : R2) (ta tb tc td : TE) : TE := fun σ H Q => ta σ H fun x H1 => tb σ H1 fun y H2 => r1 x y H2 fun z H3 => ∃ k, z = .bl k ∧
  (if k = true then tc σ H3 fun w H4 => r2 y w H4 fun z2 H5 => ∃ k2, z2 = .bl k2 ∧ (if k2 = true then td σ H5 fun u H6 => r3 w u H6 Q else Q (.bl false) H5) else Q (.bl false) H3)
theorem pe_chain3 {a b d e4 : Expr} {o1 o2 o3 : CmpOp} {r1 r2 r3 : R2} {ta tb tc td : TE} {pos : Pos} (h1 : OpR X (compareOp o1) r1) (h2 : OpR X (compareOp o2) r2) (h3 : OpR X (compareOp o3) r3) (ha : PE X a ta) (hb : PE X b tb) (hc : PE X d tc) (hd : PE X e4 td)
    (hm : lastMarks [o1, o2, o3] [b, d, e4] = false) : PE X (.Compare a [o1, o2, o3] [b, d, e4] pos) (tChain3 r1 r2 r3 ta tb tc td) := by
  refine ⟨fun pins s σ H Q I h => ?_⟩
  refine Compare_chain (thn (ha.run pins s σ H _ I h) fun v s1 hh => ?_) hm
  obtain ⟨x, H1, I1, rx, q1⟩ := hh
  refine chain_link (thn (hb.run pins s1 σ H1 _ I1 q1) fun u s2 hh => ?_)
  obtain ⟨y, H2, I2, ry, q2⟩ := hh
  refine thn (h1 pins s2 σ H2 x y v u _ I2 rx ry q2) fun c1 s3 hh => ?_
  obtain ⟨z, H3, I3, rz, k, rfl, q3⟩ := hh
  cases rz
  refine wpAny_truthy_bool ?_
  cases k with
  | false => exact ite_ff ⟨.bl false, H3, I3, rfl, q3⟩
  | true =>
    refine ite_tt (chain_link (thn (hc.run pins s3 σ H3 _ I3 q3) fun u2 s4 hh => ?_))
    obtain ⟨y2, H4, I4, ry2, q4⟩ := hh
    refine thn (h2 pins s4 σ H4 y y2 u u2 _ I4 ry ry2 q4) fun c2 s5 hh => ?_
    obtain ⟨z2, H5, I5, rz2, k2, rfl, q5⟩ := hh
    cases rz2
    refine wpAny_truthy_bool ?_
    cases k2 with
    | false => exact ite_ff ⟨.bl false, H5, I5, rfl, q5⟩
    | true =>
      refine ite_tt (chain_last (thn (hd.run pins s5 σ H5 _ I5 q5) fun u3 s6 hh => ?_))
      obtain ⟨y3, H6, I6, ry3, q6⟩ := hh
      exact h3 pins s6 σ H6 y2 y3 u2 u3 Q I6 ry2 ry3 q6
theorem se_chain3 {a b d e4 : Expr} {ia ib id ie : IE} {o1 o2 o3 : CmpOp} {pos : Pos} (G : GX c C sc X) (hf : cmpFine o3 e4 = true) (ha : SE X C a ia) (hb : SE X C b ib) (hd : SE X C d id) (he : SE X C e4 ie) : SE X C (.Compare a [o1, o2, o3] [b, d, e4] pos) (.chain3 (toCO o1) (toCO o2) (toCO o3) ia ib id ie) := by
  refine SE.of rfl (PE.imp (pe_chain3 (opX X _) (opX X _) (opX X _) ha.p hb.p hd.p he.p (cmp_mark hf)) fun σ H Q ⟨F, W, φ, L, S, P, s, ht, q⟩ => ?_)
  simp only [wE] at ht
  refine ⟨F, W, φ, L, S, _, s, ht, fun x L1 S1 H1 W1 φ1 v h1 s1 t1 r1 => ⟨F, W1, φ1, L1, S1, _, s1, h1, fun y L2 S2 H2 W2 φ2 u h2 s2 t2 r2 => ?_⟩⟩
  have t12 := t1.trans t2
  have := prim_cmp (X := X) rfl G.hu (r1.go t2) r2 h2 (Q := fun z H3 => ∃ k, z = .bl k ∧ (if k = true then liftP X.K (pk id (wE C id)) σ H3 (fun w H4 => OpX X (compareOp o2) u w H4 fun z2 H5 => ∃ k2, z2 = .bl k2 ∧ (if k2 = true then liftP X.K (pk ie (wE C ie)) σ H5 (fun u3 H6 => OpX X (compareOp o3) w u3 H6 Q) else Q (.bl false) H5)) else Q (.bl false) H3)) fun k hk => ?_
  · rw [co_eq] at this; exact this
  · refine ⟨k, rfl, ?_⟩
    cases k with
    | false =>
      rw [if_neg (by decide)] at hk ⊢
      exact q _ _ _ _ _ _ _ _ hk s2 t12 (by show Rep _ _ _ _ _ _; simp only [Rep])
    | true =>
      rw [if_pos rfl] at hk ⊢
      refine ⟨F, W2, φ2, L2, S2, _, s2, hk, fun z L3 S3 H3 W3 φ3 w h3 s3 t3 r3 => ?_⟩
      have t13 := t12.trans t3
      have := prim_cmp (X := X) rfl G.hu (r2.go t3) r3 h3 (Q := fun z2 H5 => ∃ k2, z2 = .bl k2 ∧ (if k2 = true then liftP X.K (pk ie (wE C ie)) σ H5 (fun u3 H6 => OpX X (compareOp o3) w u3 H6 Q) else Q (.bl false) H5)) fun k2 hk2 => ?_
      · rw [co_eq] at this; exact this
      · refine ⟨k2, rfl, ?_⟩
        cases k2 with
        | false =>
          rw [if_neg (by decide)] at hk2 ⊢
          exact q _ _ _ _ _ _ _ _ hk2 s3 t13 (by show Rep _ _ _ _ _ _; simp only [Rep])
        | true =>
          rw [if_pos rfl] at hk2 ⊢
          refine ⟨F, W3, φ3, L3, S3, _, s3, hk2, fun z4 L4 S4 H4 W4 φ4 w4 h4 s4 t4 r4 => ?_⟩
          have := prim_cmp (X := X) rfl G.hu (r3.go t4) r4 h4 (Q := Q) fun k3 hk3 => q _ _ _ _ _ _ _ _ hk3 s4 (t13.trans t4) (by show Rep _ _ _ _ _ _; simp only [Rep])
          rw [co_eq] at this; exact this
end
end Q
/-! Soundness: displays, subscripts, built-ins, targets, what is walked. -/
namespace Q
open PySem PySem.Spec PyProof.Rows L2
section
variable {X : Cx} {C : Calls} {c : TC} {sc : Scope}
section
variable {K : PySem.W.Frag} {F : Fr} {H H1 : Hp} {W W1 : Addr → Prop} {φ φ1 : List Addr} {L L1 : Lo} {S S1 : Sto} {σ : Sg} {P : KE} {Q : VK}
theorem fin_of (t1 : Tr false H φ W H1 φ1 W1) (q : ∀ d f L' S' H' W' φ' v, P d f L' S' → StR K F H' W' φ' L' S' σ → Tr false H φ W H' φ' W' → VR K F H' W' φ' L' σ f d v → Q v H') : Fin K F H1 W1 φ1 L1 S1 σ (fun d f => P d f L1 S1) Q :=
  fun d f w H' W' hr s' t' vr => q d f L1 S1 H' W' φ1 w hr s' (t1.trans t') vr
/-- a new cell -/
theorem StR.growS (s : StR K F H W φ L S σ) {p : Addr} {l : List D} {vs : List V} (hp : H p = none) (hz : vs.length ≤ sizeLine) (r : Reps K H φ W l vs) :
    StR K F (upd H p (.lst vs)) W (φ ++ [p]) L (S ++ [l]) σ ∧ Tr false H φ W (upd H p (.lst vs)) (φ ++ [p]) W := by
  have t : Tr false H φ W (upd H p (.lst vs)) (φ ++ [p]) W := ⟨fun a u h _ _ => by rw [upd_ne (ne_of_none h hp)]; exact h, fun _ h => .inl h, fun a z => by
    unfold upd at z; split at z
    · cases z
    · exact z, List.prefix_append _ _, fun a z => by
      rcases List.mem_append.mp z with z | z
      · exact .inl z
      · simp at z; subst z; exact .inr hp, fun a ps h => ⟨ps, by rw [upd_ne (ne_of_none h hp)]; exact h⟩⟩
  have g := s.grow (o := .lst vs) hp
  have hpn := s.phN hp
  refine ⟨⟨g.ext, g.dom, s.wc, s.wnew, g.wt, s.pre.trans (List.prefix_append _ _), fun a z => ?_, fun a z w => ?_, ?_, g.tb, g.tt, ⟨by simp [s.st.len], fun n a l' e1 e2 => ?_⟩, s.lo.go t fun i a ⟨⟨d, e⟩, e2⟩ => ?_⟩, t⟩
  · rcases List.mem_append.mp z with z | z
    · exact s.phi a z
    · simp at z; subst z; exact .inr (s.dom _ hp)
  · rcases List.mem_append.mp z with z | z
    · exact s.phw a z w
    · simp at z; subst z
      obtain ⟨o, eo, _⟩ := s.wt _ w
      rw [hp] at eo; cases eo
  · rw [List.nodup_append]
    refine ⟨s.nd, by simp, fun a ha b hb => ?_⟩
    simp at hb; subst hb
    intro e; subst e; exact hpn ha
  · by_cases hn : n < φ.length
    · rw [List.getElem?_append_left hn] at e1
      rw [List.getElem?_append_left (by rw [s.st.len]; exact hn)] at e2
      obtain ⟨us, q, z, r'⟩ := s.st.at_ n a l' e1 e2
      exact ⟨us, by rw [upd_ne (ne_of_none q hp)]; exact q, z, r'.go t⟩
    · have hn' : n = φ.length := by
        have := (List.getElem?_eq_some_iff.mp e1).1
        simp at this; omega
      subst hn'
      rw [List.getElem?_append_right (Nat.le_refl _)] at e1
      rw [← s.st.len, List.getElem?_append_right (Nat.le_refl _)] at e2
      simp at e1 e2
      subst e1 e2
      exact ⟨vs, upd_same, hz, r.go t⟩
  · obtain ⟨a', e3, w, _, p, _⟩ := s.own e
    rw [e2] at e3; cases e3; exact ⟨p, w⟩
end
theorem se_tup {es : List Expr} {l : IEs} {k : Nat} {pos : Pos} (h : PA X es (liftA X.K (wEs C l))) : SE X C (.Tuple es k pos) (.tup l) := by
  refine SE.of rfl (PE.imp (pe_tup h) fun σ H Q ⟨F, W, φ, L, S, P, s, ht, q⟩ => ?_)
  simp only [wE] at ht
  refine ⟨F, W, φ, L, S, _, s, ht, fun ds L1 S1 H1 W1 φ1 vs h1 s1 t1 r => ⟨by rw [← r.len]; exact h1.1, fun p hp => ?_⟩⟩
  exact (fin_of t1 q).newT s1 h1.2 r hp
theorem se_lst {es : List Expr} {l : IEs} {pos : Pos} (h : PA X es (liftA X.K (wEs C l))) : SE X C (.List es pos) (.lst l) := by
  refine SE.of rfl (PE.imp (pe_lst h) fun σ H Q ⟨F, W, φ, L, S, P, s, ht, q⟩ => ?_)
  simp only [wE] at ht
  refine ⟨F, W, φ, L, S, _, s, ht, fun ds L1 S1 H1 W1 φ1 vs h1 s1 t1 r => ⟨by rw [← r.len]; exact h1.1, fun p hp => ?_⟩⟩
  exact (fin_of t1 q).newL s1 h1.2 r hp
theorem se_new {es : List Expr} {l : IEs} {pos : Pos} (h : PA X es (liftA X.K (wEs C l))) : SE X C (.List es pos) (.new l) := by
  refine SE.of rfl (PE.imp (pe_lst h) fun σ H Q ⟨F, W, φ, L, S, P, s, ht, q⟩ => ?_)
  simp only [wE] at ht
  refine ⟨F, W, φ, L, S, _, s, ht, fun ds L1 S1 H1 W1 φ1 vs h1 s1 t1 r => ⟨by rw [← r.len]; exact h1.1, fun p hp => ?_⟩⟩
  obtain ⟨s2, t2⟩ := s1.growS hp (by rw [← r.len]; exact h1.1) r
  refine q _ false L1 _ _ W1 _ (.ref p) h1.2 s2 (t1.trans t2) ?_
  show Rep _ _ _ _ _ _
  simp only [Rep]
  exact ⟨p, rfl, by rw [← s1.st.len.symm]; simp⟩
theorem se_idx {a i : Expr} {ia ii : IE} {pos : Pos} (G : GX c C sc X) (ha : SE X C a ia) (hi : SE X C i ii) (hp : PlainIx i) : SE X C (.Subscript a i pos) (.idx ia ii) := by
  refine SE.of rfl (PE.imp (pe_ix (ixX X) ha.p hi.p hp) fun σ H Q ⟨F, W, φ, L, S, P, s, ht, q⟩ => ?_)
  simp only [wE] at ht
  refine bin_go (a := a) (b := i) s ht fun x y L2 S2 H2 W2 φ2 v u h2 s2 t2 rx ry => ?_
  exact prim_idx rfl G.hu s2 rx ry h2 fun d w hd r => q d false L2 S2 H2 W2 φ2 w hd s2 t2 r
def liftO (K : PySem.W.Frag) (t : Lo → Sto → (Option Int → Lo → Sto → Prop) → Prop) : TO := fun σ H Q => ∃ F W φ L S P, StR K F H W φ L S σ ∧ t L S P ∧
  ∀ o L' S' H' W' φ', P o L' S' → StR K F H' W' φ' L' S' σ → Tr false H φ W H' φ' W' → Q o H'
theorem so_none : PO X none (liftO X.K (wEo C .no)) := PO.imp po_none fun σ H Q ⟨F, W, φ, L, S, P, s, ht, q⟩ => by
  simp only [wEo] at ht
  exact q none L S H W φ ht s Tr.refl
theorem so_some {e : Expr} {i : IE} (h : SE X C e i) : PO X (some e) (liftO X.K (wEo C (.so i))) := PO.imp (po_some h.p) fun σ H Q ⟨F, W, φ, L, S, P, s, ht, q⟩ => by
  simp only [wEo] at ht
  refine ⟨F, W, φ, L, S, _, s, ht, fun x L1 S1 H1 W1 φ1 v h1 s1 t1 r => ?_⟩
  obtain ⟨j, rfl, h1⟩ := h1
  exact ⟨j, r.int, q _ L1 S1 H1 W1 φ1 h1 s1 t1⟩
theorem se_slc {a : Expr} {lo hi : Option Expr} {ia : IE} {il ih : IEo} {p2 pos : Pos} (ha : SE X C a ia) (hl : PO X lo (liftO X.K (wEo C il))) (hh : PO X hi (liftO X.K (wEo C ih))) : SE X C (.Subscript a (.Slice lo hi none p2) pos) (.slcE ia il ih) := by
  refine SE.of rfl (PE.imp (pe_slice (slX X) ha.p hl hh) fun σ H Q ⟨F, W, φ, L, S, P, s, ht, q⟩ => ?_)
  simp only [wE] at ht
  refine ⟨F, W, φ, L, S, _, s, ht, fun x L1 S1 H1 W1 φ1 v h1 s1 t1 r1 => ⟨F, W1, φ1, L1, S1, _, s1, h1, fun l L2 S2 H2 W2 φ2 h2 s2 t2 => ⟨F, W2, φ2, L2, S2, _, s2, h2, fun h L3 S3 H3 W3 φ3 h3 s3 t3 => ?_⟩⟩⟩
  exact prim_slc rfl s3 ((r1.go t2).go t3) h3 (fin_of ((t1.trans t2).trans t3) q)
theorem reps_rev {K : PySem.W.Frag} {H : Hp} {φ : List Addr} {W : Addr → Prop} : ∀ {ds : List D} {vs : List V}, Reps K H φ W ds vs → Reps K H φ W ds.reverse vs.reverse
  | [], [], h => h
  | d :: ds, v :: vs, h => by
    simp only [Reps] at h
    rw [List.reverse_cons, List.reverse_cons]
    exact (reps_rev h.2).append (Reps.cons h.1 Reps.nil)
  | [], _ :: _, h => by simp [Reps] at h
  | _ :: _, [], h => by simp [Reps] at h
theorem se_rev {a : Expr} {ia : IE} {k : Nat} {p1 p2 p3 pos : Pos} (ha : SE X C a ia) : SE X C (.Subscript a (.Slice none none (some (.UnaryOp .USub (.Constant (.int 1) k p1) p2)) p3) pos) (.rev ia) := by
  refine SE.of rfl (PE.imp (pe_revA ha.p) fun σ H Q ⟨F, W, φ, L, S, P, s, ht, q⟩ => ?_)
  simp only [wE] at ht
  refine ⟨F, W, φ, L, S, _, s, ht, fun x L1 S1 H1 W1 φ1 v h1 s1 t1 r1 => ?_⟩
  unfold dRev at h1
  split at h1
  · obtain ⟨a, vs, rfl, e, r⟩ := r1.tup
    exact .inl ⟨a, vs, rfl, e, fun p hp => (fin_of t1 q).newT s1 h1 (reps_rev r) hp⟩
  · obtain ⟨a, vs, rfl, _, e, r⟩ := r1.lst
    exact .inr ⟨a, vs, rfl, SqL.of e, fun p hp => (fin_of t1 q).newL s1 h1 (reps_rev r) hp⟩
  · obtain ⟨a, vs, rfl, ⟨o, e, _⟩, r⟩ := r1.xt
    exact .inl ⟨a, vs, rfl, .inl (.inr ⟨o, e⟩), fun p hp => (fin_of t1 q).newT s1 h1 (reps_rev r) hp⟩
  · exact h1.elim
theorem bootB : ∀ T ∈ ["len", "all", "any", "sum", "min", "max", "isinstance", "sorted", "repr"], bootBuiltins (T : Str) = some (.builtin T) := by decide +kernel
theorem bootT : ∀ T ∈ ["tuple", "list", "int", "str", "bool", "dict", "set"], bootBuiltins (T : Str) = some (.type T) := by decide +kernel
theorem se_blt {f : Str} {T : String} {e : Expr} {es : List Expr} {l : IEs} {p pos : Pos} (G : GX c C sc X) (hg : glb sc f = true) (hf : fine f = true) (hT : f = (T : Str)) (hm : T ∈ ["len", "all", "any", "sum", "min", "max", "tuple", "list", "int", "dict", "sorted"])
    (ha : PA X (e :: es) (liftQ X.K (wPs C l))) (hs : starEach (e :: es) X.env = (false, eval e X.env) :: starEach es X.env) (hpl : (backTo pos (starEach es X.env)).any (·.1) = false) : SE X C (.Call (.Name f p) (e :: es) [] pos) (.blt T l) := by
  obtain ⟨f1, f2, f3⟩ := fine_of hf
  subst hT
  have hb : X.mg (T : Str) = none := G.bi T (by revert hm; simp only [bnames, List.mem_cons, List.not_mem_nil]; grind)
  have hx : T ≠ "xtuple" := by rintro rfl; simp at hm
  have hs2 : T ≠ "sortset" := by rintro rfl; simp at hm
  have hs3 : T ≠ "repr" := by rintro rfl; simp at hm
  have hs4 : T ≠ "str" := by rintro rfl; simp at hm
  have key : PE X (.Call (.Name (T : Str) p) (e :: es) [] pos) (tCB (CaX X (bltV T)) (liftQ X.K (wPs C l))) := by
    by_cases ht : T ∈ types1
    · have e1 : bltV T = .type T := by unfold bltV; rw [if_neg hx, if_pos (by simpa using ht)]
      rw [e1]
      exact pe_callTy (caX X _) (G.gl_ hg) hb (bootT T (by revert ht; simp only [types1, List.mem_cons, List.not_mem_nil]; grind)) ha f3 f1 hs hpl
    · have e1 : bltV T = .builtin T := by unfold bltV; rw [if_neg hx, if_neg (by simpa using ht)]
      rw [e1]
      exact pe_callB (caX X _) (G.gl_ hg) hb (bootB T (by revert hm ht; simp only [types1, List.mem_cons, List.not_mem_nil]; grind)) ha f3 f1 hs hpl
  refine SE.of rfl (PE.imp key fun σ H Q ⟨F, W, φ, L, S, P, s, ht, q⟩ => ?_)
  simp only [wE] at ht
  refine ⟨F, W, φ, L, S, _, s, ht, fun ds L1 S1 H1 W1 φ1 vs h1 s1 t1 r => ?_⟩
  exact prim_blt rfl G.calm s1 r hs2 hs3 hs4 h1 (fin_of t1 q)
/-- repr -/
def rRepr (K : PySem.W.Frag) : List V → Hp → VK → Prop := fun xs H Q => ∃ v d, xs = [v] ∧ ((Dp K H v d ∧ d.hasDict = false) ∨ (d = .dict [] ∧ ∃ a, v = .ref a ∧ Rd H a (.dK []))) ∧ d.showable = true ∧ d.depth ≤ 60 ∧ d.shown.length ≤ sizeLine ∧ Q (.str d.shown) H
theorem cr_repr (gd : X.A.guards = some []) (hu : X.A.units + 200 < cLine) : CallR X (.builtin "repr") (rRepr X.K) := by
  intro pins s σ H xs us Q I r h
  obtain ⟨v, d, rfl, hv, hs, hd, hz, q⟩ := h
  obtain ⟨u, rfl, ru⟩ := r.one
  have fin : ∀ {h' : Heap} {t : Tok} {k : Nat}, (∀ b o, s.heap.get? b = some o → h'.get? b = some o) → EP X pins σ Q (.str d.shown t) { s with heap := h', toks := k } := fun {h' t k} kp => ⟨.str _, H, I.kept kp, ⟨_, rfl⟩, q⟩
  have box : ∀ {a : Addr} {as : List Addr}, Reads s.heap (.ref a) d as → (d.hasDict = true → sysModules ∉ as) → wpAny (model X.prog X.w) X.A (call (.builtin "repr") [.ref a]) (EP X pins σ Q) X.xe s := fun {a as} rd nd =>
    repr_of_reads' rd hs nd gd (by omega) (fun _ _ e => e) (fun h' t tk kp => fin kp) hz
  rcases hv with ⟨hv, nd⟩ | ⟨rfl, a, rfl, ha⟩
  · obtain ⟨as, rd⟩ := Dp.reads I d v u hv ru
    cases rd with
    | none => exact PySem.P.repr_of_none ⟨.str _, H, I.tok _, ⟨_, rfl⟩, q⟩
    | bool b => exact PySem.P.repr_of_bool ⟨.str _, H, I.tok _, ⟨_, rfl⟩, q⟩
    | int i t => exact PySem.P.repr_of_int (by simpa [PyData.showable] using hs) ⟨.str _, H, I.tok _, ⟨_, rfl⟩, q⟩
    | str x t => exact PySem.P.repr_of_str ⟨.str _, H, I.tok _, ⟨_, rfl⟩, q⟩ hz
    | list a b c e => exact box (.list a b c e) fun z => by rw [nd] at z; cases z
    | tuple a b c e => exact box (.tuple a b c e) fun z => by rw [nd] at z; cases z
    | dict a b c e f => cases nd
  · obtain rfl : u = Value.ref a := ru
    obtain ⟨_, hsys, vs, kv, o, es, ep, e1, e2, e3, _, e5, _⟩ := ha.ok I.hok
    have hes : es.toList = [] := by
      cases kv
      generalize es.toList = l at e5
      cases e5
      rfl
    refine box (as := a :: [] ++ []) (.dict e1 e2.1 e3 (by rw [hes]; exact .nil) (by rw [hes]; exact .nil)) fun _ z => ?_
    simp at z
    subst z
    simp at hsys
theorem nodict_tup {l : List PyData} : (PyData.tuple l).hasDict = PyData.hasDictAll l := rfl
theorem blt_repr_ {S : Sto} {x : D} {R : KF} : dBlt S "repr" [x] R = dRepr x fun t => R (.str t) false := by cases x <;> rfl
theorem repr_inv {S : Sto} {R : KF} : ∀ {ds : List D}, dBlt S "repr" ds R → ∃ x, ds = [x]
  | [x], _ => ⟨x, rfl⟩
  | [], h => (show False from h).elim
  | a :: b :: r, h => by cases a <;> cases b <;> cases r <;> exact (show False from h).elim
theorem str_inv {S : Sto} {R : KF} : ∀ {ds : List D}, dBlt S "str" ds R → ∃ x, ds = [.int x]
  | [.int x], _ => ⟨x, rfl⟩
  | [.non], h => (show False from h).elim
  | [.bl _], h => (show False from h).elim
  | [.str _], h => (show False from h).elim
  | [.tup _], h => (show False from h).elim
  | [.lst _], h => (show False from h).elim
  | [.dct _ _], h => (show False from h).elim
  | [.scr _], h => (show False from h).elim
  | [.obj _], h => (show False from h).elim
  | [.xt _], h => (show False from h).elim
  | [.clo _ _ _], h => (show False from h).elim
  | [], h => (show False from h).elim
  | a :: b :: r, h => by cases a <;> cases b <;> cases r <;> exact (show False from h).elim
theorem se_repr {e : Expr} {i : IE} {f : Str} {p pos : Pos} (G : GX c C sc X) (hg : glb sc f = true) (hf : fine f = true) (hT : f = ("repr" : Str)) (ha : PA X [e] (liftQ X.K (wPs C (.cons i .nil)))) (hs : starEach [e] X.env = (false, eval e X.env) :: starEach [] X.env) :
    SE X C (.Call (.Name f p) [e] [] pos) (.blt "repr" (.cons i .nil)) := by
  obtain ⟨f1, f2, f3⟩ := fine_of hf
  subst hT
  have hb : X.mg ("repr" : Str) = none := G.bi "repr" (by simp [bnames])
  have key := pe_callB (pos := pos) (p := p) (cr_repr G.gd G.hu) (G.gl_ hg) hb (bootB "repr" (by simp)) ha f3 f1 hs rfl
  refine SE.of rfl (PE.imp key fun σ H Q ⟨F, W, φ, L, S, P, s, ht, q⟩ => ?_)
  simp only [wE] at ht
  refine ⟨F, W, φ, L, S, _, s, ht, fun ds L1 S1 H1 W1 φ1 vs h1 s1 t1 r => ?_⟩
  obtain ⟨x, rfl⟩ := repr_inv h1
  rw [blt_repr_] at h1
  obtain ⟨v, rfl, h2⟩ := r.one
  obtain ⟨hp, c1, c2, c3, h1⟩ := h1
  refine ⟨v, x.py, rfl, ?_, c1, c2, c3, q _ _ _ _ _ _ _ _ h1 s1 t1 (by show Rep _ _ _ _ _ _; simp only [Rep])⟩
  rcases hp with ⟨hp, hn⟩ | rfl
  · exact .inl ⟨h2.dp hp, hn⟩
  · obtain ⟨a, kvs, rfl, _, e, ek, _⟩ := h2.dct
    have : kvs = [] := by simpa using ek
    subst this
    exact .inr ⟨rfl, a, rfl, e⟩
theorem se_strI {e : Expr} {i : IE} {f : Str} {p pos : Pos} (G : GX c C sc X) (hg : glb sc f = true) (hf : fine f = true) (hT : f = ("str" : Str)) (ha : PA X [e] (liftQ X.K (wPs C (.cons i .nil)))) (hs : starEach [e] X.env = (false, eval e X.env) :: starEach [] X.env) :
    SE X C (.Call (.Name f p) [e] [] pos) (.blt "str" (.cons i .nil)) := by
  obtain ⟨f1, f2, f3⟩ := fine_of hf
  subst hT
  have hb : X.mg ("str" : Str) = none := G.bi "str" (by simp [bnames])
  have key := pe_callTy (pos := pos) (p := p) (call_str_int (X := X)) (G.gl_ hg) hb (bootT "str" (by simp)) ha f3 f1 hs rfl
  refine SE.of rfl (PE.imp key fun σ H Q ⟨F, W, φ, L, S, P, s, ht, q⟩ => ?_)
  simp only [wE] at ht
  refine ⟨F, W, φ, L, S, _, s, ht, fun ds L1 S1 H1 W1 φ1 vs h1 s1 t1 r => ?_⟩
  obtain ⟨x, rfl⟩ := str_inv h1
  obtain ⟨v, rfl, h2⟩ := r.one
  have := h2.int
  subst this
  obtain ⟨c1, h1⟩ : x.natAbs.log2 < 1920 ∧ P (.str (toString x)) false L1 S1 := h1
  exact ⟨x, rfl, c1, q _ _ _ _ _ _ _ _ h1 s1 t1 (by show Rep _ _ _ _ _ _; simp only [Rep])⟩
/-- tuple(xs), told as made of a list -/
theorem se_xt {f : Str} {e : Expr} {l : IEs} {p pos : Pos} (G : GX c C sc X) (hg : glb sc f = true) (hf : fine f = true) (hT : f = ("tuple" : Str))
    (ha : PA X [e] (liftQ X.K (wPs C l))) (hs : starEach [e] X.env = (false, eval e X.env) :: starEach [] X.env) : SE X C (.Call (.Name f p) [e] [] pos) (.blt "xtuple" l) := by
  obtain ⟨f1, f2, f3⟩ := fine_of hf
  subst hT
  refine SE.of rfl (PE.imp (pe_callTy (caX X (.type "tuple")) (G.gl_ hg) (G.bi "tuple" (by simp [bnames])) (bootT "tuple" (by simp)) ha f3 f1 hs rfl) fun σ H Q ⟨F, W, φ, L, S, P, s, ht, q⟩ => ?_)
  simp only [wE] at ht
  exact ⟨F, W, φ, L, S, _, s, ht, fun ds L1 S1 H1 W1 φ1 vs h1 s1 t1 r => prim_blt (T := "xtuple") rfl G.calm s1 r (by decide) (by decide) (by decide) h1 (fin_of t1 q)⟩
theorem sortset_inv {S : Sto} {R : KF} : ∀ {ds : List D}, dBlt S "sortset" ds R → ∃ l, ds = [.lst l]
  | [.lst l], _ => ⟨l, rfl⟩
  | [], h => (show False from h).elim
  | [.non], h => (show False from h).elim
  | [.bl _], h => (show False from h).elim
  | [.int _], h => (show False from h).elim
  | [.str _], h => (show False from h).elim
  | [.tup _], h => (show False from h).elim
  | [.dct _ _], h => (show False from h).elim
  | [.scr _], h => (show False from h).elim
  | [.obj _], h => (show False from h).elim
  | [.xt _], h => (show False from h).elim
  | [.clo _ _ _], h => (show False from h).elim
  | a :: b :: r, h => by cases a <;> cases b <;> cases r <;> exact (show False from h).elim
/-- sorted(set(xs)) -/
theorem se_sortset {f g : Str} {b : Expr} {l : IEs} {p p2 p3 pos : Pos} (G : GX c C sc X) (hg : glb sc f = true) (hf : fine f = true) (hT : f = ("sorted" : Str)) (hg2 : glb sc g = true) (hf2 : fine g = true) (hT2 : g = ("set" : Str))
    (ha : PA X [b] (liftQ X.K (wPs C l))) (hs : starEach [b] X.env = (false, eval b X.env) :: starEach [] X.env) : SE X C (.Call (.Name f p) [.Call (.Name g p2) [b] [] p3] [] pos) (.blt "sortset" l) := by
  obtain ⟨f1, f2, f3⟩ := fine_of hf
  obtain ⟨g1, g2, g3⟩ := fine_of hf2
  subst hT hT2
  have inner := pe_callTy (pos := p3) (p := p2) (cr_words (X := X) G.calm) (G.gl_ hg2) (G.bi "set" (by simp [bnames])) (bootT "set" (by simp)) ha g3 g1 hs rfl
  have key := pe_callB (pos := pos) (p := p) (cr_sortedW (X := X) G.calm) (G.gl_ hg) (G.bi "sorted" (by simp [bnames])) (bootB "sorted" (by simp)) (pa_cons inner pa_nil rfl) f3 f1 rfl rfl
  refine SE.of rfl (PE.imp key fun σ H Q ⟨F, W, φ, L, S, P, s, ht, q⟩ => ?_)
  simp only [wE] at ht
  refine ⟨F, W, φ, L, S, _, s, ht, fun ds L1 S1 H1 W1 φ1 vs h1 s1 t1 r => ?_⟩
  obtain ⟨l0, rfl⟩ := sortset_inv h1
  obtain ⟨ss, h0, few, h1⟩ := h1
  obtain ⟨v, rfl, hv⟩ := r.one
  obtain ⟨a, vs, rfl, _, e, rr⟩ := hv.lst
  have := allS_rep h0 rr; subst this
  refine ⟨a, ss, rfl, SqL.of e, by unfold scanBound; exact few, fun a2 m hm hp => ⟨a2, _, m, rfl, upd_same, by rw [sizeLine_eq]; omega, fun ys p4 y1 y2 y3 _ hp2 => ?_⟩⟩
  have fin : Fin X.K F H1 W1 φ1 L1 S1 σ (fun r g => P r g L1 S1) Q := fin_of t1 q
  have fin2 : Fin X.K F (upd H1 a2 (WsO X.prog X.w a2 (fun k => ss.any (· == k)) m)) W1 φ1 L1 S1 σ (fun r g => P r g L1 S1) Q := fun d f w H' W' hR s' t' vr => fin d f w H' W' hR s' ((Tr.new hp).trans t') vr
  exact fin2.newL (s1.grow hp) (h1 ys y1 y2 fun k => by rw [y3 k, List.any_eq_true]; constructor
                                                        · rintro ⟨x, hx, hk⟩; rw [← eq_of_beq hk]; exact hx
                                                        · intro hk; exact ⟨k, hk, beq_self_eq_true k⟩) (Reps.words ys) hp2
theorem se_isa {T : String} {a : Expr} {ia : IE} {f t : Str} {p p2 pos : Pos} (G : GX c C sc X) (hg : glb sc f = true) (hf : fine f = true) (hfe : f = ("isinstance" : Str)) (hT : T ∈ isTys) (hte : t = (T : Str)) (htg : glb sc t = true) (ha : SE X C a ia)
    (hs : starEach [a, .Name t p2] X.env = (false, eval a X.env) :: starEach [.Name t p2] X.env) : SE X C (.Call (.Name f p) [a, .Name t p2] [] pos) (.isa ia T) := by
  obtain ⟨f1, f2, f3⟩ := fine_of hf
  subst hfe hte
  have hT' : T = "str" ∨ T = "int" ∨ T = "bool" ∨ T = "tuple" ∨ T = "list" ∨ T = "dict" := by simpa [isTys] using hT
  have hTb : T ∈ bnames := by simp only [bnames, List.mem_cons, List.not_mem_nil]; grind
  have pt : PE X (.Name (T : Str) p2) (tC (.ty T)) := pe_bltn (u := .type T) (G.gl_ htg) (G.bi T hTb) (bootT T (by simp only [List.mem_cons, List.not_mem_nil]; grind)) rfl (by rcases hT' with rfl | rfl | rfl | rfl | rfl | rfl <;> decide) (by rcases hT' with rfl | rfl | rfl | rfl | rfl | rfl <;> decide)
  have key := pe_callB (pos := pos) (p := p) (caX X (.builtin "isinstance")) (G.gl_ hg) (G.bi "isinstance" (by simp [bnames])) (bootB "isinstance" (by simp)) (pa_cons ha.p (pa_cons pt pa_nil rfl) hs) f3 f1 hs rfl
  refine SE.of rfl (PE.imp key fun σ H Q ⟨F, W, φ, L, S, P, s, ht, q⟩ => ?_)
  simp only [wE] at ht
  refine ⟨F, W, φ, L, S, _, s, ht, fun d L1 S1 H1 W1 φ1 v h1 s1 t1 r => ?_⟩
  obtain ⟨b, hb, hp⟩ := h1
  exact prim_isa rfl hT hb r (q _ _ L1 S1 H1 W1 φ1 _ hp s1 t1 (by show Rep _ _ _ _ _ _; simp only [Rep]))
end
end Q
/-! Soundness: targets, what is walked, comprehensions. -/
namespace Q
open PySem PySem.Spec PyProof.Rows L2
section
variable {K : PySem.W.Frag} {F : Fr} {H : Hp} {W : Addr → Prop} {φ : List Addr} {L : Lo} {S : Sto} {σ : Sg}
theorem own_set {i j : Nat} {s : Sl} {x : Option V} {a : Addr} (h : ownAt (L.set i s) (σ.set i x) j a) : (j = i ∧ (∃ d, s = .own d) ∧ x = some (.ref a)) ∨ (j ≠ i ∧ ownAt L σ j a) := by
  obtain ⟨⟨d, e⟩, e2⟩ := h
  rcases set_cases e with ⟨rfl, rfl⟩ | ⟨hn, e⟩
  · rcases set_cases e2 with ⟨_, h⟩ | ⟨hn, _⟩
    · exact .inl ⟨rfl, ⟨d, rfl⟩, h.symm⟩
    · exact (hn rfl).elim
  · rcases set_cases e2 with ⟨h, _⟩ | ⟨_, e2⟩
    · exact (hn h).elim
    · exact .inr ⟨hn, ⟨d, e⟩, e2⟩
theorem get_set_self {α : Type} {l : List α} {m : List (Option V)} {i : Nat} {a b : α} {x : Option V} (hl : l.length = m.length) (e : (l.set i a)[i]? = some b) : (m.set i x)[i]? = some x := by
  have := (List.getElem?_eq_some_iff.mp e).1
  simp at this
  exact List.getElem?_set_self (by omega)
/-- a slot is set -/
theorem StR.setVal (s : StR K F H W φ L S σ) {i : Nat} {d : D} {v : V} (r : Rep K H φ W d v) : StR K F H W φ (L.set i (.val d)) S (σ.set i (some v)) where
  ext := s.ext
  dom := s.dom
  wc := s.wc
  wnew := s.wnew
  wt := s.wt
  pre := s.pre
  phi := s.phi
  phw := s.phw
  nd := s.nd
  tb := s.tb
  tt := s.tt
  st := s.st
  lo := by
    refine ⟨by simp [s.lo.len], fun j t e => ?_, fun j k a hj hk => ?_⟩
    · rcases set_cases e with ⟨rfl, rfl⟩ | ⟨hn, h⟩
      · exact ⟨v, get_set_self s.lo.len e, r⟩
      · rw [List.getElem?_set_ne (Ne.symm hn)]; exact s.lo.at_ j t h
    · rcases own_set hj with ⟨rfl, ⟨_, h⟩, _⟩ | ⟨hn, hj⟩
      · cases h
      · rcases own_set hk with ⟨rfl, ⟨_, h⟩, _⟩ | ⟨hn, hk⟩
        · cases h
        · exact s.lo.apart j k a hj hk
theorem StR.setFlag (s : StR K F H W φ L S σ) {i : Nat} {f : Bool} {d : D} {v : V} (r : VR K F H W φ L σ f d v) : StR K F H W φ (L.set i (flag f d)) S (σ.set i (some v)) := by
  cases f with
  | false => exact s.setVal r
  | true =>
    obtain ⟨a, rfl, w, h0, t, no⟩ := r
    refine ⟨s.ext, s.dom, s.wc, s.wnew, s.wt, s.pre, s.phi, s.phw, s.nd, s.tb, s.tt, s.st, by simp [s.lo.len], fun j t' e => ?_, fun j k b hj hk => ?_⟩
    · rcases set_cases e with ⟨rfl, rfl⟩ | ⟨hn, h⟩
      · exact ⟨a, get_set_self s.lo.len e, w, h0, t⟩
      · rw [List.getElem?_set_ne (Ne.symm hn)]; exact s.lo.at_ j t' h
    · rcases own_set hj with ⟨hji, _, e1⟩ | ⟨hn, hj'⟩
      · rcases own_set hk with ⟨hki, _, _⟩ | ⟨hn, hk'⟩
        · rw [hji, hki]
        · cases e1; exact (no k hk').elim
      · rcases own_set hk with ⟨hki, _, e1⟩ | ⟨hn, hk'⟩
        · cases e1; exact (no j hj').elim
        · exact s.lo.apart j k b hj' hk'
end
def liftG (K : PySem.W.Frag) (ix : List Nat) (t : D → Lo → (Lo → Prop) → Prop) : TG := fun v σ H Q => ∃ F W φ L S d P, StR K F H W φ L S σ ∧ Rep K H φ W d v ∧ t d L P ∧
  ∀ L' σ', P L' → StR K F H W φ L' S σ' → σ'.length = σ.length → (∀ j, j ∉ ix → σ'[j]? = σ[j]?) → (∀ j, j ∉ ix → L'[j]? = L[j]?) → Q σ' H
def liftGs (K : PySem.W.Frag) (ix : List Nat) (t : List D → Lo → (Lo → Prop) → Prop) : TGs := fun vs σ H Q => ∃ F W φ L S ds P, StR K F H W φ L S σ ∧ Reps K H φ W ds vs ∧ t ds L P ∧
  ∀ L' σ', P L' → StR K F H W φ L' S σ' → σ'.length = σ.length → (∀ j, j ∉ ix → σ'[j]? = σ[j]?) → (∀ j, j ∉ ix → L'[j]? = L[j]?) → Q σ' H
theorem PG.imp {X : Cx} {e : Expr} {t u : TG} (h : PG X e t) (k : ∀ v σ H Q, u v σ H Q → t v σ H Q) : PG X e u := ⟨fun pins s σ H v uu Q I r hw => h.run pins s σ H v uu Q I r (k v σ H Q hw)⟩
theorem PGs.imp {X : Cx} {e : List Expr} {t u : TGs} (h : PGs X e t) (k : ∀ v σ H Q, u v σ H Q → t v σ H Q) : PGs X e u := ⟨fun pins s σ H v uu Q I r hw => h.run pins s σ H v uu Q I r (k v σ H Q hw)⟩
section
variable {X : Cx} {C : Calls} {c : TC} {sc : Scope}
theorem GX.loc (G : GX c C sc X) {x : Str} (h : (loc sc x || (sc.names.lookup x == some .cell)) = true) : Loc X.env.scope x ∧ (X.fn x = true ∨ X.env.scope.names.lookup x = some .local) := by
  have := G.sc x
  rw [Bool.or_eq_true] at h
  rcases h with h | h
  · unfold Q.loc at h
    split at h
    · rename_i e
      rw [e] at this
      rcases this with z | z
      · exact ⟨.inl z, .inr z⟩
      · cases z.1
    · cases h
  · have h : sc.names.lookup x = some .cell := by simpa using h
    have hf := G.fn x h
    rw [h] at this
    rcases this with z | z
    · exact ⟨.inr z, .inl hf⟩
    · cases z.1
structure TrTs (X : Cx) (es : List Expr) (ts : List IT) : Prop where
  pg : PGs X es (liftGs X.K (IT.ix.ixs ts) (wG.wGs ts))
  n : (assignEach es X.env).length = ts.length
  st : (assignEach es X.env).findIdx? (·.1) = none
mutual
theorem wG_ex : ∀ {t : IT} {d : D} {L : Lo} {P : Lo → Prop}, wG t d L P → ∃ L', P L'
  | .nm i, d, L, P, h => by simp only [wG] at h; exact ⟨_, h⟩
  | .tp ts, d, L, P, h => by
    simp only [wG] at h
    obtain ⟨ds, _, h⟩ := h
    exact (wGs_ex h).2
theorem wGs_ex : ∀ {ts : List IT} {ds : List D} {L : Lo} {P : Lo → Prop}, wG.wGs ts ds L P → ds.length = ts.length ∧ ∃ L', P L'
  | [], [], L, P, h => by simp only [wG.wGs] at h; exact ⟨rfl, _, h⟩
  | [], _ :: _, _, _, h => by simp [wG.wGs] at h
  | _ :: _, [], _, _, h => by simp [wG.wGs] at h
  | t :: ts, d :: ds, L, P, h => by
    simp only [wG.wGs] at h
    obtain ⟨L1, h⟩ := wG_ex h
    obtain ⟨h1, h2⟩ := wGs_ex h
    exact ⟨by simp [h1], h2⟩
end
theorem tr_sound (G : GX c C sc X) : ∀ (n : Nat), (∀ tg t, trT c sc n tg = some t → PG X tg (liftG X.K t.ix (wG t)) ∧ ∀ es, assignEach (tg :: es) X.env = (false, assign tg X.env) :: assignEach es X.env) ∧ (∀ es ts, trTs c sc n es = some ts → TrTs X es ts) := by
  intro n
  induction n with
  | zero =>
    refine ⟨fun tg t h => by simp [trT] at h, fun es ts h => ?_⟩
    cases es with
    | nil =>
      simp [trTs] at h; subst h
      exact ⟨PGs.imp pgs_nil fun vs σ H Q ⟨F, W, φ, L, S, ds, P, s, r, ht, q⟩ => by
        cases ds with
        | cons _ _ => simp [wG.wGs] at ht
        | nil =>
          simp only [wG.wGs] at ht
          cases vs with
          | cons _ _ => simp [Reps] at r
          | nil => exact ⟨rfl, q L σ ht s rfl (fun _ _ => rfl) fun _ _ => rfl⟩, rfl, rfl⟩
    | cons e es => simp [trTs] at h
  | succ n ih =>
    obtain ⟨ih1, ih2⟩ := ih
    refine ⟨fun tg t h => ?_, fun es ts h => ?_⟩
    · cases tg <;> try (simp [trT] at h; done)
      · rename_i x pos
        simp only [trT] at h
        split at h
        · rename_i hl
          obtain ⟨i, hi, rfl⟩ := Option.map_eq_some_iff.mp h
          obtain ⟨l1, l2⟩ := G.loc hl
          refine ⟨PG.imp (pg_name (i := i) (by rw [G.N]; exact G.nd) (by rw [G.N]; exact idx_get hi) l1 l2) fun v σ H Q ⟨F, W, φ, L, S, d, P, s, r, ht, q⟩ => ?_, fun _ => rfl⟩
          simp only [wG] at ht
          refine q _ _ ht (s.setVal r) (by simp) (fun j hj => ?_) fun j hj => ?_
          all_goals
            rw [List.getElem?_set_ne]
            intro e; subst e; exact hj (by simp [IT.ix])
        · cases h
      · rename_i es k pos
        simp only [trT] at h
        obtain ⟨ts, hts, rfl⟩ := Option.map_eq_some_iff.mp h
        have T := ih2 es ts hts
        refine ⟨PG.imp (pg_tup G.calm T.pg T.n T.st) fun v σ H Q ⟨F, W, φ, L, S, d, P, s, r, ht, q⟩ => ?_, fun _ => rfl⟩
        simp only [wG] at ht
        obtain ⟨ds, rfl, ht⟩ := ht
        simp only [Rep] at r
        obtain ⟨a, xs, rfl, hq, r⟩ := r
        exact ⟨a, xs, rfl, hq, by rw [← r.len]; exact (wGs_ex ht).1, F, W, φ, L, S, ds, P, s, r, ht, q⟩
    · cases es with
      | nil =>
        simp [trTs] at h; subst h
        exact ⟨PGs.imp pgs_nil fun vs σ H Q ⟨F, W, φ, L, S, ds, P, s, r, ht, q⟩ => by
          cases ds with
          | cons _ _ => simp [wG.wGs] at ht
          | nil =>
            simp only [wG.wGs] at ht
            cases vs with
            | cons _ _ => simp [Reps] at r
            | nil => exact ⟨rfl, q L σ ht s rfl (fun _ _ => rfl) fun _ _ => rfl⟩, rfl, rfl⟩
      | cons e es =>
        simp only [trTs, Option.bind_eq_bind, Option.bind_eq_some_iff] at h
        obtain ⟨t, ht, ts, hts, h⟩ := h
        cases h
        obtain ⟨p1, st1⟩ := ih1 e t ht
        have T := ih2 es ts hts
        refine ⟨PGs.imp (pgs_cons p1 T.pg (by rw [st1]; rfl)) fun vs σ H Q ⟨F, W, φ, L, S, ds, P, s, r, hw, q⟩ => ?_, ?_, ?_⟩
        · cases ds with
          | nil => simp [wG.wGs] at hw
          | cons d ds =>
            simp only [wG.wGs] at hw
            cases vs with
            | nil => simp [Reps] at r
            | cons v vs =>
              simp only [Reps] at r
              refine ⟨v, vs, rfl, F, W, φ, L, S, d, _, s, r.1, hw, fun L1 σ1 h1 s1 n1 k1 m1 => ⟨F, W, φ, L1, S, ds, P, s1, r.2, h1, fun L2 σ2 h2 s2 n2 k2 m2 => q L2 σ2 h2 s2 (n2.trans n1) (fun j hj => ?_) fun j hj => ?_⟩⟩
              · simp only [IT.ix.ixs, List.mem_append, not_or] at hj
                exact (k2 j hj.2).trans (k1 j hj.1)
              · simp only [IT.ix.ixs, List.mem_append, not_or] at hj
                exact (m2 j hj.2).trans (m1 j hj.1)
        · rw [st1]; simp [T.n]
        · rw [st1]; simp [List.findIdx?_cons, T.st]
end
end Q
/-! Soundness: what is walked, comprehensions. -/
namespace Q
open PySem PySem.Spec PyProof.Rows L2
/-- the i-th of ds comes -/
def ItemR (K : PySem.W.Frag) (H : Hp) (φ : List Addr) (W : Addr → Prop) (ds : List D) (i : Nat) (x : V) (H' : Hp) : Prop :=
  ∃ d, ds[i]? = some d ∧ ((H' = H ∧ Rep K H φ W d x) ∨ ∃ p u v du dv, x = .ref p ∧ H p = none ∧ H' = upd H p (.tup [u, v]) ∧ d = .tup [du, dv] ∧ Rep K H φ W du u ∧ Rep K H φ W dv v)
structure Wk (K : PySem.W.Frag) (ds : List D) (J : It) (H : Hp) (φ : List Addr) (W : Addr → Prop) : Prop where
  ex : ∃ G Y, Walk J ds.length G Y ∧ (∀ H2 φ2 W2, Tr true H φ W H2 φ2 W2 → G H2) ∧ ∀ i H2 φ2 W2 x H3, i < ds.length → Tr true H φ W H2 φ2 W2 → Y i H2 x H3 → ItemR K H2 φ2 W2 ds i x H3
/-- the same, while nothing but new things come about -/
structure Wk0 (K : PySem.W.Frag) (ds : List D) (J : It) (H : Hp) (φ : List Addr) (W : Addr → Prop) : Prop where
  ex : ∃ G Y, Walk J ds.length G Y ∧ (∀ H2 φ2 W2, Tr false H φ W H2 φ2 W2 → G H2) ∧ ∀ i H2 φ2 W2 x H3, i < ds.length → Tr false H φ W H2 φ2 W2 → Y i H2 x H3 → ItemR K H2 φ2 W2 ds i x H3
theorem Wk.to0 {K : PySem.W.Frag} {ds : List D} {J : It} {H : Hp} {φ : List Addr} {W : Addr → Prop} (w : Wk K ds J H φ W) : Wk0 K ds J H φ W := by
  obtain ⟨G, Y, h1, h2, h3⟩ := w.ex
  exact ⟨G, Y, h1, fun H2 φ2 W2 t => h2 H2 φ2 W2 t.weak, fun i H2 φ2 W2 x H3 hi t y => h3 i H2 φ2 W2 x H3 hi t.weak y⟩
def liftJ (K : PySem.W.Frag) (t : Lo → Sto → (List D → Lo → Sto → Prop) → Prop) : TI := fun σ H R => ∃ F W φ L S P, StR K F H W φ L S σ ∧ t L S P ∧
  ∀ ds L' S' H' W' φ' J, P ds L' S' → StR K F H' W' φ' L' S' σ → Tr false H φ W H' φ' W' → Wk0 K ds J H' φ' W' → R J H'
def liftI (K : PySem.W.Frag) (t : Lo → Sto → (List D → Lo → Sto → Prop) → Prop) : TI := fun σ H R => ∃ F W φ L S P, StR K F H W φ L S σ ∧ t L S P ∧
  ∀ ds L' S' H' W' φ' J, P ds L' S' → StR K F H' W' φ' L' S' σ → Tr false H φ W H' φ' W' → Wk K ds J H' φ' W' → R J H'
section
variable {K : PySem.W.Frag} {F : Fr} {H H' : Hp} {W : Addr → Prop} {φ : List Addr} {L : Lo} {S : Sto} {σ : Sg}
theorem ItemR.go {ds : List D} {i : Nat} {x : V} (h : ItemR K H φ W ds i x H') (s : StR K F H W φ L S σ) : ∃ d, ds[i]? = some d ∧ StR K F H' W φ L S σ ∧ Tr false H φ W H' φ W ∧ Rep K H' φ W d x := by
  obtain ⟨d, e, h⟩ := h
  rcases h with ⟨rfl, r⟩ | ⟨p, u, v, du, dv, rfl, hp, rfl, rfl, r1, r2⟩
  · exact ⟨d, e, s, Tr.refl, r⟩
  · refine ⟨_, e, s.grow hp, Tr.new hp, ?_⟩
    simp only [Rep]
    exact ⟨p, [u, v], rfl, .inl (.inl upd_same), Reps.cons (r1.go (S := false) (Tr.new hp)) (Reps.cons (r2.go (S := false) (Tr.new hp)) Reps.nil)⟩
theorem wk_list {a : Addr} {l : List D} {vs : List V} (e : H a = some (.lst vs)) (hw : ¬ W a) (hp : a ∉ φ) (r : Reps K H φ W l vs) : Wk K l (Itl K a) H φ W := by
  refine ⟨_, _, by rw [r.len]; exact walk_list (K := K) (a := a) (xs := vs), fun H2 φ2 W2 t => SqL.of (t.keep _ _ e rfl fun _ => ⟨hp, fun _ => hw⟩), fun i H2 φ2 W2 x H3 hi t y => ?_⟩
  obtain ⟨rfl, hx⟩ := y
  obtain ⟨d, hd, rd⟩ := r.getv hx
  exact ⟨d, hd, .inl ⟨rfl, rd.go t⟩⟩
theorem wk_own {a : Addr} {l : List D} {vs : List V} (e : H a = some (.lst vs)) (hp : a ∉ φ) (r : Reps K H φ W l vs) : Wk0 K l (Itl K a) H φ W := by
  refine ⟨_, _, by rw [r.len]; exact walk_list (K := K) (a := a) (xs := vs), fun H2 φ2 W2 t => SqL.of (t.keep _ _ e rfl fun _ => ⟨hp, fun z => nomatch z⟩), fun i H2 φ2 W2 x H3 hi t y => ?_⟩
  obtain ⟨rfl, hx⟩ := y
  obtain ⟨d, hd, rd⟩ := r.getv hx
  exact ⟨d, hd, .inl ⟨rfl, rd.go t⟩⟩
theorem wk_tup {a : Addr} {l : List D} {vs : List V} (e : SqT K H a vs) (r : Reps K H φ W l vs) : Wk K l (Itt K a) H φ W := by
  refine ⟨_, _, by rw [r.len]; exact walk_tup (K := K) (a := a) (xs := vs), fun H2 φ2 W2 t => SqT.go t e, fun i H2 φ2 W2 x H3 hi t y => ?_⟩
  obtain ⟨rfl, hx⟩ := y
  obtain ⟨d, hd, rd⟩ := r.getv hx
  exact ⟨d, hd, .inl ⟨rfl, rd.go t⟩⟩
theorem wk_scr {a : Addr} {ns : List Int} (e : (∃ o, H a = some (.frz o (.lst (ns.map V.int)))) ∨ SqL K (fun _ => none) a (ns.map V.int)) : Wk K (ns.map .int) (Itl K a) H φ W := by
  refine ⟨_, _, by rw [List.length_map, ← List.length_map (f := V.int)]; exact walk_list (K := K) (a := a) (xs := ns.map V.int), fun H2 φ2 W2 t => (show SqL K H2 a (ns.map V.int) from scr_sq (e.elim (fun ⟨o, e⟩ => .inl ⟨o, t.keep _ _ e rfl (by intro z; cases z)⟩) .inr)), fun i H2 φ2 W2 x H3 hi t y => ?_⟩
  obtain ⟨rfl, hx⟩ := y
  rw [List.getElem?_map] at hx
  obtain ⟨n, hn, rfl⟩ := Option.map_eq_some_iff.mp hx
  exact ⟨.int n, by rw [List.getElem?_map, hn]; rfl, .inl ⟨rfl, by simp only [Rep]⟩⟩
theorem wk_str {z : Str} : Wk K (z.cps.toList.map fun c => .str ⟨#[c]⟩) (Its z) H φ W := by
  refine ⟨_, _, by rw [List.length_map]; exact walk_str (z := z), fun _ _ _ _ => trivial, fun i H2 φ2 W2 x H3 hi t y => ?_⟩
  obtain ⟨rfl, ch, hc, rfl⟩ := y
  refine ⟨.str ⟨#[ch]⟩, ?_, .inl ⟨rfl, by simp only [Rep]⟩⟩
  rw [List.getElem?_map, Array.getElem?_toList, hc]; rfl
theorem wk_rng {lo : Int} {n : Nat} : Wk K (rngList lo n) (Itr lo n) H φ W := by
  refine ⟨_, _, by unfold rngList; rw [List.length_map, List.length_range]; exact walk_range, fun _ _ _ _ => trivial, fun i H2 φ2 W2 x H3 hi t y => ?_⟩
  obtain ⟨rfl, rfl⟩ := y
  have hi : i < n := by simpa [rngList] using hi
  exact ⟨.int (lo + i), by unfold rngList; rw [List.getElem?_map, List.getElem?_range hi]; rfl, .inl ⟨rfl, by simp only [Rep]⟩⟩
theorem zip_get {l m : List D} {i : Nat} {a b : D} (h1 : l[i]? = some a) (h2 : m[i]? = some b) : (List.zipWith (fun u v => D.tup [u, v]) l m)[i]? = some (.tup [a, b]) := by
  rw [List.getElem?_zipWith, h1, h2]
theorem wk_zipL {a b : Addr} {l m : List D} {vs us : List V} (hl : l.length = m.length) (e : H a = some (.lst vs)) (hw : ¬ W a) (hp : a ∉ φ) (r : Reps K H φ W l vs) (e2 : H b = some (.lst us)) (hw2 : ¬ W b) (hp2 : b ∉ φ) (r2 : Reps K H φ W m us) :
    Wk K (List.zipWith (fun u v => .tup [u, v]) l m) (Itz K a b) H φ W := by
  refine ⟨_, _, walk_zip (xs := vs) (ys := us) (by rw [List.length_zipWith, r.len, r2.len]), fun H2 φ2 W2 t => ⟨SqL.of (t.keep _ _ e rfl fun _ => ⟨hp, fun _ => hw⟩), SqL.of (t.keep _ _ e2 rfl fun _ => ⟨hp2, fun _ => hw2⟩)⟩, fun i H2 φ2 W2 x H3 hi t y => ?_⟩
  obtain ⟨T, u, v, rfl, hT, rfl, hu, hv⟩ := y
  obtain ⟨d1, h1, rd1⟩ := r.getv hu
  obtain ⟨d2, h2, rd2⟩ := r2.getv hv
  exact ⟨_, zip_get h1 h2, .inr ⟨T, u, v, d1, d2, rfl, hT, rfl, rfl, rd1.go t, rd2.go t⟩⟩
theorem wk_zipT {a b : Addr} {l m : List D} {vs us : List V} (hl : l.length = m.length) (e : SqT K H a vs) (r : Reps K H φ W l vs) (e2 : SqT K H b us) (r2 : Reps K H φ W m us) :
    Wk K (List.zipWith (fun u v => .tup [u, v]) l m) (RZ.ItzT K a b) H φ W := by
  have hn : (List.zipWith (fun u v => D.tup [u, v]) l m).length = vs.length := by rw [List.length_zipWith, ← r.len, ← hl]; simp
  refine ⟨fun H => SqT K H a vs ∧ SqT K H b us, YPair (fun i => vs[i]?) (fun i => us[i]?), ⟨fun i H hi g => ?_, fun H g => ?_, fun i H x H' hi g y => ?_⟩, fun H2 φ2 W2 t => ⟨SqT.go t e, SqT.go t e2⟩, fun i H2 φ2 W2 x H3 hi t y => ?_⟩
  · rw [hn] at hi
    have hi2 : i < us.length := by rw [← r2.len, ← hl, r.len]; exact hi
    exact ⟨vs, us, vs[i], us[i], g.1, g.2, List.getElem?_eq_getElem hi, List.getElem?_eq_getElem hi2⟩
  · exact ⟨vs, us, g.1, g.2, .inl (by rw [hn]; exact Nat.le_refl _)⟩
  · obtain ⟨T, u, v, h1, h2, h3, h4, h5⟩ := y
    exact ⟨T, u, v, h1, h2, h3, h4 vs g.1, h5 us g.2⟩
  · obtain ⟨T, u, v, rfl, hT, rfl, hu, hv⟩ := y
    obtain ⟨d1, h1, rd1⟩ := r.getv hu
    obtain ⟨d2, h2, rd2⟩ := r2.getv hv
    exact ⟨_, zip_get h1 h2, .inr ⟨T, u, v, d1, d2, rfl, hT, rfl, rfl, rd1.go t, rd2.go t⟩⟩
end
section
variable {X : Cx} {C : Calls} {c : TC} {sc : Scope}
def iAny (K : PySem.W.Frag) (te : TE) : TI := fun σ H R => te σ H fun v H1 => (∃ a, v = .ref a ∧ (∃ xs, SqL K H1 a xs) ∧ R (Itl K a) H1) ∨ (∃ a, v = .ref a ∧ (∃ xs, SqT K H1 a xs) ∧ R (Itt K a) H1) ∨ ∃ z, v = .str z ∧ R (Its z) H1
theorem pi_any {tg e : Expr} {te : TE} (h : PE X e te) : PI X tg e (iAny X.K te) := by
  constructor
  intro pins s0 σ0 H0 R0 I0 h0
  refine thn (h.run pins s0 σ0 H0 _ I0 h0) fun v s1 ⟨x, H1, I1, r1, q1⟩ => ?_
  rcases q1 with ⟨a, rfl, hq, q⟩ | ⟨a, rfl, hq, q⟩ | ⟨z, rfl, q⟩
  · cases (show v = Value.ref a from r1)
    obtain ⟨xs, hq⟩ := hq
    obtain ⟨us, _, lp, _⟩ := I1.list hq
    exact wpAny_pyIter_list lp.isList (pi_one (tk := s1.toks) I1 _ (turn_list a _) ⟨_, Heap.get?_push_size _ rfl, rfl, rfl⟩ q)
  · cases (show v = Value.ref a from r1)
    obtain ⟨xs, hq⟩ := hq
    obtain ⟨us, _, tp, _⟩ := I1.tuple hq
    exact wpAny_pyIter_tuple (items := us.toArray) tp (pi_one (tk := s1.toks) I1 _ (turn_tuple a _) ⟨_, Heap.get?_push_size _ rfl, rfl, rfl⟩ q)
  · obtain ⟨t, e⟩ := (show ∃ t, v = Value.str z t from r1)
    subst e
    cases asc : z.cps.all (· < 128) with
    | true => exact wpAny_pyIter_ascii asc (pi_one (tk := s1.toks) I1 _ (turn_str _ z t _ (.inl rfl)) ⟨_, Heap.get?_push_size _ rfl, rfl, rfl⟩ q)
    | false => exact wpAny_pyIter_wide asc (pi_one (tk := s1.toks) I1 _ (turn_str _ z t _ (.inr rfl)) ⟨_, Heap.get?_push_size _ rfl, rfl, rfl⟩ q)
theorem pi_seq {tg e : Expr} {i : IE} (h : SE X C e i) : PI X tg e (liftI X.K (wI C (.seq i))) := by
  refine PI.imp (pi_any h.v) fun σ H R ⟨F, W, φ, L, S, P, s, ht, q⟩ => ?_
  simp only [wI] at ht
  refine ⟨F, W, φ, L, S, _, s, ht, fun d f L1 S1 H1 W1 φ1 v h1 s1 t1 vr => ?_⟩
  obtain ⟨W2, s2, t2, r⟩ := vr.settle s1
  split at h1
  · simp only [Rep] at r
    obtain ⟨a, vs, rfl, e, r⟩ := r
    exact .inr (.inl ⟨a, rfl, ⟨vs, e⟩, q _ L1 S1 H1 W2 φ1 _ h1 s2 (t1.trans t2) (wk_tup e r)⟩)
  · simp only [Rep] at r
    obtain ⟨a, rfl, w, p, vs, e, r⟩ := r
    exact .inl ⟨a, rfl, ⟨vs, SqL.of e⟩, q _ L1 S1 H1 W2 φ1 _ h1 s2 (t1.trans t2) (wk_list e w p r)⟩
  · simp only [Rep] at r
    obtain ⟨a, rfl, e⟩ := r
    exact .inl ⟨a, rfl, ⟨_, scr_sq e⟩, q _ L1 S1 H1 W2 φ1 _ h1 s2 (t1.trans t2) (wk_scr e)⟩
  · simp only [Rep] at r
    obtain ⟨a, vs, rfl, ⟨o, e, _⟩, r⟩ := r
    have e : SqT X.K H1 a vs := .inl (.inr ⟨o, e⟩)
    exact .inr (.inl ⟨a, rfl, ⟨vs, e⟩, q _ L1 S1 H1 W2 φ1 _ h1 s2 (t1.trans t2) (wk_tup e r)⟩)
  · simp only [Rep] at r
    exact .inr (.inr ⟨_, r, q _ L1 S1 H1 W2 φ1 _ h1 s2 (t1.trans t2) wk_str⟩)
  · exact h1.elim
theorem pi_toJ {tg e : Expr} {t : Lo → Sto → (List D → Lo → Sto → Prop) → Prop} (h : PI X tg e (liftI X.K t)) : PI X tg e (liftJ X.K t) :=
  PI.imp h fun σ H R ⟨F, W, φ, L, S, P, s, ht, q⟩ => ⟨F, W, φ, L, S, P, s, ht, fun ds L' S' H' W' φ' J hp s' t' wk => q ds L' S' H' W' φ' J hp s' t' wk.to0⟩
theorem pi_pk {tg e : Expr} {i : Nat} (h : PE X e (tVar i)) : PI X tg e (liftJ X.K (wI C (.pk i))) := by
  refine PI.imp (pi_any h) fun σ H R ⟨F, W, φ, L, S, P, s, ht, q⟩ => ?_
  simp only [wI] at ht
  split at ht
  · rename_i l e
    obtain ⟨v, e1, r⟩ := s.val e
    simp only [Rep] at r
    obtain ⟨a, vs, rfl, e, r⟩ := r
    exact ⟨_, e1, .inr (.inl ⟨a, rfl, ⟨vs, e⟩, q _ L S H W φ _ ht s Tr.refl (wk_tup e r).to0⟩)⟩
  · rename_i l e
    obtain ⟨v, e1, r⟩ := s.val e
    simp only [Rep] at r
    obtain ⟨a, rfl, w, p, vs, e, r⟩ := r
    exact ⟨_, e1, .inl ⟨a, rfl, ⟨vs, SqL.of e⟩, q _ L S H W φ _ ht s Tr.refl (wk_list e w p r).to0⟩⟩
  · rename_i l e
    obtain ⟨v, e1, r⟩ := s.val e
    simp only [Rep] at r
    obtain ⟨a, vs, rfl, ⟨o, e, _⟩, r⟩ := r
    have e : SqT X.K H a vs := .inl (.inr ⟨o, e⟩)
    exact ⟨_, e1, .inr (.inl ⟨a, rfl, ⟨vs, e⟩, q _ L S H W φ _ ht s Tr.refl (wk_tup e r).to0⟩)⟩
  · rename_i l e
    obtain ⟨a, e1, w, fr, hp, tp⟩ := s.own e
    obtain ⟨vs, hD, r⟩ := tp
    exact ⟨_, e1, .inl ⟨a, rfl, ⟨vs, SqL.of hD⟩, q _ L S H W φ _ ht s Tr.refl (wk_own hD hp r)⟩⟩
  · exact ht.elim
theorem vr_int {K : PySem.W.Frag} {F : Fr} {H : Hp} {W : Addr → Prop} {φ : List Addr} {L : Lo} {S : Sto} {σ : Sg} {f : Bool} {i : Int} {v : V} (s : StR K F H W φ L S σ) (h : VR K F H W φ L σ f (.int i) v) : v = .int i := (h.repP s).int
theorem pi_rng1 {tg a : Expr} {ia : IE} {f : Str} {p pos : Pos} (G : GX c C sc X) (hg : glb sc f = true) (hf : f = ("range" : Str)) (ha : SE X C a ia) (hs : ∀ es, starEach (a :: es) X.env = (false, eval a X.env) :: starEach es X.env) :
    PI X tg (.Call (.Name f p) [a] [] pos) (liftI X.K (wI C (.rng (.cst (.int 0)) ia))) := by
  subst hf
  refine PI.imp (pi_range1 (G.gl_ hg) (G.bi "range" (by simp [bnames])) (pa_cons ha.v pa_nil (hs [])) (hs [])) fun σ H R ⟨F, W, φ, L, S, P, s, ht, q⟩ => ?_
  simp only [wI, wE] at ht
  refine ⟨F, W, φ, L, S, _, s, ht, fun d f L1 S1 H1 W1 φ1 v h1 s1 t1 vr => ?_⟩
  obtain ⟨i, j, e, rfl, _, l2, h1⟩ := h1
  cases e
  have e := vr_int s1 vr
  subst e
  refine ⟨j, rfl, l2.1, l2.2, ?_⟩
  have := q _ L1 S1 H1 W1 φ1 (Itr 0 (j - 0).toNat) h1 s1 t1 wk_rng
  rwa [Int.sub_zero] at this
theorem pi_rng2 {tg a b : Expr} {ia ib : IE} {f : Str} {p pos : Pos} (G : GX c C sc X) (hg : glb sc f = true) (hf : f = ("range" : Str)) (ha : SE X C a ia) (hb : SE X C b ib) (hs : ∀ es, starEach (a :: es) X.env = (false, eval a X.env) :: starEach es X.env) (hs2 : ∀ es, starEach (b :: es) X.env = (false, eval b X.env) :: starEach es X.env) :
    PI X tg (.Call (.Name f p) [a, b] [] pos) (liftI X.K (wI C (.rng ia ib))) := by
  subst hf
  refine PI.imp (pi_range2 (G.gl_ hg) (G.bi "range" (by simp [bnames])) (pa_cons ha.v (pa_cons hb.v pa_nil (hs2 [])) (hs [b])) (by rw [hs, hs2]; rfl) (hs2 [])) fun σ H R ⟨F, W, φ, L, S, P, s, ht, q⟩ => ?_
  simp only [wI] at ht
  refine ⟨F, W, φ, L, S, _, s, ht, fun d f L1 S1 H1 W1 φ1 v h1 s1 t1 vr => ⟨F, W1, φ1, L1, S1, _, s1, h1, fun d2 f2 L2 S2 H2 W2 φ2 v2 h2 s2 t2 vr2 => ?_⟩⟩
  obtain ⟨i, j, rfl, rfl, l1, l2, h2⟩ := h2
  have e := vr_int s1 vr
  have e2 := vr_int s2 vr2
  subst e e2
  exact ⟨i, j, rfl, ⟨l1.1, l1.2, l2.1, l2.2⟩, q _ L2 S2 H2 W2 φ2 _ h2 s2 (t1.trans t2) wk_rng⟩
theorem pi_zip_ {a b : Expr} {elts : List Expr} {kk : Nat} {tpos : Pos} {ia ib : IE} {f : Str} {p pos : Pos} (G : GX c C sc X) (hg : glb sc f = true) (hf : f = ("zip" : Str)) (ha : SE X C a ia) (hb : SE X C b ib) (hs : ∀ es, starEach (a :: es) X.env = (false, eval a X.env) :: starEach es X.env) (hs2 : ∀ es, starEach (b :: es) X.env = (false, eval b X.env) :: starEach es X.env) :
    PI X (.Tuple elts kk tpos) (.Call (.Name f p) [a, b] [] pos) (liftI X.K (wI C (.zip ia ib))) := by
  subst hf
  refine PI.imp (RZ.pi_zipA (G.gl_ hg) (G.bi "zip" (by simp [bnames])) (pa_cons ha.v (pa_cons hb.v pa_nil (hs2 [])) (hs [b])) (hs [b]) (by rw [hs2]; rfl)) fun σ H R ⟨F, W, φ, L, S, P, s, ht, q⟩ => ?_
  simp only [wI] at ht
  refine ⟨F, W, φ, L, S, _, s, ht, fun d f L1 S1 H1 W1 φ1 v h1 s1 t1 vr => ?_⟩
  obtain ⟨W1', s1', t1', r1⟩ := vr.settle s1
  refine ⟨F, W1', φ1, L1, S1, _, s1', h1, fun d2 f2 L2 S2 H2 W2 φ2 v2 h2 s2 t2 vr2 => ?_⟩
  obtain ⟨W2', s2', t2', r2⟩ := vr2.settle s2
  have r1 := (r1.go t2).go t2'
  have tt := (t1.trans t1').trans (t2.trans t2')
  split at h2
  · simp only [Rep] at r1 r2
    obtain ⟨x, vs, rfl, e1, r1⟩ := r1
    obtain ⟨y, us, rfl, e2, r2⟩ := r2
    exact ⟨x, y, vs, us, rfl, .inr ⟨e1, e2, q _ L2 S2 H2 W2' φ2 _ h2.2 s2' tt (wk_zipT h2.1 e1 r1 e2 r2)⟩⟩
  · simp only [Rep] at r1 r2
    obtain ⟨x, rfl, w1, p1, vs, e1, r1⟩ := r1
    obtain ⟨y, rfl, w2, p2, us, e2, r2⟩ := r2
    exact ⟨x, y, vs, us, rfl, .inl ⟨SqL.of e1, SqL.of e2, q _ L2 S2 H2 W2' φ2 _ h2.2 s2' tt (wk_zipL h2.1 e1 w1 p1 r1 e2 w2 p2 r2)⟩⟩
  · exact h2.elim
end
end Q
set_option maxHeartbeats 2000000
/-! enumerate of a tuple. -/
namespace Q
open PySem PySem.Spec PyProof.Rows L2
section
theorem enum_new1 {v : Value} {o : Obj} {B : Heap → Prop} (b : Begins v o B) :
    Meets (Builtin.«enumerate.__new__» ⟨[.type "enumerate", v], []⟩) (fun _ R s => B s.heap ∧
      R (.ok (.ret (.ref (s.heap.push o).objs.size))) { s with heap := (s.heap.push o).push { cls := .type "enumerate", data := .fields #[.none, .bool false, .ref s.heap.objs.size, rawInt 0, .none, .none] } }) :=
  .of_wp fun prog w A R s h => by
    obtain ⟨hp, gg, dd, tk, os⟩ := s
    obtain ⟨hb, hr⟩ := h
    have hsub := sub_enumerate
    have it : ∀ {A' : Around} {E' : Value → Shared → Prop} {Q' : Value → Shared → Prop}, Q' (.ref hp.objs.size) ⟨hp.push o, gg, dd, tk, os⟩ → wpAny (model prog w) A' (pyIter v) Q' E' ⟨hp, gg, dd, tk, os⟩ :=
      fun q => b.iter prog w _ _ ⟨hp, gg, dd, tk, os⟩ _ hb q
    wp_walk using it
    refine wpAny_stack_any fun st => wpAny_pure ?_
    split
    · rename_i c _ _ _ _ _
      cases (c == Value.type "enumerate") <;> (wp_walk using it; exact ⟨_, rfl, hr⟩)
    · wp_walk using it
      exact ⟨_, rfl, hr⟩
section
variable {prog : Program} {w : World} {A : Around} {E : Value → Shared → Prop} {s : Shared}
theorem enum_call1 {v : Value} {o : Obj} {B : Heap → Prop} {Q : Value → Shared → Prop} (b : Begins v o B) (hb : B s.heap)
    (h : ∀ h', IsEnum h' (s.heap.objs.size + 1) s.heap.objs.size 0 .none → h'.get? s.heap.objs.size = some o → (∀ c o, s.heap.get? c = some o → h'.get? c = some o) → Q (.ref (s.heap.objs.size + 1)) { s with heap := h' }) :
    wpAny (model prog w) A (call (.type "enumerate") [v]) Q E s := by
  refine callType_new F.called_enumerate (by decide) (F.typeCall_enumerate_1 _) (F.newCall_enumerate_1 _) (fun obj => F.args_object_init_2 obj _) F.entry_enumerate_new (enum_new1 b) ⟨hb, ?_⟩
  have sz : (s.heap.push o).objs.size = s.heap.objs.size + 1 := Heap.size_push ..
  have e : IsEnum ((s.heap.push o).push { cls := .type "enumerate", data := .fields #[.none, .bool false, .ref s.heap.objs.size, rawInt 0, .none, .none] }) (s.heap.objs.size + 1) s.heap.objs.size 0 .none := by
    have z := Heap.get?_push_size (s.heap.push o) (o := { cls := .type "enumerate", data := .fields #[.none, .bool false, .ref s.heap.objs.size, rawInt 0, .none, .none] }) rfl
    rw [sz] at z
    exact z
  show _ ∧ _
  rw [sz]
  exact ⟨⟨_, e, rfl⟩, h _ e (Heap.get?_push_of_some _ (Heap.get?_push_size _ b.free)) fun c o x => Heap.get?_push_of_some _ (Heap.get?_push_of_some _ x)⟩
end
/-- enumerate of the tuple at a: each item in a new pair -/
def ItE (K : PySem.W.Frag) (a : Addr) : It :=
  ⟨fun i H => ∃ (xs : List V) (x : V), SqT K H a xs ∧ xs[i]? = some x, fun i H v H' => ∃ p x, v = .ref p ∧ H p = none ∧ H' = upd H p (.tup [.int (i : Nat), x]) ∧ ∀ xs, SqT K H a xs → xs[i]? = some x, fun i H => ∃ xs : List V, SqT K H a xs ∧ xs.length = i⟩
theorem turn_enumT {P : Program} {w : World} {K : PySem.W.Frag} {elts : List Expr} {kk : Nat} {tpos : Pos} (a e it : Addr) :
    Turn P w K (.Tuple elts kk tpos) (ItE K a) [e, it] e (fun i h => (∃ old, IsEnum h e it ((i : Nat) : Int) old) ∧ h.IsTupleIter it a i ∧ e ≠ it) where
  mem := by simp
  obj := fun i h st b hb => by
    obtain ⟨⟨old, he⟩, ⟨o, ho, hc, hd⟩, _⟩ := st
    have hb' : b = e ∨ b = it := by simpa using hb
    rcases hb' with rfl | rfl
    · exact ⟨_, he, fun v q => nomatch q⟩
    · exact ⟨o, ho, fun v q => by rw [hd] at q; cases q⟩
  keep := fun i h h' st k => by
    obtain ⟨⟨old, he⟩, hi, hne⟩ := st
    exact ⟨⟨old, k e (by simp) _ he⟩, hi.at fun o q => k it (by simp) o q, hne⟩
  item := by
    intro X hP hw hK hc i pins s σ H E I hf st hg
    subst hP hw hK
    obtain ⟨⟨old, he⟩, hit, hne⟩ := st
    obtain ⟨xs, x, hq, hx⟩ := hg
    obtain ⟨its, rv, p, hz⟩ := I.tuple hq
    obtain ⟨u, hu, ru⟩ := rv.get hx
    have htup : s.heap.IsTuple a its.toArray := p
    have hel : e < s.heap.objs.size := Heap.lt_size he
    have hil : it < s.heap.objs.size := by obtain ⟨_, q, _⟩ := hit; exact Heap.lt_size q
    have hea : e ≠ a := fun z => by
      obtain ⟨o, ho, hc, _⟩ := htup
      subst z
      rw [he] at ho
      cases ho
      exact absurd (Value.type.inj hc) (by decide)
    have hia : a ≠ it := fun z => by
      obtain ⟨o, ho, hc, _⟩ := htup
      obtain ⟨o2, ho2, hc2, _⟩ := hit
      rw [z, ho2] at ho
      cases ho
      rw [hc2] at hc
      exact absurd (Value.type.inj hc) (by decide)
    have D := Draws.tuple (prog := X.prog) (w := X.w) (A := X.A.in1) (I.ok.hd hc) it a hia its.toArray
    have hlt : i < its.toArray.size := by
      have := (List.getElem?_eq_some_iff.mp hu).1
      simpa using this
    refine wpAny_pyNext_enum_itemD D he ⟨hit, htup⟩ hlt hne (by simp [hne, hea]) fun y h' tk hy ho hst' hT hsz hk => ?_
    have ey : y = u := by
      have : its.toArray[i]? = some u := by simpa using hu
      rw [this] at hy
      exact (Option.some.inj hy).symm
    subst ey
    refine ⟨_, rfl, wpAny_letOwnedTupleGo_enum (s := { s with heap := h', toks := tk + 1 }) ho fun h'' he' sb => ?_⟩
    have hT2 : h''.get? s.heap.objs.size = some { cls := .type "tuple", data := .seq #[.int i tk, y] } := (sb.2 _ (Nat.ne_of_gt hel)).trans hT
    have new : ObjOk X.prog X.w (upd H s.heap.objs.size (.tup [.int (i : Nat), x])) h'' s.heap.objs.size (.tup [.int (i : Nat), x]) :=
      ⟨by show 2 ≤ sizeLine; decide, [.int i tk, y], .cons ⟨_, rfl⟩ (.cons ru .nil), ⟨_, hT2, rfl, _, rfl⟩⟩
    have I1 : Inv X pins σ (upd H s.heap.objs.size (.tup [.int (i : Nat), x])) { s with heap := h'', toks := tk + 1 } :=
      I.turnedNew (ch := [e, it]) (fun b ob hb q => (sb.2 b (fun z => hb (by simp [z]))).trans (hk b ob (fun z => hb (by simp [z])) (fun z => hb (by simp [z])) q)) hf (Nat.le_refl _) new
    refine ⟨.ref s.heap.objs.size, _, I1, rfl, ⟨_, x, rfl, I.hok.fresh (Nat.le_refl _), rfl, fun ys hy => by rw [I.tuple_inj hy hq]; exact hx⟩, ⟨⟨y, ?_⟩, hst'.1.at fun o q => (sb.2 it (Ne.symm hne)).trans q, hne⟩, fun b hb => ?_⟩
    · have e1 : ((i + 1 : Nat) : Int) = (i : Int) + 1 := by omega
      rw [e1]; exact he'
    · have hb' : b < s.heap.objs.size := by
        have e' : b = e ∨ b = it := by simpa using hb
        rcases e' with rfl | rfl
        · exact hel
        · exact hil
      rw [upd_ne (Nat.ne_of_lt hb')]
      exact (hf b hb).1
  done := by
    intro X hP hw hK hc i pins s σ H E I hf st hg
    subst hP hw hK
    obtain ⟨⟨old, he⟩, hit, hne⟩ := st
    obtain ⟨xs, hq, hx⟩ := hg
    obtain ⟨its, rv, p, hz⟩ := I.tuple hq
    have htup : s.heap.IsTuple a its.toArray := p
    obtain ⟨f0, f1, f2, f3, f4, f5⟩ := hf it (by simp)
    have hl := rv.length
    have hia : a ≠ it := fun z => by
      obtain ⟨o, ho, hc, _⟩ := htup
      obtain ⟨o2, ho2, hc2, _⟩ := hit
      rw [z, ho2] at ho
      cases ho
      rw [hc2] at hc
      exact absurd (Value.type.inj hc) (by decide)
    have D := Draws.tuple (prog := X.prog) (w := X.w) (A := X.A.in1) (I.ok.hd hc) it a hia its.toArray
    have ei : its.toArray.size = i := by rw [List.size_toArray, ← hl]; exact hx
    refine wpAny_pyNext_enum_endD D he (by rw [ei]; exact ⟨hit, htup⟩) fun h' eb => ⟨rfl, I.turned (t' := s.toks) (fun b o hb q => eb b o hb q) f0 f1 f3 f4 f5⟩
  self := fun A i s Q E st h => let ⟨⟨_, he⟩, _⟩ := st; wpAny_pyIter_enum he h
def iEnm (K : PySem.W.Frag) (ta : TA) : TI := fun σ H R => ta σ H fun vs H1 => ∃ a, vs = [.ref a] ∧ ((∃ xs, SqL K H1 a xs) ∧ R (Ite K a) H1 ∨ (∃ xs, SqT K H1 a xs) ∧ R (ItE K a) H1)
theorem pi_enmA {X : Cx} {e : Expr} {ta : TA} {p pos tpos : Pos} {elts : List Expr} {kk : Nat} (hg : Gl X "enumerate") (hm : X.mg "enumerate" = none) (ha : PA X [e] ta) (hs : starEach [e] X.env = [(false, eval e X.env)]) :
    PI X (.Tuple elts kk tpos) (.Call (.Name "enumerate" p) [e] [] pos) (iEnm X.K ta) := by
  refine ⟨fun pins s σ H R I h => ?_⟩
  refine Call_ (ld_blt I hg hm boot_enumerate (PyProof.Rows.callWith_type1 (thn (ha.run pos pins s σ H _ I h) fun us s1 hh => ?_) hs rfl))
  obtain ⟨vs, H1, I1, r1, a, rfl, q⟩ := hh
  cases r1 with
  | cons r rr =>
    cases rr
    cases r
    have new : ∀ b ∈ [s1.heap.objs.size + 1, s1.heap.objs.size], s1.heap.objs.size ≤ b := fun b hb => by
      have : b = s1.heap.objs.size + 1 ∨ b = s1.heap.objs.size := by simpa using hb
      omega
    rcases q with ⟨⟨xs, hq⟩, q⟩ | ⟨⟨xs, hq⟩, q⟩
    · obtain ⟨its, rv, p', hz⟩ := I1.list hq
      refine enum_call1 (begins_list a its.toArray) p'.isList fun h' he hit hk => wpAny_pyIter_enum he ?_
      exact ⟨s1.heap.objs.size + 1, [s1.heap.objs.size + 1, s1.heap.objs.size], _, _, H1, rfl, I1.kept (t' := s1.toks) hk, turn_enum a (s1.heap.objs.size + 1) s1.heap.objs.size, ⟨⟨.none, he⟩, ⟨_, hit, rfl, rfl⟩, Nat.succ_ne_self _⟩, fun b hb => I1.fpOk (new b hb) (I1.hok.fresh (new b hb)), q⟩
    · obtain ⟨its, rv, p', hz⟩ := I1.tuple hq
      refine enum_call1 (begins_tuple a its.toArray) p' fun h' he hit hk => wpAny_pyIter_enum he ?_
      exact ⟨s1.heap.objs.size + 1, [s1.heap.objs.size + 1, s1.heap.objs.size], _, _, H1, rfl, I1.kept (t' := s1.toks) hk, turn_enumT a (s1.heap.objs.size + 1) s1.heap.objs.size, ⟨⟨.none, he⟩, ⟨_, hit, rfl, rfl⟩, Nat.succ_ne_self _⟩, fun b hb => I1.fpOk (new b hb) (I1.hok.fresh (new b hb)), q⟩
end
section
variable {K : PySem.W.Frag} {H : Hp} {W : Addr → Prop} {φ : List Addr}
theorem enumD_get {l : List D} {i : Nat} {d : D} (h : l[i]? = some d) : (enumD l)[i]? = some (.tup [.int i, d]) := by
  unfold enumD
  rw [List.getElem?_mapIdx, h]; rfl
theorem wk_enmL {a : Addr} {l : List D} {vs : List V} (e : H a = some (.lst vs)) (hw : ¬ W a) (hp : a ∉ φ) (r : Reps K H φ W l vs) : Wk K (enumD l) (Ite K a) H φ W := by
  have hn : (enumD l).length = vs.length := by unfold enumD; rw [List.length_mapIdx, r.len]
  refine ⟨fun H => SqL K H a vs, fun i H v H' => ∃ p x, v = .ref p ∧ H p = none ∧ H' = upd H p (.tup [.int (i : Nat), x]) ∧ vs[i]? = some x, ⟨fun i H hi g => ?_, fun H g => ⟨vs, g, by rw [hn]; exact Nat.le_refl _⟩, fun i H x H' hi g y => ?_⟩, fun H2 φ2 W2 t => SqL.of (t.keep _ _ e rfl fun _ => ⟨hp, fun _ => hw⟩), fun i H2 φ2 W2 x H3 hi t y => ?_⟩
  · rw [hn] at hi
    exact ⟨vs, vs[i], g, List.getElem?_eq_getElem hi⟩
  · obtain ⟨p, u, h1, h2, h3, h4⟩ := y
    exact ⟨p, u, h1, h2, h3, h4 vs g⟩
  · obtain ⟨p, u, rfl, h2, rfl, h4⟩ := y
    obtain ⟨d, hd, rd⟩ := r.getv h4
    exact ⟨_, enumD_get hd, .inr ⟨p, .int i, u, .int i, d, rfl, h2, rfl, rfl, by simp only [Rep], rd.go t⟩⟩
theorem wk_enmT {a : Addr} {l : List D} {vs : List V} (e : SqT K H a vs) (r : Reps K H φ W l vs) : Wk K (enumD l) (ItE K a) H φ W := by
  have hn : (enumD l).length = vs.length := by unfold enumD; rw [List.length_mapIdx, r.len]
  refine ⟨fun H => SqT K H a vs, fun i H v H' => ∃ p x, v = .ref p ∧ H p = none ∧ H' = upd H p (.tup [.int (i : Nat), x]) ∧ vs[i]? = some x, ⟨fun i H hi g => ?_, fun H g => ⟨vs, g, hn.symm⟩, fun i H x H' hi g y => ?_⟩, fun H2 φ2 W2 t => SqT.go t e, fun i H2 φ2 W2 x H3 hi t y => ?_⟩
  · rw [hn] at hi
    exact ⟨vs, vs[i], g, List.getElem?_eq_getElem hi⟩
  · obtain ⟨p, u, h1, h2, h3, h4⟩ := y
    exact ⟨p, u, h1, h2, h3, h4 vs g⟩
  · obtain ⟨p, u, rfl, h2, rfl, h4⟩ := y
    obtain ⟨d, hd, rd⟩ := r.getv h4
    exact ⟨_, enumD_get hd, .inr ⟨p, .int i, u, .int i, d, rfl, h2, rfl, rfl, by simp only [Rep], rd.go t⟩⟩
end
section
variable {X : Cx} {C : Calls} {c : TC} {sc : Scope}
theorem pi_enm {a : Expr} {elts : List Expr} {kk : Nat} {tpos : Pos} {ia : IE} {f : Str} {p pos : Pos} (G : GX c C sc X) (hg : glb sc f = true) (hf : f = ("enumerate" : Str)) (ha : SE X C a ia) (hs : ∀ es, starEach (a :: es) X.env = (false, eval a X.env) :: starEach es X.env) :
    PI X (.Tuple elts kk tpos) (.Call (.Name f p) [a] [] pos) (liftI X.K (wI C (.enm ia))) := by
  subst hf
  refine PI.imp (pi_enmA (G.gl_ hg) (G.bi "enumerate" (by simp [bnames])) (pa_cons ha.v pa_nil (hs [])) (hs [])) fun σ H R ⟨F, W, φ, L, S, P, s, ht, q⟩ => ?_
  simp only [wI] at ht
  refine ⟨F, W, φ, L, S, _, s, ht, fun d f L1 S1 H1 W1 φ1 v h1 s1 t1 vr => ?_⟩
  obtain ⟨W1', s1', t1', r1⟩ := vr.settle s1
  have tt := t1.trans t1'
  split at h1
  · simp only [Rep] at r1
    obtain ⟨x, vs, rfl, e1, r1⟩ := r1
    exact ⟨x, rfl, .inr ⟨⟨vs, e1⟩, q _ L1 S1 H1 W1' φ1 _ h1 s1' tt (wk_enmT e1 r1)⟩⟩
  · simp only [Rep] at r1
    obtain ⟨x, rfl, w1, p1, vs, e1, r1⟩ := r1
    exact ⟨x, rfl, .inl ⟨⟨vs, SqL.of e1⟩, q _ L1 S1 H1 W1' φ1 _ h1 s1' tt (wk_enmL e1 w1 p1 r1)⟩⟩
  · exact h1.elim
end
end Q
/-! Soundness: comprehensions. -/
namespace Q
open PySem PySem.Spec PyProof.Rows L2
section
variable {K : PySem.W.Frag} {F : Fr} {H H' : Hp} {W : Addr → Prop} {φ : List Addr} {L : Lo} {S : Sto} {σ : Sg}
theorem wipeL_get : ∀ {vs : List Nat} {L : Lo} {j : Nat}, (wipeL L vs)[j]? = if j ∈ vs then L[j]?.map (fun _ => Sl.no) else L[j]?
  | [], L, j => by simp [wipeL]
  | v :: vs, L, j => by
    unfold wipeL
    by_cases hj : v = j
    · subst hj
      rw [if_pos List.mem_cons_self]
      by_cases hl : v < L.length
      · rw [List.getElem?_set_self (by rw [wipeL_len]; exact hl), List.getElem?_eq_getElem hl]; rfl
      · rw [List.getElem?_eq_none (by simp [wipeL_len]; omega), List.getElem?_eq_none (by omega)]; rfl
    · rw [List.getElem?_set_ne hj, wipeL_get]
      simp only [List.mem_cons, show ¬ j = v from fun e => hj e.symm, false_or]
where
  wipeL_len : ∀ {vs : List Nat} {L : Lo}, (wipeL L vs).length = L.length
  | [], L => rfl
  | v :: vs, L => by unfold wipeL; rw [List.length_set, wipeL_len]
theorem wipe_get : ∀ {vs : List Nat} {σ : Sg} {j : Nat}, (wipe σ vs)[j]? = if j ∈ vs then σ[j]?.map (fun _ => none) else σ[j]?
  | [], σ, j => by simp [wipe]
  | v :: vs, σ, j => by
    unfold wipe
    by_cases hj : v = j
    · subst hj
      rw [if_pos List.mem_cons_self]
      by_cases hl : v < σ.length
      · rw [List.getElem?_set_self (by rw [wipe_length]; exact hl), List.getElem?_eq_getElem hl]; rfl
      · rw [List.getElem?_eq_none (by simp [wipe_length]; omega), List.getElem?_eq_none (by omega)]; rfl
    · rw [List.getElem?_set_ne hj, wipe_get]
      simp only [List.mem_cons, show ¬ j = v from fun e => hj e.symm, false_or]
theorem wipe_eq {vs : List Nat} {σ σ' : Sg} (hl : σ'.length = (wipe σ vs).length) (h : ∀ j, j ∉ vs → σ'[j]? = (wipe σ vs)[j]?) : wipe σ' vs = wipe σ vs := by
  apply List.ext_getElem?
  intro j
  rw [wipe_get, wipe_get]
  by_cases hj : j ∈ vs
  · rw [if_pos hj, if_pos hj]
    rw [wipe_length] at hl
    by_cases hlt : j < σ.length
    · rw [List.getElem?_eq_getElem hlt, List.getElem?_eq_getElem (by omega)]; rfl
    · rw [List.getElem?_eq_none (by omega), List.getElem?_eq_none (by omega)]
  · rw [if_neg hj, if_neg hj, h j hj, wipe_get, if_neg hj]
theorem StR.wipe (s : StR K F H W φ L S σ) (vs : List Nat) : StR K F H W φ (wipeL L vs) S (L2.wipe σ vs) where
  ext := s.ext
  dom := s.dom
  wc := s.wc
  wnew := s.wnew
  wt := s.wt
  pre := s.pre
  phi := s.phi
  phw := s.phw
  nd := s.nd
  tb := s.tb
  tt := s.tt
  st := s.st
  lo := by
    refine ⟨by rw [wipeL_get.wipeL_len, wipe_length]; exact s.lo.len, fun j t e => ?_, fun j k a hj hk => ?_⟩
    · rw [wipeL_get] at e
      by_cases hj : j ∈ vs
      · rw [if_pos hj] at e
        obtain ⟨_, _, rfl⟩ := Option.map_eq_some_iff.mp e
        trivial
      · rw [if_neg hj] at e
        rw [wipe_get, if_neg hj]
        exact s.lo.at_ j t e
    · have get : ∀ j, ownAt (wipeL L vs) (L2.wipe σ vs) j a → ownAt L σ j a := fun j ⟨⟨d, e⟩, e2⟩ => by
        rw [wipeL_get] at e
        by_cases hj : j ∈ vs
        · rw [if_pos hj] at e
          obtain ⟨_, _, z⟩ := Option.map_eq_some_iff.mp e
          cases z
        · rw [if_neg hj] at e
          rw [wipe_get, if_neg hj] at e2
          exact ⟨⟨d, e⟩, e2⟩
      exact s.lo.apart j k a (get j hj) (get k hk)
/-- behind the block: the slots as they were -/
theorem StR.unwipe {H1 : Hp} {W1 : Addr → Prop} {φ1 : List Addr} {S1 : Sto} {vs : List Nat} (s : StR K F H W φ (wipeL L vs) S (L2.wipe σ vs)) (s1 : StR K F H1 W1 φ1 L S1 σ) (t : Tr false H1 φ1 W1 H φ W) (no : ∀ i, i ∈ vs → ∀ d, L[i]? ≠ some (.own d)) : StR K F H W φ L S σ where
  ext := s.ext
  dom := s.dom
  wc := s.wc
  wnew := s.wnew
  wt := s.wt
  pre := s.pre
  phi := s.phi
  phw := s.phw
  nd := s.nd
  tb := s.tb
  tt := s.tt
  st := s.st
  lo := by
    refine ⟨s1.lo.len, fun j x e => ?_, s1.lo.apart⟩
    cases x with
    | no => trivial
    | val d => obtain ⟨v, e1, r⟩ := s1.val e; exact ⟨v, e1, r.go t⟩
    | own d =>
      have hj : j ∉ vs := fun h => no j h d e
      have := s.lo.at_ j (.own d) (by rw [wipeL_get, if_neg hj]; exact e)
      rw [wipe_get, if_neg hj] at this
      exact this
def Fr.guard (F : Fr) (p : Addr) : Fr := { F with Wc := fun a => F.Wc a ∨ a = p }
theorem StR.guard (s : StR K F H W φ L S σ) {p : Addr} (hw : W p) (no : ∀ i, ¬ ownAt L σ i p) : StR K (F.guard p) H W φ L S σ where
  ext := s.ext
  dom := s.dom
  wc := fun a h => h.elim (s.wc a) fun e => by rw [e]; exact hw
  wnew := fun a h => (s.wnew a h).elim (fun z => .inl (.inl z)) .inr
  wt := s.wt
  pre := s.pre
  phi := s.phi
  phw := s.phw
  nd := s.nd
  tb := s.tb
  tt := s.tt
  st := s.st
  lo := by
    refine ⟨s.lo.len, fun j t e => ?_, s.lo.apart⟩
    cases t with
    | no => trivial
    | val d => exact s.lo.at_ j _ e
    | own d =>
      obtain ⟨a, e1, w, fr, tp⟩ := s.lo.at_ j _ e
      exact ⟨a, e1, w, ⟨fr.1, fun z => z.elim fr.2 fun z => no j ⟨⟨d, e⟩, by rw [← z]; exact e1⟩⟩, tp⟩
theorem StR.unguard {p : Addr} (s : StR K (F.guard p) H W φ L S σ) (hp : F.H0 p = none) : StR K F H W φ L S σ ∧ ∀ i, ¬ ownAt L σ i p := by
  refine ⟨⟨s.ext, s.dom, fun a h => s.wc a (.inl h), fun a h => (s.wnew a h).elim (fun z => z.elim .inl fun e => .inr (by rw [e]; exact hp)) .inr, s.wt, s.pre, s.phi, s.phw, s.nd, s.tb, s.tt, s.st, s.lo.len, fun j t e => ?_, s.lo.apart⟩, fun i ⟨⟨d, e⟩, e2⟩ => ?_⟩
  · cases t with
    | no => trivial
    | val d => exact s.lo.at_ j _ e
    | own d =>
      obtain ⟨a, e1, w, fr, tp⟩ := s.lo.at_ j _ e
      exact ⟨a, e1, w, ⟨fr.1, fun z => fr.2 (.inl z)⟩, tp⟩
  · obtain ⟨a, e1, w, fr, tp⟩ := s.lo.at_ i _ e
    rw [e2] at e1; cases e1
    exact fr.2 (.inr rfl)
theorem Tr.updW {p : Addr} {o u : HO} (hw : W p) (h : H p = some u) (hm : isM u = true) : Tr true H φ W (upd H p o) φ W :=
  ⟨fun a x e nt q => by
    by_cases ha : a = p
    · subst ha; rw [h] at e; cases e; exact ((q hm).2 rfl hw).elim
    · rw [upd_ne ha]; exact e, fun _ h => .inl h, fun a z => by
    unfold upd at z; split at z
    · cases z
    · exact z, List.prefix_refl _, fun _ h => .inl h, fun a ps e => ⟨ps, by
    have ha : a ≠ p := fun z => by rw [z, h] at e; cases e; cases hm
    rw [upd_ne ha]; exact e⟩⟩
theorem Top.upd {p a : Addr} {o u : HO} {d : D} (t : Top K H φ W d a) (ha : a ≠ p) (hw : W p) (h : H p = some u) (hm : isM u = true) : Top K (L2.upd H p o) φ W d a := by
  cases d with
  | lst l => obtain ⟨vs, q, r⟩ := t; exact ⟨vs, by rw [upd_ne ha]; exact q, r.go (Tr.updW hw h hm)⟩
  | dct ks l => obtain ⟨vs, q, k, r⟩ := t; exact ⟨vs, by rw [upd_ne ha]; exact q, k, r.go (Tr.updW hw h hm)⟩
  | _ => exact t.elim
/-- what is written at an address that the code holds alone, in no slot -/
theorem StR.updW (s : StR K F H W φ L S σ) {p : Addr} {o u : HO} (hw : W p) (h : H p = some u) (hm : isM u = true) (ho : isM o = true) (h0 : F.H0 p = none) (no : ∀ i, ¬ ownAt L σ i p) : StR K F (upd H p o) W φ L S σ where
  ext := fun a x e nt q => by
    have ha : a ≠ p := fun z => by rw [z, h0] at e; cases e
    rw [upd_ne ha]; exact s.ext a x e nt q
  dom := fun a z => s.dom a (by
    unfold upd at z; split at z
    · cases z
    · exact z)
  wc := s.wc
  wnew := s.wnew
  wt := fun a w => by
    by_cases ha : a = p
    · subst ha; exact ⟨o, upd_same, ho⟩
    · obtain ⟨x, e, m⟩ := s.wt a w; exact ⟨x, by rw [upd_ne ha]; exact e, m⟩
  pre := s.pre
  phi := s.phi
  phw := s.phw
  nd := s.nd
  tb := s.tb.go fun b x e nm => by
    have hb : b ≠ p := fun z => by rw [z, h] at e; cases e; exact nk_of hm nm
    rw [upd_ne hb]; exact e
  tt := fun a ps z => by
    obtain ⟨ps', e⟩ := s.tt a ps z
    have ha : a ≠ p := fun z => by rw [z, h] at e; cases e; cases hm
    exact ⟨ps', by rw [upd_ne ha]; exact e⟩
  st := ⟨s.st.len, fun n a l e1 e2 => by
    obtain ⟨vs, q, z, r⟩ := s.st.at_ n a l e1 e2
    have ha : a ≠ p := fun z => s.phw a (List.mem_of_getElem? e1) (by rw [z]; exact hw)
    exact ⟨vs, by rw [upd_ne ha]; exact q, z, r.go (Tr.updW hw h hm)⟩⟩
  lo := by
    refine ⟨s.lo.len, fun j t e => ?_, s.lo.apart⟩
    cases t with
    | no => trivial
    | val d => obtain ⟨v, e1, r⟩ := s.val e; exact ⟨v, e1, r.go (Tr.updW hw h hm)⟩
    | own d =>
      obtain ⟨a, e1, w, fr, tp⟩ := s.lo.at_ j _ e
      have ha : a ≠ p := fun z => no j ⟨⟨d, e⟩, by rw [← z]; exact e1⟩
      exact ⟨a, e1, w, fr, tp.upd ha hw h hm⟩
end
end Q
/-! Soundness: comprehensions, the loops. -/
namespace Q
open PySem PySem.Spec PyProof.Rows L2
section
variable {K : PySem.W.Frag} {F : Fr} {H H1 : Hp} {W W1 : Addr → Prop} {φ φ1 : List Addr} {L L1 : Lo} {S : Sto} {σ : Sg} {p : Addr}
theorem Tr.updF {b : Bool} {W' : Addr → Prop} {o : HO} (t : Tr b H1 φ1 W1 H φ W) (hp : H1 p = none) (hw : ∀ a, W' a → W a) : Tr b H1 φ1 W1 (upd H p o) φ W' :=
  ⟨fun a u e nt q => by rw [upd_ne (ne_of_none e hp)]; exact t.keep a u e nt q, fun a z => t.w a (hw a z), fun a z => t.dom a (by
    unfold upd at z; split at z
    · cases z
    · exact z), t.pre, t.phi, fun a ps e => by
    obtain ⟨ps', e'⟩ := t.tt a ps e
    have ha : a ≠ p := ne_of_none e hp
    exact ⟨ps', by rw [upd_ne ha]; exact e'⟩⟩
theorem app_step {f : Bool} {d : D} {y : V} {accD : List D} {accV : List V} (s : StR K (F.guard p) H W φ L S σ) (h0 : F.H0 p = none) (hD : H p = some (.lst accV)) (ra : Reps K H φ W accD accV) (vr : VR K (F.guard p) H W φ L σ f d y) :
    ∃ W', StR K (F.guard p) (upd H p (.lst (accV ++ [y]))) W' φ L S σ ∧ Reps K (upd H p (.lst (accV ++ [y]))) φ W' (accD ++ [d]) (accV ++ [y]) ∧ ∀ a, W' a → W a := by
  obtain ⟨W2, s2, t2, r⟩ := vr.settle s
  have hw : W2 p := s2.wc p (.inr rfl)
  have no := (s2.unguard h0).2
  have tw : Tr true H φ W2 (upd H p (.lst (accV ++ [y]))) φ W2 := Tr.updW hw hD rfl
  refine ⟨W2, s2.updW hw hD rfl rfl h0 no, ((ra.go t2).append (Reps.cons r Reps.nil)).go tw, fun a w => ?_⟩
  rcases t2.w a w with z | z
  · exact z
  · obtain ⟨o, e, _⟩ := s2.wt a w; rw [z] at e; cases e
end
section
variable {X : Cx}
theorem drop_cons {α : Type} {l : List α} {i : Nat} {a : α} (h : l[i]? = some a) : l.drop i = a :: l.drop (i + 1) := by
  obtain ⟨hi, e⟩ := List.getElem?_eq_some_iff.mp h
  rw [List.drop_eq_getElem_cons hi, e]
/-- one clause -/
theorem comp_go {K : PySem.W.Frag} {F : Fr} {H1 : Hp} {W1 : Addr → Prop} {φ1 : List Addr} {L1 : Lo} {S1 : Sto} {σ : Sg} {vs ix : List Nat} {ds : List D} {J : It} {t : D → Lo → (Lo → Prop) → Prop} {cn : Lo → Sto → KT → Prop} {e : Lo → Sto → KE → Prop} {Pend : List D → Sto → Prop} {Q : VK} {p : Addr}
    (s1 : StR K F H1 W1 φ1 L1 S1 σ) (wk : Wk0 K ds J H1 φ1 W1) (hix : ∀ i, i ∈ ix → i ∈ vs) (no : ∀ i, i ∈ vs → ∀ d, L1[i]? ≠ some (.own d)) (hp : H1 p = none)
    (hc : compL t cn e (wipeL L1 vs) ds S1 [] Pend)
    (q : ∀ acc S' H' W' φ' , Pend acc S' → StR K F H' W' φ' L1 S' σ → Tr false H1 φ1 W1 H' φ' W' → VR K F H' W' φ' L1 σ true (.lst acc) (.ref p) → Q (.ref p) H') :
    ∃ W : Nat → Nat → Hp → Prop, (∃ m, W 0 m (upd H1 p (.lst []))) ∧ ∀ i m H, W i m H →
      (J.stop i H ∧ Q (.ref p) H) ∨ (J.go i H ∧ ∃ Nx : Hp → Prop, (∀ H', Nx H' → ∃ m', m' < m ∧ W (i + 1) m' H') ∧ ∀ x H', J.yld i H x H' → liftG K ix t x (wipe σ vs) H' fun σ2 H2 => wipe σ2 vs = wipe σ vs ∧ liftT K cn σ2 H2 fun b H3 =>
        if b = true then liftE K e σ2 H3 fun y H4 => ∃ acc, H4 p = some (.lst acc) ∧ acc.length < sizeLine ∧ Nx (upd H4 p (.lst (acc ++ [y]))) else Nx H3) := by
  obtain ⟨G, Y, hwalk, hG, hY⟩ := wk.ex
  have h0 : F.H0 p = none := s1.dom p hp
  refine lc_it hwalk (fun i H => ∃ W φ S accD accV, StR K (F.guard p) H W φ (wipeL L1 vs) S (wipe σ vs) ∧ Tr false H1 φ1 W1 H φ W ∧ H p = some (.lst accV) ∧ Reps K H φ W accD accV ∧ compL t cn e (wipeL L1 vs) (ds.drop i) S accD Pend) ?_ ?_ ?_ ?_
  · have sw := s1.wipe vs
    have sg := sw.growW (o := .lst []) hp rfl (sw.phN hp)
    exact ⟨_, φ1, S1, [], [], sg.guard (.inr rfl) (by intro i hi; exact sw.noOwn hp i hi), Tr.newW hp, upd_same, Reps.nil, hc⟩
  · rintro i H hi ⟨W, φ, S, accD, accV, s, tr, hD, ra, hcc⟩
    exact hG H φ W tr
  · rintro i x H H' hi ⟨W, φ, S, accD, accV, s, tr, hD, ra, hcc⟩ hy
    obtain ⟨d, hd, s', t', rd⟩ := (hY i H φ W x H' hi tr hy).go s
    rw [drop_cons hd] at hcc
    simp only [compL] at hcc
    have hpp : p ∉ φ := s.phO (s.wc p (.inr rfl))
    have hD' : H' p = some (.lst accV) := t'.keep p _ hD rfl fun _ => ⟨hpp, fun z => nomatch z⟩
    refine ⟨F.guard p, W, φ, wipeL L1 vs, S, d, _, s', rd, hcc, fun L' σ' hP sg hlen hσ hL => ?_⟩
    have ew : wipe σ' vs = wipe σ vs := wipe_eq hlen fun j hj => hσ j fun z => hj (hix j z)
    refine ⟨ew, F.guard p, W, φ, L', S, _, sg, hP, fun b L2 S2 H3 W3 φ3 hb s3 t3 => ?_⟩
    obtain ⟨rfl, hb⟩ := hb
    have hpp3 : p ∉ φ3 := s3.phO (s3.wc p (.inr rfl))
    have hD3 : H3 p = some (.lst accV) := t3.keep p _ hD' rfl fun _ => ⟨hpp, fun z => nomatch z⟩
    have eL : wipeL L2 vs = wipeL L1 vs := by
      apply List.ext_getElem?
      intro j
      rw [wipeL_get, wipeL_get]
      have hl : L2.length = L1.length := by
        have e1 := sg.lo.len
        rw [hlen] at e1
        rw [e1, wipe_length]; exact s1.lo.len.symm
      by_cases hj : j ∈ vs
      · rw [if_pos hj, if_pos hj]
        by_cases hlt : j < L1.length
        · rw [List.getElem?_eq_getElem hlt, List.getElem?_eq_getElem (by omega)]; rfl
        · rw [List.getElem?_eq_none (by omega), List.getElem?_eq_none (by omega)]
      · rw [if_neg hj, if_neg hj, hL j (fun z => hj (hix j z)), wipeL_get, if_neg hj]
    have back : ∀ {H W φ S}, StR K (F.guard p) H W φ L2 S σ' → StR K (F.guard p) H W φ (wipeL L1 vs) S (wipe σ vs) := fun {H W φ S} sx => by
      have := sx.wipe vs
      rw [eL, ew] at this
      exact this
    cases b with
    | false =>
      rw [if_neg (by decide)] at hb ⊢
      exact ⟨W3, φ3, S2, accD, accV, back s3, (tr.trans t').trans t3, hD3, (ra.go t').go t3, hb⟩
    | true =>
      rw [if_pos rfl] at hb ⊢
      refine ⟨F.guard p, W3, φ3, L2, S2, _, s3, hb, fun r f L3 S3 H4 W4 φ4 y hr s4 t4 vr => ?_⟩
      obtain ⟨rfl, hz, hr⟩ := hr
      have hD4 : H4 p = some (.lst accV) := t4.keep p _ hD3 rfl fun _ => ⟨hpp3, fun z => nomatch z⟩
      have ra4 := ((ra.go t').go t3).go t4
      obtain ⟨W5, s5, r5, w5⟩ := app_step s4 h0 hD4 ra4 vr
      refine ⟨accV, hD4, by rw [← ra.len]; exact hz, W5, φ4, S3, _, _, back s5, (((tr.trans t').trans t3).trans t4).updF hp w5, upd_same, r5, hr⟩
  · rintro H ⟨W, φ, S, accD, accV, s, tr, hD, ra, hcc⟩
    rw [List.drop_length] at hcc
    simp only [compL] at hcc
    obtain ⟨su, nou⟩ := s.unguard h0
    have sx := su.unwipe s1 tr no
    refine q accD S H W φ hcc sx tr ⟨p, rfl, s.wc p (.inr rfl), ⟨h0, fun z => ?_⟩, ⟨accV, hD, ra⟩, fun i hi => ?_⟩
    · obtain ⟨o, eo, _⟩ := s1.wt p (s1.wc p z)
      rw [hp] at eo; cases eo
    · exact s1.noOwn hp i hi
end
end Q
/-! Soundness: comprehensions, the rules. -/
namespace Q
open PySem PySem.Spec PyProof.Rows L2
section
variable {K : PySem.W.Frag} {F : Fr} {H H1 : Hp} {W W1 : Addr → Prop} {φ φ1 : List Addr} {L L1 : Lo} {S S1 : Sto} {σ σ1 : Sg} {p : Addr}
/-- the slots as they were, but for some that hold no list alone -/
theorem StR.restore {b : Bool} {ix : List Nat} (s : StR K F H W φ L S σ) (s1 : StR K F H1 W1 φ1 L1 S1 σ1) (t : Tr b H1 φ1 W1 H φ W) (hL : ∀ j, j ∉ ix → L[j]? = L1[j]?) (hσ : ∀ j, j ∉ ix → σ[j]? = σ1[j]?) (no : ∀ i, i ∈ ix → ∀ d, L1[i]? ≠ some (.own d)) : StR K F H W φ L1 S σ1 where
  ext := s.ext
  dom := s.dom
  wc := s.wc
  wnew := s.wnew
  wt := s.wt
  pre := s.pre
  phi := s.phi
  phw := s.phw
  nd := s.nd
  tb := s.tb
  tt := s.tt
  st := s.st
  lo := by
    refine ⟨s1.lo.len, fun j x e => ?_, s1.lo.apart⟩
    cases x with
    | no => trivial
    | val d => obtain ⟨v, e1, r⟩ := s1.val e; exact ⟨v, e1, r.go t⟩
    | own d =>
      have hj : j ∉ ix := fun h => no j h d e
      have := s.lo.at_ j (.own d) (by rw [hL j hj]; exact e)
      rw [hσ j hj] at this
      exact this
end
/-- two clauses -/
theorem comp2_go {K : PySem.W.Frag} {F : Fr} {H1 : Hp} {W1 : Addr → Prop} {φ1 : List Addr} {L1 : Lo} {S1 : Sto} {σ : Sg} {vs ix ix1 : List Nat} {ds : List D} {J : It} {t t1 : D → Lo → (Lo → Prop) → Prop} {src : Lo → Sto → (List D → Lo → Sto → Prop) → Prop} {e : Lo → Sto → KE → Prop} {Pend : List D → Sto → Prop} {Q : VK} {p : Addr}
    (s1 : StR K F H1 W1 φ1 L1 S1 σ) (wk : Wk K ds J H1 φ1 W1) (hix : ∀ i, i ∈ ix → i ∈ vs) (hix1 : ∀ i, i ∈ ix1 → i ∈ vs) (no : ∀ i, i ∈ vs → ∀ d, L1[i]? ≠ some (.own d)) (hp : H1 p = none)
    (hval : ∀ d L P, t d L P → t d L fun L' => (∀ i d', i ∈ vs → L'[i]? = some (.own d') → L[i]? = some (.own d')) ∧ P L')
    (hc : compL2 t1 src e t ix1 (wipeL L1 vs) ds S1 [] Pend)
    (q : ∀ acc S' H' W' φ' , Pend acc S' → StR K F H' W' φ' L1 S' σ → Tr false H1 φ1 W1 H' φ' W' → VR K F H' W' φ' L1 σ true (.lst acc) (.ref p) → Q (.ref p) H') :
    ∃ W : Nat → Nat → Hp → Prop, (∃ m, W 0 m (upd H1 p (.lst []))) ∧ ∀ i m H, W i m H →
      (J.stop i H ∧ Q (.ref p) H) ∨ (J.go i H ∧ ∃ Nx : Hp → Prop, (∀ H', Nx H' → ∃ m', m' < m ∧ W (i + 1) m' H') ∧ ∀ x H', J.yld i H x H' → liftG K ix t x (wipe σ vs) H' fun σ2 H2 => wipe σ2 vs = wipe σ vs ∧ tYes σ2 H2 fun b H3 =>
        if b = true then liftI K src σ2 H3 fun J1 H4 => ∃ W1 : Nat → Nat → Hp → Prop, (∃ m, W1 0 m H4) ∧ ∀ j k H, W1 j k H →
          (J1.stop j H ∧ Nx H) ∨ (J1.go j H ∧ ∃ Nx1 : Hp → Prop, (∀ H', Nx1 H' → ∃ k', k' < k ∧ W1 (j + 1) k' H') ∧ ∀ x H', J1.yld j H x H' → liftG K ix1 t1 x (wipe σ2 ix1) H' fun σ3 H5 => wipe σ3 ix1 = wipe σ2 ix1 ∧ tYes σ3 H5 fun b H6 =>
            if b = true then liftE K e σ3 H6 fun y H7 => ∃ acc, H7 p = some (.lst acc) ∧ acc.length < sizeLine ∧ Nx1 (upd H7 p (.lst (acc ++ [y]))) else Nx1 H6)
        else Nx H3) := by
  obtain ⟨G, Y, hwalk, hG, hY⟩ := wk.ex
  have h0 : F.H0 p = none := s1.dom p hp
  let Pv : Nat → Hp → Prop := fun i H => ∃ W φ S accD accV, StR K (F.guard p) H W φ (wipeL L1 vs) S (wipe σ vs) ∧ Tr false H1 φ1 W1 H φ W ∧ H p = some (.lst accV) ∧ Reps K H φ W accD accV ∧ compL2 t1 src e t ix1 (wipeL L1 vs) (ds.drop i) S accD Pend
  have nowipe : ∀ i, i ∈ vs → ∀ d, (wipeL L1 vs)[i]? ≠ some (.own d) := fun i hi d z => by
    rw [wipeL_get, if_pos hi] at z
    obtain ⟨_, _, h⟩ := Option.map_eq_some_iff.mp z
    cases h
  refine ⟨fun i m H => m = ds.length - i ∧ i ≤ ds.length ∧ Pv i H, ⟨ds.length, by simp, Nat.zero_le _, ?_⟩, ?_⟩
  · have sw := s1.wipe vs
    have sg := sw.growW (o := .lst []) hp rfl (sw.phN hp)
    exact ⟨_, φ1, S1, [], [], sg.guard (.inr rfl) (by intro i hi; exact sw.noOwn hp i hi), Tr.newW hp, upd_same, Reps.nil, hc⟩
  · rintro i m H ⟨rfl, hi, W, φ, S, accD, accV, s, tr, hD, ra, hcc⟩
    have g := hG H φ W tr.weak
    by_cases hlt : i < ds.length
    · refine .inr ⟨hwalk.goes i H hlt g, Pv (i + 1), fun H' pv => ⟨ds.length - (i + 1), by omega, rfl, hlt, pv⟩, fun x H' y => ?_⟩
      obtain ⟨d, hd, s', t', rd⟩ := (hY i H φ W x H' hlt tr.weak (hwalk.yields i H x H' hlt g y)).go s
      rw [drop_cons hd] at hcc
      simp only [compL2] at hcc
      have hpp : p ∉ φ := s.phO (s.wc p (.inr rfl))
      have hD' : H' p = some (.lst accV) := t'.keep p _ hD rfl fun _ => ⟨hpp, fun z => nomatch z⟩
      refine ⟨F.guard p, W, φ, wipeL L1 vs, S, d, _, s', rd, hval _ _ _ hcc, fun L' σ' hP sg hlen hσ hL => ?_⟩
      obtain ⟨hno, hP⟩ := hP
      have noL' : ∀ i, i ∈ vs → ∀ d, L'[i]? ≠ some (.own d) := fun i hi d z => nowipe i hi d (hno i d hi z)
      refine ⟨wipe_eq hlen fun j hj => hσ j fun z => hj (hix j z), ?_⟩
      unfold tYes
      dsimp only
      rw [if_pos rfl]
      refine ⟨F.guard p, W, φ, L', S, _, sg, hP, fun xs L2 S2 H4 W4 φ4 J1 hx s4 t4 wk1 => ?_⟩
      obtain ⟨rfl, hx⟩ := hx
      obtain ⟨G1, Y1, hwalk1, hG1, hY1⟩ := wk1.ex
      have hD4 : H4 p = some (.lst accV) := t4.keep p _ hD' rfl fun _ => ⟨hpp, fun z => nomatch z⟩
      let Pv1 : Nat → Hp → Prop := fun j H => ∃ W φ S accD accV, StR K (F.guard p) H W φ (wipeL L2 ix1) S (wipe σ' ix1) ∧ Tr false H1 φ1 W1 H φ W ∧ Tr true H4 φ4 W4 H φ W ∧ H p = some (.lst accV) ∧ Reps K H φ W accD accV ∧ compL t1 (fun L S k => k true L S) e (wipeL L2 ix1) (xs.drop j) S accD (fun acc' S3 => compL2 t1 src e t ix1 (wipeL L1 vs) (ds.drop (i + 1)) S3 acc' Pend)
      refine ⟨fun j k H => k = xs.length - j ∧ j ≤ xs.length ∧ Pv1 j H, ⟨xs.length, by simp, Nat.zero_le _, W4, φ4, S2, accD, accV, s4.wipe ix1, (tr.trans t').trans t4, Tr.refl, hD4, (ra.go t').go t4, hx⟩, ?_⟩
      rintro j k H5 ⟨rfl, hj, W5, φ5, S5, accD5, accV5, s5, tr5, tt5, hD5, ra5, hcc5⟩
      have g1 := hG1 H5 φ5 W5 tt5
      by_cases hlt1 : j < xs.length
      · refine .inr ⟨hwalk1.goes j H5 hlt1 g1, Pv1 (j + 1), fun H' pv => ⟨xs.length - (j + 1), by omega, rfl, hlt1, pv⟩, fun x1 H6 y1 => ?_⟩
        obtain ⟨d1, hd1, s6, t6, rd1⟩ := (hY1 j H5 φ5 W5 x1 H6 hlt1 tt5 (hwalk1.yields j H5 x1 H6 hlt1 g1 y1)).go s5
        rw [drop_cons hd1] at hcc5
        simp only [compL] at hcc5
        have hpp5 : p ∉ φ5 := s5.phO (s5.wc p (.inr rfl))
        have hD6 : H6 p = some (.lst accV5) := t6.keep p _ hD5 rfl fun _ => ⟨hpp5, fun z => nomatch z⟩
        refine ⟨F.guard p, W5, φ5, wipeL L2 ix1, S5, d1, _, s6, rd1, hcc5, fun L3 σ3 hP3 sg3 hlen3 hσ3 hL3 => ?_⟩
        have ew : wipe σ3 ix1 = wipe σ' ix1 := wipe_eq hlen3 hσ3
        refine ⟨ew, ?_⟩
        rw [if_pos rfl]
        obtain ⟨_, hP3⟩ := hP3
        rw [if_pos trivial] at hP3
        refine ⟨F.guard p, W5, φ5, L3, S5, _, sg3, hP3, fun r f L6 S6 H7 W7 φ7 yv hr s7 t7 vr => ?_⟩
        obtain ⟨rfl, hz, hr⟩ := hr
        have hD7 : H7 p = some (.lst accV5) := t7.keep p _ hD6 rfl fun _ => ⟨hpp5, fun z => nomatch z⟩
        have ra7 := (ra5.go t6).go t7
        obtain ⟨W8, s8, r8, w8⟩ := app_step s7 h0 hD7 ra7 vr
        have tt8 : Tr true H4 φ4 W4 (upd H7 p (.lst (accV5 ++ [yv]))) φ7 W8 := by
          have a1 := (tt5.trans t6.weak).trans t7.weak
          refine ⟨fun a o ea nt qa => ?_, fun a w => a1.w a (w8 a w), fun a z => a1.dom a (by
            unfold upd at z; split at z
            · cases z
            · exact z), a1.pre, a1.phi, fun a ps e => by
            obtain ⟨ps', e'⟩ := a1.tt a ps e
            have hap : a ≠ p := fun z => by rw [z, hD7] at e'; cases e'
            exact ⟨ps', by rw [upd_ne hap]; exact e'⟩⟩
          by_cases hap : a = p
          · subst hap
            rw [hD4] at ea; cases ea
            exact ((qa rfl).2 rfl (s4.wc a (.inr rfl))).elim
          · rw [upd_ne hap]; exact a1.keep a o ea nt qa
        refine ⟨accV5, hD7, by rw [← ra5.len]; exact hz, W8, φ7, S6, _, _, s8.restore (s4.wipe ix1) tt8 hL3 hσ3 (fun i hi d z => by
          rw [wipeL_get, if_pos hi] at z
          obtain ⟨_, _, h⟩ := Option.map_eq_some_iff.mp z
          cases h), (((tr5.trans t6).trans t7)).updF hp w8, tt8, upd_same, r8, hr⟩
      · have e : j = xs.length := by omega
        subst e
        rw [List.drop_length] at hcc5
        simp only [compL] at hcc5
        refine .inl ⟨hwalk1.stops H5 g1, W5, φ5, S5, accD5, accV5, ?_, tr5, hD5, ra5, hcc5⟩
        have tt' : Tr true H φ W H5 φ5 W5 := ((t'.weak).trans t4.weak).trans tt5
        refine s5.restore s tt' (ix := vs) (fun j hj => ?_) (fun j hj => ?_) nowipe
        · rw [wipeL_get, if_neg fun z => hj (hix1 j z)]; exact hL j fun z => hj (hix j z)
        · rw [wipe_get, if_neg fun z => hj (hix1 j z)]; exact hσ j fun z => hj (hix j z)
    · have e : i = ds.length := by omega
      subst e
      rw [List.drop_length] at hcc
      simp only [compL2] at hcc
      obtain ⟨su, nou⟩ := s.unguard h0
      have sx := su.unwipe s1 tr no
      refine .inl ⟨hwalk.stops H g, q accD S H W φ hcc sx tr ⟨p, rfl, s.wc p (.inr rfl), ⟨h0, fun z => ?_⟩, ⟨accV, hD, ra⟩, fun i hi => ?_⟩⟩
      · obtain ⟨o, eo, _⟩ := s1.wt p (s1.wc p z)
        rw [hp] at eo; cases eo
      · exact s1.noOwn hp i hi
mutual
theorem wG_mono : ∀ {t : IT} {d : D} {L : Lo} {P P' : Lo → Prop}, (∀ L, P L → P' L) → wG t d L P → wG t d L P'
  | .nm i, d, L, P, P', k, h => by simp only [wG] at h ⊢; exact k _ h
  | .tp ts, d, L, P, P', k, h => by
    simp only [wG] at h ⊢
    obtain ⟨ds, e, h⟩ := h
    exact ⟨ds, e, wGs_mono k h⟩
theorem wGs_mono : ∀ {ts : List IT} {ds : List D} {L : Lo} {P P' : Lo → Prop}, (∀ L, P L → P' L) → wG.wGs ts ds L P → wG.wGs ts ds L P'
  | [], [], L, P, P', k, h => by simp only [wG.wGs] at h ⊢; exact k _ h
  | [], _ :: _, _, _, _, k, h => by simp [wG.wGs] at h
  | _ :: _, [], _, _, _, k, h => by simp [wG.wGs] at h
  | t :: ts, d :: ds, L, P, P', k, h => by
    simp only [wG.wGs] at h ⊢
    exact wG_mono (fun L1 h1 => wGs_mono k h1) h
end
mutual
/-- a target makes no list its own -/
theorem wG_val : ∀ {t : IT} {d : D} {L : Lo} {P : Lo → Prop}, wG t d L P → wG t d L fun L' => (∀ (i : Nat) d', L'[i]? = some (.own d') → L[i]? = some (.own d')) ∧ P L'
  | .nm i, d, L, P, h => by
    simp only [wG] at h ⊢
    refine ⟨fun j d' e => ?_, h⟩
    rcases set_cases e with ⟨_, h⟩ | ⟨_, h⟩
    · cases h
    · exact h
  | .tp ts, d, L, P, h => by
    simp only [wG] at h ⊢
    obtain ⟨ds, e, h⟩ := h
    exact ⟨ds, e, wGs_val h⟩
theorem wGs_val : ∀ {ts : List IT} {ds : List D} {L : Lo} {P : Lo → Prop}, wG.wGs ts ds L P → wG.wGs ts ds L fun L' => (∀ (i : Nat) d', L'[i]? = some (.own d') → L[i]? = some (.own d')) ∧ P L'
  | [], [], L, P, h => by simp only [wG.wGs] at h ⊢; exact ⟨fun _ _ e => e, h⟩
  | [], _ :: _, _, _, h => by simp [wG.wGs] at h
  | _ :: _, [], _, _, h => by simp [wG.wGs] at h
  | t :: ts, d :: ds, L, P, h => by
    simp only [wG.wGs] at h ⊢
    exact wG_mono (fun L1 h1 => wGs_mono (fun L2 h2 => ⟨fun i d' e => h1.1 i d' (h2.1 i d' e), h2.2⟩) (wGs_val h1.2)) (wG_val h)
end
end Q
/-! Soundness: displays of dicts. -/
namespace Q
open PySem PySem.Spec PyProof.Rows L2
section
variable {X : Cx} {C : Calls} {c : TC} {sc : Scope}
/-- the pairs of a display -/
structure Dsp (X : Cx) (C : Calls) (pos : Pos) (keys : List (Option Expr)) (ks : List Str) (vs : List Expr) (l : IEs) : Prop where
  ex : ∃ trs, PPs X pos keys vs trs ∧ ∀ σ H (Q : List (V × V) → Hp → Prop) F W φ L S P, StR X.K F H W φ L S σ → wEs C l L S P →
    (∀ ds L' S' H' W' φ' us, P ds L' S' → StR X.K F H' W' φ' L' S' σ → Tr false H φ W H' φ' W' → Reps X.K H' φ' W' ds us → us.length = ks.length → Q (List.zipWith (fun k u => (V.str k, u)) ks us) H') → tPairs trs σ H Q
theorem dsp_nil {pos : Pos} : Dsp X C pos [] [] [] .nil := ⟨[], L2.pps_nil, fun σ H Q F W φ L S P s h q => by
  simp only [wEs] at h
  exact q [] L S H W φ [] h s Tr.refl Reps.nil rfl⟩
theorem dsp_cons {pos p : Pos} {j : Nat} {k : Str} {keys : List (Option Expr)} {ks : List Str} {e : Expr} {vs : List Expr} {i : IE} {l : IEs} (h : SE X C e i) (hr : Dsp X C pos keys ks vs l) : Dsp X C pos (some (.Constant (.str k) j p) :: keys) (k :: ks) (e :: vs) (.cons i l) := by
  obtain ⟨trs, hp, hs⟩ := hr.ex
  refine ⟨(tC (.str k), liftE X.K (wE C i)) :: trs, L2.pps_cons pe_str h.v hp, fun σ H Q F W φ L S P s ht q => ?_⟩
  simp only [wEs] at ht
  refine ⟨F, W, φ, L, S, _, s, ht, fun d f L1 S1 H1 W1 φ1 v h1 s1 t1 vr => ?_⟩
  obtain ⟨W2, s2, t2, r⟩ := vr.settle s1
  refine hs σ H1 _ F W2 φ1 L1 S1 _ s2 h1 fun ds L2 S2 H3 W3 φ3 us h3 s3 t3 rs hl => ?_
  exact q _ L2 S2 H3 W3 φ3 (v :: us) h3 s3 ((t1.trans t2).trans t3) (Reps.cons (r.go t3) rs) (by simp [hl])
theorem zip_kv : ∀ {ks : List Str} {us : List V}, us.length = ks.length → List.zipWith (fun k u => (V.str k, u)) ks us = (List.zipWith (fun k u => ((Sum.inr k : Key), u)) ks us).map fun kv => (kV kv.1, kv.2)
  | [], [], _ => rfl
  | k :: ks, u :: us, h => by simp only [List.zipWith_cons_cons, List.map_cons]; rw [zip_kv (by simpa using h)]; rfl
  | [], _ :: _, h => by simp at h
  | _ :: _, [], h => by simp at h
theorem zip_k : ∀ {ks : List Str} {us : List V}, us.length = ks.length → (List.zipWith (fun k u => ((Sum.inr k : Key), u)) ks us).map (·.1) = ks.map Sum.inr
  | [], [], _ => rfl
  | k :: ks, u :: us, h => by simp only [List.zipWith_cons_cons, List.map_cons]; rw [zip_k (by simpa using h)]
  | [], _ :: _, h => by simp at h
  | _ :: _, [], h => by simp at h
theorem zip_v : ∀ {ks : List Str} {us : List V}, us.length = ks.length → (List.zipWith (fun k u => ((Sum.inr k : Key), u)) ks us).map (·.2) = us
  | [], [], _ => rfl
  | k :: ks, u :: us, h => by simp only [List.zipWith_cons_cons, List.map_cons]; rw [zip_v (by simpa using h)]
  | [], _ :: _, h => by simp at h
  | _ :: _, [], h => by simp at h
theorem se_dct0 {pos : Pos} : SE X C (.Dict [] [] pos) (.dct [] .nil) := by
  refine SE.of rfl (PE.imp pe_dnewK fun σ H Q ⟨F, W, φ, L, S, P, s, ht, q⟩ => ?_)
  simp only [wE, wEs] at ht
  intro p hp
  exact Fin.newD (kvs := []) (R := fun d f => P d f L S) (fun d f w H' W' hr s' t' vr => q d f L S H' W' φ w hr s' t' vr) s ht.2 rfl Reps.nil hp
theorem se_dct {keys : List (Option Expr)} {ks : List Str} {vs : List Expr} {l : IEs} {pos : Pos} (h : Dsp X C pos keys ks vs l) (hall : keys.all (·.isSome) = true) (hl : keys.length = vs.length) (h0 : keys ≠ []) (h15 : keys.length ≤ 15) : SE X C (.Dict keys vs pos) (.dct ks l) := by
  obtain ⟨trs, hp, hs⟩ := h.ex
  refine SE.of rfl (PE.imp (pe_disp hp hall hl h0 h15) fun σ H Q ⟨F, W, φ, L, S, P, s, ht, q⟩ => ?_)
  simp only [wE] at ht
  intro p hpn
  have fp : F.H0 p = none := s.dom p hpn
  have sg := (s.growW (o := .dK []) hpn rfl (s.phN hpn)).guard (p := p) (.inr rfl) (by intro i hi; exact s.noOwn hpn i hi)
  refine hs σ _ _ (F.guard p) _ φ L S _ sg ht fun ds L' S' H' W' φ' us hP s2 t2 rs hlu => ?_
  obtain ⟨⟨e1, e2, e3⟩, hP⟩ := hP
  have hH2 : H' p = some (.dK []) := t2.keep p _ upd_same rfl fun _ => ⟨s.phN hpn, fun z => nomatch z⟩
  have hw : W' p := s2.wc p (.inr rfl)
  have no := (s2.unguard fp).2
  refine ⟨hH2, List.zipWith (fun k u => ((Sum.inr k : Key), u)) ks us, zip_kv hlu, ?_, ?_⟩
  · rw [List.length_zipWith]; omega
  · rw [putK_app (acc := []) (by
      rw [List.nil_append, zip_k hlu]
      exact e3.map _ fun a b h z => h (by cases z; rfl)), List.nil_append]
    have s3 := (s2.updW (o := .dK (List.zipWith (fun k u => ((Sum.inr k : Key), u)) ks us)) hw hH2 rfl rfl fp no)
    have tt := (Tr.newW (S := false) (φ := φ) (W := W) (o := .dK []) hpn).trans t2
    refine q _ true L' S' _ W' φ' (.ref p) hP (s3.unguard fp).1 (tt.updF hpn fun _ h => h) ⟨p, rfl, hw, ⟨fp, fun z => ?_⟩, ⟨_, upd_same, zip_k hlu, ?_⟩, no⟩
    · obtain ⟨o, eo, _⟩ := s.wt p (s.wc p z)
      rw [hpn] at eo; cases eo
    · rw [zip_v hlu]
      exact rs.go (Tr.updW hw hH2 rfl)
end
end Q
/-! Soundness: dict comprehensions. -/
namespace Q
open PySem PySem.Spec PyProof.Rows L2
section
variable {K : PySem.W.Frag} {F : Fr} {H H1 : Hp} {W W1 : Addr → Prop} {φ φ1 : List Addr} {L L1 : Lo} {S : Sto} {σ : Sg} {p : Addr}
theorem put_keys {kvs : List (Key × V)} {ks : List Str} (e : kvs.map (·.1) = ks.map Sum.inr) (k : Str) (z : V) : (putK kvs (Sum.inr k) z).map (·.1) = (putKs ks k).map Sum.inr := by
  have ha : (kvs.any fun kv => decide (kv.1 = (Sum.inr k : Key))) = ks.any fun x => decide (x = k) := by
    have : ∀ (kvs : List (Key × V)) (ks : List Str), kvs.map (·.1) = ks.map Sum.inr → (kvs.any fun kv => decide (kv.1 = (Sum.inr k : Key))) = ks.any fun x => decide (x = k) := by
      intro kvs
      induction kvs with
      | nil => intro ks e; cases ks <;> simp at e ⊢
      | cons kv kvs ih =>
        intro ks e
        cases ks with
        | nil => simp at e
        | cons x ks =>
          simp only [List.map_cons, List.cons.injEq] at e
          simp only [List.any_cons, ih ks e.2, e.1]
          congr 1
          by_cases h : x = k
          · subst h; simp
          · have : ¬ (Sum.inr x : Key) = Sum.inr k := fun z => by cases z; exact h rfl
            simp [h, this]
    exact this kvs ks e
  unfold putK putKs
  rw [ha]
  cases (ks.any fun x => decide (x = k)) with
  | true =>
    rw [if_pos rfl, if_pos rfl, ← e, List.map_map]
    apply List.map_congr_left
    intro kv _
    simp only [Function.comp]
    split <;> rfl
  | false => rw [if_neg (by decide), if_neg (by decide), List.map_append, List.map_append, e]; rfl
theorem put_vals {kvs : List (Key × V)} {ks : List Str} {ds : List D} {d : D} (e : kvs.map (·.1) = ks.map Sum.inr) (r : Reps K H φ W ds (kvs.map (·.2))) (k : Str) {z : V} (rz : Rep K H φ W d z) : Reps K H φ W (putVs ks ds k d) ((putK kvs (Sum.inr k) z).map (·.2)) := by
  have ha : (kvs.any fun kv => decide (kv.1 = (Sum.inr k : Key))) = ks.any fun x => decide (x = k) := by
    have h1 := congrArg (fun l => l.any fun x => decide (x = (Sum.inr k : Key))) e
    simp only [List.any_map] at h1
    have h2 : (ks.any ((fun x => decide (x = (Sum.inr k : Key))) ∘ Sum.inr)) = ks.any fun x => decide (x = k) := by
      congr 1; funext x
      simp only [Function.comp]
      by_cases h : x = k
      · subst h; simp
      · have : ¬ (Sum.inr x : Key) = Sum.inr k := fun z => by cases z; exact h rfl
        simp [h, this]
    rw [← h2, ← h1]; rfl
  unfold putK putVs
  rw [ha]
  cases (ks.any fun x => decide (x = k)) with
  | true =>
    rw [if_pos rfl, if_pos rfl, List.map_map]
    clear ha
    induction kvs generalizing ks ds with
    | nil => cases ks <;> cases ds <;> simp_all [Reps]
    | cons kv kvs ih =>
      cases ks with
      | nil => simp at e
      | cons x ks =>
        cases ds with
        | nil => simp [Reps] at r
        | cons d' ds =>
          simp only [List.map_cons, List.cons.injEq] at e
          simp only [List.map_cons, Reps] at r
          simp only [List.zipWith_cons_cons, List.map_cons]
          refine Reps.cons ?_ (ih e.2 r.2)
          by_cases h : x = k
          · have : kv.1 = (Sum.inr k : Key) := by rw [e.1, h]
            simp only [Function.comp, if_pos h, if_pos this]; exact rz
          · have : ¬ kv.1 = (Sum.inr k : Key) := by rw [e.1]; intro z; cases z; exact h rfl
            simp only [Function.comp, if_neg h, if_neg this]; exact r.1
  | false =>
    rw [if_neg (by decide), if_neg (by decide), List.map_append]
    exact r.append (Reps.cons rz Reps.nil)
theorem put_step {f : Bool} {d : D} {y : V} {ks : List Str} {accD : List D} {kvs : List (Key × V)} {k : Str} (s : StR K (F.guard p) H W φ L S σ) (h0 : F.H0 p = none) (hD : H p = some (.dK kvs)) (ek : kvs.map (·.1) = ks.map Sum.inr) (ra : Reps K H φ W accD (kvs.map (·.2))) (vr : VR K (F.guard p) H W φ L σ f d y) :
    ∃ W', StR K (F.guard p) (upd H p (.dK (putK kvs (Sum.inr k) y))) W' φ L S σ ∧ Reps K (upd H p (.dK (putK kvs (Sum.inr k) y))) φ W' (putVs ks accD k d) ((putK kvs (Sum.inr k) y).map (·.2)) ∧ ∀ a, W' a → W a := by
  obtain ⟨W2, s2, t2, r⟩ := vr.settle s
  have hw : W2 p := s2.wc p (.inr rfl)
  have no := (s2.unguard h0).2
  have tw : Tr true H φ W2 (upd H p (.dK (putK kvs (Sum.inr k) y))) φ W2 := Tr.updW hw hD rfl
  refine ⟨W2, s2.updW hw hD rfl rfl h0 no, (put_vals ek (ra.go t2) k r).go tw, fun a w => ?_⟩
  rcases t2.w a w with z | z
  · exact z
  · obtain ⟨o, e, _⟩ := s2.wt a w; rw [z] at e; cases e
end
/-- one clause -/
theorem dcomp_go {K : PySem.W.Frag} {F : Fr} {H1 : Hp} {W1 : Addr → Prop} {φ1 : List Addr} {L1 : Lo} {S1 : Sto} {σ : Sg} {vs ix : List Nat} {ds : List D} {J : It} {t : D → Lo → (Lo → Prop) → Prop} {cn : Lo → Sto → KT → Prop} {ek ev : Lo → Sto → KE → Prop} {Pend : List Str → List D → Sto → Prop} {Q : VK} {p : Addr}
    (s1 : StR K F H1 W1 φ1 L1 S1 σ) (wk : Wk K ds J H1 φ1 W1) (hix : ∀ i, i ∈ ix → i ∈ vs) (no : ∀ i, i ∈ vs → ∀ d, L1[i]? ≠ some (.own d)) (hp : H1 p = none)
    (hc : compD t cn ek ev (wipeL L1 vs) ds S1 [] [] Pend)
    (q : ∀ ks acc S' H' W' φ' , Pend ks acc S' → StR K F H' W' φ' L1 S' σ → Tr false H1 φ1 W1 H' φ' W' → VR K F H' W' φ' L1 σ true (.dct ks acc) (.ref p) → Q (.ref p) H') :
    ∃ W : Nat → Nat → Hp → Prop, (∃ m, W 0 m (upd H1 p (.dK []))) ∧ ∀ i m H, W i m H →
      (J.stop i H ∧ Q (.ref p) H) ∨ (J.go i H ∧ ∃ Nx : Hp → Prop, (∀ H', Nx H' → ∃ m', m' < m ∧ W (i + 1) m' H') ∧ ∀ x H', J.yld i H x H' → liftG K ix t x (wipe σ vs) H' fun σ2 H2 => wipe σ2 vs = wipe σ vs ∧ liftT K cn σ2 H2 fun b H3 =>
        if b = true then liftE K ek σ2 H3 fun y H4 => liftE K ev σ2 H4 fun z H5 => ∃ kvs k, y = kV k ∧ H5 p = some (.dK kvs) ∧ kvs.length < sizeLine ∧ Nx (upd H5 p (.dK (putK kvs k z))) else Nx H3) := by
  obtain ⟨G, Y, hwalk, hG, hY⟩ := wk.ex
  have h0 : F.H0 p = none := s1.dom p hp
  let Pv : Nat → Hp → Prop := fun i H => ∃ W φ S ks accD kvs, StR K (F.guard p) H W φ (wipeL L1 vs) S (wipe σ vs) ∧ Tr false H1 φ1 W1 H φ W ∧ H p = some (.dK kvs) ∧ kvs.map (·.1) = ks.map Sum.inr ∧ Reps K H φ W accD (kvs.map (·.2)) ∧ compD t cn ek ev (wipeL L1 vs) (ds.drop i) S ks accD Pend
  refine ⟨fun i m H => m = ds.length - i ∧ i ≤ ds.length ∧ Pv i H, ⟨ds.length, by simp, Nat.zero_le _, ?_⟩, ?_⟩
  · have sw := s1.wipe vs
    have sg := sw.growW (o := .dK []) hp rfl (sw.phN hp)
    exact ⟨_, φ1, S1, [], [], [], sg.guard (.inr rfl) (by intro i hi; exact sw.noOwn hp i hi), Tr.newW hp, upd_same, rfl, Reps.nil, hc⟩
  · rintro i m H ⟨rfl, hi, W, φ, S, ks, accD, kvs, s, tr, hD, hk, ra, hcc⟩
    have g := hG H φ W tr.weak
    by_cases hlt : i < ds.length
    · refine .inr ⟨hwalk.goes i H hlt g, Pv (i + 1), fun H' pv => ⟨ds.length - (i + 1), by omega, rfl, hlt, pv⟩, fun x H' y => ?_⟩
      obtain ⟨d, hd, s', t', rd⟩ := (hY i H φ W x H' hlt tr.weak (hwalk.yields i H x H' hlt g y)).go s
      rw [drop_cons hd] at hcc
      simp only [compD] at hcc
      have hpp : p ∉ φ := s.phO (s.wc p (.inr rfl))
      have hD' : H' p = some (.dK kvs) := t'.keep p _ hD rfl fun _ => ⟨hpp, fun z => nomatch z⟩
      refine ⟨F.guard p, W, φ, wipeL L1 vs, S, d, _, s', rd, hcc, fun L' σ' hP sg hlen hσ hL => ?_⟩
      have ew : wipe σ' vs = wipe σ vs := wipe_eq hlen fun j hj => hσ j fun z => hj (hix j z)
      refine ⟨ew, F.guard p, W, φ, L', S, _, sg, hP, fun b L2 S2 H3 W3 φ3 hb s3 t3 => ?_⟩
      obtain ⟨rfl, hb⟩ := hb
      have hpp3 : p ∉ φ3 := s3.phO (s3.wc p (.inr rfl))
      have hD3 : H3 p = some (.dK kvs) := t3.keep p _ hD' rfl fun _ => ⟨hpp, fun z => nomatch z⟩
      have eL : wipeL L2 vs = wipeL L1 vs := by
        apply List.ext_getElem?
        intro j
        rw [wipeL_get, wipeL_get]
        have hl : L2.length = L1.length := by
          have e1 := sg.lo.len
          rw [hlen] at e1
          rw [e1, wipe_length]; exact s1.lo.len.symm
        by_cases hj : j ∈ vs
        · rw [if_pos hj, if_pos hj]
          by_cases hlt : j < L1.length
          · rw [List.getElem?_eq_getElem hlt, List.getElem?_eq_getElem (by omega)]; rfl
          · rw [List.getElem?_eq_none (by omega), List.getElem?_eq_none (by omega)]
        · rw [if_neg hj, if_neg hj, hL j (fun z => hj (hix j z)), wipeL_get, if_neg hj]
      have back : ∀ {H W φ S}, StR K (F.guard p) H W φ L2 S σ' → StR K (F.guard p) H W φ (wipeL L1 vs) S (wipe σ vs) := fun {H W φ S} sx => by
        have := sx.wipe vs
        rw [eL, ew] at this
        exact this
      cases b with
      | false =>
        rw [if_neg (by decide)] at hb ⊢
        exact ⟨W3, φ3, S2, ks, accD, kvs, back s3, (tr.trans t').trans t3, hD3, hk, (ra.go t').go t3, hb⟩
      | true =>
        rw [if_pos rfl] at hb ⊢
        refine ⟨F.guard p, W3, φ3, L2, S2, _, s3, hb, fun r f L3 S3 H4 W4 φ4 y hr s4 t4 vr => ?_⟩
        obtain ⟨k, rfl, rfl, hr⟩ := hr
        have ey : y = .str k := by
          have := vr.repP s4
          exact this.str
        have hpp4 : p ∉ φ4 := s4.phO (s4.wc p (.inr rfl))
        have hD4 : H4 p = some (.dK kvs) := t4.keep p _ hD3 rfl fun _ => ⟨hpp3, fun z => nomatch z⟩
        refine ⟨F.guard p, W4, φ4, L3, S3, _, s4, hr, fun r2 f2 L4 S4 H5 W5 φ5 z hr2 s5 t5 vr2 => ?_⟩
        obtain ⟨rfl, hz, hr2⟩ := hr2
        have hD5 : H5 p = some (.dK kvs) := t5.keep p _ hD4 rfl fun _ => ⟨hpp4, fun z => nomatch z⟩
        have ra5 := (((ra.go t').go t3).go t4).go t5
        obtain ⟨W6, s6, r6, w6⟩ := put_step (k := k) s5 h0 hD5 hk ra5 vr2
        have hkl : kvs.length = ks.length := by
          have := congrArg List.length hk
          simpa using this
        exact ⟨kvs, Sum.inr k, by rw [ey]; rfl, hD5, by rw [hkl]; exact hz, W6, φ5, S4, _, _, _, back s6, ((((tr.trans t').trans t3).trans t4).trans t5).updF hp w6, upd_same, put_keys hk k z, r6, hr2⟩
    · have e : i = ds.length := by omega
      subst e
      rw [List.drop_length] at hcc
      simp only [compD] at hcc
      obtain ⟨su, nou⟩ := s.unguard h0
      have sx := su.unwipe s1 tr no
      refine .inl ⟨hwalk.stops H g, q ks accD S H W φ hcc sx tr ⟨p, rfl, s.wc p (.inr rfl), ⟨h0, fun z => ?_⟩, ⟨kvs, hD, hk, ra⟩, fun i hi => ?_⟩⟩
      · obtain ⟨o, eo, _⟩ := s1.wt p (s1.wc p z)
        rw [hp] at eo; cases eo
      · exact s1.noOwn hp i hi
end Q
/-! Soundness: the translator, expressions. -/
namespace Q
open PySem PySem.Spec PyProof.Rows L2
section
variable {X : Cx} {C : Calls} {c : TC} {sc scope : Scope}
theorem rel_lookup {env : Env} : ∀ {names : List (Str × NameKind)} (x : Str), (relS ⟨.function, names, false, false, []⟩ env.scope).names.lookup x = names.lookup x ∨ (names.lookup x = some .free ∧ (relS ⟨.function, names, false, false, []⟩ env.scope).names.lookup x = some .cell)
  | [], x => .inl rfl
  | (n, k) :: r, x => by
    have ih := @rel_lookup env r x
    unfold relS at ih ⊢
    simp only [List.map_cons] at ih ⊢
    cases hx : x == n with
    | true =>
      by_cases hc : (k == NameKind.free && env.scope.kind == .function && env.scope.names.lookup n == some .cell) = true
      · rw [if_pos hc]
        simp only [List.lookup_cons, hx]
        simp only [Bool.and_eq_true, beq_iff_eq] at hc
        exact .inr ⟨by rw [hc.1.1], by trivial⟩
      · rw [if_neg hc]
        simp only [List.lookup_cons, hx]
        exact .inl (by trivial)
    | false =>
      have e1 : ((n, k) :: r).lookup x = r.lookup x := by simp only [List.lookup_cons, hx]
      rw [e1]
      by_cases hc : (k == NameKind.free && env.scope.kind == .function && env.scope.names.lookup n == some .cell) = true
      · rw [if_pos hc]
        simp only [List.lookup_cons, hx]; exact ih
      · rw [if_neg hc]
        simp only [List.lookup_cons, hx]; exact ih
theorem GX.blk (G : GX c C sc X) (hk : scope.kind = .function) (hlv : c.lv = none) (s : Shared) (H : Hp) (cl : List (Str × Addr)) (A : Addr) (fp : List Addr) : GX c C scope (X.blk s H scope (compEnvC scope cl A X.env) fp) where
  N := G.N
  nd := G.nd
  calm := G.calm
  xe := rfl
  fn := fun x h => by show (scope.names.lookup x == some .cell) = true; rw [h]; rfl
  sc := fun x => @rel_lookup X.env scope.names x
  kind := hk
  hu := G.hu
  bi := G.bi
  gl := G.gl
  gd := G.gd
  fs := G.fs
  fl := G.fl
  lv := fun x e => by rw [hlv] at e; cases e
  lm := fun le e => G.lm le e
theorem blk_ok (G : GX c C sc X) {own : List (Str × Nat)} (h : L2.blkC c.N sc scope own = true) : BlkOk X.N X.env.scope scope own := by
  have b := blkOk_by h
  rw [G.N]
  refine ⟨b.kind, b.uniq, b.ix, fun y hy e => ?_, b.own⟩
  have := b.free y hy e
  have h2 := G.sc y.1
  rcases this with z | z
  · rw [z] at h2
    rcases h2 with h2 | h2
    · exact .inl h2
    · cases h2.1
  · rw [z] at h2
    rcases h2 with h2 | h2
    · exact .inr h2
    · exact .inl h2.2
/-- one clause -/
theorem ixIn_lv {n : Nat} {tg : Expr} (h : ixIn c scope n tg = true) : c.lv = none := by
  unfold ixIn at h
  rw [Bool.and_eq_true] at h
  simpa using h.1
theorem se_comp {elt tg iter : Expr} {ifs : List Expr} {ie : IE} {it : IT} {src : II} {ic : IC} {pos : Pos} {n : Nat} (G : GX c C sc X) (hlv : c.lv = none) (hb : L2.blkC c.N sc scope (ownOf c.N scope) = true) (ht : trT c scope n tg = some it) (hix : ∀ i, i ∈ it.ix → i ∈ (ownOf c.N scope).map (·.2))
    (he : ∀ X', GX c C scope X' → SE X' C elt ie) (hi : PI X tg iter (liftJ X.K (wI C src))) (hc : ∀ X', GX c C scope X' → PTs X' ifs (liftT X'.K (wT C ic))) (hs : ∀ x, foldedSetIterable iter X.env x = pure x) :
    SE X C (.ListComp elt [⟨tg, iter, ifs, 0⟩] scope pos) (.comp ie it src ic ((ownOf c.N scope).map (·.2))) := by
  have ok := blk_ok G hb
  have gb := fun s H A cl fp => G.blk ok.kind hlv s H cl A fp
  have key := pe_lc (pos := pos) G.calm (by rw [G.N]; exact G.nd) hi ok (g := liftG X.K it.ix (wG it)) (tt := liftT X.K (wT C ic)) (te := liftE X.K (wE C ie))
    (fun s H A cl fp => ((tr_sound (gb s H A cl fp) n).1 tg it ht).1) (fun s H A cl fp => hc _ (gb s H A cl fp)) (fun s H A cl fp => (he _ (gb s H A cl fp)).v) hs
  refine SE.of rfl (PE.imp key fun σ H Q ⟨F, W, φ, L, S, P, s, h, q⟩ => ?_)
  simp only [wE] at h
  refine ⟨F, W, φ, L, S, _, s, h, fun ds L1 S1 H1 W1 φ1 J h1 s1 t1 wk D hD => ?_⟩
  exact comp_go s1 wk hix h1.1 hD h1.2 fun acc S' H' W' φ' hp s' t' vr => q _ true L1 S' H' W' φ' _ hp s' (t1.trans t') vr
theorem se_comp2 {elt tg iter tg1 iter1 : Expr} {ie : IE} {it it1 : IT} {src src1 : II} {pos : Pos} {n : Nat} (G : GX c C sc X) (hlv : c.lv = none) (hb : L2.blkC c.N sc scope (ownOf c.N scope) = true) (ht : trT c scope n tg = some it) (hix : ∀ i, i ∈ it.ix → i ∈ (ownOf c.N scope).map (·.2))
    (ht1 : trT c scope n tg1 = some it1) (hix1 : ∀ i, i ∈ it1.ix → i ∈ (ownOf c.N scope).map (·.2)) (he : ∀ X', GX c C scope X' → SE X' C elt ie) (hi : PI X tg iter (liftI X.K (wI C src))) (hi1 : ∀ X', GX c C scope X' → PI X' tg1 iter1 (liftI X'.K (wI C src1)))
    (hs : ∀ x, foldedSetIterable iter X.env x = pure x) (hs1 : ∀ env x, foldedSetIterable iter1 env x = pure x) :
    SE X C (.ListComp elt [⟨tg, iter, [], 0⟩, ⟨tg1, iter1, [], 0⟩] scope pos) (.comp2 ie it src it1 src1 ((ownOf c.N scope).map (·.2))) := by
  have ok := blk_ok G hb
  have gb := fun s H A cl fp => G.blk ok.kind hlv s H cl A fp
  have key := pe_lc2 (pos := pos) (vs1 := it1.ix) G.calm (by rw [G.N]; exact G.nd) hi ok hix1 (g := liftG X.K it.ix (wG it)) (tt := tYes) (wi1 := liftI X.K (wI C src1)) (g1 := liftG X.K it1.ix (wG it1)) (tt1 := tYes) (te := liftE X.K (wE C ie))
    (fun s H A cl fp => ((tr_sound (gb s H A cl fp) n).1 tg it ht).1) (fun s H A cl fp => pts_nil) (fun s H A cl fp => hi1 _ (gb s H A cl fp)) (fun s H A cl fp => ((tr_sound (gb s H A cl fp) n).1 tg1 it1 ht1).1) (fun s H A cl fp => pts_nil) (fun s H A cl fp => (he _ (gb s H A cl fp)).v) hs hs1
  refine SE.of rfl (PE.imp key fun σ H Q ⟨F, W, φ, L, S, P, s, h, q⟩ => ?_)
  simp only [wE] at h
  refine ⟨F, W, φ, L, S, _, s, h, fun ds L1 S1 H1 W1 φ1 J h1 s1 t1 wk D hD => ?_⟩
  exact comp2_go s1 wk hix hix1 h1.1 hD (fun d L P hg => wG_mono (fun L' h => ⟨fun i d' _ e => h.1 i d' e, h.2⟩) (wG_val hg)) h1.2 fun acc S' H' W' φ' hp s' t' vr => q _ true L1 S' H' W' φ' _ hp s' (t1.trans t') vr
theorem pts_of_nil : PTs X [] (liftT X.K (wT C .yes)) := ⟨fun pins s σ H Q I ⟨F, W, φ, L, S, P, st, ht, q⟩ => by
  simp only [wT] at ht
  exact pts_nil.run pins s σ H Q I (q _ _ _ _ _ _ ht st Tr.refl)⟩

/-- the translator keeps the meaning, to depth n -/
structure Snd (c : TC) (C : Calls) (n : Nat) : Prop where
  e : ∀ sc X e i, GX c C sc X → trE c n sc e = some i → SE X C e i
  b : ∀ sc X op es i pos, GX c C sc X → trB c n sc op es = some i → SE X C (.BoolOp op es pos) i
  es : ∀ sc X es l, GX c C sc X → trEs c n sc es = some l → PA X es (liftA X.K (wEs C l)) ∧ PA X es (liftQ X.K (wPs C l)) ∧ PA X es (liftC X.K (wA C l)) ∧ l.len = es.length
  o : ∀ sc X o i, GX c C sc X → trO c n sc o = some i → PO X o (liftO X.K (wEo C i))
  t : ∀ sc X e i, GX c C sc X → trC c n sc e = some i → PT X e (liftT X.K (wT C i))
  bt : ∀ sc X op es i pos, GX c C sc X → trBC c n sc op es = some i → PW X (.BoolOp op es pos) (liftT X.K (wT C i))
  d : ∀ sc X es l, GX c C sc X → trEs c n sc es = some l → ∀ pos keys kk, strKeys keys = some kk → keys.length = es.length → Dsp X C pos keys kk es l
  w : ∀ sc X tg e i, GX c C sc X → trW c n sc (isTup tg) e = some i → (∃ x px j, e = .Name x px ∧ i = .wk j ∧ fine x = true ∧ vis sc x = true ∧ c.N.idxOf? x = some j) ∨ (PI X tg e (liftI X.K (wI C i)) ∧ ∀ env x, foldedSetIterable e env x = pure x)
  j : ∀ sc X tg e i, GX c C sc X → trJ c n sc (isTup tg) e = some i → PI X tg e (liftJ X.K (wI C i)) ∧ ∀ env x, foldedSetIterable e env x = pure x
  i : ∀ sc X tg e i, GX c C sc X → trI c n sc (isTup tg) e = some i → PI X tg e (liftI X.K (wI C i)) ∧ ∀ env x, foldedSetIterable e env x = pure x
theorem star_of {n : Nat} {e : Expr} {i : IE} {env : Env} (h : trE c n sc e = some i) : ∀ es, starEach (e :: es) env = (false, eval e env) :: starEach es env := by
  intro es
  cases e <;> first | rfl | (cases n <;> simp [trE] at h)
theorem any_star {pos : Pos} {n : Nat} {env : Env} : ∀ {es : List Expr} {l : IEs} {n : Nat}, trEs c n sc es = some l → (backTo pos (starEach es env)).any (·.1) = false
  | [], l, n, h => rfl
  | e :: es, l, 0, h => by simp [trEs] at h
  | e :: es, l, n + 1, h => by
    simp only [trEs, Option.bind_eq_bind, Option.bind_eq_some_iff] at h
    obtain ⟨i, hi, l', hl, h⟩ := h
    rw [star_of hi]
    exact any_star (pos := pos) (n := n) (env := env) hl
theorem set_not {n : Nat} {e : Expr} {i : IE} (h : trE c n sc e = some i) : ∀ env x, foldedSetIterable e env x = pure x := by
  intro env x
  cases e <;> first | rfl | (cases n <;> simp [trE] at h)
theorem plain_ix {n : Nat} {e : Expr} {i : IE} (h : trE c n sc e = some i) : PlainIx e := by
  intro o v
  cases e <;> first | rfl | (cases n <;> simp [trE] at h)
theorem ofS_eq {l : List String} {x : Str} {T : String} (h : ofS l x = some T) : T ∈ l ∧ x = (T : Str) := by
  unfold ofS at h
  have h1 := List.mem_of_find?_eq_some h
  have h2 := List.find?_some h
  exact ⟨h1, by simpa using h2⟩
theorem isTup_eq {e : Expr} (h : isTup e = true) : ∃ es k p, e = .Tuple es k p := by
  cases e <;> first | exact ⟨_, _, _, rfl⟩ | cases h
theorem ixIn_of {n : Nat} {tg : Expr} {t : IT} (h : ixIn c scope n tg = true) (ht : trT c scope n tg = some t) : ∀ i, i ∈ t.ix → i ∈ (ownOf c.N scope).map (·.2) := by
  unfold ixIn at h
  rw [ht, Bool.and_eq_true] at h
  have h := h.2
  intro i hi
  have := List.all_eq_true.mp h i hi
  simpa using this
end
end Q
/-! Soundness: walks over dicts, the dict being locked. -/
namespace Q
open PySem PySem.Spec PyProof.Rows L2
section
variable {K : PySem.W.Frag} {H H' : Hp} {φ : List Addr} {W : Addr → Prop} {a : Addr} {kvs : List (Key × V)}
theorem rd_one {k1 k2 : List (Key × V)} (h1 : Rd H a (.dK k1)) (h2 : Rd H a (.dK k2)) : k1 = k2 := by
  rcases h1 with h1 | ⟨o, h1⟩ <;> rcases h2 with h2 | ⟨o2, h2⟩ <;> rw [h1] at h2 <;> cases h2 <;> rfl
theorem rd_tup {vs : List V} (h1 : Rd H a (.dK kvs)) (h2 : H a = some (.tup vs)) : False := by
  rcases h1 with h1 | ⟨o, h1⟩ <;> rw [h1] at h2 <;> cases h2
theorem rd_tupF {vs : List V} {o2 : Obj} (h1 : Rd H a (.dK kvs)) (h2 : H a = some (.frz o2 (.tup vs))) : False := by
  rcases h1 with h1 | ⟨o, h1⟩ <;> rw [h1] at h2 <;> cases h2
theorem rd_lst {vs : List V} (h1 : Rd H a (.dK kvs)) (h2 : H a = some (.lst vs)) : False := by
  rcases h1 with h1 | ⟨o, h1⟩ <;> rw [h1] at h2 <;> cases h2
theorem rd_lstF {vs : List V} {o2 : Obj} (h1 : Rd H a (.dK kvs)) (h2 : H a = some (.frz o2 (.lst vs))) : False := by
  rcases h1 with h1 | ⟨o, h1⟩ <;> rw [h1] at h2 <;> cases h2
mutual
/-- the lock at a is put on or taken off -/
theorem Rep.sw (hn : ∀ x, x ≠ a → H' x = H x) (h1 : Rd H a (.dK kvs)) (h2 : Rd H' a (.dK kvs)) : ∀ {d : D} {v : V}, Rep K H φ W d v → Rep K H' φ W d v
  | .non, v, h => by simp only [Rep] at h ⊢; exact h
  | .bl b, v, h => by simp only [Rep] at h ⊢; exact h
  | .int b, v, h => by simp only [Rep] at h ⊢; exact h
  | .str b, v, h => by simp only [Rep] at h ⊢; exact h
  | .tup l, v, h => by
    simp only [Rep] at h ⊢
    obtain ⟨b, vs, e, q, r⟩ := h
    refine ⟨b, vs, e, ?_, Reps.sw hn h1 h2 r⟩
    rcases q with (q | ⟨o, q⟩) | q
    · exact .inl (.inl (by rw [hn b (fun z => rd_tup h1 (z ▸ q))]; exact q))
    · exact .inl (.inr ⟨o, by rw [hn b (fun z => rd_tupF h1 (z ▸ q))]; exact q⟩)
    · exact .inr q
  | .lst l, v, h => by
    simp only [Rep] at h ⊢
    obtain ⟨b, e, w, p, vs, q, r⟩ := h
    exact ⟨b, e, w, p, vs, by rw [hn b (fun z => rd_lst h1 (z ▸ q))]; exact q, Reps.sw hn h1 h2 r⟩
  | .dct ks ds, v, h => by
    simp only [Rep] at h ⊢
    obtain ⟨b, e, w, p, vs, q, k, r⟩ := h
    refine ⟨b, e, w, p, vs, ?_, k, Reps.sw hn h1 h2 r⟩
    by_cases hb : b = a
    · subst hb
      rw [rd_one q h1]; exact h2
    · rcases q with q | ⟨o, q⟩
      · exact .inl (by rw [hn b hb]; exact q)
      · exact .inr ⟨o, by rw [hn b hb]; exact q⟩
  | .scr ns, v, h => by
    simp only [Rep] at h ⊢
    obtain ⟨b, e, q⟩ := h
    exact ⟨b, e, q.elim (fun ⟨o, q⟩ => .inl ⟨o, by rw [hn b (fun z => rd_lstF h1 (z ▸ q))]; exact q⟩) .inr⟩
  | .obj n, v, h => by simp only [Rep] at h ⊢; exact h
  | .clo i nm caps, v, h => by
    simp only [Rep] at h ⊢
    have ne : ∀ {b : Addr} {f : Heap → Prop}, H b = some (.ext f) → b ≠ a := fun {b f} e z => by
      subst z
      rcases h1 with q | ⟨o, q⟩ <;> rw [e] at q <;> cases q
    exact ⟨h.1, (hn _ (ne h.2.1)).trans h.2.1, (hn _ (ne h.2.2.1)).trans h.2.2.1, Reps.sw hn h1 h2 h.2.2.2⟩
  | .xt l, v, h => by
    simp only [Rep] at h ⊢
    obtain ⟨b, vs, e, ⟨o, q, od⟩, r⟩ := h
    exact ⟨b, vs, e, ⟨o, by rw [hn b (fun z => rd_tupF h1 (z ▸ q))]; exact q, od⟩, Reps.sw hn h1 h2 r⟩
theorem Reps.sw (hn : ∀ x, x ≠ a → H' x = H x) (h1 : Rd H a (.dK kvs)) (h2 : Rd H' a (.dK kvs)) : ∀ {d : List D} {v : List V}, Reps K H φ W d v → Reps K H' φ W d v
  | [], [], _ => Reps.nil
  | d :: ds, v :: vs, h => by simp only [Reps] at h; exact Reps.cons (Rep.sw hn h1 h2 h.1) (Reps.sw hn h1 h2 h.2)
  | [], _ :: _, h => by simp [Reps] at h
  | _ :: _, [], h => by simp [Reps] at h
end
theorem Top.sw (hn : ∀ x, x ≠ a → H' x = H x) (h1 : Rd H a (.dK kvs)) (h2 : Rd H' a (.dK kvs)) {d : D} {b : Addr} (hb : b ≠ a) (t : Top K H φ W d b) : Top K H' φ W d b := by
  cases d with
  | lst l => obtain ⟨vs, q, r⟩ := t; exact ⟨vs, by rw [hn b hb]; exact q, r.sw hn h1 h2⟩
  | dct ks l => obtain ⟨vs, q, k, r⟩ := t; exact ⟨vs, by rw [hn b hb]; exact q, k, r.sw hn h1 h2⟩
  | _ => exact t.elim
end
/-- the entry's heap, the lock put on -/
def Fr.lk (F : Fr) (a : Addr) (u : HO) : Fr := { F with H0 := fun x => if x = a then (F.H0 a).map (fun _ => u) else F.H0 x }
theorem Fr.lk_none {F : Fr} {a x : Addr} {u : HO} : (F.lk a u).H0 x = none ↔ F.H0 x = none := by
  unfold Fr.lk
  dsimp only
  by_cases h : x = a
  · subst h; rw [if_pos rfl]; simp
  · rw [if_neg h]
section
variable {K : PySem.W.Frag} {F : Fr} {H : Hp} {W : Addr → Prop} {φ : List Addr} {L : Lo} {S : Sto} {σ : Sg} {a : Addr} {kvs : List (Key × V)} {o : Obj}
theorem StR.noW (s : StR K F H W φ L S σ) (hd : H a = some (.frz o (.dK kvs))) : ¬ W a ∧ a ∉ φ := by
  refine ⟨fun w => ?_, fun z => ?_⟩
  · obtain ⟨u, e, m⟩ := s.wt a w
    rw [hd] at e; cases e; cases m
  · obtain ⟨n, hn⟩ := List.mem_iff_getElem?.mp z
    have hl : n < S.length := by rw [s.st.len]; exact (List.getElem?_eq_some_iff.mp hn).1
    obtain ⟨vs, q, _⟩ := s.st.at_ n a S[n] hn (List.getElem?_eq_getElem hl)
    rw [hd] at q; cases q
theorem StR.lock (s : StR K F H W φ L S σ) (hd : H a = some (.dK kvs)) (hw : ¬ W a) (hp : a ∉ φ) : StR K (F.lk a (.frz o (.dK kvs))) (upd H a (.frz o (.dK kvs))) W φ L S σ := by
  have hn : ∀ x, x ≠ a → upd H a (.frz o (.dK kvs)) x = H x := fun x hx => upd_ne hx
  have h1 : Rd H a (.dK kvs) := .inl hd
  have h2 : Rd (upd H a (.frz o (.dK kvs))) a (.dK kvs) := .inr ⟨o, upd_same⟩
  have hst : StoR K (upd H a (.frz o (.dK kvs))) W φ S := by
    refine ⟨s.st.len, fun n b l e1 e2 => ?_⟩
    obtain ⟨vs, q, z, r⟩ := s.st.at_ n b l e1 e2
    exact ⟨vs, by rw [hn b (fun e => hp (e ▸ List.mem_of_getElem? e1))]; exact q, z, r.sw hn h1 h2⟩
  have hlo : LoR K (F.lk a (.frz o (.dK kvs))) (upd H a (.frz o (.dK kvs))) W φ L σ := by
    refine ⟨s.lo.len, fun j t e => ?_, s.lo.apart⟩
    cases t with
    | no => trivial
    | val d => obtain ⟨v, e1, r⟩ := s.lo.at_ j _ e; exact ⟨v, e1, r.sw hn h1 h2⟩
    | own d =>
      obtain ⟨b, e1, w, f, t⟩ := s.lo.at_ j _ e
      exact ⟨b, e1, w, ⟨Fr.lk_none.mpr f.1, f.2⟩, t.sw hn h1 h2 fun z => hw (z ▸ w)⟩
  exact {
    ext := fun x u e nt q => by
      unfold Fr.lk at e
      dsimp only at e
      by_cases hx : x = a
      · subst hx
        rw [if_pos rfl] at e
        obtain ⟨_, _, rfl⟩ := Option.map_eq_some_iff.mp e
        exact upd_same
      · rw [if_neg hx] at e
        rw [hn x hx]; exact s.ext x u e nt q
    dom := fun x z => by
      rw [Fr.lk_none]
      by_cases hx : x = a
      · subst hx; rw [upd_same] at z; cases z
      · rw [hn x hx] at z; exact s.dom x z
    wc := s.wc
    wnew := fun x w => (s.wnew x w).imp id fun z => Fr.lk_none.mpr z
    wt := fun x w => by
      have hx : x ≠ a := fun z => hw (z ▸ w)
      obtain ⟨u, e, m⟩ := s.wt x w
      exact ⟨u, by rw [hn x hx]; exact e, m⟩
    pre := s.pre
    phi := fun x z => (s.phi x z).imp id fun z => Fr.lk_none.mpr z
    phw := s.phw
    nd := s.nd
    tb := s.tb.go fun b o e k => by
      have hb : b ≠ a := fun z => by rw [z, hd] at e; cases e; cases k
      rw [hn b hb]; exact e
    tt := fun x ps e => by
      unfold Fr.lk at e
      dsimp only at e
      by_cases hx : x = a
      · rw [if_pos hx] at e
        obtain ⟨_, _, z⟩ := Option.map_eq_some_iff.mp e
        cases z
      · rw [if_neg hx] at e
        obtain ⟨ps', e'⟩ := s.tt x ps e
        exact ⟨ps', by rw [hn x hx]; exact e'⟩
    st := hst
    lo := hlo }
theorem StR.unlock (s : StR K (F.lk a (.frz o (.dK kvs))) H W φ L S σ) (hd : H a = some (.frz o (.dK kvs))) (hF : ∀ u, F.H0 a = some u → u = .dK kvs) : StR K F (upd H a (.dK kvs)) W φ L S σ := by
  obtain ⟨hw, hp⟩ := s.noW hd
  have hn : ∀ x, x ≠ a → upd H a (.dK kvs) x = H x := fun x hx => upd_ne hx
  have h1 : Rd H a (.dK kvs) := .inr ⟨o, hd⟩
  have h2 : Rd (upd H a (.dK kvs)) a (.dK kvs) := .inl upd_same
  have hst : StoR K (upd H a (.dK kvs)) W φ S := by
    refine ⟨s.st.len, fun n b l e1 e2 => ?_⟩
    obtain ⟨vs, q, z, r⟩ := s.st.at_ n b l e1 e2
    exact ⟨vs, by rw [hn b (fun e => hp (e ▸ List.mem_of_getElem? e1))]; exact q, z, r.sw hn h1 h2⟩
  have hlo : LoR K F (upd H a (.dK kvs)) W φ L σ := by
    refine ⟨s.lo.len, fun j t e => ?_, s.lo.apart⟩
    cases t with
    | no => trivial
    | val d => obtain ⟨v, e1, r⟩ := s.lo.at_ j _ e; exact ⟨v, e1, r.sw hn h1 h2⟩
    | own d =>
      obtain ⟨b, e1, w, f, t⟩ := s.lo.at_ j _ e
      exact ⟨b, e1, w, ⟨Fr.lk_none.mp f.1, f.2⟩, t.sw hn h1 h2 fun z => hw (z ▸ w)⟩
  exact {
    ext := fun x u e nt q => by
      by_cases hx : x = a
      · subst hx
        rw [hF u e]; exact upd_same
      · rw [hn x hx]
        exact s.ext x u (by unfold Fr.lk; dsimp only; rw [if_neg hx]; exact e) nt q
    dom := fun x z => by
      by_cases hx : x = a
      · subst hx; rw [upd_same] at z; cases z
      · rw [hn x hx] at z; exact Fr.lk_none.mp (s.dom x z)
    wc := s.wc
    wnew := fun x w => (s.wnew x w).imp id fun z => Fr.lk_none.mp z
    wt := fun x w => by
      have hx : x ≠ a := fun z => hw (z ▸ w)
      obtain ⟨u, e, m⟩ := s.wt x w
      exact ⟨u, by rw [hn x hx]; exact e, m⟩
    pre := s.pre
    phi := fun x z => (s.phi x z).imp id fun z => Fr.lk_none.mp z
    phw := s.phw
    nd := s.nd
    tb := s.tb.go fun b o e k => by
      have hb : b ≠ a := fun z => by rw [z, hd] at e; cases e; cases k
      rw [hn b hb]; exact e
    tt := fun x ps e => by
      by_cases hx : x = a
      · subst hx
        have := hF _ e
        cases this
      · obtain ⟨ps', e'⟩ := s.tt x ps (by unfold Fr.lk; dsimp only; rw [if_neg hx]; exact e)
        exact ⟨ps', by rw [hn x hx]; exact e'⟩
    st := hst
    lo := hlo }
end
end Q
/-! Soundness: dict comprehensions, the rules. -/
namespace Q
open PySem PySem.Spec PyProof.Rows L2
theorem PE.or {X : Cx} {e : Expr} {t u : TE} (h : PE X e t) (h2 : PE X e u) : PE X e (fun σ H Q => t σ H Q ∨ u σ H Q) :=
  ⟨fun pins s σ H Q I hw => hw.elim (h.run pins s σ H Q I) (h2.run pins s σ H Q I)⟩
section
variable {X : Cx} {C : Calls} {c : TC} {sc scope : Scope}
theorem se_dcomp {kx vx tg iter : Expr} {ifs : List Expr} {ik iv : IE} {it : IT} {src : II} {ic : IC} {pos : Pos} {n : Nat} (G : GX c C sc X) (hlv : c.lv = none) (hb : L2.blkC c.N sc scope (ownOf c.N scope) = true) (ht : trT c scope n tg = some it) (hix : ∀ i, i ∈ it.ix → i ∈ (ownOf c.N scope).map (·.2))
    (hk : ∀ X', GX c C scope X' → SE X' C kx ik) (hv : ∀ X', GX c C scope X' → SE X' C vx iv) (hi : PI X tg iter (liftI X.K (wI C src))) (hc : ∀ X', GX c C scope X' → PTs X' ifs (liftT X'.K (wT C ic))) (hs : ∀ x, foldedSetIterable iter X.env x = pure x) :
    SE X C (.DictComp kx vx [⟨tg, iter, ifs, 0⟩] scope pos) (.dcomp ik iv it src ic ((ownOf c.N scope).map (·.2))) := by
  have ok := blk_ok G hb
  have gb := fun s H A cl fp => G.blk ok.kind hlv s H cl A fp
  have key := pe_dc (pos := pos) G.calm (by rw [G.N]; exact G.nd) hi ok (g := liftG X.K it.ix (wG it)) (tt := liftT X.K (wT C ic)) (tk := liftE X.K (wE C ik)) (tv := liftE X.K (wE C iv))
    (fun s H A cl fp => ((tr_sound (gb s H A cl fp) n).1 tg it ht).1) (fun s H A cl fp => hc _ (gb s H A cl fp)) (fun s H A cl fp => (hk _ (gb s H A cl fp)).v) (fun s H A cl fp => (hv _ (gb s H A cl fp)).v) hs
  refine SE.of rfl (PE.imp key fun σ H Q ⟨F, W, φ, L, S, P, s, h, q⟩ => ?_)
  simp only [wE] at h
  refine ⟨F, W, φ, L, S, _, s, h, fun ds L1 S1 H1 W1 φ1 J h1 s1 t1 wk D hD => ?_⟩
  exact dcomp_go s1 wk hix h1.1 hD h1.2 fun ks acc S' H' W' φ' hp s' t' vr => q _ true L1 S' H' W' φ' _ hp s' (t1.trans t') vr
theorem keys_get {kvs : List (Key × V)} {ks : List Str} (e : kvs.map (·.1) = ks.map Sum.inr) {i : Nat} {k : Key} {v : V} (h : kvs[i]? = some (k, v)) : ∃ z, ks[i]? = some z ∧ k = Sum.inr z := by
  have h1 : (kvs.map (·.1))[i]? = some k := by rw [List.getElem?_map, h]; rfl
  rw [e, List.getElem?_map] at h1
  obtain ⟨z, hz, e2⟩ := Option.map_eq_some_iff.mp h1
  exact ⟨z, hz, e2.symm⟩
theorem wk_keys {K : PySem.W.Frag} {H : Hp} {φ : List Addr} {W : Addr → Prop} {a : Addr} {o : Obj} {kvs : List (Key × V)} {ks : List Str} (hd : H a = some (.frz o (.dK kvs))) (e : kvs.map (·.1) = ks.map Sum.inr) : Wk K (ks.map .str) (Itk a o kvs) H φ W := by
  have hl : (ks.map D.str).length = kvs.length := by
    have := congrArg List.length e
    simp at this; simp [this]
  refine ⟨fun H => H a = some (.frz o (.dK kvs)), fun i H x H' => H' = H ∧ ∃ k v, kvs[i]? = some (k, v) ∧ x = kV k, ⟨fun i H hi g => ⟨g, by omega⟩, fun H g => ⟨g, by omega⟩, fun i H x H' hi g y => y⟩, fun H2 φ2 W2 t => t.keep a _ hd rfl (fun z => by cases z), fun i H2 φ2 W2 x H3 hi t y => ?_⟩
  obtain ⟨rfl, k, v, hk, rfl⟩ := y
  obtain ⟨z, hz, rfl⟩ := keys_get e hk
  exact ⟨.str z, by rw [List.getElem?_map, hz]; rfl, .inl ⟨rfl, by simp only [Rep]; rfl⟩⟩
theorem se_dcompW {kx vx tg : Expr} {x : Str} {px : Pos} {i : Nat} {ifs : List Expr} {ik iv : IE} {it : IT} {ic : IC} {pos : Pos} {n : Nat} (G : GX c C sc X) (hlv : c.lv = none) (hb : L2.blkC c.N sc scope (ownOf c.N scope) = true) (ht : trT c scope n tg = some it) (hix : ∀ i, i ∈ it.ix → i ∈ (ownOf c.N scope).map (·.2))
    (hk : ∀ X', GX c C scope X' → SE X' C kx ik) (hv : ∀ X', GX c C scope X' → SE X' C vx iv) (hf : fine x = true) (hvi : vis sc x = true) (hxi : c.N.idxOf? x = some i) (hc : ∀ X', GX c C scope X' → PTs X' ifs (liftT X'.K (wT C ic))) :
    SE X C (.DictComp kx vx [⟨tg, .Name x px, ifs, 0⟩] scope pos) (.dcomp ik iv it (.wk i) ic ((ownOf c.N scope).map (·.2))) := by
  have ok := blk_ok G hb
  have gb := fun s H A cl fp => G.blk ok.kind hlv s H cl A fp
  have se := se_loc (C := C) (pos := px) G hf hvi hxi
  have mk := fun {wi : TI} (hi : PI X tg (.Name x px) wi) => pe_dc (pos := pos) G.calm (by rw [G.N]; exact G.nd) hi ok (g := liftG X.K it.ix (wG it)) (tt := liftT X.K (wT C ic)) (tk := liftE X.K (wE C ik)) (tv := liftE X.K (wE C iv))
    (fun s H A cl fp => ((tr_sound (gb s H A cl fp) n).1 tg it ht).1) (fun s H A cl fp => hc _ (gb s H A cl fp)) (fun s H A cl fp => (hk _ (gb s H A cl fp)).v) (fun s H A cl fp => (hv _ (gb s H A cl fp)).v) (fun _ => rfl)
  have k1 := mk (pi_seq se)
  have k2 := mk (pi_keys (se.l i rfl))
  refine SE.of rfl (PE.imp (PE.or (PE.or k1 k2) (pe_lock k2)) fun σ H Q ⟨F, W, φ, L, S, P, s, h, q⟩ => ?_)
  simp only [wE, wI] at h
  -- a dict, kept for good
  have dict : ∀ {L : Lo} {W : Addr → Prop} {ks : List Str} {vs : List D}, StR X.K F H W φ L S σ → L[i]? = some (.val (.dct ks vs)) → (∀ d f L' S' H' W' φ' v, P d f L' S' → StR X.K F H' W' φ' L' S' σ → Tr false H φ W H' φ' W' → VR X.K F H' W' φ' L' σ f d v → Q v H') →
      (∀ j, j ∈ (ownOf c.N scope).map (·.2) → ∀ d, L[j]? ≠ some (.own d)) → compD (wG it) (wT C ic) (wE C ik) (wE C iv) (wipeL L ((ownOf c.N scope).map (·.2))) (ks.map .str) S [] [] (fun ks vs S2 => P (.dct ks vs) true L S2) →
      (tDc (iKeys (tVar i)) (liftG X.K it.ix (wG it)) (liftT X.K (wT C ic)) (liftE X.K (wE C ik)) (liftE X.K (wE C iv)) ((ownOf c.N scope).map (·.2))) σ H Q ∨ tLockE (tDc (iKeys (tVar i)) (liftG X.K it.ix (wG it)) (liftT X.K (wT C ic)) (liftE X.K (wE C ik)) (liftE X.K (wE C iv)) ((ownOf c.N scope).map (·.2))) σ H Q := by
    intro L W ks vs s e q no hcc
    obtain ⟨v, e1, r⟩ := s.val e
    simp only [Rep] at r
    obtain ⟨a, rfl, hw, hp, kvs, hd, ek, r⟩ := r
    rcases hd with hd | ⟨o, hd⟩
    · right
      refine ⟨a, .dK kvs, hd, trivial, fun od => ⟨_, e1, a, od, rfl, .inl ⟨kvs, upd_same, fun D hD => ?_⟩⟩⟩
      have sl := s.lock (o := od) hd hw hp
      have hDa : D ≠ a := fun z => by subst z; rw [upd_same] at hD; cases hD
      refine dcomp_go (Q := fun v H' => H' a = some (.frz od (.dK kvs)) ∧ Q v (upd H' a (.dK kvs))) sl (wk_keys upd_same ek) hix no hD hcc fun ks2 acc S' H' W' φ' hP s' t' vr => ?_
      have hda : H' a = some (.frz od (.dK kvs)) := t'.keep a _ upd_same rfl fun z => by cases z
      have hF : ∀ u, F.H0 a = some u → u = .dK kvs := fun u hu => by
        have nt : isT u = false := by
          cases u <;> first | rfl | skip
          obtain ⟨ps', e'⟩ := s.tt a _ hu
          rw [hd] at e'; cases e'
        by_cases hm : isM u = true
        · by_cases hpa : a ∈ F.φ0
          · exact (hp (s.pre.subset hpa)).elim
          · have := s.ext a u hu nt fun _ => hpa
            rw [hd] at this; cases this; rfl
        · have := s.ext a u hu nt fun z => (hm z).elim
          rw [hd] at this; cases this; rfl
      have su := s'.unlock hda hF
      refine ⟨hda, q _ true L S' _ W' φ' _ hP su ?_ ?_⟩
      · refine ⟨fun b u hb nt m => ?_, fun b z => ?_, fun b z => ?_, t'.pre, fun b z => ?_, fun b ps e => ?_⟩
        · by_cases hba : b = a
          · subst hba
            rw [hd] at hb; cases hb; exact upd_same
          · rw [upd_ne hba]
            exact t'.keep b u (by rw [upd_ne hba]; exact hb) nt m
        · rcases t'.w b z with z | z
          · exact .inl z
          · by_cases hba : b = a
            · subst hba; rw [upd_same] at z; cases z
            · rw [upd_ne hba] at z; exact .inr z
        · by_cases hba : b = a
          · subst hba; rw [upd_same] at z; cases z
          · rw [upd_ne hba] at z
            have := t'.dom b z
            rwa [upd_ne hba] at this
        · rcases t'.phi b z with z | z
          · exact .inl z
          · by_cases hba : b = a
            · subst hba; rw [upd_same] at z; cases z
            · rw [upd_ne hba] at z; exact .inr z
        · have hba : b ≠ a := fun z => by rw [z, hd] at e; cases e
          obtain ⟨ps', e'⟩ := t'.tt b ps (by rw [upd_ne hba]; exact e)
          exact ⟨ps', by rw [upd_ne hba]; exact e'⟩
      · obtain ⟨b, hb, w, f, tp, no2⟩ := vr
        cases hb
        refine ⟨D, rfl, w, ⟨Fr.lk_none.mp f.1, f.2⟩, tp.sw (a := a) (kvs := kvs) (fun y hy => upd_ne hy) (.inr ⟨od, hda⟩) (.inl upd_same) hDa, no2⟩
    · left
      refine ⟨_, e1, a, o, rfl, .inl ⟨kvs, hd, fun D hD => ?_⟩⟩
      exact dcomp_go s (wk_keys hd ek) hix no hD hcc fun ks2 acc S' H' W' φ' hP s' t' vr => q _ true L S' H' W' φ' _ hP s' t' vr
  have seq : ∀ {ds : List D} {L1 : Lo}, wI C (.seq (.loc i)) L S (fun ds' L1' S1 => ds' = ds ∧ L1' = L1 ∧ S1 = S) → ((∀ j, j ∈ (ownOf c.N scope).map (·.2) → ∀ d, L1[j]? ≠ some (.own d)) ∧ compD (wG it) (wT C ic) (wE C ik) (wE C iv) (wipeL L1 ((ownOf c.N scope).map (·.2))) ds S [] [] fun ks vs S2 => P (.dct ks vs) true L1 S2) →
      tDc (liftI X.K (wI C (.seq (.loc i)))) (liftG X.K it.ix (wG it)) (liftT X.K (wT C ic)) (liftE X.K (wE C ik)) (liftE X.K (wE C iv)) ((ownOf c.N scope).map (·.2)) σ H Q := by
    intro ds L1 h1 h2
    refine ⟨F, W, φ, L, S, _, s, h1, fun ds' L1' S1 H1 W1 φ1 J h3 s1 t1 wk D hD => ?_⟩
    obtain ⟨rfl, rfl, rfl⟩ := h3
    exact dcomp_go s1 wk hix h2.1 hD h2.2 fun ks acc S' H' W' φ' hp s' t' vr => q _ true _ S' H' W' φ' _ hp s' (t1.trans t') vr
  split at h
  · rename_i l e
    exact .inl (.inl (seq (by simp [wI, wE, e]) h))
  · rename_i l e
    exact .inl (.inl (seq (by simp [wI, wE, e]) h))
  · rename_i l e
    exact .inl (.inl (seq (by simp [wI, wE, e]) h))
  · rename_i ks vs e
    rcases dict s e q h.1 h.2 with z | z
    · exact .inl (.inr z)
    · exact .inr z
  · rename_i ks vs e
    obtain ⟨W2, v, s2, t2, _, _⟩ := s.freeze e
    have e2 : (L.set i (.val (.dct ks vs)))[i]? = some (.val (.dct ks vs)) := List.getElem?_set_self (List.getElem?_eq_some_iff.mp e).1
    rcases dict s2 e2 (fun d f L' S' H' W' φ' v hp s' t' vr => q d f L' S' H' W' φ' v hp s' (t2.trans t') vr) h.1 h.2 with z | z
    · exact .inl (.inr z)
    · exact .inr z
  · exact h.elim
end
end Q
/-! Soundness: the translator's induction, expressions. -/
namespace Q
open PySem PySem.Spec PyProof.Rows L2
section
variable {c : TC} {C : Calls}
theorem snd_zero : Snd c C 0 where
  e := fun sc X e i G h => by simp [trE] at h
  b := fun sc X op es i pos G h => by simp [trB] at h
  es := fun sc X es l G h => by
    cases es with
    | nil =>
      simp only [trEs] at h; cases h
      exact ⟨pas_nil, pps_nil, pcs_nil, rfl⟩
    | cons _ _ => simp [trEs] at h
  o := fun sc X o i G h => by
    cases o with
    | none => simp only [trO] at h; cases h; exact so_none
    | some _ => simp [trO] at h
  t := fun sc X e i G h => by simp [trC] at h
  bt := fun sc X op es i pos G h => by simp [trBC] at h
  d := fun sc X es l G h pos keys kk hk hl => by
    cases es with
    | nil =>
      cases keys with
      | nil =>
        simp only [trEs] at h; cases h
        simp only [strKeys] at hk; cases hk
        exact dsp_nil
      | cons _ _ => simp at hl
    | cons _ _ => simp [trEs] at h
  w := fun sc X tg e i G h => by simp [trW] at h
  j := fun sc X tg e i G h => by simp [trJ] at h
  i := fun sc X tg e i G h => by simp [trI] at h
theorem addD_len (dv : List D) : ∀ l : IEs, (addD l dv).len = l.len + dv.length
  | .nil => by
    show (cstS dv).len = _
    induction dv with
    | nil => rfl
    | cons d r ih => simp only [cstS, IEs.len, List.length_cons] at ih ⊢; omega
  | .cons e r => by
    show (IEs.cons e (addD r dv)).len = _
    simp only [IEs.len]
    rw [addD_len dv r]; omega
theorem snd_b {n : Nat} (ih : Snd c C n) (sc : Scope) (X : Cx) (op : BoolOp) (es : List Expr) (i : IE) (pos : Pos) (G : GX c C sc X) (h : trB c (n + 1) sc op es = some i) : SE X C (.BoolOp op es pos) i := by
  cases es with
  | nil => simp [trB] at h
  | cons e r =>
    cases r with
    | nil => simp only [trB] at h; exact se_one (ih.e sc X e i G h)
    | cons b r =>
      cases op with
      | And =>
        simp only [trB, Option.bind_eq_bind, Option.bind_eq_some_iff] at h
        obtain ⟨ia, ha, ib, hb, h⟩ := h
        cases h
        exact se_and (ih.e sc X e ia G ha) (ih.b sc X _ _ _ _ G hb)
      | Or =>
        simp only [trB, Option.bind_eq_bind, Option.bind_eq_some_iff] at h
        obtain ⟨ia, ha, ib, hb, h⟩ := h
        cases h
        exact se_or (ih.e sc X e ia G ha) (ih.b sc X _ _ _ _ G hb)
theorem snd_es {n : Nat} (ih : Snd c C n) (sc : Scope) (X : Cx) (es : List Expr) (l : IEs) (G : GX c C sc X) (h : trEs c (n + 1) sc es = some l) : PA X es (liftA X.K (wEs C l)) ∧ PA X es (liftQ X.K (wPs C l)) ∧ PA X es (liftC X.K (wA C l)) ∧ l.len = es.length := by
  cases es with
  | nil =>
    simp only [trEs] at h; cases h
    exact ⟨pas_nil, pps_nil, pcs_nil, rfl⟩
  | cons e r =>
    simp only [trEs, Option.bind_eq_bind, Option.bind_eq_some_iff] at h
    obtain ⟨i, hi, l', hl, h⟩ := h
    cases h
    have s := ih.e sc X e i G hi
    obtain ⟨h1, h2, h3, h4⟩ := ih.es sc X r l' G hl
    exact ⟨pas_cons s h1 (star_of hi r), pps_cons s h2 (star_of hi r), pcs_cons s h3 (star_of hi r), by simp [IEs.len, h4]⟩
theorem snd_d {n : Nat} (ih : Snd c C n) (sc : Scope) (X : Cx) (es : List Expr) (l : IEs) (G : GX c C sc X) (h : trEs c (n + 1) sc es = some l) (pos : Pos) (keys : List (Option Expr)) (kk : List Str) (hk : strKeys keys = some kk) (hl : keys.length = es.length) : Dsp X C pos keys kk es l := by
  cases es with
  | nil =>
    cases keys with
    | nil =>
      simp only [trEs] at h; cases h
      simp only [strKeys] at hk; cases hk
      exact dsp_nil
    | cons _ _ => simp at hl
  | cons e r =>
    cases keys with
    | nil => simp at hl
    | cons k keys =>
      simp only [trEs, Option.bind_eq_bind, Option.bind_eq_some_iff] at h
      obtain ⟨i, hi, l', hl', h⟩ := h
      cases h
      unfold strKeys at hk
      split at hk
      · rename_i he; cases he
      · rename_i he
        cases he
        obtain ⟨kk', hkk, rfl⟩ := Option.map_eq_some_iff.mp hk
        exact dsp_cons (ih.e sc X e i G hi) (ih.d sc X r l' G hl' pos _ kk' hkk (by simpa using hl))
      · cases hk
theorem snd_w {n : Nat} (ih : Snd c C n) (sc : Scope) (X : Cx) (tg e : Expr) (i : II) (G : GX c C sc X) (h : trW c (n + 1) sc (isTup tg) e = some i) : (∃ x px j, e = .Name x px ∧ i = .wk j ∧ fine x = true ∧ vis sc x = true ∧ c.N.idxOf? x = some j) ∨ (PI X tg e (liftI X.K (wI C i)) ∧ ∀ env x, foldedSetIterable e env x = pure x) := by
  unfold trW at h
  split at h
  · split at h
    · rename_i hc
      simp only [Bool.and_eq_true] at hc
      obtain ⟨j, hj, rfl⟩ := Option.map_eq_some_iff.mp h
      exact .inl ⟨_, _, j, rfl, rfl, hc.1, hc.2, hj⟩
    · cases h
  · exact .inr (ih.i sc X tg e i G h)
theorem snd_j {n : Nat} (ih : Snd c C n) (sc : Scope) (X : Cx) (tg e : Expr) (i : II) (G : GX c C sc X) (h : trJ c (n + 1) sc (isTup tg) e = some i) : PI X tg e (liftJ X.K (wI C i)) ∧ ∀ env x, foldedSetIterable e env x = pure x := by
  unfold trJ at h
  split at h
  · split at h
    · split at h
      · rename_i hc
        simp only [Bool.and_eq_true] at hc
        obtain ⟨j, hj, rfl⟩ := Option.map_eq_some_iff.mp h
        exact ⟨pi_pk ((se_loc (C := C) G hc.1 hc.2 hj).l j rfl), fun _ _ => rfl⟩
      · cases h
    · have := ih.i sc X tg _ i G h
      exact ⟨pi_toJ this.1, this.2⟩
  · have := ih.i sc X tg _ i G h
    exact ⟨pi_toJ this.1, this.2⟩
theorem snd_o {n : Nat} (ih : Snd c C n) (sc : Scope) (X : Cx) (o : Option Expr) (i : IEo) (G : GX c C sc X) (h : trO c (n + 1) sc o = some i) : PO X o (liftO X.K (wEo C i)) := by
  cases o with
  | none => simp only [trO] at h; cases h; exact so_none
  | some e =>
    simp only [trO, Option.bind_eq_bind, Option.bind_eq_some_iff] at h
    obtain ⟨j, hj, h⟩ := h
    cases h
    exact so_some (ih.e sc X e j G hj)
theorem snd_bt {n : Nat} (ih : Snd c C n) (sc : Scope) (X : Cx) (op : BoolOp) (es : List Expr) (i : IC) (pos : Pos) (G : GX c C sc X) (h : trBC c (n + 1) sc op es = some i) : PW X (.BoolOp op es pos) (liftT X.K (wT C i)) := by
  cases es with
  | nil => simp [trBC] at h
  | cons e r =>
    cases r with
    | nil =>
      simp only [trBC] at h
      cases op with
      | And => exact pw_and1_ (ih.t sc X e i G h)
      | Or => exact pw_or1_ (ih.t sc X e i G h)
    | cons b r =>
      cases op with
      | And =>
        simp only [trBC, Option.bind_eq_bind, Option.bind_eq_some_iff] at h
        obtain ⟨ia, ha, ib, hb, h⟩ := h
        cases h
        exact pw_and_ (ih.t sc X e ia G ha) (ih.bt sc X _ _ _ _ G hb)
      | Or =>
        simp only [trBC, Option.bind_eq_bind, Option.bind_eq_some_iff] at h
        obtain ⟨ia, ha, ib, hb, h⟩ := h
        cases h
        exact pw_or_ (ih.t sc X e ia G ha) (ih.bt sc X _ _ _ _ G hb)
theorem snd_v {n : Nat} (ih : Snd c C n) {sc : Scope} {X : Cx} {e : Expr} {i : IC} (G : GX c C sc X) (he : ∀ whole, isTrue e X.env whole = (do let v ← whole; standAt e.pos; holding [v] (truthy v))) (h : (do some (IC.v (← trE c n sc e))) = some i) : PT X e (liftT X.K (wT C i)) := by
  simp only [Option.bind_eq_bind, Option.bind_eq_some_iff] at h
  obtain ⟨j, hj, h⟩ := h
  cases h
  exact pt_v (ih.e sc X e j G hj) he
theorem snd_t {n : Nat} (ih : Snd c C n) (sc : Scope) (X : Cx) (e : Expr) (i : IC) (G : GX c C sc X) (h : trC c (n + 1) sc e = some i) : PT X e (liftT X.K (wT C i)) := by
  unfold trC at h
  split at h
  · simp only [Option.bind_eq_bind, Option.bind_eq_some_iff] at h
    obtain ⟨j, hj, h⟩ := h
    cases h
    exact pt_not_ (ih.t sc X _ j G hj)
  · exact (ih.bt sc X _ _ i _ G h).pt
  · split at h
    · rename_i hf
      simp only [Option.bind_eq_bind, Option.bind_eq_some_iff] at h
      obtain ⟨ia, ha, ib, hb, h⟩ := h
      cases h
      exact pt_cmp_ G hf (ih.e sc X _ ia G ha) (ih.e sc X _ ib G hb)
    · cases h
  · split at h
    · rename_i hf
      simp only [Bool.and_eq_true] at hf
      simp only [Option.bind_eq_bind, Option.bind_eq_some_iff] at h
      obtain ⟨ia, ha, ib, hb, id, hd, h⟩ := h
      cases h
      exact pt_chain_ G hf.1.1.1.1.2 (ih.e sc X _ ia G ha) (ih.e sc X _ ib G hb) (ih.e sc X _ id G hd)
    · cases h
  · cases h
  · cases h
  · rename_i h1 h2 h3 h4 h4b h5
    cases e <;> try exact snd_v ih G (fun _ => rfl) h
    · exact (h2 _ _ _ rfl).elim
    · rename_i op a p
      cases op <;> first | exact (h1 _ _ rfl).elim | exact snd_v ih G (fun _ => rfl) h
    · exact (h5 _ _ _ _ rfl).elim
    · exfalso
      simp only [Option.bind_eq_bind, Option.bind_eq_some_iff] at h
      obtain ⟨j, hj, h⟩ := h
      cases n with
      | zero => simp [trE] at hj
      | succ n =>
        unfold trE at hj
        split at hj <;> first | (rename_i h6; cases h6; done) | skip
        all_goals first
          | (exact h3 _ _ _ _ (by assumption))
          | (exact h4 _ _ _ _ _ _ (by assumption))
          | (exact h4b _ _ _ _ _ _ _ _ (by assumption))
          | (cases hj; done)
          | trace_state
end
end Q
/-! Soundness: the translator's induction, the end. -/
namespace Q
open PySem PySem.Spec PyProof.Rows L2
section
variable {c : TC} {C : Calls}
theorem snd_i {n : Nat} (ih : Snd c C n) (sc : Scope) (X : Cx) (tg e : Expr) (i : II) (G : GX c C sc X) (h : trI c (n + 1) sc (isTup tg) e = some i) : PI X tg e (liftI X.K (wI C i)) ∧ ∀ env x, foldedSetIterable e env x = pure x := by
  have seq : ∀ {e : Expr}, (do some (II.seq (← trE c n sc e))) = some i → PI X tg e (liftI X.K (wI C i)) ∧ ∀ env x, foldedSetIterable e env x = pure x := fun {e} h => by
    simp only [Option.bind_eq_bind, Option.bind_eq_some_iff] at h
    obtain ⟨j, hj, h⟩ := h
    cases h
    exact ⟨pi_seq (ih.e sc X e j G hj), set_not hj⟩
  unfold trI at h
  split at h
  · split at h
    · rename_i hc
      simp only [Bool.and_eq_true, beq_iff_eq] at hc
      simp only [Option.bind_eq_bind, Option.bind_eq_some_iff] at h
      obtain ⟨j, hj, h⟩ := h
      cases h
      exact ⟨pi_rng1 G hc.1 hc.2 (ih.e sc X _ j G hj) (star_of hj), fun _ _ => rfl⟩
    · split at h
      · rename_i hc
        simp only [Bool.and_eq_true, beq_iff_eq] at hc
        simp only [Option.bind_eq_bind, Option.bind_eq_some_iff] at h
        obtain ⟨j, hj, h⟩ := h
        cases h
        obtain ⟨es, kk, p, rfl⟩ := isTup_eq hc.1.1
        exact ⟨pi_enm G hc.1.2 hc.2 (ih.e sc X _ j G hj) (star_of hj), fun _ _ => rfl⟩
      · exact seq h
  · split at h
    · rename_i hc
      simp only [Bool.and_eq_true, beq_iff_eq] at hc
      simp only [Option.bind_eq_bind, Option.bind_eq_some_iff] at h
      obtain ⟨j, hj, k, hk, h⟩ := h
      cases h
      exact ⟨pi_rng2 G hc.1 hc.2 (ih.e sc X _ j G hj) (ih.e sc X _ k G hk) (star_of hj) (star_of hk), fun _ _ => rfl⟩
    · split at h
      · rename_i hc
        simp only [Bool.and_eq_true, beq_iff_eq] at hc
        simp only [Option.bind_eq_bind, Option.bind_eq_some_iff] at h
        obtain ⟨j, hj, k, hk, h⟩ := h
        cases h
        obtain ⟨es, kk, p, rfl⟩ := isTup_eq hc.1.1
        exact ⟨pi_zip_ G hc.1.2 hc.2 (ih.e sc X _ j G hj) (ih.e sc X _ k G hk) (star_of hj) (star_of hk), fun _ _ => rfl⟩
      · exact seq h
  · exact seq h
theorem fold_ok {n : Nat} {sc : Scope} {tt : Bool} {e : Expr} {i : II} (h : trI c (n + 1) sc tt e = some i) : ∀ env x, foldedSetIterable e env x = pure x := by
  intro env x
  cases e <;> first | rfl | (exfalso; simp only [trI, Option.bind_eq_bind, Option.bind_eq_some_iff] at h; obtain ⟨j, hj, _⟩ := h; cases n <;> simp [trE] at hj)
theorem strKeys_all : ∀ {keys : List (Option Expr)} {kk : List Str}, strKeys keys = some kk → keys.all (·.isSome) = true
  | [], _, _ => rfl
  | k :: keys, kk, h => by
    unfold strKeys at h
    split at h
    · rename_i e; cases e
    · rename_i e
      cases e
      obtain ⟨k', h1, _⟩ := Option.map_eq_some_iff.mp h
      simp [strKeys_all h1]
    · cases h
theorem snd_e {n : Nat} (ih : Snd c C n) (sc : Scope) (X : Cx) (e : Expr) (i : IE) (G : GX c C sc X) (h : trE c (n + 1) sc e = some i) : SE X C e i := by
  unfold trE at h
  split at h
  · -- a name
    split at h
    · rename_i hf
      split at h
      · rename_i hv
        obtain ⟨j, hj, rfl⟩ := Option.map_eq_some_iff.mp h
        exact se_loc G hf hv hj
      · split at h
        · rename_i hg
          obtain ⟨d, hd, rfl⟩ := Option.map_eq_some_iff.mp h
          obtain ⟨u, v, hm, r, rp⟩ := G.gl _ d hd
          exact se_cst (pe_glob (G.gl_ hg) hm r (fine_of hf).1) rp
        · cases h
    · cases h
  · cases h; exact se_cst pe_int fun _ _ _ => by simp only [Rep]
  · cases h; exact se_cst pe_bl fun _ _ _ => by simp only [Rep]
  · cases h; exact se_cst pe_str fun _ _ _ => by simp only [Rep]
  · cases h; exact se_cst pe_non fun _ _ _ => by simp only [Rep]
  · simp only [Option.bind_eq_bind, Option.bind_eq_some_iff] at h
    obtain ⟨o, ho, ia, ha, ib, hb, h⟩ := h
    cases h
    exact se_bin ho (ih.e sc X _ ia G ha) (ih.e sc X _ ib G hb)
  · simp only [Option.bind_eq_bind, Option.bind_eq_some_iff] at h
    obtain ⟨ia, ha, h⟩ := h
    cases h
    exact se_neg (ih.e sc X _ ia G ha)
  · simp only [Option.bind_eq_bind, Option.bind_eq_some_iff] at h
    obtain ⟨ia, ha, h⟩ := h
    cases h
    exact se_not (ih.e sc X _ ia G ha)
  · exact ih.b sc X _ _ i _ G h
  · simp only [Option.bind_eq_bind, Option.bind_eq_some_iff] at h
    obtain ⟨it, ht, ia, ha, ib, hb, h⟩ := h
    cases h
    exact se_ite (ih.t sc X _ it G ht) (ih.e sc X _ ia G ha) (ih.e sc X _ ib G hb)
  · split at h
    · rename_i hf
      simp only [Option.bind_eq_bind, Option.bind_eq_some_iff] at h
      obtain ⟨ia, ha, ib, hb, h⟩ := h
      cases h
      exact se_cmp G hf (ih.e sc X _ ia G ha) (ih.e sc X _ ib G hb)
    · cases h
  · split at h
    · rename_i hf
      simp only [Bool.and_eq_true] at hf
      simp only [Option.bind_eq_bind, Option.bind_eq_some_iff] at h
      obtain ⟨ia, ha, ib, hb, id, hd, h⟩ := h
      cases h
      exact se_chain G hf.1.1.1.1.2 (ih.e sc X _ ia G ha) (ih.e sc X _ ib G hb) (ih.e sc X _ id G hd)
    · cases h
  · split at h
    · rename_i hf
      simp only [Bool.and_eq_true] at hf
      simp only [Option.bind_eq_bind, Option.bind_eq_some_iff] at h
      obtain ⟨ia, ha, ib, hb, id, hd, ie, he, h⟩ := h
      cases h
      exact se_chain3 G hf.1.1.1.1.1.1.2 (ih.e sc X _ ia G ha) (ih.e sc X _ ib G hb) (ih.e sc X _ id G hd) (ih.e sc X _ ie G he)
    · cases h
  · obtain ⟨l, hl, rfl⟩ := Option.map_eq_some_iff.mp h
    exact se_tup (ih.es sc X _ l G hl).1
  · obtain ⟨l, hl, h⟩ := Option.map_eq_some_iff.mp h
    split at h <;> subst h
    · exact se_new (ih.es sc X _ l G hl).1
    · exact se_lst (ih.es sc X _ l G hl).1
  · -- a dict
    split at h
    · rename_i hc
      simp only [Bool.and_eq_true, beq_iff_eq, decide_eq_true_eq] at hc
      simp only [Option.bind_eq_bind, Option.bind_eq_some_iff] at h
      obtain ⟨kk, hkk, l, hl, h⟩ := h
      cases h
      rename_i keys vs pos
      cases keys with
      | nil =>
        have : vs = [] := by
          have := hc.1
          simp at this
          exact List.length_eq_zero_iff.mp this.symm
        subst this
        simp only [strKeys] at hkk; cases hkk
        have : l = .nil := by cases n <;> simp [trEs] at hl <;> exact hl.symm
        subst this
        exact se_dct0
      | cons k keys =>
        refine se_dct (ih.d sc X vs l G hl pos (k :: keys) kk hkk hc.1) (strKeys_all hkk) hc.1 (by simp) hc.2
    · cases h
  · split at h
    · rename_i kx vx tg iter ifs scope pos hc
      simp only [Bool.and_eq_true] at hc
      simp only [Option.bind_eq_bind, Option.bind_eq_some_iff] at h
      obtain ⟨ik, hk, iv, hv, it, ht, src, hi, ic, hc2, h⟩ := h
      cases h
      have hc3 : ∀ X', GX c C scope X' → PTs X' ifs (liftT X'.K (wT C ic)) := fun X' G' => by
        split at hc2
        · cases hc2; exact pts_of_nil
        · exact pts_one (ih.t _ X' _ ic G' hc2)
        · cases hc2
      rcases ih.w sc X _ _ src G hi with ⟨x, px, j, rfl, rfl, hf, hvi, hj⟩ | ⟨h1, h2⟩
      · exact se_dcompW (n := n) G (ixIn_lv hc.2) hc.1 ht (ixIn_of hc.2 ht) (fun X' G' => ih.e _ X' _ ik G' hk) (fun X' G' => ih.e _ X' _ iv G' hv) hf hvi hj hc3
      · exact se_dcomp (n := n) G (ixIn_lv hc.2) hc.1 ht (ixIn_of hc.2 ht) (fun X' G' => ih.e _ X' _ ik G' hk) (fun X' G' => ih.e _ X' _ iv G' hv) h1 hc3 (h2 X.env)
    · cases h
  · split at h
    · simp only [Option.bind_eq_bind, Option.bind_eq_some_iff] at h
      obtain ⟨ia, ha, h⟩ := h
      cases h
      exact se_rev (ih.e sc X _ ia G ha)
    · simp only [Option.bind_eq_bind, Option.bind_eq_some_iff] at h
      obtain ⟨ia, ha, il, hl, ih', hh, h⟩ := h
      cases h
      exact se_slc (ih.e sc X _ ia G ha) (ih.o sc X _ il G hl) (ih.o sc X _ ih' G hh)
    · simp only [Option.bind_eq_bind, Option.bind_eq_some_iff] at h
      obtain ⟨ia, ha, ii, hi, h⟩ := h
      cases h
      exact se_idx G (ih.e sc X _ ia G ha) (ih.e sc X _ ii G hi) (plain_ix hi)
  · -- a call
    rename_i f p args pos
    split at h
    · rename_i hgf
      simp only [Bool.and_eq_true] at hgf
      obtain ⟨hg, hf⟩ := hgf
      split at h
      · rename_i np dv hl
        split at h
        · rename_i hc
          simp only [Bool.and_eq_true, decide_eq_true_eq] at hc
          obtain ⟨⟨⟨h1, h2⟩, h3⟩, h4⟩ := hc
          simp only [Option.bind_eq_bind, Option.bind_eq_some_iff] at h
          obtain ⟨l, hl', h⟩ := h
          cases h
          cases args with
          | nil => simp at h3
          | cons a r =>
            have T := ih.es sc X _ l G hl'
            refine se_call G hg hf hl (by omega) T.2.2.1 ?_ ?_ ?_
            · rw [addD_len, T.2.2.2, List.length_drop]; omega
            · cases n with
              | zero => simp [trEs] at hl'
              | succ n =>
                simp only [trEs, Option.bind_eq_bind, Option.bind_eq_some_iff] at hl'
                obtain ⟨i1, hi1, _⟩ := hl'
                exact star_of hi1 r
            · cases n with
              | zero => simp [trEs] at hl'
              | succ n =>
                simp only [trEs, Option.bind_eq_bind, Option.bind_eq_some_iff] at hl'
                obtain ⟨i1, hi1, l1, hl1, _⟩ := hl'
                exact any_star (n := n) hl1
        · split at h
          · rename_i hc
            simp only [Bool.and_eq_true, beq_iff_eq, List.isEmpty_iff] at hc
            obtain ⟨⟨rfl, rfl⟩, rfl⟩ := hc
            cases h
            exact se_call0 G hg hf hl
          · cases h
      · have two : ∀ {a b : Expr} {T : String}, f = (T : Str) → T ∈ ["len", "all", "any", "sum", "min", "max", "tuple", "list", "int", "dict", "sorted"] → (do some (IE.blt T (← trEs c n sc [a, b]))) = some i → SE X C (.Call (.Name f p) [a, b] [] pos) i := fun {a b T} hT hm h => by
          simp only [Option.bind_eq_bind, Option.bind_eq_some_iff] at h
          obtain ⟨l, hl, h⟩ := h
          cases h
          cases n with
          | zero => simp [trEs] at hl
          | succ n =>
            have hl2 := hl
            simp only [trEs, Option.bind_eq_bind, Option.bind_eq_some_iff] at hl2
            obtain ⟨i1, hi1, l1, hl1, _⟩ := hl2
            exact se_blt G hg hf hT hm (ih.es sc X _ l G hl).2.1 (star_of hi1 _) (any_star (n := n) hl1)
        have one : ∀ {a : Expr} {T : String}, f = (T : Str) → T ∈ ["len", "all", "any", "sum", "min", "max", "tuple", "list", "int", "dict", "sorted"] → (do some (IE.blt T (← trEs c n sc [a]))) = some i → SE X C (.Call (.Name f p) [a] [] pos) i := fun {a T} hT hm h => by
          simp only [Option.bind_eq_bind, Option.bind_eq_some_iff] at h
          obtain ⟨l, hl, h⟩ := h
          cases h
          cases n with
          | zero => simp [trEs] at hl
          | succ n =>
            have hl2 := hl
            simp only [trEs, Option.bind_eq_bind, Option.bind_eq_some_iff] at hl2
            obtain ⟨i1, hi1, l1, hl1, _⟩ := hl2
            exact se_blt G hg hf hT hm (ih.es sc X _ l G hl).2.1 (star_of hi1 _) rfl
        split at h
        · split at h
          · rename_i np le hfl hlm
            split at h
            · rename_i hc
              simp only [Bool.and_eq_true, beq_iff_eq] at hc
              obtain ⟨⟨rfl, h2⟩, h3⟩ := hc
              simp only [Option.bind_eq_bind, Option.bind_eq_some_iff] at h
              obtain ⟨i1, hi1, i2, hi2, cs, hcs, h⟩ := h
              cases h
              exact se_callL G hg hf hfl hlm h2 h3 hcs (ih.e sc X _ i1 G hi1) (ih.e sc X _ i2 G hi2) (star_of hi1) (star_of hi2)
            · cases h
          · cases h
        · split at h
          · rename_i hi
            split at h
            · rename_i T hT
              obtain ⟨hT1, hT2⟩ := ofS_eq hT
              split at h
              · rename_i htg
                simp only [Option.bind_eq_bind, Option.bind_eq_some_iff] at h
                obtain ⟨ia, ha, h⟩ := h
                cases h
                exact se_isa G hg hf (by simpa using hi) hT1 hT2 htg (ih.e sc X _ ia G ha) (star_of ha _)
              · cases h
            · cases h
          · split at h
            · rename_i hi
              exact two (by simpa using hi) (by simp) h
            · split at h
              · rename_i hi
                exact two (by simpa using hi) (by simp) h
              · cases h
        · split at h
          · rename_i hi
            exact two (by simpa using hi) (by simp) h
          · split at h
            · rename_i hi
              exact two (by simpa using hi) (by simp) h
            · cases h
        · have one1 : ∀ {a : Expr} {i1 : IE}, trE c n sc a = some i1 → PA X [a] (liftQ X.K (wPs C (.cons i1 .nil))) := fun {a i1} h1 => pps_cons (ih.e sc X a i1 G h1) pps_nil (star_of h1 [])
          split at h
          · rename_i hr
            simp only [Option.bind_eq_bind, Option.bind_eq_some_iff] at h
            obtain ⟨i1, hi1, h⟩ := h
            cases h
            exact se_repr G hg hf (by simpa using hr) (one1 hi1) (star_of hi1 [])
          · split at h
            · rename_i hr
              simp only [Option.bind_eq_bind, Option.bind_eq_some_iff] at h
              obtain ⟨i1, hi1, h⟩ := h
              cases h
              exact se_strI G hg hf (by simpa using hr) (one1 hi1) (star_of hi1 [])
            · split at h
              · rename_i T hT
                obtain ⟨hT1, hT2⟩ := ofS_eq hT
                exact one hT2 (by revert hT1; simp only [builtins1, List.mem_cons, List.not_mem_nil]; grind) h
              · split at h
                · rename_i T hT
                  obtain ⟨hT1, hT2⟩ := ofS_eq hT
                  split at h
                  · rename_i hx
                    simp only [Bool.and_eq_true, beq_iff_eq] at hx
                    simp only [Option.bind_eq_bind, Option.bind_eq_some_iff] at h
                    obtain ⟨l, hl, h⟩ := h
                    cases h
                    cases n with
                    | zero => simp [trEs] at hl
                    | succ n =>
                      have hl2 := hl
                      simp only [trEs, Option.bind_eq_bind, Option.bind_eq_some_iff] at hl2
                      obtain ⟨i1, hi1, l1, hl1, _⟩ := hl2
                      exact se_xt G hg hf (by rw [hT2, hx.2]) (ih.es sc X _ l G hl).2.1 (star_of hi1 _)
                  · exact one hT2 (by revert hT1; simp only [types1, List.mem_cons, List.not_mem_nil]; grind) h
                · split at h
                  · rename_i hso
                    have hso : f = ("sorted" : Str) := by simpa using hso
                    split at h
                    · split at h
                      · rename_i hset
                        simp only [Bool.and_eq_true, beq_iff_eq] at hset
                        obtain ⟨⟨h1, h2⟩, h3⟩ := hset
                        simp only [Option.bind_eq_bind, Option.bind_eq_some_iff] at h
                        obtain ⟨l, hl, h⟩ := h
                        cases h
                        cases n with
                        | zero => simp [trEs] at hl
                        | succ n =>
                          have hl2 := hl
                          simp only [trEs, Option.bind_eq_bind, Option.bind_eq_some_iff] at hl2
                          obtain ⟨i1, hi1, l1, hl1, _⟩ := hl2
                          exact se_sortset G hg hf hso h2 h3 h1 (ih.es sc X _ l G hl).2.1 (star_of hi1 _)
                      · exact one hso (by simp) h
                    · exact one hso (by simp) h
                  · cases h
        · cases h
    · split at h
      · rename_i hc
        simp only [Bool.and_eq_true, beq_iff_eq] at hc
        obtain ⟨⟨hlv, hv⟩, hf⟩ := hc
        split at h
        · simp only [Option.bind_eq_bind, Option.bind_eq_some_iff] at h
          obtain ⟨j, hj, i1, hi1, h⟩ := h
          cases h
          exact se_callv G hlv hv hf hj (ih.e sc X _ i1 G hi1) (star_of hi1)
        · cases h
      · cases h
  · split at h
    · rename_i elt tg iter ifs scope pos hc
      simp only [Bool.and_eq_true] at hc
      simp only [Option.bind_eq_bind, Option.bind_eq_some_iff] at h
      obtain ⟨ie, he, it, ht, src, hi, ic, hc2, h⟩ := h
      cases h
      obtain ⟨hi1, hi2⟩ := ih.j sc X tg iter src G hi
      refine se_comp (n := n) G (ixIn_lv hc.2) hc.1 ht (ixIn_of hc.2 ht) (fun X' G' => ih.e _ X' elt ie G' he) hi1 (fun X' G' => ?_) (hi2 X.env)
      split at hc2
      · cases hc2; exact pts_of_nil
      · exact pts_one (ih.t _ X' _ ic G' hc2)
      · cases hc2
    · cases h
  · split at h
    · rename_i hc
      simp only [Bool.and_eq_true] at hc
      simp only [Option.bind_eq_bind, Option.bind_eq_some_iff] at h
      obtain ⟨ie, he, it, ht, src, hi, it1, ht1, src1, hi1, h⟩ := h
      cases h
      obtain ⟨hi1', hi2⟩ := ih.i sc X _ _ src G hi
      exact se_comp2 (n := n) G (ixIn_lv hc.2) hc.1.1 ht (ixIn_of hc.1.2 ht) ht1 (ixIn_of hc.2 ht1) (fun X' G' => ih.e _ X' _ ie G' he) hi1' (fun X' G' => (ih.i _ X' _ _ src1 G' hi1).1) (hi2 X.env) (fun env x => by
        cases n with
        | zero => simp [trI] at hi1
        | succ n => exact fold_ok hi1 env x)
    · cases h
  · cases h
theorem snd_all : ∀ n, Snd c C n
  | 0 => snd_zero
  | n + 1 => ⟨snd_e (snd_all n), snd_b (snd_all n), snd_es (snd_all n), snd_o (snd_all n), snd_t (snd_all n), snd_bt (snd_all n), snd_d (snd_all n), snd_w (snd_all n), snd_j (snd_all n), snd_i (snd_all n)⟩
end
end Q
/-! Soundness: statements. -/
namespace Q
open PySem PySem.Spec PyProof.Rows L2
abbrev Zends := Q.Ends
def liftS (K : PySem.W.Frag) (t : Lo → Sto → Q.Ends → Prop) : TS := fun D σ H => ∃ F W φ L S, ∃ Z : Q.Ends, StR K F H W φ L S σ ∧ t L S Z ∧
  (∀ L' S' σ' H' W' φ', Z.nx L' S' → StR K F H' W' φ' L' S' σ' → Tr true H φ W H' φ' W' → D.nx σ' H') ∧
  (∀ d L' S' σ' H' W' φ' v, Z.rt d S' → StR K F H' W' φ' L' S' σ' → Tr true H φ W H' φ' W' → Rep K H' φ' W' d v → D.rt v H') ∧
  (∀ L' S' σ' H' W' φ', Z.bk L' S' → StR K F H' W' φ' L' S' σ' → Tr true H φ W H' φ' W' → D.bk σ' H') ∧
  (∀ L' S' σ' H' W' φ', Z.ct L' S' → StR K F H' W' φ' L' S' σ' → Tr true H φ W H' φ' W' → D.ct σ' H')
theorem PS.imp {X : Cx} {s : Stmt} {t u : TS} (h : PS X s t) (k : ∀ D σ H, u D σ H → t D σ H) : PS X s u := ⟨fun pins s σ H D I hw => h.run pins s σ H D I (k D σ H hw)⟩
theorem PSs.imp {X : Cx} {s : List Stmt} {t u : TS} (h : PSs X s t) (k : ∀ D σ H, u D σ H → t D σ H) : PSs X s u := ⟨fun pins s σ H D I hw => h.run pins s σ H D I (k D σ H hw)⟩
section
variable {X : Cx} {C : Calls} {c : TC} {sc : Scope}
theorem ss_nil : PSs X [] (liftS X.K (wSs C .nil)) := PSs.imp pss_nil fun D σ H ⟨F, W, φ, L, S, Z, s, ht, n, _⟩ => by
  simp only [wSs] at ht
  exact n L S σ H W φ ht s Tr.refl
theorem ss_cons {st : Stmt} {r : List Stmt} {i : IS} {l : ISs} (h : PS X st (liftS X.K (wS C i))) (hr : PSs X r (liftS X.K (wSs C l))) : PSs X (st :: r) (liftS X.K (wSs C (.cons i l))) := by
  refine PSs.imp (pss_cons h hr) fun D σ H ⟨F, W, φ, L, S, Z, s, ht, n, rt, bk, ct⟩ => ?_
  simp only [wSs] at ht
  refine ⟨F, W, φ, L, S, _, s, ht, fun L1 S1 σ1 H1 W1 φ1 h1 s1 t1 => ?_, rt, bk, ct⟩
  exact ⟨F, W1, φ1, L1, S1, Z, s1, h1, fun L' S' σ' H' W' φ' z s' t' => n L' S' σ' H' W' φ' z s' (t1.trans t'), fun d L' S' σ' H' W' φ' v z s' t' r => rt d L' S' σ' H' W' φ' v z s' (t1.trans t') r,
    fun L' S' σ' H' W' φ' z s' t' => bk L' S' σ' H' W' φ' z s' (t1.trans t'), fun L' S' σ' H' W' φ' z s' t' => ct L' S' σ' H' W' φ' z s' (t1.trans t')⟩
theorem s_pass {p : Pos} : PS X (.Pass p) (liftS X.K (wS C .pass)) := PS.imp ps_pass fun D σ H ⟨F, W, φ, L, S, Z, s, ht, n, _⟩ => by
  simp only [wS] at ht
  exact n L S σ H W φ ht s Tr.refl
theorem s_doc {x : Str} {j : Nat} {p p2 : Pos} : PS X (.Expr (.Constant (.str x) j p) p2) (liftS X.K (wS C .pass)) := PS.imp ps_doc fun D σ H ⟨F, W, φ, L, S, Z, s, ht, n, _⟩ => by
  simp only [wS] at ht
  exact n L S σ H W φ ht s Tr.refl
theorem s_cont {p : Pos} : PS X (.Continue p) (liftS X.K (wS C .cont)) := PS.imp ps_continue fun D σ H ⟨F, W, φ, L, S, Z, s, ht, n, _, _, ct⟩ => by
  simp only [wS] at ht
  exact ct L S σ H W φ ht s Tr.refl
theorem s_brk {p : Pos} : PS X (.Break p) (liftS X.K (wS C .brk)) := PS.imp ps_break fun D σ H ⟨F, W, φ, L, S, Z, s, ht, n, _, bk, _⟩ => by
  simp only [wS] at ht
  exact bk L S σ H W φ ht s Tr.refl
theorem s_never {st : Stmt} : PS X st (liftS X.K (wS C .never)) := PS.imp ps_never fun D σ H ⟨F, W, φ, L, S, Z, s, ht, _⟩ => by
  simp only [wS] at ht
theorem s_ret {e : Expr} {i : IE} {p : Pos} (h : SE X C e i) : PS X (.Return (some e) p) (liftS X.K (wS C (.ret i))) := by
  refine PS.imp (ps_ret h.v) fun D σ H ⟨F, W, φ, L, S, Z, s, ht, n, rt, bk, ct⟩ => ?_
  simp only [wS] at ht
  refine ⟨F, W, φ, L, S, _, s, ht, fun d f L1 S1 H1 W1 φ1 v h1 s1 t1 vr => ?_⟩
  obtain ⟨W2, s2, t2, r⟩ := vr.settle s1
  exact rt d L1 S1 σ H1 W2 φ1 v h1 s2 (t1.trans t2).weak r
theorem s_retN {p : Pos} : PS X (.Return none p) (liftS X.K (wS C (.ret (.cst .non)))) := by
  refine PS.imp ps_retN fun D σ H ⟨F, W, φ, L, S, Z, s, ht, n, rt, bk, ct⟩ => ?_
  simp only [wS, wE] at ht
  exact rt .non L S σ H W φ .non ht s Tr.refl (by simp only [Rep])
theorem s_if {t : Expr} {a b : List Stmt} {it : IC} {ia ib : ISs} {p : Pos} (h : PT X t (liftT X.K (wT C it))) (ha : PSs X a (liftS X.K (wSs C ia))) (hb : PSs X b (liftS X.K (wSs C ib))) : PS X (.If t a b p) (liftS X.K (wS C (.ifs it ia ib))) := by
  refine PS.imp (ps_if h ha hb) fun D σ H ⟨F, W, φ, L, S, Z, s, ht, n, rt, bk, ct⟩ => ?_
  simp only [wS] at ht
  refine ⟨F, W, φ, L, S, _, s, ht, fun k L1 S1 H1 W1 φ1 h1 s1 t1 => ?_⟩
  have fin : ∀ {u : ISs}, wSs C u L1 S1 Z → liftS X.K (wSs C u) D σ H1 := fun hu => ⟨F, W1, φ1, L1, S1, Z, s1, hu, fun L' S' σ' H' W' φ' z s' t' => n L' S' σ' H' W' φ' z s' (t1.weak.trans t'), fun d L' S' σ' H' W' φ' v z s' t' r => rt d L' S' σ' H' W' φ' v z s' (t1.weak.trans t') r,
    fun L' S' σ' H' W' φ' z s' t' => bk L' S' σ' H' W' φ' z s' (t1.weak.trans t'), fun L' S' σ' H' W' φ' z s' t' => ct L' S' σ' H' W' φ' z s' (t1.weak.trans t')⟩
  cases k with
  | true => dsimp only at h1 ⊢; rw [if_pos rfl] at h1 ⊢; exact fin h1
  | false => dsimp only at h1 ⊢; rw [if_neg (by decide)] at h1 ⊢; exact fin h1
theorem own_pass : PassesOwn (model X.prog X.w) X.A X.env (fun _ _ => False) := PassesOwn.never
theorem s_while {t : Expr} {a : List Stmt} {it : IC} {ia : ISs} {p : Pos} (G : GX c C sc X) (h : PT X t (liftT X.K (wT C it))) (ha : PSs X a (liftS X.K (wSs C ia))) : PS X (.While t a [] p) (liftS X.K (wS C (.whl it ia))) := by
  have hp : PassesOwn (model X.prog X.w) X.A X.env X.xe := by rw [G.xe]; exact PassesOwn.never
  refine PS.imp (ps_while hp h ha) fun D σ H ⟨F, W, φ, L, S, Z, s, ht, n, rt, bk, ct⟩ => ?_
  simp only [wS, whlL] at ht
  obtain ⟨V, ⟨m0, v0⟩, turn⟩ := ht
  refine ⟨fun m σ1 H1 => ∃ W1 φ1 L1 S1, StR X.K F H1 W1 φ1 L1 S1 σ1 ∧ Tr true H φ W H1 φ1 W1 ∧ V m L1 S1, ⟨m0, W, φ, L, S, s, Tr.refl, v0⟩, ?_⟩
  rintro m σ1 H1 ⟨W1, φ1, L1, S1, s1, t1, v1⟩
  refine ⟨F, W1, φ1, L1, S1, _, s1, turn m L1 S1 v1, fun k L2 S2 H2 W2 φ2 h2 s2 t2 => ?_⟩
  have t12 := t1.trans t2.weak
  cases k with
  | true =>
    dsimp only at h2 ⊢
    rw [if_pos rfl] at h2 ⊢
    have next : ∀ L' S' σ' H' W' φ', (∃ m', m' < m ∧ V m' L' S') → StR X.K F H' W' φ' L' S' σ' → Tr true H2 φ2 W2 H' φ' W' → ∃ m', m' < m ∧ ∃ W1 φ1 L1 S1, StR X.K F H' W1 φ1 L1 S1 σ' ∧ Tr true H φ W H' φ1 W1 ∧ V m' L1 S1 :=
      fun L' S' σ' H' W' φ' ⟨m', hm, hv⟩ s' t' => ⟨m', hm, W', φ', L', S', s', t12.trans t', hv⟩
    exact ⟨fun σ' H' => ∃ m', m' < m ∧ ∃ W1 φ1 L1 S1, StR X.K F H' W1 φ1 L1 S1 σ' ∧ Tr true H φ W H' φ1 W1 ∧ V m' L1 S1, fun σ' H' h => h, F, W2, φ2, L2, S2, _, s2, h2, next,
      fun d L' S' σ' H' W' φ' v z s' t' r => rt d L' S' σ' H' W' φ' v z s' (t12.trans t') r, fun L' S' σ' H' W' φ' z s' t' => n L' S' σ' H' W' φ' z s' (t12.trans t'), next⟩
  | false =>
    dsimp only at h2 ⊢
    rw [if_neg (by decide)] at h2 ⊢
    exact n L2 S2 σ1 H2 W2 φ2 h2 s2 t12
theorem s_for {tg it : Expr} {a : List Stmt} {ig : IT} {ii : II} {ia : ISs} {n0 : Nat} {p : Pos} (G : GX c C sc X) (hg : trT c sc n0 tg = some ig) (hi : PI X tg it (liftI X.K (wI C ii))) (hs : ∀ x, foldedSetIterable it X.env x = pure x) (ha : PSs X a (liftS X.K (wSs C ia))) :
    PS X (.For tg it a [] p) (liftS X.K (wS C (.fors ig ii ia))) := by
  have hp : PassesOwn (model X.prog X.w) X.A X.env X.xe := by rw [G.xe]; exact PassesOwn.never
  refine PS.imp (ps_for hp G.calm hi ((tr_sound G n0).1 tg ig hg).1 ha hs) fun D σ H ⟨F, W, φ, L, S, Z, s, ht, n, rt, bk, ct⟩ => ?_
  simp only [wS] at ht
  refine ⟨F, W, φ, L, S, _, s, ht, fun ds L1 S1 H1 W1 φ1 J h1 s1 t1 wk => ?_⟩
  obtain ⟨G', Y, hwalk, hG, hY⟩ := wk.ex
  refine for_it hwalk (fun i σ2 H2 => ∃ W2 φ2 L2 S2, StR X.K F H2 W2 φ2 L2 S2 σ2 ∧ Tr true H1 φ1 W1 H2 φ2 W2 ∧ forL (wG ig) (wSs C ia) Z (ds.drop i) L2 S2) ⟨W1, φ1, L1, S1, s1, Tr.refl, h1⟩ ?_ ?_ ?_
  · rintro i σ2 H2 hi ⟨W2, φ2, L2, S2, s2, t2, _⟩
    exact hG H2 φ2 W2 t2
  · rintro i x σ2 H2 H3 hi ⟨W2, φ2, L2, S2, s2, t2, hf⟩ hy
    obtain ⟨d, hd, s3, t3, rd⟩ := (hY i H2 φ2 W2 x H3 hi t2 hy).go s2
    rw [drop_cons hd] at hf
    simp only [forL] at hf
    refine ⟨F, W2, φ2, L2, S2, d, _, s3, rd, hf, fun L' σ' hP s4 _ _ _ => ?_⟩
    have t23 := t2.trans t3.weak
    have tt := t1.weak.trans t23
    have next : ∀ L' S' σ' H' W' φ', forL (wG ig) (wSs C ia) Z (ds.drop (i + 1)) L' S' → StR X.K F H' W' φ' L' S' σ' → Tr true H3 φ2 W2 H' φ' W' → ∃ W2 φ2 L2 S2, StR X.K F H' W2 φ2 L2 S2 σ' ∧ Tr true H1 φ1 W1 H' φ2 W2 ∧ forL (wG ig) (wSs C ia) Z (ds.drop (i + 1)) L2 S2 :=
      fun L' S' σ' H' W' φ' z s' t' => ⟨W', φ', L', S', s', t23.trans t', z⟩
    exact ⟨F, W2, φ2, L', S2, _, s4, hP, next, fun d L' S' σ' H' W' φ' v z s' t' r => rt d L' S' σ' H' W' φ' v z s' (tt.trans t') r, fun L' S' σ' H' W' φ' z s' t' => n L' S' σ' H' W' φ' z s' (tt.trans t'), next⟩
  · rintro σ2 H2 ⟨W2, φ2, L2, S2, s2, t2, hf⟩
    rw [List.drop_length] at hf
    simp only [forL] at hf
    exact n L2 S2 σ2 H2 W2 φ2 hf s2 (t1.weak.trans t2)
end
end Q
/-! Soundness: stores. -/
namespace Q
open PySem PySem.Spec PyProof.Rows L2
section
variable {K : PySem.W.Frag} {F : Fr} {H H1 : Hp} {W W1 : Addr → Prop} {φ φ1 : List Addr} {L L1 : Lo} {S S1 : Sto} {σ σ1 : Sg} {p : Addr}
/-- a slot's own list is written -/
theorem StR.updOwn (s : StR K F H W φ L S σ) {i : Nat} {d d' : D} {a : Addr} {o : HO} (e : L[i]? = some (.own d)) (e1 : σ[i]? = some (some (.ref a))) (ho : isM o = true) (t : Top K (upd H a o) φ W d' a) :
    StR K F (upd H a o) W φ (L.set i (.own d')) S σ ∧ Tr true H φ W (upd H a o) φ W := by
  obtain ⟨a', e2, w, fr, p, tp⟩ := s.own e
  rw [e1] at e2; cases e2
  obtain ⟨u, hu, hm⟩ := tp.there
  have tw : Tr true H φ W (upd H a o) φ W := Tr.updW w hu hm
  have s1 : StR K F H W φ (L.set i .no) S σ := s.slots (by simp) fun j t et => by
    rcases set_cases et with ⟨_, rfl⟩ | ⟨_, h⟩
    · exact .inr (.inl rfl)
    · exact .inl h
  have no : ∀ j, ¬ ownAt (L.set i .no) σ j a := fun j ⟨⟨d', e'⟩, e2⟩ => by
    rcases set_cases e' with ⟨_, h⟩ | ⟨hn, h⟩
    · cases h
    · exact hn (s.lo.apart j i a ⟨⟨d', h⟩, e2⟩ ⟨⟨d, e⟩, e1⟩)
  have s2 := s1.updW (o := o) w hu hm ho fr.1 no
  refine ⟨⟨s2.ext, s2.dom, s2.wc, s2.wnew, s2.wt, s2.pre, s2.phi, s2.phw, s2.nd, s2.tb, s2.tt, s2.st, by simp [s.lo.len], fun j x ex => ?_, fun j k b hj hk => ?_⟩, tw⟩
  · rcases set_cases ex with ⟨rfl, rfl⟩ | ⟨hn, h⟩
    · exact ⟨a, e1, w, fr, t⟩
    · exact s2.lo.at_ j x (by rw [List.getElem?_set_ne (Ne.symm hn)]; exact h)
  · have get : ∀ j, ownAt (L.set i (.own d')) σ j b → ownAt L σ j b := fun j ⟨⟨d2, e2⟩, e3⟩ => by
      rcases set_cases e2 with ⟨rfl, h⟩ | ⟨_, h⟩
      · exact ⟨⟨d, e⟩, e3⟩
      · exact ⟨⟨d2, h⟩, e3⟩
    exact s.lo.apart j k b (get j hj) (get k hk)
/-- a cell is written -/
theorem StR.updCell (s : StR K F H W φ L S σ) {n : Nat} {a : Addr} {l l' : List D} {vs us : List V} (e : φ[n]? = some a) (el : S[n]? = some l) (hq : H a = some (.lst vs)) (hz : us.length ≤ sizeLine) (r : Reps K H φ W l' us) :
    StR K F (upd H a (.lst us)) W φ L (S.set n l') σ ∧ Tr true H φ W (upd H a (.lst us)) φ W := by
  have ha : a ∈ φ := List.mem_of_getElem? e
  have hna : ¬ W a := s.phw a ha
  have dm : ∀ b, upd H a (.lst us) b = none → H b = none := fun b z => by
    unfold upd at z; split at z
    · cases z
    · exact z
  have kp : ∀ {b o}, H b = some o → b ≠ a → upd H a (.lst us) b = some o := fun {b o} h hn => by rw [upd_ne hn]; exact h
  have t : Tr true H φ W (upd H a (.lst us)) φ W := ⟨fun b o h nt q => by
    by_cases hb : b = a
    · subst hb; rw [hq] at h; cases h; exact ((q rfl).1 ha).elim
    · exact kp h hb, fun _ h => .inl h, dm, List.prefix_refl _, fun _ h => .inl h, fun b ps h => ⟨ps, kp h fun z => by rw [z, hq] at h; cases h⟩⟩
  have t0 : Tr false H φ W (upd H a (.lst us)) φ W := ⟨fun b o h nt q => by
    by_cases hb : b = a
    · subst hb; rw [hq] at h; cases h; exact ((q rfl).1 ha).elim
    · exact kp h hb, fun _ h => .inl h, dm, List.prefix_refl _, fun _ h => .inl h, fun b ps h => ⟨ps, kp h fun z => by rw [z, hq] at h; cases h⟩⟩
  refine ⟨⟨fun b o h nt q => ?_, fun b z => s.dom b (dm b z), s.wc, s.wnew, fun b w => ?_, s.pre, s.phi, s.phw, s.nd, s.tb.go (fun b o h k => kp h fun z => by rw [z, hq] at h; cases h; cases k), (fun b ps h => by
    obtain ⟨ps', h'⟩ := s.tt b ps h
    exact ⟨ps', kp h' fun z => by rw [z, hq] at h'; cases h'⟩), ⟨by simp [s.st.len], fun m b x e1 e2 => ?_⟩, s.lo.go t0 fun i b hb => ?_⟩, t⟩
  · by_cases hb : b = a
    · subst hb
      have h1 := s.ext b o h nt q
      rw [hq] at h1; cases h1
      exact ((s.phi b ha).elim (q rfl) fun z => by rw [h] at z; cases z).elim
    · exact kp (s.ext b o h nt q) hb
  · obtain ⟨o, eo, m⟩ := s.wt b w
    exact ⟨o, kp eo fun z => hna (z ▸ w), m⟩
  · by_cases hmn : n = m
    · subst hmn
      rw [e] at e1; cases e1
      have hl : n < S.length := (List.getElem?_eq_some_iff.mp el).1
      rw [List.getElem?_set_self hl] at e2; cases e2
      exact ⟨us, upd_same, hz, r.go t⟩
    · rw [List.getElem?_set_ne hmn] at e2
      obtain ⟨ws, q, z, r'⟩ := s.st.at_ m b x e1 e2
      refine ⟨ws, kp q fun z => ?_, z, r'.go t⟩
      subst z
      have h1 := (List.getElem?_eq_some_iff.mp e)
      have h2 := (List.getElem?_eq_some_iff.mp e1)
      exact hmn ((List.getElem_inj s.nd).mp (h1.2.trans h2.2.symm))
  · obtain ⟨⟨d, e1⟩, e2⟩ := hb
    obtain ⟨a', e3, w, _, p, _⟩ := s.own e1
    rw [e2] at e3; cases e3; exact ⟨p, w⟩
end
section
variable {X : Cx} {C : Calls} {c : TC} {sc : Scope}
theorem s_expr {e : Expr} {i : IE} {p : Pos} (h : SE X C e i) (hs : swapsWith e none p.line X.env = pure false) : PS X (.Expr e p) (liftS X.K (wS C (.expr i))) := by
  refine PS.imp (ps_expr h.v hs) fun D σ H ⟨F, W, φ, L, S, Z, s, ht, n, rt, bk, ct⟩ => ?_
  simp only [wS] at ht
  exact ⟨F, W, φ, L, S, _, s, ht, fun d f L1 S1 H1 W1 φ1 v h1 s1 t1 vr => n L1 S1 σ H1 W1 φ1 h1 s1 t1.weak⟩
/-- x = e, told as a store of e's meaning -/
theorem s_asg {st : Stmt} {i : Nat} {ie : IE} (h : PS X st (tAsg (liftE X.K (wE C ie)) (gName i))) : PS X st (liftS X.K (wS C (.asg (.nm i) ie))) := by
  refine PS.imp h fun D σ H ⟨F, W, φ, L, S, Z, s, ht, n, rt, bk, ct⟩ => ?_
  simp only [wS, asgF] at ht
  refine ⟨F, W, φ, L, S, _, s, ht, fun d f L1 S1 H1 W1 φ1 v h1 s1 t1 vr => ?_⟩
  exact n _ S1 _ H1 W1 φ1 h1 (s1.setFlag vr) t1.weak
theorem swN {e : Expr} {t : Option Expr} {l : Nat} {env : Env} (h1 : lcScope e = none) (h2 : isSDComp e = false) : swapsWith e t l env = pure false := by
  cases e <;> first | rfl | (exfalso; simp [isSDComp] at h2; done) | (exfalso; simp [lcScope] at h1; done)
theorem kindLoc (G : GX c C sc X) {x : Str} : (X.env.kindOf x == some .local) = loc sc x := by
  unfold Env.kindOf loc
  rcases G.sc x with h | ⟨h1, h2⟩
  · rw [h]
    cases sc.names.lookup x with
    | none => rfl
    | some k => cases k <;> rfl
  · rw [h1, h2]; rfl
theorem blkF (G : GX c C sc X) : X.env.blockKind = .function := by unfold Env.blockKind; rw [G.kind]; rfl
theorem sw_eq (G : GX c C sc X) {x : Str} {px : Pos} {e : Expr} {l : Nat} (h2 : isSDComp e = false) : swapsWith e (some (.Name x px)) l X.env = pure (swB sc x px e) := by
  cases e <;> try (first | rfl | cases h2)
  case DictComp kx vx gs scope pos =>
    show (pure (X.env.blockKind == .function && X.env.kindOf x == some .local && px.line == pos.line && !(scope.names.any fun (n, k) => n == x && (k == .local || k == .cell))) : Sem Bool) = _
    rw [blkF G, kindLoc G]
    rfl
  rename_i elt gs scope pos
  show (pure (X.env.blockKind == .function && X.env.kindOf x == some .local && px.line == pos.line && !(scope.names.any fun (n, k) => n == x && (k == .local || k == .cell))) : Sem Bool) = _
  rw [blkF G, kindLoc G]
  rfl
theorem s_asgPlain {x : Str} {px pos : Pos} {e : Expr} {i : Nat} {ie : IE} (G : GX c C sc X) (ht : tgt sc x = true) (h2 : isSDComp e = false) (hi : c.N.idxOf? x = some i) (h : SE X C e ie) (hsw : swB sc x px e = false) : PS X (.Assign [.Name x px] e pos) (liftS X.K (wS C (.asg (.nm i) ie))) := by
  obtain ⟨l1, l2⟩ := G.loc ht
  refine s_asg (ps_set (pos' := px) (by rw [G.N]; exact G.nd) (by rw [G.N]; exact idx_get hi) l1 h.v ?_ l2)
  rw [sw_eq G h2, hsw]
/-- x = [..], the list laid straight into x -/
theorem s_asgLc {x : Str} {px pos p : Pos} {n i : Nat} {elt : Expr} {gs : List Comprehension} {scope : Scope} {ie : IE} (G : GX c C sc X) (hi : c.N.idxOf? x = some i) (h : trE c n sc (.ListComp elt gs scope p) = some ie) (hsw : swB sc x px (.ListComp elt gs scope p) = true) :
    PS X (.Assign [.Name x px] (.ListComp elt gs scope p) pos) (liftS X.K (wS C (.asg (.nm i) ie))) := by
  have hloc : X.env.scope.names.lookup x = some .local := by
    have : (X.env.kindOf x == some .local) = true := by
      rw [kindLoc G]
      unfold swB at hsw
      simp only [lcScope, Bool.and_eq_true] at hsw
      exact hsw.1.1
    simpa [Env.kindOf] using this
  have hs2 : swapsWith (.ListComp elt gs scope p) (some (.Name x px)) pos.line X.env = pure true := by rw [sw_eq G rfl, hsw]
  have hN : X.N.Nodup := by rw [G.N]; exact G.nd
  have hy : X.N[i]? = some x := by rw [G.N]; exact idx_get hi
  cases n with
  | zero => simp [trE] at h
  | succ n =>
    have ih := snd_all (c := c) (C := C) n
    unfold trE at h
    split at h <;> first | (rename_i h6; cases h6; done) | skip
    all_goals try (simp at *; done)
    · rename_i elt tg iter ifs scope pos h6
      cases h6
      split at h
      · rename_i hc
        simp only [Bool.and_eq_true] at hc
        simp only [Option.bind_eq_bind, Option.bind_eq_some_iff] at h
        obtain ⟨ie, he, it, ht, src, hi, ic, hc2, h⟩ := h
        cases h
        obtain ⟨hi1, hi2⟩ := ih.j sc X tg iter src G hi
        have ok := blk_ok G hc.1
        have gb := fun s H A cl fp => G.blk ok.kind (ixIn_lv hc.2) s H cl A fp
        have hcs : ∀ X', GX c C scope X' → PTs X' ifs (liftT X'.K (wT C ic)) := fun X' G' => by
          split at hc2
          · cases hc2; exact pts_of_nil
          · exact pts_one (ih.t _ X' _ ic G' hc2)
          · cases hc2
        have key := ps_setLc (py := px) (spos := pos) G.calm hN hy hloc hs2 hi1 ok (g := liftG X.K it.ix (wG it)) (tt := liftT X.K (wT C ic)) (te := liftE X.K (wE C ie))
          (fun s H A cl fp => ((tr_sound (gb s H A cl fp) n).1 tg it ht).1) (fun s H A cl fp => hcs _ (gb s H A cl fp)) (fun s H A cl fp => (ih.e _ _ elt ie (gb s H A cl fp) he).v) (hi2 X.env)
        refine s_asg (PS.imp key fun D σ H ⟨F, W, φ, L, S, P, s, hh, q⟩ => ?_)
        simp only [wE] at hh
        refine ⟨F, W, φ, L, S, _, s, hh, fun ds L1 S1 H1 W1 φ1 J h1 s1 t1 wk pD hD => ?_⟩
        exact comp_go (Q := fun y H1 => gName i y σ H1 D.nx) s1 wk (ixIn_of hc.2 ht) h1.1 hD h1.2 fun acc S' H' W' φ' hp s' t' vr => q _ true L1 S' H' W' φ' _ hp s' (t1.trans t') vr
      · cases h
    · rename_i elt tg iter tg1 iter1 scope pos h6
      cases h6
      split at h
      · rename_i hc
        simp only [Bool.and_eq_true] at hc
        simp only [Option.bind_eq_bind, Option.bind_eq_some_iff] at h
        obtain ⟨ie, he, it, ht, src, hi, it1, ht1, src1, hi1, h⟩ := h
        cases h
        obtain ⟨hi1', hi2⟩ := ih.i sc X _ _ src G hi
        have ok := blk_ok G hc.1.1
        have gb := fun s H A cl fp => G.blk ok.kind (ixIn_lv hc.2) s H cl A fp
        have key := ps_setLc2 (py := px) (spos := pos) (vs1 := it1.ix) G.calm hN hy hloc hs2 hi1' ok (ixIn_of hc.2 ht1) (g := liftG X.K it.ix (wG it)) (tt := tYes) (wi1 := liftI X.K (wI C src1)) (g1 := liftG X.K it1.ix (wG it1)) (tt1 := tYes) (te := liftE X.K (wE C ie))
          (fun s H A cl fp => ((tr_sound (gb s H A cl fp) n).1 tg it ht).1) (fun s H A cl fp => pts_nil) (fun s H A cl fp => (ih.i _ _ _ _ src1 (gb s H A cl fp) hi1).1) (fun s H A cl fp => ((tr_sound (gb s H A cl fp) n).1 tg1 it1 ht1).1) (fun s H A cl fp => pts_nil) (fun s H A cl fp => (ih.e _ _ elt ie (gb s H A cl fp) he).v) (hi2 X.env) (fun env x => by
            cases n with
            | zero => simp [trI] at hi1
            | succ n => exact fold_ok hi1 env x)
        refine s_asg (PS.imp key fun D σ H ⟨F, W, φ, L, S, P, s, hh, q⟩ => ?_)
        simp only [wE] at hh
        refine ⟨F, W, φ, L, S, _, s, hh, fun ds L1 S1 H1 W1 φ1 J h1 s1 t1 wk pD hD => ?_⟩
        exact comp2_go (Q := fun y H1 => gName i y σ H1 D.nx) s1 wk (ixIn_of hc.1.2 ht) (ixIn_of hc.2 ht1) h1.1 hD (fun d L P hg => wG_mono (fun L' h => ⟨fun i d' _ e => h.1 i d' e, h.2⟩) (wG_val hg)) h1.2 fun acc S' H' W' φ' hp s' t' vr => q _ true L1 S' H' W' φ' _ hp s' (t1.trans t') vr
      · cases h
/-- y = {..} on one line, y a local: the dict is laid straight into y -/
theorem ps_setDc {i : Nat} {y : Str} {py pos spos : Pos} {kx vx tg iter : Expr} {ifs : List Expr} {scope : Scope} {own : List (Str × Nat)} {wi : TI} {g : TG} {tt : TT} {tk tv : TE} (calm : X.calm = true) (nd : X.N.Nodup) (at_ : X.N[i]? = some y) (isl : X.env.scope.names.lookup y = some .local)
    (sw : swapsWith (.DictComp kx vx [⟨tg, iter, ifs, 0⟩] scope pos) (some (.Name y py)) spos.line X.env = pure true) (pi : PI X tg iter wi) (ok : BlkOk X.N X.env.scope scope own)
    (pg : ∀ s H A cl fp, PG (X.blk s H scope (compEnvC scope cl A X.env) fp) tg g) (pt : ∀ s H A cl fp, PTs (X.blk s H scope (compEnvC scope cl A X.env) fp) ifs tt)
    (pk_ : ∀ s H A cl fp, PE (X.blk s H scope (compEnvC scope cl A X.env) fp) kx tk) (pv : ∀ s H A cl fp, PE (X.blk s H scope (compEnvC scope cl A X.env) fp) vx tv) (fs : ∀ x, foldedSetIterable iter X.env x = pure x) :
    PS X (.Assign [.Name y py] (.DictComp kx vx [⟨tg, iter, ifs, 0⟩] scope pos) spos) (tAsg (tDc wi g tt tk tv (own.map (·.2))) (gName i)) := by
  constructor
  intro pins s σ H D I hq
  rw [exec_Assign_Name_used _ _ _ _ sw]
  have hq : tDc wi g tt tk tv (own.map (·.2)) σ H (fun x H1 => gName i x σ H1 D.nx) := hq
  refine wpAny_bind (wpAny_standAt (wpAny_bind (wpAny_bind (thn (dc_core (Qf := fun _ s1 => SP X pins D .next s1) calm nd I pi ok pg pt pk_ pv fs hq ?_) fun _ s1 z => wpAny_pure (wpAny_pure z)))))
  intro A0 B0 s1 m H1 I1 q ns fp
  obtain ⟨e0, e1, e2, e3, e4, e5⟩ := fp
  show wpAny _ _ (assign (.Name y py) X.env (.ref A0)) _ _ _
  refine wpAny_assign_Name (store_ok2 (v := V.ref A0) I1 nd at_ (.inl isl) rfl (fun s2 I2 ⟨b, sb, hb⟩ => ?_) (.inr isl))
  have hne : B0 ≠ b := hb.elim (fun z => z ▸ e1) fun z w => e4 y b z w.symm
  exact ⟨m, ns.sameBut sb hne, fun h3 sb3 => ⟨_, H1, I2.turned (t' := s2.toks) (fun c o hc e => (sb3.2 c hc).trans e) e0 e1 e3 e4 e5, q⟩⟩
theorem s_asgDc {x : Str} {px pos p : Pos} {n i : Nat} {kx vx : Expr} {gs : List Comprehension} {scope : Scope} {ie : IE} (G : GX c C sc X) (hi : c.N.idxOf? x = some i) (h : trD c n sc (.DictComp kx vx gs scope p) = some ie) (hsw : swB sc x px (.DictComp kx vx gs scope p) = true) :
    PS X (.Assign [.Name x px] (.DictComp kx vx gs scope p) pos) (liftS X.K (wS C (.asg (.nm i) ie))) := by
  have hloc : X.env.scope.names.lookup x = some .local := by
    have : (X.env.kindOf x == some .local) = true := by
      rw [kindLoc G]
      unfold swB at hsw
      simp only [lcScope, Bool.and_eq_true] at hsw
      exact hsw.1.1
    simpa [Env.kindOf] using this
  have hs2 : swapsWith (.DictComp kx vx gs scope p) (some (.Name x px)) pos.line X.env = pure true := by rw [sw_eq G rfl, hsw]
  have ih := snd_all (c := c) (C := C) n
  unfold trD at h
  split at h
  · rename_i k v tg iter ifs scope' p' e
    cases e
    split at h
    · rename_i hc
      simp only [Bool.and_eq_true] at hc
      simp only [Option.bind_eq_bind, Option.bind_eq_some_iff] at h
      obtain ⟨ik, hk, iv, hv, it, ht, src, hi', ic, hc2, h⟩ := h
      cases h
      obtain ⟨hi1, hi2⟩ := ih.i sc X tg iter src G hi'
      have ok := blk_ok G hc.1
      have gb := fun s H A cl fp => G.blk ok.kind (ixIn_lv hc.2) s H cl A fp
      have hcs : ∀ X', GX c C scope X' → PTs X' ifs (liftT X'.K (wT C ic)) := fun X' G' => by
        split at hc2
        · cases hc2; exact pts_of_nil
        · exact pts_one (ih.t _ X' _ ic G' hc2)
        · cases hc2
      have key := ps_setDc (py := px) (spos := pos) G.calm (by rw [G.N]; exact G.nd) (by rw [G.N]; exact idx_get hi) hloc hs2 hi1 ok (g := liftG X.K it.ix (wG it)) (tt := liftT X.K (wT C ic)) (tk := liftE X.K (wE C ik)) (tv := liftE X.K (wE C iv))
        (fun s H A cl fp => ((tr_sound (gb s H A cl fp) n).1 tg it ht).1) (fun s H A cl fp => hcs _ (gb s H A cl fp)) (fun s H A cl fp => (ih.e _ _ _ ik (gb s H A cl fp) hk).v) (fun s H A cl fp => (ih.e _ _ _ iv (gb s H A cl fp) hv).v) (hi2 X.env)
      refine s_asg (PS.imp key fun D σ H ⟨F, W, φ, L, S, P, s, hh, q⟩ => ?_)
      simp only [wE] at hh
      refine ⟨F, W, φ, L, S, _, s, hh, fun ds L1 S1 H1 W1 φ1 J h1 s1 t1 wk pD hD => ?_⟩
      exact dcomp_go (Q := fun y H1 => gName i y σ H1 D.nx) s1 wk (ixIn_of hc.2 ht) h1.1 hD h1.2 fun ks acc S' H' W' φ' hp s' t' vr => q _ true L1 S' H' W' φ' _ hp s' (t1.trans t') vr
    · cases h
  · cases h
end
end Q
/-! Soundness: more stores. -/
namespace Q
open PySem PySem.Spec PyProof.Rows L2
section
variable {X : Cx} {C : Calls} {c : TC} {sc : Scope}
theorem s_asgTup {ts : List Expr} {k : Nat} {tp pos : Pos} {e : Expr} {it : List IT} {ie : IE} {n : Nat} (G : GX c C sc X) (he : isTupE e = false) (ht : trT c sc n (.Tuple ts k tp) = some (.tp it)) (h : SE X C e ie) : PS X (.Assign [.Tuple ts k tp] e pos) (liftS X.K (wS C (.asg (.tp it) ie))) := by
  have hg := ((tr_sound G n).1 _ _ ht).1
  have hs : swapsWithSole [.Tuple ts k tp] e pos.line X.env = pure false := by cases e <;> rfl
  have hw : swappedStores [.Tuple ts k tp] e X.env = pure none := by cases e <;> first | rfl | cases he
  refine PS.imp (ps_asg h.v hg hs hw rfl) fun D σ H ⟨F, W, φ, L, S, Z, s, hh, n, rt, bk, ct⟩ => ?_
  simp only [wS, asgF] at hh
  refine ⟨F, W, φ, L, S, _, s, hh, fun d f L1 S1 H1 W1 φ1 v h1 s1 t1 vr => ?_⟩
  obtain ⟨W2, s2, t2, r⟩ := vr.settle s1
  exact ⟨F, W2, φ1, L1, S1, d, _, s2, r, h1, fun L' σ' hP s' _ _ _ => n L' S1 σ' H1 W2 φ1 hP s' (t1.trans t2).weak⟩
theorem par_ok (G : GX c C sc X) {x y : Str} {px py pt p2 : Pos} {k k2 : Nat} {a b : Expr} (h : parOk sc x y px py pt a b = true) : swappedStores [.Tuple [.Name x px, .Name y py] k pt] (.Tuple [a, b] k2 p2) X.env = pure (some [x, y]) := by
  unfold parOk at h
  simp only [Bool.and_eq_true, Bool.not_eq_true', beq_iff_eq, beq_eq_false_iff_ne] at h
  obtain ⟨⟨⟨⟨⟨⟨⟨h1, h2⟩, h3⟩, h4⟩, h5⟩, h6⟩, h7⟩, h8⟩ := h
  have e1 : (X.env.kindOf x == some .local) = true := by rw [kindLoc G]; exact h1
  have e2 : (X.env.kindOf y == some .local) = true := by rw [kindLoc G]; exact h2
  have e3 : (x == y) = false := by simpa using h3
  have e4 : (y == x) = false := by simpa using fun e => h3 e.symm
  unfold swappedStores
  simp only [blkF G, List.length_cons, List.length_nil, List.head?_cons, Option.map_some, Option.getD_some, Expr.pos, List.filterMap_cons, List.filterMap_nil, e1, e2, h4, beq_self_eq_true, Bool.and_self, if_true, List.all_cons, List.all_nil, Bool.and_true, h7, h8]
  have nd : ([x, y] : List Str).eraseDups.length = 2 := by
    simp [List.eraseDups_cons, e4, h3, fun e : y = x => h3 e.symm]
  rw [if_neg (by decide)]
  split
  · rename_i h
    exfalso
    simp only [List.any_cons, List.any_nil, Bool.or_false, Bool.or_eq_true] at h
    rcases h with h | h
    · split at h
      · simp [parOk.isPlain] at h5
      · cases h
    · split at h
      · simp [parOk.isPlain] at h6
      · cases h
  · rw [nd]
    rfl
end
end Q
/-! Soundness: stores, the statements' induction. -/
namespace Q
open PySem PySem.Spec PyProof.Rows L2
theorem StR.guardIf {K : PySem.W.Frag} {F : Fr} {H : Hp} {W : Addr → Prop} {φ : List Addr} {L : Lo} {S : Sto} {σ : Sg} {f : Bool} {d : D} {v : V} (s : StR K F H W φ L S σ) (vr : VR K F H W φ L σ f d v) :
    ∃ F2 : Fr, StR K F2 H W φ L S σ ∧ ∀ {H2 : Hp} {W2 : Addr → Prop} {φ2 : List Addr} {L2 : Lo} {S2 : Sto}, StR K F2 H2 W2 φ2 L2 S2 σ → Tr false H φ W H2 φ2 W2 → StR K F H2 W2 φ2 L2 S2 σ ∧ VR K F H2 W2 φ2 L2 σ f d v ∧ ∀ g y u, VR K F2 H2 W2 φ2 L2 σ g y u → VR K F H2 W2 φ2 L2 σ g y u ∧ ∀ a b, f = true → g = true → v = .ref a → u = .ref b → a ≠ b := by
  cases f with
  | false => exact ⟨F, s, fun s2 t => ⟨s2, vr.go t, fun g y u h => ⟨h, fun a b z => nomatch z⟩⟩⟩
  | true =>
    obtain ⟨a, rfl, w, fr, tp, no⟩ := vr
    refine ⟨F.guard a, s.guard w no, fun {H2 W2 φ2 L2 S2} s2 t => ?_⟩
    obtain ⟨su, nou⟩ := s2.unguard fr.1
    refine ⟨su, ⟨a, rfl, s2.wc a (.inr rfl), fr, tp.go t (s.phO w), nou⟩, fun g y u h => ?_⟩
    cases g with
    | false => exact ⟨h, fun _ _ _ z => nomatch z⟩
    | true =>
      obtain ⟨b, rfl, wb, fb, tb, nb⟩ := h
      refine ⟨⟨b, rfl, wb, ⟨fb.1, fun z => fb.2 (.inl z)⟩, tb, nb⟩, fun a' b' _ _ e1 e2 => ?_⟩
      cases e1; cases e2
      intro e; exact fb.2 (.inr e.symm)
section
variable {X : Cx} {C : Calls} {c : TC} {sc : Scope}
theorem s_par {x y : Str} {px py pt p2 pos : Pos} {k k2 i j : Nat} {a b : Expr} {ia ib : IE} {n : Nat} (G : GX c C sc X) (h : parOk sc x y px py pt a b = true) (hi : c.N.idxOf? x = some i) (hj : c.N.idxOf? y = some j) (ha : trE c n sc a = some ia) (hb : trE c n sc b = some ib) :
    PS X (.Assign [.Tuple [.Name x px, .Name y py] k pt] (.Tuple [a, b] k2 p2) pos) (liftS X.K (wS C (.par i j ia ib))) := by
  have hw := par_ok (p2 := p2) (k := k) (k2 := k2) G h
  have h' := h
  unfold parOk at h'
  simp only [Bool.and_eq_true, Bool.not_eq_true', beq_iff_eq, beq_eq_false_iff_ne] at h'
  obtain ⟨⟨⟨⟨⟨⟨⟨h1, h2⟩, h3⟩, h4⟩, h5⟩, h6⟩, h7⟩, h8⟩ := h'
  have lk : ∀ {z : Str}, loc sc z = true → X.env.scope.names.lookup z = some .local := fun {z} hz => by
    have : (X.env.kindOf z == some .local) = true := by rw [kindLoc G]; exact hz
    simpa [Env.kindOf] using this
  have gi := idx_get hi
  have gj := idx_get hj
  have hij : i ≠ j := fun e => by subst e; rw [gi] at gj; cases gj; exact h3 rfl
  have sa := (snd_all (c := c) (C := C) n).e sc X a ia G ha
  have sb := (snd_all (c := c) (C := C) n).e sc X b ib G hb
  refine PS.imp (ps_par (i := i) (j := j) G.calm (by rw [G.N]; exact G.nd) (by rw [G.N]; exact gi) (by rw [G.N]; exact gj) hij (lk h1) (lk h2) (pa_cons sa.v (pa_cons sb.v pa_nil (star_of hb [])) (star_of ha [b])) hw) fun D σ H ⟨F, W, φ, L, S, Z, s, ht, n, rt, bk, ct⟩ => ?_
  simp only [wS] at ht
  refine ⟨F, W, φ, L, S, _, s, ht, fun d f L1 S1 H1 W1 φ1 v h1 s1 t1 vr => ?_⟩
  obtain ⟨F2, sg, back⟩ := s1.guardIf vr
  refine ⟨F2, W1, φ1, L1, S1, _, sg, h1, fun d2 g L2 S2 H2 W2 φ2 u h2 s2 t2 vr2 => ⟨v, u, rfl, ?_⟩⟩
  obtain ⟨s3, vr3, vb⟩ := back s2 t2
  obtain ⟨vr4, hne⟩ := vb g d2 u vr2
  have s4 := s3.setFlag (i := i) vr3
  have vr5 : VR X.K F H2 W2 φ2 (L2.set i (flag f d)) (σ.set i (some v)) g d2 u := by
    cases g with
    | false => exact vr4
    | true =>
      obtain ⟨b', rfl, wb, fb, tb, nb⟩ := vr4
      refine ⟨b', rfl, wb, fb, tb, fun m hm => ?_⟩
      rcases own_set hm with ⟨_, ⟨d', e1⟩, e2⟩ | ⟨_, hm⟩
      · cases f with
        | false => cases e1
        | true =>
          cases e2
          exact hne b' b' rfl rfl rfl rfl rfl
      · exact nb m hm
  exact n _ S2 _ H2 W2 φ2 h2 (s4.setFlag (i := j) vr5) (t1.trans t2).weak
theorem ite_same' {α : Type} {c : Prop} [Decidable c] {a b : α} (h : ¬ c → b = a) : (if c then a else b) = a := by
  by_cases hc : c
  · rw [if_pos hc]
  · rw [if_neg hc]; exact h hc
/-- x, y = a, b where one name is a cell -/
theorem s_parC {x y : Str} {px py pt p2 pos : Pos} {k k2 i j : Nat} {a b : Expr} {ia ib : IE} {n : Nat} (G : GX c C sc X) (h : parOkC sc x y a b = true) (hi : c.N.idxOf? x = some i) (hj : c.N.idxOf? y = some j) (ha : trE c n sc a = some ia) (hb : trE c n sc b = some ib) :
    PS X (.Assign [.Tuple [.Name x px, .Name y py] k pt] (.Tuple [a, b] k2 p2) pos) (liftS X.K (wS C (.par i j ia ib))) := by
  unfold parOkC at h
  simp only [Bool.and_eq_true, Bool.or_eq_true, Bool.not_eq_true', beq_iff_eq, beq_eq_false_iff_ne] at h
  obtain ⟨⟨⟨⟨⟨h1, h2⟩, h3⟩, h4⟩, h5⟩, h6⟩ := h
  have hw : swappedStores [.Tuple [.Name x px, .Name y py] k pt] (.Tuple [a, b] k2 p2) X.env = pure none := by
    unfold swappedStores
    simp only [blkF G, List.length_cons, List.length_nil, List.filterMap_cons, List.filterMap_nil, kindLoc G]
    rw [if_neg (by decide)]
    split
    · rfl
    · rcases h4 with h4 | h4
      case inr =>
        refine ite_same' fun _ => ?_
        rw [if_pos (by simp [h4.1, h4.2])]
      rw [if_pos]
      simp only [Bool.or_eq_true, bne_iff_ne, ne_eq]
      refine .inl ?_
      cases hx : loc sc x <;> cases hy : loc sc y <;> rw [hx, hy] at h4 <;> first | (cases h4; done) | (simp only [hx, hy, Bool.false_and, Bool.true_and, Bool.false_eq_true, if_false]; repeat' split) <;> simp
  have gi := idx_get hi
  have gj := idx_get hj
  have hij : i ≠ j := fun e => by subst e; rw [gi] at gj; cases gj; exact h3 rfl
  have sa := (snd_all (c := c) (C := C) n).e sc X a ia G ha
  have sb := (snd_all (c := c) (C := C) n).e sc X b ib G hb
  obtain ⟨l1, l2⟩ := G.loc h1
  obtain ⟨m1, m2⟩ := G.loc h2
  have g1 := pg_name (X := X) (x := x) (pos := px) (i := i) (by rw [G.N]; exact G.nd) (by rw [G.N]; exact gi) l1 l2
  have g2 := pg_name (X := X) (x := y) (pos := py) (i := j) (by rw [G.N]; exact G.nd) (by rw [G.N]; exact gj) m1 m2
  refine PS.imp (ps_asg (pe_tup (pa_cons sa.v (pa_cons sb.v pa_nil (star_of hb [])) (star_of ha [b]))) (pg_tup G.calm (pgs_cons g1 (pgs_cons g2 pgs_nil))) rfl hw rfl) fun D σ H ⟨F, W, φ, L, S, Z, s, ht, n, rt, bk, ct⟩ => ?_
  simp only [wS] at ht
  refine ⟨F, W, φ, L, S, _, s, ht, fun d f L1 S1 H1 W1 φ1 v h1 s1 t1 vr => ?_⟩
  obtain ⟨F2, sg, back⟩ := s1.guardIf vr
  refine ⟨F2, W1, φ1, L1, S1, _, sg, h1, fun d2 g L2 S2 H2 W2 φ2 u h2 s2 t2 vr2 => ⟨(show 2 ≤ sizeLine by decide), fun T hT => ⟨T, [v, u], rfl, .inl (.inl upd_same), rfl, v, [u], rfl, u, [], rfl, rfl, ?_⟩⟩⟩
  obtain ⟨s3, vr3, vb⟩ := back s2 t2
  obtain ⟨vr4, hne⟩ := vb g d2 u vr2
  have s4 := s3.setFlag (i := i) vr3
  have vr5 : VR X.K F H2 W2 φ2 (L2.set i (flag f d)) (σ.set i (some v)) g d2 u := by
    cases g with
    | false => exact vr4
    | true =>
      obtain ⟨b', rfl, wb, fb, tb, nb⟩ := vr4
      refine ⟨b', rfl, wb, fb, tb, fun m hm => ?_⟩
      rcases own_set hm with ⟨_, ⟨d', e1⟩, e2⟩ | ⟨_, hm⟩
      · cases f with
        | false => cases e1
        | true =>
          cases e2
          exact hne b' b' rfl rfl rfl rfl rfl
      · exact nb m hm
  exact n _ S2 _ _ W2 φ2 h2 ((s4.setFlag (i := j) vr5).grow hT) ((t1.trans t2).trans (Tr.new hT)).weak
theorem s_asg2 {x y : Str} {px py pos : Pos} {i j : Nat} {e : Expr} {ie : IE} (G : GX c C sc X) (hx : tgt sc x = true) (hy : tgt sc y = true) (he : isSub e = true) (hi : c.N.idxOf? x = some i) (hj : c.N.idxOf? y = some j) (h : SE X C e ie) : PS X (.Assign [.Name x px, .Name y py] e pos) (liftS X.K (wS C (.asg2 i j ie))) := by
  obtain ⟨l1, l2⟩ := G.loc hx
  obtain ⟨m1, m2⟩ := G.loc hy
  have hw : swappedStores [.Name x px, .Name y py] e X.env = pure none := by cases e <;> first | rfl | cases he
  have g1 := pg_name (X := X) (x := x) (pos := px) (i := i) (by rw [G.N]; exact G.nd) (by rw [G.N]; exact idx_get hi) l1 l2
  have g2 := pg_name (X := X) (x := y) (pos := py) (i := j) (by rw [G.N]; exact G.nd) (by rw [G.N]; exact idx_get hj) m1 m2
  refine PS.imp (ps_asg2 h.v g1 g2 rfl hw) fun D σ H ⟨F, W, φ, L, S, Z, s, ht, n, rt, bk, ct⟩ => ?_
  simp only [wS] at ht
  refine ⟨F, W, φ, L, S, _, s, ht, fun d f L1 S1 H1 W1 φ1 v h1 s1 t1 vr => ?_⟩
  obtain ⟨W2, s2, t2, r⟩ := vr.settle s1
  exact n _ S1 _ H1 W2 φ1 h1 ((s2.setVal (i := i) r).setVal (i := j) r) (t1.trans t2).weak
theorem s_aug {x : Str} {px pos : Pos} {i : Nat} {e : Expr} {ie : IE} {op : Operator} {bo : BO} (G : GX c C sc X) (htg : tgt sc x = true) (hi : c.N.idxOf? x = some i) (ho : toBO op = some bo) (hb : bo = .add ∨ bo = .sub ∨ bo = .mul) (h : SE X C e ie) : PS X (.AugAssign (.Name x px) op e pos) (liftS X.K (wS C (.aug i bo ie))) := by
  obtain ⟨l1, l2⟩ := G.loc htg
  refine PS.imp (ps_aug (i := i) (by rw [G.N]; exact G.nd) (by rw [G.N]; exact idx_get hi) l1 h.v (show PIp X op (OpX X (inplaceOp op)) from opX X _) l2) fun D σ H ⟨F, W, φ, L, S, Z, s, ht, n, rt, bk, ct⟩ => ?_
  simp only [wS] at ht
  obtain ⟨d, hd, ht⟩ := ht
  obtain ⟨v, e1, r⟩ := s.val hd
  refine ⟨v, e1, F, W, φ, L, S, _, s, ht, fun d2 f L1 S1 H1 W1 φ1 u h1 s1 t1 vr => ?_⟩
  have rp := vr.repP s1
  have rd := r.go t1
  have e2 : op = opOf bo := by cases op <;> simp [toBO] at ho <;> subst ho <;> rfl
  split at h1
  · have := rp.int
    simp only [Rep] at rd
    subst this rd
    have q : ∀ k : Int, Z.nx (L1.set i (.val (.int k))) S1 → D.nx (σ.set i (some (.int k))) H1 := fun k hz => n _ S1 _ H1 W1 φ1 hz (s1.setVal (by simp only [Rep])) t1.weak
    rcases hb with rfl | rfl | rfl
    · subst e2; simp only [dBin, dAdd] at h1
      exact ⟨_, iop_add, _, _, rfl, rfl, q _ h1⟩
    · subst e2; simp only [dBin] at h1
      exact ⟨_, iop_sub, _, _, rfl, rfl, q _ h1⟩
    · subst e2; simp only [dBin, dMul] at h1
      obtain ⟨hs, h1⟩ := h1
      rcases hs with hs | hs | ⟨hs1, hs2⟩
      · exact ⟨_, iop_mul, _, _, rfl, rfl, .inl hs, q _ h1⟩
      · exact ⟨_, iop_mul, _, _, rfl, rfl, .inr hs, q _ h1⟩
      · have ok := (wide_mul hs1 hs2 (by decide) (by decide) (by decide)).ok
        exact ⟨_, (opI (C := CMulW) fun _ _ _ _ _ _ _ hc q => imul_int q hc.ok : OpR X (inplaceOp .Mult) (rI CMulW fun i j => .int (i * j))), _, _, rfl, rfl, wide_mul hs1 hs2 (by decide) (by decide) (by decide), q _ h1⟩
  · have := rp.str
    simp only [Rep] at rd
    subst this rd
    rcases hb with rfl | rfl | rfl
    · subst e2; simp only [dBin, dAdd] at h1
      exact ⟨_, iop_add_str, _, _, rfl, rfl, h1.1, n _ S1 _ H1 W1 φ1 h1.2 (s1.setVal (by simp only [Rep])) t1.weak⟩
    · simp only [dBin] at h1
    · simp only [dBin, dMul] at h1
  · exact h1.elim
theorem slot_v {K : PySem.W.Frag} {F : Fr} {H : Hp} {W : Addr → Prop} {φ : List Addr} {L : Lo} {S : Sto} {σ : Sg} {i : Nat} (s : StR K F H W φ L S σ) (h : ∃ d, L[i]? = some (.own d) ∨ L[i]? = some (.val d)) : ∃ v, σ[i]? = some (some v) := by
  obtain ⟨d, h | h⟩ := h
  · obtain ⟨a, e, _⟩ := s.own h; exact ⟨_, e⟩
  · obtain ⟨v, e, _⟩ := s.val h; exact ⟨_, e⟩
theorem set_both (hu : X.A.units + 1 < cLine) : PSet X (fun o i v H Q => rSetL o i v H Q ∨ ∃ a H4, o = .ref a ∧ DPut H a i v H4 ∧ Q H4) := by
  intro pins s σ H o i v ov iv u Q I ro ri rv h
  rcases h with h | ⟨a, H4, rfl, g, q⟩
  · exact set_list pins s σ H o i v ov iv u Q I ro ri rv h
  · cases ro
    exact d_setItem hu I g ri rv fun s' I' => ⟨H4, I', q⟩
theorem s_setI {x : Str} {px sp pos : Pos} {i : Nat} {e k : Expr} {ie ik : IE} {n0 : Nat} (G : GX c C sc X) (hf : fine x = true) (hv : vis sc x = true) (hi : c.N.idxOf? x = some i) (h : SE X C e ie) (hk : SE X C k ik) (hk2 : trE c n0 sc k = some ik) :
    PS X (.Assign [.Subscript (.Name x px) k sp] e pos) (liftS X.K (wS C (.setI i ik ie))) := by
  have ho := (se_loc (C := C) (pos := px) G hf hv hi).l i rfl
  have hs : swapsWithSole [.Subscript (.Name x px) k sp] e pos.line X.env = pure false := by cases e <;> rfl
  have hw : swappedStores [.Subscript (.Name x px) k sp] e X.env = pure none := by cases e <;> rfl
  have hg := pg_sub (pos := sp) ho hk.p (set_both (X := X) (by have := G.hu; omega)) (by
    intro v
    cases k <;> first | rfl | (exfalso; cases n0 <;> simp [trE] at hk2; done))
  refine PS.imp (ps_asg h.v hg hs hw rfl) fun D σ H ⟨F, W, φ, L, S, Z, s, ht, n, rt, bk, ct⟩ => ?_
  simp only [wS] at ht
  obtain ⟨hsl, ht⟩ := ht
  obtain ⟨vo, evo⟩ := slot_v s hsl
  refine ⟨F, W, φ, L, S, _, s, ht, fun d f L1 S1 H1 W1 φ1 v h1 s1 t1 vr => ?_⟩
  obtain ⟨W2, s2, t2, rv⟩ := vr.settle s1
  refine ⟨vo, evo, F, W2, φ1, L1, S1, _, s2, h1, fun y L3 S3 H3 W3 φ3 u h3 s3 t3 ru => ?_⟩
  have rv3 := rv.go t3
  have tt := (t1.trans t2).trans t3
  split at h3
  · rename_i m z e3
    have eu := ru.int
    subst eu
    obtain ⟨l, j, hl, hj, h3⟩ := h3
    obtain ⟨w, e4, r4⟩ := s3.val e3
    rw [evo] at e4; cases e4
    simp only [Rep] at r4
    obtain ⟨a, rfl, e5⟩ := r4
    obtain ⟨vs, hq, hz, r6⟩ := s3.st.at_ m a l e5 hl
    have hj' : L2.ixN vs.length z = some j := by rw [← r6.len]; exact hj
    obtain ⟨s5, t5⟩ := s3.updCell e5 hl hq (us := vs.set j v) (by simpa using hz) (r6.set j rv3)
    exact .inl ⟨a, vs, z, j, rfl, rfl, hq, hj', n L3 _ σ _ W3 φ3 h3 s5 (tt.weak.trans t5)⟩
  · rename_i l z e3
    have eu := ru.int
    subst eu
    obtain ⟨j, hj, h3⟩ := h3
    obtain ⟨a, e4, w4, f4, p4, vs, hq, r6⟩ := s3.own e3
    rw [evo] at e4; cases e4
    have hj' : L2.ixN vs.length z = some j := by rw [← r6.len]; exact hj
    obtain ⟨s5, t5⟩ := s3.updOwn (o := .lst (vs.set j v)) (d' := .lst (l.set j d)) e3 evo rfl ⟨_, upd_same, (r6.set j rv3).go (Tr.updW w4 hq rfl)⟩
    exact .inl ⟨a, vs, z, j, rfl, rfl, hq, hj', n _ S3 σ _ W3 φ3 h3 s5 (tt.weak.trans t5)⟩
  · rename_i ks vs0 k0 e3
    have eu := ru.str
    subst eu
    obtain ⟨⟨hl, hz⟩, h3⟩ := h3
    obtain ⟨a, e4, w4, f4, p4, kvs, hq, ek, r6⟩ := s3.own e3
    rw [evo] at e4; cases e4
    have hkl : kvs.length = ks.length := by
      have := congrArg List.length ek
      simpa using this
    obtain ⟨s5, t5⟩ := s3.updOwn (o := .dK (putK kvs (Sum.inr k0) v)) (d' := .dct (putKs ks k0) (putVs ks vs0 k0 d)) e3 evo rfl ⟨_, upd_same, put_keys ek k0 v, (put_vals ek r6 k0 rv3).go (Tr.updW w4 hq rfl)⟩
    exact .inr ⟨a, _, rfl, .inl ⟨kvs, Sum.inr k0, hq, rfl, by rw [hkl]; exact hz, rfl⟩, n _ S3 σ _ W3 φ3 h3 s5 (tt.weak.trans t5)⟩
  · exact h3.elim
theorem tyL {K : PySem.W.Frag} {H : Hp} {a : Addr} {vs : List V} (h : H a = some (.lst vs)) : tyV K "list" (.ref a) H := Or.inl ⟨rfl, _, Or.inl (Or.inl h)⟩
theorem s_app {y : Str} {py apos cpos pos : Pos} {i : Nat} {e : Expr} {ie : IE} {n0 : Nat} (G : GX c C sc X) (hf : fine y = true) (hv : vis sc y = true) (hi : c.N.idxOf? y = some i) (hl : (apos.endLine == cpos.line) = true) (h : SE X C e ie) (he : trE c n0 sc e = some ie) :
    PS X (.Expr (.Call (.Attribute (.Name y py) "append" apos) [e] [] cpos) pos) (liftS X.K (wS C (.app i ie))) := by
  have ho := (se_loc (C := C) (pos := py) G hf hv hi).l i rfl
  have st := star_of (c := c) (sc := sc) he (env := X.env) []
  have key := pe_bm (cpos := cpos) PySem.F.plainAttrs_list PySem.F.slot_list_append PySem.F.type_list_append (mt_append (X := X)) ho (pa_cons h.v pa_nil st) rfl (by rw [st]; rfl) hl st rfl
  refine PS.imp (ps_expr key rfl) fun D σ H ⟨F, W, φ, L, S, Z, s, ht, n, rt, bk, ct⟩ => ?_
  simp only [wS] at ht
  obtain ⟨⟨l0, e0⟩, ht⟩ := ht
  obtain ⟨a, e1, w, fr, p, vs0, hq0, r0⟩ := s.own e0
  refine ⟨.ref a, e1, tyL hq0, F, W, φ, L, S, _, s, ht, fun d f L1 S1 H1 W1 φ1 v h1 s1 t1 vr => ?_⟩
  obtain ⟨W2, s2, t2, rv⟩ := vr.settle s1
  obtain ⟨l, e2, hz, h1⟩ := h1
  obtain ⟨a', e3, w3, f3, p3, vs, hq, r3⟩ := s2.own e2
  rw [e1] at e3; cases e3
  obtain ⟨s5, t5⟩ := s2.updOwn (o := .lst (vs ++ [v])) (d' := .lst (l ++ [d])) e2 e1 rfl ⟨_, upd_same, (r3.append (Reps.cons rv Reps.nil)).go (Tr.updW w3 hq rfl)⟩
  exact ⟨a, vs, v, rfl, rfl, hq, by rw [← r3.len]; exact hz, n _ S1 σ _ W2 φ1 h1 s5 ((t1.trans t2).weak.trans t5)⟩
theorem s_ext {y : Str} {py apos cpos pos : Pos} {i : Nat} {e : Expr} {ie : IE} {n0 : Nat} (G : GX c C sc X) (hf : fine y = true) (hv : vis sc y = true) (hi : c.N.idxOf? y = some i) (hl : (apos.endLine == cpos.line) = true) (h : SE X C e ie) (he : trE c n0 sc e = some ie) :
    PS X (.Expr (.Call (.Attribute (.Name y py) "extend" apos) [e] [] cpos) pos) (liftS X.K (wS C (.ext i ie))) := by
  have ho := (se_loc (C := C) (pos := py) G hf hv hi).l i rfl
  have st := star_of (c := c) (sc := sc) he (env := X.env) []
  have key := pe_bm (cpos := cpos) PySem.F.plainAttrs_list PySem.F.slot_list_extend PySem.F.type_list_extend (mt_extend (X := X)) ho (pa_cons h.v pa_nil st) rfl (by rw [st]; rfl) hl st rfl
  refine PS.imp (ps_expr key rfl) fun D σ H ⟨F, W, φ, L, S, Z, s, ht, n, rt, bk, ct⟩ => ?_
  simp only [wS] at ht
  obtain ⟨⟨l0, e0⟩, ht⟩ := ht
  obtain ⟨a, e1, w, fr, p, vs0, hq0, r0⟩ := s.own e0
  refine ⟨.ref a, e1, tyL hq0, F, W, φ, L, S, _, s, ht, fun d f L1 S1 H1 W1 φ1 v h1 s1 t1 vr => ?_⟩
  obtain ⟨W2, s2, t2, rv⟩ := vr.settle s1
  obtain ⟨l, m, e2, rfl, hz, h1⟩ := h1
  obtain ⟨a', e3, w3, f3, p3, vs, hq, r3⟩ := s2.own e2
  rw [e1] at e3; cases e3
  simp only [Rep] at rv
  obtain ⟨b, rfl, _, _, us, hb, rb⟩ := rv
  obtain ⟨s5, t5⟩ := s2.updOwn (o := .lst (vs ++ us)) (d' := .lst (l ++ m)) e2 e1 rfl ⟨_, upd_same, (r3.append rb).go (Tr.updW w3 hq rfl)⟩
  exact ⟨a, b, vs, us, rfl, rfl, hq, hb, by rw [← r3.len, ← rb.len]; exact hz, n _ S1 σ _ W2 φ1 h1 s5 ((t1.trans t2).weak.trans t5)⟩
theorem getLast_rep {K : PySem.W.Frag} {H : Hp} {φ : List Addr} {W : Addr → Prop} {l : List D} {vs : List V} {d : D} (r : Reps K H φ W l vs) (h : l[l.length - 1]? = some d) : ∃ v, vs[vs.length - 1]? = some v ∧ Rep K H φ W d v := by
  rw [← r.len]; exact r.get h
theorem pop_go {te : TE} {tg : TG} {t : IT} {i : Nat} {y : Str} {py apos cpos : Pos} (G : GX c C sc X) (hf : fine y = true) (hv : vis sc y = true) (hi : c.N.idxOf? y = some i) (hl : (apos.endLine == cpos.line) = true) :
    ∃ te, PE X (.Call (.Attribute (.Name y py) "pop" apos) [] [] cpos) te ∧ ∀ D σ H, liftS X.K (wS C (.pop t i)) D σ H → tAsg te (liftG X.K t.ix (wG t)) D σ H := by
  have ho := (se_loc (C := C) (pos := py) G hf hv hi).l i rfl
  refine ⟨_, pe_bm0 PySem.F.plainAttrs_list PySem.F.slot_list_pop PySem.F.type_list_pop (mt_pop (X := X)) ho rfl hl, fun D σ H ⟨F, W, φ, L, S, Z, s, ht, n, rt, bk, ct⟩ => ?_⟩
  simp only [wS] at ht
  obtain ⟨l, d, e0, hd, ht⟩ := ht
  obtain ⟨a, e1, w, fr, p, vs, hq, r⟩ := s.own e0
  obtain ⟨v, hv, rv⟩ := getLast_rep r hd
  have tw : Tr true H φ W (upd H a (.lst vs.dropLast)) φ W := Tr.updW w hq rfl
  obtain ⟨s5, t5⟩ := s.updOwn (o := .lst vs.dropLast) (d' := .lst l.dropLast) e0 e1 rfl ⟨_, upd_same, r.dropLast.go tw⟩
  exact ⟨.ref a, e1, tyL hq, a, vs, v, rfl, rfl, hq, hv, F, W, φ, _, S, d, _, s5, rv.go tw, ht, fun L' σ' hP s' _ _ _ => n L' S σ' _ W φ hP s' t5⟩
/-- xs.insert(0, e) -/
theorem s_ins {y : Str} {py apos cpos pos kp : Pos} {i kk : Nat} {e : Expr} {ie : IE} {n0 : Nat} (G : GX c C sc X) (hf : fine y = true) (hv : vis sc y = true) (hi : c.N.idxOf? y = some i) (hl : (apos.endLine == cpos.line) = true) (h : SE X C e ie) (he : trE c n0 sc e = some ie) :
    PS X (.Expr (.Call (.Attribute (.Name y py) "insert" apos) [.Constant (.int 0) kk kp, e] [] cpos) pos) (liftS X.K (wS C (.ins i ie))) := by
  have ho := (se_loc (C := C) (pos := py) G hf hv hi).l i rfl
  have st := star_of (c := c) (sc := sc) he (env := X.env) []
  have st0 : starEach [.Constant (.int 0) kk kp, e] X.env = (false, eval (.Constant (.int 0) kk kp) X.env) :: starEach [e] X.env := rfl
  have key := pe_bm (cpos := cpos) PySem.F.plainAttrs_list PySem.F.slot_list_insert PySem.F.type_list_insert (mt_insert (X := X)) ho (pa_cons pe_int (pa_cons h.v pa_nil st) st0) rfl (by rw [st0, st]; rfl) hl st0 (by rw [st]; rfl)
  refine PS.imp (ps_expr key rfl) fun D σ H ⟨F, W, φ, L, S, Z, s, ht, n, rt, bk, ct⟩ => ?_
  simp only [wS] at ht
  obtain ⟨⟨l0, e0⟩, ht⟩ := ht
  obtain ⟨a, e1, w, fr, p, vs0, hq0, r0⟩ := s.own e0
  refine ⟨.ref a, e1, tyL hq0, F, W, φ, L, S, _, s, ht, fun d f L1 S1 H1 W1 φ1 v h1 s1 t1 vr => ?_⟩
  obtain ⟨W2, s2, t2, rv⟩ := vr.settle s1
  obtain ⟨l, e2, hz, h1⟩ := h1
  obtain ⟨a', e3, w3, f3, p3, vs, hq, r3⟩ := s2.own e2
  rw [e1] at e3; cases e3
  obtain ⟨s5, t5⟩ := s2.updOwn (o := .lst (v :: vs)) (d' := .lst (d :: l)) e2 e1 rfl ⟨_, upd_same, (Reps.cons rv r3).go (Tr.updW w3 hq rfl)⟩
  exact ⟨a, vs, 0, v, rfl, rfl, hq, by rw [← r3.len]; exact hz, by omega, by omega, n _ S1 σ _ W2 φ1 h1 s5 ((t1.trans t2).weak.trans t5)⟩
/-- d.update(d2) -/
theorem mt_update : MtR X "dict.update" (fun x vs H Q => ∃ (d o : Addr) (kvs more : List (Key × V)), x = .ref d ∧ vs = [.ref o] ∧ d ≠ o ∧ H d = some (.dK kvs) ∧ Rd H o (.dK more) ∧ kvs.length + more.length ≤ sizeLine ∧ Q .non (upd H d (.dK (mergeK kvs more)))) := by
  intro pins s σ H x vs v us Q I rx rv h
  obtain ⟨d, o, kvs, more, rfl, rfl, hne, hd, ho, hz, q⟩ := h
  cases rx
  obtain ⟨u, rfl, ru⟩ := rv.one
  obtain rfl : u = Value.ref o := ru
  obtain ⟨_, sd, rs, rel, dd⟩ := dk_of I.hok hd
  obtain ⟨_, so, ms, relm, dm⟩ := dk_rd I.hok ho
  refine call_meetsIn PySem.F.slot_dict_update dd.typeIs PySem.F.entry_dict_update (PySem.F.args_dict_update_2 _ _) (meets_dict_update (mixKind X.prog X.w) d o hne so)
    ⟨rs, ms, dd, dm, by rw [← rel.length, ← relm.length]; exact hz, fun h' hd' _ hs => ⟨.non, _, d_write (ob := .dK (mergeK kvs more)) I (by rw [hd]; exact True.intro) hs ?_ (dk_new (Nat.le_trans (length_mergeK more kvs) hz) sd (KV.merge relm rel) hd'), rfl, q⟩⟩
  obtain ⟨ob, _, _, e, _⟩ := hd'
  exact ⟨ob, e⟩
theorem merge_rep {K : PySem.W.Frag} {H : Hp} {φ : List Addr} {W : Addr → Prop} : ∀ {ks2 : List Str} {vs2 : List D} {more kvs : List (Key × V)} {ks : List Str} {vs : List D}, kvs.map (·.1) = ks.map Sum.inr → Reps K H φ W vs (kvs.map (·.2)) → more.map (·.1) = ks2.map Sum.inr → Reps K H φ W vs2 (more.map (·.2)) →
    (mergeK kvs more).map (·.1) = (mgK ks ks2).map Sum.inr ∧ Reps K H φ W (mgV ks vs ks2 vs2) ((mergeK kvs more).map (·.2))
  | [], vs2, more, kvs, ks, vs, e, r, em, rm => by
    have : more = [] := by simpa using em
    subst this
    cases vs2 with
    | cons _ _ => simp [Reps] at rm
    | nil => exact ⟨e, r⟩
  | k :: ks2, vs2, more, kvs, ks, vs, e, r, em, rm => by
    cases more with
    | nil => simp at em
    | cons p more =>
      obtain ⟨pk, pv⟩ := p
      rw [List.map_cons, List.map_cons, List.cons.injEq] at em
      obtain ⟨ek, em⟩ := em
      have ek : pk = Sum.inr k := ek
      subst ek
      cases vs2 with
      | nil => simp [Reps] at rm
      | cons v vs2 =>
        simp only [List.map_cons, Reps] at rm
        exact merge_rep (ks2 := ks2) (vs2 := vs2) (more := more) (put_keys e k pv) (put_vals e r k rm.1) em rm.2
theorem tyD {K : PySem.W.Frag} {H : Hp} {a : Addr} {kvs : List (Key × V)} (h : H a = some (.dK kvs)) : tyV K "dict" (.ref a) H := Or.inr (Or.inr (Or.inl ⟨rfl, .inl ⟨kvs, h⟩⟩))
theorem s_upd {y : Str} {py apos cpos pos : Pos} {i : Nat} {e : Expr} {ie : IE} {n0 : Nat} (G : GX c C sc X) (hf : fine y = true) (hv : vis sc y = true) (hi : c.N.idxOf? y = some i) (hl : (apos.endLine == cpos.line) = true) (h : SE X C e ie) (he : trE c n0 sc e = some ie) :
    PS X (.Expr (.Call (.Attribute (.Name y py) "update" apos) [e] [] cpos) pos) (liftS X.K (wS C (.upd i ie))) := by
  have ho := (se_loc (C := C) (pos := py) G hf hv hi).l i rfl
  have st := star_of (c := c) (sc := sc) he (env := X.env) []
  have key := pe_bm (cpos := cpos) PySem.F.plainAttrs_dict PySem.F.slot_dict_update PySem.F.type_dict_update (mt_update (X := X)) ho (pa_cons h.v pa_nil st) rfl (by rw [st]; rfl) hl st rfl
  refine PS.imp (ps_expr key rfl) fun D σ H ⟨F, W, φ, L, S, Z, s, ht, n, rt, bk, ct⟩ => ?_
  simp only [wS] at ht
  obtain ⟨⟨k0, v0, e0⟩, ht⟩ := ht
  obtain ⟨a, e1, w, fr, p, kvs0, hq0, r0⟩ := s.own e0
  refine ⟨.ref a, e1, tyD hq0, F, W, φ, L, S, _, s, ht, fun d f L1 S1 H1 W1 φ1 v h1 s1 t1 vr => ?_⟩
  obtain ⟨W2, s2, t2, rv⟩ := vr.settle s1
  obtain ⟨ks, vs, ks2, vs2, e2, rfl, hz, h1⟩ := h1
  obtain ⟨a', e3, w3, f3, p3, kvs, hq, ek, r3⟩ := s2.own e2
  rw [e1] at e3; cases e3
  simp only [Rep] at rv
  obtain ⟨b, rfl, nw, _, more, hb, eb, rb⟩ := rv
  have hab : a ≠ b := fun z => nw (z ▸ w3)
  have tw : Tr true H1 φ1 W2 (upd H1 a (.dK (mergeK kvs more))) φ1 W2 := Tr.updW w3 hq rfl
  obtain ⟨m1, m2⟩ := merge_rep ek r3 eb rb
  obtain ⟨s5, t5⟩ := s2.updOwn (o := .dK (mergeK kvs more)) (d' := .dct (mgK ks ks2) (mgV ks vs ks2 vs2)) e2 e1 rfl ⟨_, upd_same, m1, m2.go tw⟩
  have l1 : kvs.length = ks.length := by simpa using congrArg List.length ek
  have l2 : more.length = ks2.length := by simpa using congrArg List.length eb
  exact ⟨a, b, kvs, more, rfl, rfl, hab, hq, hb, by omega, n _ S1 σ _ W2 φ1 h1 s5 ((t1.trans t2).weak.trans t5)⟩
/-- x, y = xs.pop(), xs.pop() -/
theorem s_pop2 {x y z : Str} {px py pt p2 pos pz pz2 apos apos2 cpos cpos2 : Pos} {k k2 i j m : Nat} (G : GX c C sc X)
    (h : parOk sc x y px py pt (.Call (.Attribute (.Name z pz) "pop" apos) [] [] cpos) (.Call (.Attribute (.Name z pz2) "pop" apos2) [] [] cpos2) = true) (hf : fine z = true) (hv : vis sc z = true) (hi : c.N.idxOf? x = some i) (hj : c.N.idxOf? y = some j) (hm : c.N.idxOf? z = some m)
    (hl : (apos.endLine == cpos.line) = true) (hl2 : (apos2.endLine == cpos2.line) = true) :
    PS X (.Assign [.Tuple [.Name x px, .Name y py] k pt] (.Tuple [.Call (.Attribute (.Name z pz) "pop" apos) [] [] cpos, .Call (.Attribute (.Name z pz2) "pop" apos2) [] [] cpos2] k2 p2) pos) (liftS X.K (wS C (.pop2 i j m))) := by
  have hw := par_ok (p2 := p2) (k := k) (k2 := k2) G h
  have h' := h
  unfold parOk at h'
  simp only [Bool.and_eq_true, Bool.not_eq_true', beq_iff_eq, beq_eq_false_iff_ne] at h'
  obtain ⟨⟨⟨⟨⟨⟨⟨h1, h2⟩, h3⟩, h4⟩, h5⟩, h6⟩, h7⟩, h8⟩ := h'
  have lk : ∀ {z : Str}, loc sc z = true → X.env.scope.names.lookup z = some .local := fun {z} hz => by
    have : (X.env.kindOf z == some .local) = true := by rw [kindLoc G]; exact hz
    simpa [Env.kindOf] using this
  have gi := idx_get hi
  have gj := idx_get hj
  have hij : i ≠ j := fun e => by subst e; rw [gi] at gj; cases gj; exact h3 rfl
  have ho1 := (se_loc (C := C) (pos := pz) G hf hv hm).l m rfl
  have ho2 := (se_loc (C := C) (pos := pz2) G hf hv hm).l m rfl
  have c1 := pe_bm0 PySem.F.plainAttrs_list PySem.F.slot_list_pop PySem.F.type_list_pop (mt_pop (X := X)) ho1 rfl hl
  have c2 := pe_bm0 PySem.F.plainAttrs_list PySem.F.slot_list_pop PySem.F.type_list_pop (mt_pop (X := X)) ho2 rfl hl2
  refine PS.imp (ps_par (i := i) (j := j) G.calm (by rw [G.N]; exact G.nd) (by rw [G.N]; exact gi) (by rw [G.N]; exact gj) hij (lk h1) (lk h2) (pa_cons c1 (pa_cons c2 pa_nil rfl) rfl) hw) fun D σ H ⟨F, W, φ, L, S, Z, s, ht, n, rt, bk, ct⟩ => ?_
  simp only [wS] at ht
  obtain ⟨l, d, e, e0, ht⟩ := ht
  obtain ⟨a, e1, w, fr, p, vs, hq, r⟩ := s.own e0
  have hvl : vs.length = l.length + 2 := by rw [← r.len]; simp
  obtain ⟨v1, hv1, r1⟩ := r.get (i := l.length + 1) (d := d) (by rw [List.getElem?_append_right (by omega)]; simp)
  obtain ⟨v2, hv2, r2⟩ := r.get (i := l.length) (d := e) (by rw [List.getElem?_append_right (by omega)]; simp)
  have g1 : vs.dropLast[vs.dropLast.length - 1]? = some v2 := by
    rw [List.length_dropLast, hvl, List.getElem?_dropLast, if_pos (by omega)]
    exact hv2
  have rd : Reps X.K H φ W l vs.dropLast.dropLast := by
    have := r.dropLast.dropLast
    have el : (l ++ [e, d]).dropLast.dropLast = l := by
      rw [show l ++ [e, d] = (l ++ [e]) ++ [d] by simp, List.dropLast_concat, List.dropLast_concat]
    rwa [el] at this
  have tw : Tr true H φ W (upd H a (.lst vs.dropLast.dropLast)) φ W := Tr.updW w hq rfl
  obtain ⟨s5, t5⟩ := s.updOwn (o := .lst vs.dropLast.dropLast) (d' := .lst l) e0 e1 rfl ⟨_, upd_same, rd.go tw⟩
  refine ⟨.ref a, e1, tyL hq, a, vs, v1, rfl, rfl, hq, by rw [hvl]; exact hv1, .ref a, e1, tyL upd_same, a, vs.dropLast, v2, rfl, rfl, upd_same, g1, v1, v2, rfl, ?_⟩
  rw [upd_upd]
  exact n _ S _ _ W φ ht ((s5.setVal (i := i) (r1.go tw)).setVal (i := j) (r2.go tw)) t5
end
end Q
/-! Soundness: the statements' induction; defs. -/
namespace Q
open PySem PySem.Spec PyProof.Rows L2
section
variable {X : Cx} {C : Calls} {c : TC} {sc : Scope}
theorem asg_name {x : Str} {px pos : Pos} {e : Expr} {i : Nat} {ie : IE} {n : Nat} (G : GX c C sc X) (ht : (tgt sc x && !isSDComp e) = true) (hi : c.N.idxOf? x = some i) (h : trAE c n sc x px e = some ie) : PS X (.Assign [.Name x px] e pos) (liftS X.K (wS C (.asg (.nm i) ie))) := by
  simp only [Bool.and_eq_true, Bool.not_eq_true'] at ht
  unfold trAE at h
  cases hsw : swB sc x px e with
  | false =>
    rw [hsw, Bool.and_false, if_neg (by decide)] at h
    exact s_asgPlain G ht.1 ht.2 hi ((snd_all n).e sc X e ie G h) hsw
  | true =>
    rw [hsw, Bool.and_true] at h
    cases e <;> first | exact s_asgLc G hi h hsw | exact s_asgDc G hi h hsw | (exfalso; simp [swB, lcScope] at hsw; done)
theorem ss_all (G : GX c C sc X) : ∀ n, (∀ st i, trS c sc n st = some i → PS X st (liftS X.K (wS C i))) ∧ (∀ ss l, trSs c sc n ss = some l → PSs X ss (liftS X.K (wSs C l))) := by
  intro n
  induction n with
  | zero =>
    refine ⟨fun st i h => by simp [trS] at h, fun ss l h => ?_⟩
    cases ss with
    | nil => simp only [trSs] at h; cases h; exact ss_nil
    | cons _ _ => simp [trSs] at h
  | succ n ih =>
    obtain ⟨ih1, ih2⟩ := ih
    have E := snd_all (c := c) (C := C) n
    refine ⟨fun st i h => ?_, fun ss l h => ?_⟩
    · unfold trS at h
      split at h
      · cases h
      · -- x = e
        rename_i n' x px e pos hn
        cases hn
        split at h
        · split at h
          · rename_i hc
            simp only [Bool.and_eq_true, beq_iff_eq] at hc
            obtain ⟨⟨⟨⟨hm, hf⟩, hv⟩, hl⟩, ht⟩ := hc
            simp only [Option.bind_eq_bind, Option.bind_eq_some_iff] at h
            obtain ⟨i1, h1, j, h2, h⟩ := h
            cases h
            subst hm
            obtain ⟨te, hpe, himp⟩ := pop_go (X := X) (C := C) (te := fun _ _ _ => False) (tg := fun _ _ _ _ => False) (t := .nm i1) G hf hv h2 (by simpa using hl)
            obtain ⟨l1, l2⟩ := G.loc ht
            have hg := pg_name (pos := px) (i := i1) (by rw [G.N]; exact G.nd) (by rw [G.N]; exact idx_get h1) l1 l2
            refine PS.imp (ps_asg hpe (PG.imp hg fun v σ H Q hh => ?_) rfl rfl rfl) himp
            obtain ⟨F, W, φ, L, S, d, P, s, r, ht, q⟩ := hh
            simp only [wG] at ht
            refine q _ _ ht (s.setVal r) (by simp) (fun j hj => ?_) fun j hj => ?_
            all_goals
              rw [List.getElem?_set_ne]
              intro e; subst e; exact hj (by simp [IT.ix])
          · cases h
        · split at h
          · rename_i hc
            simp only [Option.bind_eq_bind, Option.bind_eq_some_iff] at h
            obtain ⟨i1, h1, ie, h2, h⟩ := h
            cases h
            exact asg_name G hc h1 h2
          · cases h
      · -- a = b = e
        rename_i n' x px y py e pos hn
        cases hn
        split at h
        · rename_i hc
          simp only [Bool.and_eq_true] at hc
          simp only [Option.bind_eq_bind, Option.bind_eq_some_iff] at h
          obtain ⟨i1, h1, j1, h2, ie, h3, h⟩ := h
          cases h
          exact s_asg2 G hc.1.1 hc.1.2 hc.2 h1 h2 (E.e sc X _ ie G h3)
        · cases h
      · -- a, b = e
        rename_i n' ts k tp e pos hn
        cases hn
        split at h
        · split at h
          · rename_i hc
            simp only [Bool.and_eq_true, beq_iff_eq] at hc
            obtain ⟨⟨⟨⟨⟨⟨⟨hp, hm1⟩, hm2⟩, hz⟩, hf⟩, hv⟩, hl1⟩, hl2⟩ := hc
            subst hm1 hm2 hz
            simp only [Option.bind_eq_bind, Option.bind_eq_some_iff] at h
            obtain ⟨i1, h1, j1, h2, k1, h3, h⟩ := h
            cases h
            exact s_pop2 G hp hf hv h1 h2 h3 (by simpa using hl1) (by simpa using hl2)
          · cases h
        · split at h
          · rename_i hc
            simp only [Option.bind_eq_bind, Option.bind_eq_some_iff] at h
            obtain ⟨i1, h1, j1, h2, ia, ha, ib, hb, h⟩ := h
            cases h
            rcases Bool.or_eq_true _ _ |>.mp hc with hc | hc
            · exact s_par G hc h1 h2 ha hb
            · exact s_parC G hc h1 h2 ha hb
          · cases h
        · split at h
          · rename_i hc
            simp only [Bool.and_eq_true, beq_iff_eq] at hc
            obtain ⟨⟨⟨hm, hf⟩, hv⟩, hl⟩ := hc
            simp only [Option.bind_eq_bind, Option.bind_eq_some_iff] at h
            obtain ⟨it, h1, j, h2, h⟩ := h
            cases h
            subst hm
            obtain ⟨te, hpe, himp⟩ := pop_go (X := X) (C := C) (te := fun _ _ _ => False) (tg := fun _ _ _ _ => False) (t := it) G hf hv h2 (by simpa using hl)
            exact PS.imp (ps_asg hpe ((tr_sound G n).1 _ _ h1).1 rfl rfl rfl) himp
          · cases h
        · split at h
          · rename_i hc
            simp only [Bool.not_eq_true'] at hc
            simp only [Option.bind_eq_bind, Option.bind_eq_some_iff] at h
            obtain ⟨it, h1, ie, h2, h⟩ := h
            cases h
            have hit : ∃ its, it = .tp its := by
              cases n with
              | zero => simp [trT] at h1
              | succ n =>
                simp only [trT] at h1
                obtain ⟨its, _, rfl⟩ := Option.map_eq_some_iff.mp h1
                exact ⟨its, rfl⟩
            obtain ⟨its, rfl⟩ := hit
            exact s_asgTup G hc h1 (E.e sc X _ ie G h2)
          · cases h
      · -- x[k] = e
        rename_i n' x px k sp e pos hn
        cases hn
        split at h
        · rename_i hc
          simp only [Bool.and_eq_true] at hc
          simp only [Option.bind_eq_bind, Option.bind_eq_some_iff] at h
          obtain ⟨i1, h1, ik, h2, ie, h3, h⟩ := h
          cases h
          exact s_setI G hc.1 hc.2 h1 (E.e sc X _ ie G h3) (E.e sc X _ ik G h2) h2
        · cases h
      · -- x op= e
        rename_i n' x px op e pos hn
        cases hn
        split at h
        · rename_i hc
          simp only [Option.bind_eq_bind, Option.bind_eq_some_iff] at h
          obtain ⟨bo, hb, h⟩ := h
          split at h <;> first | cases h | skip
          all_goals
            simp only [Option.bind_eq_some_iff] at h
            obtain ⟨i1, h1, bo', hb', ie, h3, h⟩ := h
            cases h
            rw [hb] at hb'
            cases hb'
            exact s_aug G hc h1 hb (by simp) (E.e sc X _ ie G h3)
        · cases h
      · -- an expression
        rename_i n' e pos hn
        cases hn
        split at h
        · rename_i y py m apos a cpos
          split at h
          · rename_i hc
            simp only [Bool.and_eq_true] at hc
            obtain ⟨⟨hf, hv⟩, hl⟩ := hc
            split at h
            · rename_i hm
              have hm : m = ("append" : Str) := by simpa using hm
              subst hm
              simp only [Option.bind_eq_bind, Option.bind_eq_some_iff] at h
              obtain ⟨i1, h1, ie, h2, h⟩ := h
              cases h
              exact s_app G hf hv h1 hl (E.e sc X _ ie G h2) h2
            · split at h
              · rename_i hm
                have hm : m = ("extend" : Str) := by simpa using hm
                subst hm
                simp only [Option.bind_eq_bind, Option.bind_eq_some_iff] at h
                obtain ⟨i1, h1, ie, h2, h⟩ := h
                cases h
                exact s_ext G hf hv h1 hl (E.e sc X _ ie G h2) h2
              · split at h
                · rename_i hm
                  have hm : m = ("update" : Str) := by simpa using hm
                  subst hm
                  simp only [Option.bind_eq_bind, Option.bind_eq_some_iff] at h
                  obtain ⟨i1, h1, ie, h2, h⟩ := h
                  cases h
                  exact s_upd G hf hv h1 hl (E.e sc X _ ie G h2) h2
                · cases h
          · cases h
        · rename_i y py m apos kk kp a cpos
          split at h
          · rename_i hc
            simp only [Bool.and_eq_true, beq_iff_eq] at hc
            obtain ⟨⟨⟨hf, hv⟩, hl⟩, hm⟩ := hc
            subst hm
            simp only [Option.bind_eq_bind, Option.bind_eq_some_iff] at h
            obtain ⟨i1, h1, ie, h2, h⟩ := h
            cases h
            exact s_ins G hf hv h1 (by simpa using hl) (E.e sc X _ ie G h2) h2
          · cases h
        · simp only [Option.bind_eq_bind, Option.bind_eq_some_iff] at h
          obtain ⟨ie, h2, h⟩ := h
          cases h
          exact s_expr (E.e sc X _ ie G h2) rfl
        · cases h; exact s_doc
        · cases h
      · simp only [Option.bind_eq_bind, Option.bind_eq_some_iff] at h
        rename_i n' e pos hn
        cases hn
        obtain ⟨ie, h2, h⟩ := h
        cases h
        exact s_ret (E.e sc X _ ie G h2)
      · cases h; exact s_retN
      · rename_i n' t a b pos hn
        cases hn
        simp only [Option.bind_eq_bind, Option.bind_eq_some_iff] at h
        obtain ⟨it, h1, ia, h2, ib, h3, h⟩ := h
        cases h
        exact s_if (E.t sc X _ it G h1) (ih2 _ _ h2) (ih2 _ _ h3)
      · rename_i n' t a pos hn
        cases hn
        simp only [Option.bind_eq_bind, Option.bind_eq_some_iff] at h
        obtain ⟨it, h1, ia, h2, h⟩ := h
        cases h
        exact s_while G (E.t sc X _ it G h1) (ih2 _ _ h2)
      · rename_i n' tg it a pos hn
        cases hn
        simp only [Option.bind_eq_bind, Option.bind_eq_some_iff] at h
        obtain ⟨ig, h1, ii, h2, ia, h3, h⟩ := h
        cases h
        obtain ⟨p1, p2⟩ := E.i sc X tg it ii G h2
        exact s_for G h1 p1 (p2 X.env) (ih2 _ _ h3)
      · cases h; exact s_cont
      · cases h; exact s_brk
      · cases h; exact s_pass
      · cases h; exact s_never
      · cases h
    · cases ss with
      | nil => simp only [trSs] at h; cases h; exact ss_nil
      | cons s r =>
        simp only [trSs, Option.bind_eq_bind, Option.bind_eq_some_iff] at h
        obtain ⟨i, hi, l', hl, h⟩ := h
        cases h
        exact ss_cons (ih1 s i hi) (ih2 r l' hl)
end
end Q
/-! Defs keep what their meaning says. -/
namespace Q
open PySem PySem.Spec PyProof.Rows L2
/-- a def of the text: its name, its slots, its parameters, its defaults -/
structure FE where
  name : Str
  st : Stmt
  N : List Str
  ps : List Str
  dv : List D
  mu : Bool
  xt : Bool
  hl : Bool
abbrev FE.args (e : FE) : Arguments := match e.st with
  | .FunctionDef _ a _ _ _ _ _ _ _ _ => a
  | _ => ⟨[], [], none, [], [], none, []⟩
abbrev FE.body (e : FE) : List Stmt := match e.st with
  | .FunctionDef _ _ b _ _ _ _ _ _ _ => b
  | _ => []
abbrev FE.scope (e : FE) : Scope := match e.st with
  | .FunctionDef _ _ _ _ _ _ s _ _ _ => s
  | _ => ⟨.module, [], false, false, []⟩
/-- the program: constants, defs -/
structure PG_ where
  gl : List (Str × D)
  fes : List FE
  les : List LE
def PG_.sig (g : PG_) : List (Str × Nat × List D) := (g.fes.filter fun e => !e.hl).map fun e => (e.name, e.ps.length, e.dv)
def PG_.sigL (g : PG_) : List (Str × Nat) := (g.fes.filter fun e => e.hl).map fun e => (e.name, e.ps.length)
def PG_.tc (g : PG_) (e : FE) : TC := ⟨e.N, g.gl, g.sig, e.mu, e.xt, g.sigL, if e.hl then e.ps.getLast? else none, g.les.find? fun le => le.by_ == e.name, g.les⟩
def PG_.lt (g : PG_) (le : LE) : TC := ⟨le.l.a :: le.fr, g.gl, g.sig, false, false, [], none, none, g.les⟩
def fuel : Nat := 60
def PG_.fd (g : PG_) (e : FE) : Option FD := (trSs (g.tc e) e.scope fuel e.body).map fun b => ⟨e.ps.length, e.N.length, b, e.hl⟩
def PG_.lfd (g : PG_) (le : LE) : Option FD := (trE (g.lt le) fuel le.l.scope le.l.body).map fun i => ⟨le.fr.length + 1, le.fr.length + 1, .cons (.ret i) .nil, false⟩
def PG_.T (g : PG_) (f : Str) : Option FD := match g.fes.find? fun e => e.name == f with
  | some e => g.fd e
  | none => (match g.les.find? fun le => le.key == f with
    | some le => g.lfd le
    | none => none)
def nodupB (l : List Str) : Bool := decide l.Nodup
def scB (N ps : List Str) (sc : Scope) : Bool := (match sc.kind with | .function => true | _ => false) && !sc.isCoroutine && !sc.isGenerator && decide N.Nodup && decide (N.take ps.length = ps) && (ps.all fun x => sc.names.lookup x == some .local || sc.names.lookup x == some .cell) && sc.names.all fun y => y.2 != .free
theorem scB_ok {N ps : List Str} {sc : Scope} (h : scB N ps sc = true) : FnScope N ps sc := by
  unfold scB at h
  simp only [Bool.and_eq_true, Bool.not_eq_true', decide_eq_true_eq, List.all_eq_true, Bool.or_eq_true, beq_iff_eq, bne_iff_ne] at h
  obtain ⟨⟨⟨⟨⟨⟨h1, h2⟩, h3⟩, h4⟩, h5⟩, h6⟩, h7⟩ := h
  refine ⟨?_, h2, h3, h4, h5, h6, h7⟩
  cases hk : sc.kind <;> rw [hk] at h1 <;> first | rfl | cases h1
def leB (g : PG_) (le : LE) : Bool := NdefX.nscB (le.l.a :: le.fr) [le.l.a] le.fr le.l.scope && lamDefs.contains le.by_ && (g.fes.all fun e => !(e.name == le.key)) && !(le.key == ("!" : Str))
def PG_.ok (g : PG_) : Bool := (g.fes.all fun e => scB e.N e.ps e.scope) && decide (g.fes.map (·.name)).Nodup && (g.les.all (leB g) && decide (g.les.map (·.key)).Nodup && g.fes.all fun e => !(e.name == ("!" : Str)))
/-- the lambda in an expression -/
def findE : Nat → Expr → Option LamE
  | 0, _ => none
  | n + 1, e => match e with
    | .Lambda a b s _ => toLam a b s
    | .Call _ args [] _ => args.findSome? (findE n)
    | .BoolOp _ es _ => es.findSome? (findE n)
    | .Compare a _ es _ => (findE n a).or (es.findSome? (findE n))
    | .Subscript a _ _ => findE n a
    | _ => none
def findS : Nat → Stmt → Option LamE
  | 0, _ => none
  | n + 1, s => match s with
    | .Assign _ e _ => findE n e
    | .Return (some e) _ => findE n e
    | .If _ a b _ => (a.findSome? (findS n)).or (b.findSome? (findS n))
    | .FunctionDef _ _ b _ _ _ _ _ _ _ => b.findSome? (findS n)
    | _ => none
def lamIn (s : Stmt) : LamE := (findS 20 s).getD ⟨"", ⟨0, 0, 0, 0⟩, "", ⟨0, 0, 0, 0⟩, [], ⟨0, 0, 0, 0⟩, none, ⟨.module, [], false, false, []⟩⟩
section
variable {P : Program} {w : World} {K : PySem.W.Frag} {mg : Str → Option Value} {base : Heap}
/-- the facts of the module -/
structure Facts (g : PG_) (P : Program) (w : World) (K : PySem.W.Frag) (mg : Str → Option Value) : Prop where
  fn : ∀ e ∈ g.fes, ∃ (dvs : List V) (a : Addr) (fd : FuncData), a = He.fAd K (e.name, none) ∧ FunD K e.name e.name e.args e.body e.scope dvs [] a fd ∧ mg e.name = some (.ref a) ∧ (∀ H φ W, Reps K H φ W e.dv dvs) ∧
    ∀ n, n ≤ dvs.length → ∃ us, Vals (dvs.drop n) us ∧ Binds K fd e.ps us
  gl : ∀ x d, g.gl.lookup x = some d → ∃ u v, mg x = some u ∧ RelV v u ∧ ∀ H φ W, Rep K H φ W d v
  bi : ∀ b ∈ bnames, mg (b : Str) = none
theorem lo0_len (ds : List D) (n : Nat) (h : ds.length ≤ n) : (lo0 ds n).length = n := by
  unfold lo0; rw [List.length_append, List.length_map, List.length_replicate]; omega
theorem start_len (N : List Str) (vs : List V) (h : vs.length ≤ N.length) : (L2.start N vs).length = N.length := by
  unfold L2.start; rw [List.length_append, List.length_map, List.length_replicate]; omega
theorem start_st {H : Hp} {φ : List Addr} {W : Addr → Prop} {S : Sto} {ds : List D} {vs : List V} {N : List Str} (pr : Pre K H W φ S) (r : Reps K H φ W ds vs) (hl : vs.length ≤ N.length) :
    StR K ⟨H, W, φ⟩ H W φ (lo0 ds N.length) S (L2.start N vs) where
  ext := fun _ _ h _ _ => h
  dom := fun _ h => h
  wc := fun _ h => h
  wnew := fun _ h => .inl h
  wt := pr.wt
  pre := List.prefix_refl _
  phi := fun _ h => .inl h
  phw := pr.phw
  nd := pr.nd
  tb := pr.tb
  tt := fun _ ps h => ⟨ps, h⟩
  st := pr.st
  lo := by
    have hl2 : ds.length ≤ N.length := by rw [r.len]; exact hl
    have own : ∀ (i : Nat) (d : D), (lo0 ds N.length)[i]? ≠ some (Sl.own d) := fun i d e => by
      unfold lo0 at e
      by_cases hi : i < ds.length
      · rw [List.getElem?_append_left (by simpa using hi), List.getElem?_map] at e
        obtain ⟨_, _, z⟩ := Option.map_eq_some_iff.mp e
        cases z
      · rw [List.getElem?_append_right (by simpa using hi), List.getElem?_replicate] at e
        split at e <;> cases e
    refine ⟨by rw [lo0_len _ _ hl2, start_len _ _ hl], fun i s e => ?_, fun i j a hi hj => ?_⟩
    · cases s with
      | no => trivial
      | own d => exact (own i d e).elim
      | val d =>
        unfold lo0 at e
        by_cases hi : i < ds.length
        · rw [List.getElem?_append_left (by simpa using hi), List.getElem?_map] at e
          obtain ⟨d', e1, z⟩ := Option.map_eq_some_iff.mp e
          cases z
          obtain ⟨v, e2, rv⟩ := r.get e1
          refine ⟨v, ?_, rv⟩
          unfold L2.start
          rw [List.getElem?_append_left (by rw [List.length_map, ← r.len]; exact hi), List.getElem?_map, e2]; rfl
        · rw [List.getElem?_append_right (by simpa using hi), List.getElem?_replicate] at e
          split at e <;> cases e
    · obtain ⟨⟨d, e⟩, _⟩ := hi
      exact (own i d e).elim
theorem find_mem {g : PG_} {f : Str} {e : FE} (h : g.fes.find? (fun e => e.name == f) = some e) : e ∈ g.fes ∧ e.name = f := ⟨List.mem_of_find?_eq_some h, by simpa using List.find?_some h⟩
theorem sig_look {g : PG_} {f : Str} {np : Nat} {dv : List D} (h : g.sig.lookup f = some (np, dv)) : ∃ e ∈ g.fes, e.hl = false ∧ e.name = f ∧ e.ps.length = np ∧ e.dv = dv := by
  have hm := PySem.mem_of_lookup h
  unfold PG_.sig at hm
  obtain ⟨e, he, hq⟩ := List.mem_map.mp hm
  cases hq
  obtain ⟨h1, h2⟩ := List.mem_filter.mp he
  exact ⟨e, h1, by simpa using h2, rfl, rfl, rfl⟩
theorem sigL_look {g : PG_} {f : Str} {np : Nat} (h : g.sigL.lookup f = some np) : ∃ e ∈ g.fes, e.hl = true ∧ e.name = f ∧ e.ps.length = np := by
  have hm := PySem.mem_of_lookup h
  unfold PG_.sigL at hm
  obtain ⟨e, he, hq⟩ := List.mem_map.mp hm
  cases hq
  obtain ⟨h1, h2⟩ := List.mem_filter.mp he
  exact ⟨e, h1, by simpa using h2, rfl, rfl⟩
theorem T_of {g : PG_} {e : FE} (hok : g.ok = true) (he : e ∈ g.fes) : g.T e.name = g.fd e := by
  unfold PG_.ok at hok
  simp only [Bool.and_eq_true, decide_eq_true_eq] at hok
  have nd := hok.1.2
  unfold PG_.T
  cases hf : g.fes.find? (fun x => x.name == e.name) with
  | none =>
    have := List.find?_eq_none.mp hf e he
    simp at this
  | some x =>
    obtain ⟨hx, hn⟩ := find_mem hf
    have : x = e := by
      have hi := List.mem_iff_getElem.mp hx
      have hj := List.mem_iff_getElem.mp he
      obtain ⟨i, hi, ei⟩ := hi
      obtain ⟨j, hj, ej⟩ := hj
      have hij : (g.fes.map (·.name))[i]'(by simpa using hi) = (g.fes.map (·.name))[j]'(by simpa using hj) := by
        rw [List.getElem_map, List.getElem_map, ei, ej]; exact hn
      have := (List.getElem_inj nd).mp hij
      subst this
      rw [← ei, ← ej]
    rw [this]
theorem nodup_find {α : Type} {k : α → Str} : ∀ {l : List α} {a : α}, (l.map k).Nodup → a ∈ l → l.find? (fun x => k x == k a) = some a
  | [], a, _, h => by cases h
  | x :: l, a, nd, h => by
    rw [List.map_cons, List.nodup_cons] at nd
    rw [List.find?_cons]
    rcases List.mem_cons.mp h with e | h
    · subst e; simp
    · have ne : (k x == k a) = false := beq_eq_false_iff_ne.mpr fun z => nd.1 (z ▸ List.mem_map_of_mem h)
      rw [ne]
      exact nodup_find nd.2 h
theorem T_lam {g : PG_} {le : LE} (hok : g.ok = true) (he : le ∈ g.les) : g.T le.key = g.lfd le := by
  unfold PG_.ok at hok
  simp only [Bool.and_eq_true, decide_eq_true_eq, List.all_eq_true] at hok
  obtain ⟨_, ⟨h1, h2⟩, _⟩ := hok
  have hl := h1 le he
  unfold leB at hl
  simp only [Bool.and_eq_true, List.all_eq_true, Bool.not_eq_true'] at hl
  unfold PG_.T
  have e1 : g.fes.find? (fun e => e.name == le.key) = none := List.find?_eq_none.mpr fun e hm => by
    have := hl.1.2 e hm
    simpa using this
  rw [e1, nodup_find (k := LE.key) h2 he]
theorem bindL_of {b : Bool} {C : Calls} {ds : List D} {f : Str} (h : f ≠ "!") : Q.bindL b C ds f = C f := by
  cases b with
  | false => rfl
  | true => funext es S P; exact if_neg h
theorem FnG.cast {k : Nat} {f : Addr} {fd : FuncData} {ps : List Str} {C C' : Calls} {nm : Str} {pre : List Env → Shared → Hp → List D → Prop} (h : C' nm = C nm) (F : FnG P w K mg base k f fd ps C nm pre) : FnG P w K mg base k f fd ps C' nm pre :=
  ⟨fun A outer s H args us vs W φ S ds R Q a1 a2 a3 a4 a5 a6 a7 a8 a9 a10 a11 => F.run A outer s H args us vs W φ S ds R Q a1 a2 a3 a4 a5 a6 a7 a8 a9 (by rw [← h]; exact a10) a11⟩
theorem bind_lam {q : Str} {l : LamE} {cl : List (Str × Addr)} {pm ctv : Value} {c : Addr} {u : Value} : bindArgs (PySem.W.kla_fn "<lambda>" q l.args l.body l.scope cl pm (.ref c) ctv) ⟨[u], []⟩ = pure ([l.a].zip [u]) := by
  unfold bindArgs
  simp [LamE.args, seqItems?, List.lookup]
  rfl
/-- a def's body runs -/
theorem run_body {k : Nat} {f : Addr} {x q : Str} {params : Arguments} {body : List Stmt} {sc : Scope} {dV kV doc pm cdv ct oc : Value} {an od : Option Addr} {osl : Array (Option Value)} {N ps : List Str} {A : Around} {outer : List Env} {s : Shared} {H : Hp} {args : Args} {us : List Value} {vs : List V} {Z : VK} {t : TS}
    (lk : K.lookup f = some ⟨oc, od, .func (PySem.W.fnOf x q params body sc dV kV doc pm an cdv ct), osl⟩) (hcd : PySem.W.codeIn K cdv q = true) (FS : FnScope N ps sc) (hr : Room (k + 1) A) (e0 : Env0 P w K mg base A outer s H)
    (hb : BindsTo s (PySem.W.fnOf x q params body sc dV kV doc pm an cdv ct) args (ps.zip us)) (r : Vals vs us) (hl : vs.length = ps.length)
    (ht : PSs (cxOf CX0 P w K mg base N q sc f cdv A outer s H noX) body t) (hq : t { nx := fun _ H' => Z .non H', rt := Z } (L2.start N vs) H) :
    codeAny (model P w) A (.call (.ref f) args) (CR CX0 outer P w H s Z noX) s := by
  have KX : K.In s.heap := e0.mod.kin.keeps fun b o e => (e0.bs b o e).1
  have free : s.heap.NoLimit := e0.mod.nolimit.keeps fun b o e => (e0.bs b o e).1
  have kinds : ∀ y ∈ ps.zip us, sc.names.lookup y.1 = some .local ∨ (sc.names.lookup y.1 = some .cell ∧ ((cellsFrom (s.heap.objs.size + 1) sc.names []).lookup y.1).isSome = true) := by
    rintro ⟨n, v⟩ hy
    exact (FS.par n (List.of_mem_zip hy).1).imp id fun z => ⟨z, PySem.W.cellsFrom_some _ _ _ (.inl z)⟩
  refine codeAny_call_function hr.depth (KX _ _ lk) rfl FS.co FS.gen rfl (PySem.W.codeRec_of KX hcd) (hb _ _ _ _ (wpAny_newFunctionEnv_cells FS.kind kinds ?_))
  rintro env rfl s1 z
  refine ⟨free.keeps z.toInCall.keep, codeAny_func ?_⟩
  have I := inv_start (CX := CX0) (E := noX) FS hr.hd e0 hl r z
  refine wpAny_mono (ht.run [] s1 _ H _ I hq) (fun fl s' hs => ?_) fun _ _ hs => hs
  match fl, hs with
  | .ret u, hs =>
    obtain ⟨v, _, H', J, rv, q⟩ := hs
    exact ⟨v, H', J.os, J.bare, J.base, J.hok, rv, q⟩
  | .next, hs =>
    obtain ⟨_, H', J, q⟩ := hs
    exact ⟨V.non, H', J.os, J.bare, J.base, J.hok, rfl, q⟩
  | .brk, hs => obtain ⟨_, _, _, q⟩ := hs; exact q.elim
  | .cont, hs => obtain ⟨_, _, _, q⟩ := hs; exact q.elim
/-- the ends of a body are those of the call -/
theorem ends_of {H : Hp} {W : Addr → Prop} {φ : List Addr} {R : D → Sto → Prop} {Z : VK} (po : Post K H W φ R Z) {d : D} {L' : Lo} {S' : Sto} {σ' : Sg} {H' : Hp} {W' : Addr → Prop} {φ' : List Addr} {v : V} (hp : R d S') (s' : StR K ⟨H, W, φ⟩ H' W' φ' L' S' σ') (rv : Rep K H' φ' W' d v) : Z v H' :=
  po _ _ _ _ _ hp ⟨fun a o h nt m => s'.ext a o h nt fun z => (m z).1, fun a h => .inl h, fun a z => s'.dom a z, s'.pre, fun a z => s'.phi a z, s'.tt⟩
    ⟨fun a w => s'.wt a (s'.wc a w), s'.nd, fun a z h => s'.phw a z (s'.wc a h), s'.tb, s'.st.go (S' := false) (Tr.less s'.wc) fun _ _ => rfl⟩ (rv.lessW s'.wc)
/-- the lambdas' facts -/
structure LFacts (g : PG_) (K : PySem.W.Frag) (mg : Str → Option Value) (base : Heap) : Prop where
  has : ∀ le ∈ g.les, hasG K le.by_ = true
  tab : ∀ le ∈ g.les, LamX.TabB base mg (He.cT K (le.by_, none)).1 (He.cT K (le.by_, none)).2
  one : ∀ le ∈ g.les, ∀ x ∈ lamDefs, hasG K x = true → (He.cT K (x, none)).2 = (He.cT K (le.by_, none)).2 → lamQ x = lamQ le.by_
def preE (g : PG_) (e : FE) : List Env → Shared → Hp → List D → Prop := if e.hl then preL g.les else fun _ _ _ _ => True
theorem fns_ok {g : PG_} (hok : g.ok = true) (F : Facts g P w K mg) (LF : LFacts g K mg base) : ∀ k : Nat, (∀ e ∈ g.fes, ∀ (dvs : List V) (fd : FuncData), FunD K e.name e.name e.args e.body e.scope dvs [] (He.fAd K (e.name, none)) fd → 
    FnG P w K mg base k (He.fAd K (e.name, none)) fd e.ps (Cl g.T k) e.name (preE g e)) ∧ ∀ le ∈ g.les, LamOk P w K mg base k le (Cl g.T k)
  | 0 => ⟨fun e he dvs fd FD => ⟨fun A outer s H args us vs W φ S ds R Q _ _ _ _ _ _ _ _ _ h _ => h.elim⟩, fun le hle => ⟨fun A outer s H i caps us vs W φ S ds R Q _ _ _ _ _ _ _ _ h _ => h.elim⟩⟩
  | k + 1 => by
    obtain ⟨ih, ihl⟩ := fns_ok hok F LF k
    have hok' := hok
    unfold PG_.ok at hok'
    simp only [Bool.and_eq_true, decide_eq_true_eq, List.all_eq_true, Bool.not_eq_true', beq_eq_false_iff_ne] at hok'
    obtain ⟨⟨hsc, hnd⟩, ⟨hle, hkd⟩, hbang⟩ := hok'
    -- what every body of this level may call
    have fsOf : ∀ {b : Bool} {ds : List D} {f : Str} {np : Nat} {dv : List D} {A : Around}, Room k A → g.sig.lookup f = some (np, dv) → ∃ (a : Addr) (fd : FuncData) (ps : List Str) (k' : Nat), mg f = some (.ref a) ∧ PySem.W.keepIn K (.ref a) = true ∧ ps.length = np ∧
        Room k' A ∧ FnG P w K mg base k' a fd ps (Q.bindL b (Cl g.T k) ds) f (fun _ _ _ _ => True) ∧ ∀ n, n ≤ dv.length → ∃ us ws, Binds K fd ps us ∧ Vals ws us ∧ ∀ H φ W, Reps K H φ W (dv.drop n) ws := fun {b ds f np dv A} hr h => by
      obtain ⟨e', he', hl', hn, hp, hd⟩ := sig_look h
      obtain ⟨dvs', a', fd1, ea, D', hm', rd, hbd⟩ := F.fn e' he'
      subst hn hp hd ea
      have G1 := ih e' he' dvs' fd1 D'
      have ep : preE g e' = fun _ _ _ _ => True := by unfold preE; rw [hl']; rfl
      rw [ep] at G1
      refine ⟨_, fd1, e'.ps, k, hm', D'.kp, rfl, hr, G1.cast (bindL_of (hbang e' he')), fun n hn => ?_⟩
      have rl := (rd (fun _ => none) [] (fun _ => False)).len
      obtain ⟨us, hv, hb'⟩ := hbd n (by omega)
      exact ⟨us, dvs'.drop n, hb', hv, fun H φ W => (rd H φ W).drop n⟩
    refine ⟨fun e he dvs fd FD => ⟨fun A outer s H args us vs W φ S ds R Z hr gd e0 hb r hl pr rp hpre hc po => ?_⟩, fun le hlm => ⟨fun A outer s H i caps us vs W φ S ds R Z hr gd e0 r pr rp rcl hcl hc po => ?_⟩⟩
    · have sco := scB_ok (hsc e he)
      obtain ⟨oc, od, dV, kV, doc, pm, an, cdv, ct, osl, rfl, lk, hcd, _, _⟩ := FD.ex
      simp only [Cl] at hc
      obtain ⟨fd', hT, hdl, hbd⟩ := hc
      rw [T_of hok he] at hT
      unfold PG_.fd at hT
      obtain ⟨b, hb1, hb2⟩ := Option.map_eq_some_iff.mp hT
      subst hb2
      have hk := hr.deeper (envOfC e.name e.scope s.heap.objs.size (He.fAd K (e.name, none)) cdv)
      have G : GX (g.tc e) (Q.bindL e.hl (Cl g.T k) ds) e.scope (cxOf CX0 P w K mg base e.N e.name e.scope (He.fAd K (e.name, none)) cdv A outer s H noX).nox := {
        N := rfl
        nd := sco.nd
        calm := rfl
        xe := rfl
        fn := fun _ _ => rfl
        sc := fun _ => .inl rfl
        kind := sco.kind
        hu := by
          have := hk.un
          show (A.deeper (envOfC e.name e.scope s.heap.objs.size (He.fAd K (e.name, none)) cdv)).units + 200 < cLine
          omega
        bi := F.bi
        gl := F.gl
        gd := gd
        fs := fun f np dv h => fsOf hk h
        fl := fun f np h => by
          obtain ⟨e', he', hl', hn, hp⟩ := sigL_look h
          obtain ⟨dvs', a', fd1, ea, D', hm', rd, hbd⟩ := F.fn e' he'
          subst hn hp ea
          have G1 := ih e' he' dvs' fd1 D'
          have ep : preE g e' = preL g.les := by unfold preE; rw [hl']; rfl
          rw [ep] at G1
          obtain ⟨us', hv, hb'⟩ := hbd dvs'.length (Nat.le_refl _)
          rw [List.drop_length] at hv
          have : us' = [] := by cases hv; rfl
          subst this
          exact ⟨_, fd1, e'.ps, k, hm', D'.kp, rfl, hk, G1.cast (bindL_of (hbang e' he')), hb'⟩
        lv := fun x hx => by
          have hhl : e.hl = true := by
            cases h : e.hl with
            | true => rfl
            | false => unfold PG_.tc at hx; rw [h] at hx; cases hx
          refine ⟨rfl, rfl, fun d es S' P' h => ?_⟩
          unfold preE at hpre
          rw [hhl] at hpre h
          obtain ⟨d0, le, hle', hlast, hcl⟩ := hpre
          cases d0 with
          | clo i nm caps =>
            have h2 : d = .clo i nm caps ∧ Cl g.T k nm (es ++ caps) S' P' := by
              have h3 : (match d :: es, ds.getLast? with
                | d :: r, some (.clo i nm caps) => d = .clo i nm caps ∧ Cl g.T k nm (r ++ caps) S' P'
                | _, _ => False) := by
                have h4 := h
                unfold Q.bindL at h4
                simp only [if_true] at h4
                exact h4
              rw [hlast] at h3
              exact h3
            obtain ⟨rfl, h2⟩ := h2
            obtain ⟨rfl, hcl'⟩ := hcl
            exact ⟨i, caps, le, Cl g.T k, k, rfl, ⟨rfl, hcl'⟩, hk, ihl le hle', h2⟩
          | _ => exact hcl.elim
        lm := fun le h => by
          have hm := List.mem_of_find?_eq_some h
          have hn : le.by_ = e.name := by simpa using List.find?_some h
          have hleB := hle le hm
          unfold leB at hleB
          simp only [Bool.and_eq_true] at hleB
          obtain ⟨c, ec⟩ := He.codeIn_ref hcd
          have hco : He.codeOf K (e.name, none) = c := He.codeOf_eq lk ec
          refine ⟨hm, by simpa using hleB.1.1.2, LF.has le hm, by rw [hn]; rfl, ?_, LF.tab le hm, LF.one le hm⟩
          rw [hn]
          show cdv = .ref (He.codeOf K (e.name, none))
          rw [hco]; exact ec }
      have PSb := ((ss_all G fuel).2 e.body b hb1)
      have hpl : e.ps.length ≤ e.N.length := by have := congrArg List.length sco.pre; rw [List.length_take] at this; omega
      have s0 := start_st (N := e.N) pr rp (by omega)
      refine run_body lk hcd sco hr e0 hb r hl (PSs.nox PSb) ⟨⟨H, W, φ⟩, W, φ, _, S, _, s0, hbd, fun L' S' σ' H' W' φ' z s' t' => ?_, fun d L' S' σ' H' W' φ' v z s' t' rv => ends_of po z s' rv, fun _ _ _ _ _ _ z => z.elim, fun _ _ _ _ _ _ z => z.elim⟩
      exact ends_of po (d := .non) (v := .non) z s' (by simp only [Rep])
    · have hleB := hle le hlm
      unfold leB at hleB
      simp only [Bool.and_eq_true] at hleB
      have NS := NdefX.nscope_by hleB.1.1.1
      simp only [Cl] at hc
      obtain ⟨fd', hT, hdl, hbd⟩ := hc
      rw [T_lam hok hlm] at hT
      unfold PG_.lfd at hT
      obtain ⟨ie, hie, hb2⟩ := Option.map_eq_some_iff.mp hT
      subst hb2
      obtain ⟨_, el, eq, cells, cfr⟩ := hcl
      simp only [Rep] at rcl
      obtain ⟨_, rf, rc, rcaps⟩ := rcl
      obtain ⟨⟨od, sl, pm, ctv, ho⟩, _, _⟩ := e0.hok i.a _ rf
      have lim : s.heap.NoLimit := e0.mod.nolimit.keeps fun b o e => (e0.bs b o e).1
      have hcaps : caps.length = le.fr.length := by rw [rcaps.len, ← cells.len, List.length_map]
      have hlen : vs.length = 1 := by
        rw [List.length_append, hcaps] at hdl
        rw [← rp.len]
        have : ds.length + le.fr.length = le.fr.length + 1 := hdl
        omega
      obtain ⟨u, rfl⟩ : ∃ u, us = [u] := by
        have : us.length = 1 := by rw [← r.length]; exact hlen
        exact List.length_eq_one_iff.mp this
      rw [el] at ho
      have NSl : NdefX.NScope (le.l.a :: le.fr) [le.l.a] le.fr le.l.scope := NS
      refine PySem.W.kla_callFunE hr.depth ho rfl NS.co NS.gen rfl (NdefX.codeO_at e0.hok rc) ?_
      have hbind : bindArgs (PySem.W.kla_fn "<lambda>" i.q le.l.args le.l.body le.l.scope i.cl pm (.ref i.c) ctv) ⟨[u], []⟩ = pure ([le.l.a].zip [u]) := bind_lam
      rw [hbind]
      refine wpAny_pure (wpAny_newFunctionEnv NS.nocell (fun ⟨n, _⟩ hy => NS.par n (List.of_mem_zip hy).1) (fun h₁ hns hsb => ⟨lim.fresh _ hsb, ?_⟩) NS.kind)
      let FF : NdefX.NF := ⟨"<lambda>", i.q, le.l.args, [], le.l.scope, i.cl, i.c⟩
      have kp : ∀ b o, s.heap.get? b = some o → h₁.get? b = some o := fun b o e => hsb.extBut b o (Nat.ne_of_lt (Heap.lt_size e)) (Heap.get?_push_of_some _ e)
      have I := NdefX.inv_startN (CX := CX0) (E := noX) (F := FF) (f := i.a) (h₁ := h₁) (tk := s.toks + ([le.l.a].zip [u]).length) NSl hr.hd e0 hlen r cells hns kp
      have hk := hr.deeper (NdefX.envF FF i.a s.heap.objs.size)
      have G : GX (g.lt le) (Cl g.T k) le.l.scope (NdefX.ncx CX0 P w K mg base (le.l.a :: le.fr) FF i.a A outer s H noX).nox := {
        N := rfl
        nd := NS.nd
        calm := rfl
        xe := rfl
        fn := fun x h => absurd rfl (NS.nocell _ (PySem.mem_of_lookup h))
        sc := fun _ => .inl rfl
        kind := NS.kind
        hu := by
          have := hk.un
          show (A.deeper (NdefX.envF FF i.a s.heap.objs.size)).units + 200 < cLine
          omega
        bi := F.bi
        gl := F.gl
        gd := gd
        fs := fun f np dv h => fsOf (b := false) (ds := []) hk h
        fl := fun f np h => by cases h
        lv := fun x hx => by cases hx
        lm := fun le h => by cases h }
      have E := ((snd_all fuel).e le.l.scope _ le.l.body ie G hie).v
      have hst : NdefX.startF (le.l.a :: le.fr) vs (i.ws.map some) = L2.start (le.l.a :: le.fr) (vs ++ i.ws) := by
        unfold NdefX.startF L2.start
        rw [List.map_append, List.append_assoc, List.length_append, List.length_map, Nat.sub_sub]
      have s0 := start_st (N := le.l.a :: le.fr) pr (rp.append rcaps) (by
        rw [List.length_append, ← rcaps.len, hcaps, hlen, List.length_cons]; omega)
      rw [hst] at I
      refine PySem.W.kla_codeExpr (wpAny_mono (E.nox.run [] _ _ H (fun v H' => Z v H') I ?_) (fun v s' hv => ?_) fun _ _ z => z)
      · simp only [wSs, wS] at hbd
        refine ⟨⟨H, W, φ⟩, W, φ, _, S, _, s0, hbd, fun d f L' S' H' W' φ' v hp s' t' vr => ?_⟩
        obtain ⟨W2, s2, t2, r2⟩ := settle s' vr
        exact ends_of po hp s2 r2
      · obtain ⟨y, H', J, rv, q⟩ := hv
        exact ⟨y, H', J.os, J.bare, J.base, J.hok, rv, q⟩
end
end Q
/-! From the head's facts to the law. -/
namespace Q
open PySem PySem.Spec PyProof.Rows L2
def toDv : D → He.Dv
  | .int i => .int i
  | .str s => .str s
  | .bl b => .bl b
  | _ => .non
def flat0 : D → Bool
  | .int _ => true
  | .str _ => true
  | .bl _ => true
  | .non => true
  | _ => false
def FE.dd (e : FE) : He.DefD := ⟨(e.name, none), e.name, e.name, e.args, e.body, e.scope, e.dv.map toDv, []⟩
def glB (K : PySem.W.Frag) : Str × D → Bool
  | (x, .int i) => (He.Fa.int x i).ok K
  | (x, .str s) => (He.Fa.str x s).ok K
  | (x, .tup l) => (He.Fa.glo x).ok K && (He.tupB K x (l.map toDv) && l.all flat0)
  | _ => false
def PG_.exB (g : PG_) (K : PySem.W.Frag) : Bool := g.gl.all (glB K)
/-- the lambdas' makers are there, no other such def is; their tables are apart -/
def PG_.lamB (g : PG_) (K : PySem.W.Frag) : Bool := (g.les.all fun le => hasG K le.by_) && (lamDefs.all fun x => !hasG K x || g.les.any fun le => le.by_ == x) && g.les.all fun le => g.les.all fun le2 => le.by_ == le2.by_ || !((He.cT K (le.by_, none)).2 == (He.cT K (le2.by_, none)).2)
def PG_.exL (g : PG_) (K : PySem.W.Frag) : Bool := g.exB K && g.lamB K
def PG_.tf (g : PG_) : List He.Defn := g.les.map fun le => (le.by_, none)
def PG_.fa (g : PG_) : List He.Fa := g.fes.map (fun e => He.Fa.glo e.name) ++ bnames.map fun (b : String) => He.Fa.free (Str.ofString b)
def PG_.fn (g : PG_) : List He.DefD := g.fes.map FE.dd
theorem rep_dv {K : PySem.W.Frag} {d : D} (h : flat0 d = true) (H : Hp) (φ : List Addr) (W : Addr → Prop) : Rep K H φ W d ((toDv d).v K) := by
  cases d <;> first | (simp only [Rep, toDv, He.Dv.v]; done) | cases h
theorem reps_dv {K : PySem.W.Frag} : ∀ {l : List D}, (∀ d ∈ l, flat0 d = true) → ∀ (H : Hp) (φ : List Addr) (W : Addr → Prop), Reps K H φ W l ((l.map toDv).map (He.Dv.v K))
  | [], _, H, φ, W => Reps.nil
  | d :: l, h, H, φ, W => Reps.cons (rep_dv (h d List.mem_cons_self) H φ W) (reps_dv (fun x hx => h x (List.mem_cons_of_mem _ hx)) H φ W)
/-- how the defaults fill up -/
def BindsFor (e : FE) : Prop := ∀ (K : PySem.W.Frag) (dvs : List V) (a : Addr) (fd : FuncData), dvs.length = e.dv.length → FunD K e.name e.name e.args e.body e.scope dvs [] a fd → ∀ n, n ≤ dvs.length → ∃ us, Vals (dvs.drop n) us ∧ Binds K fd e.ps us
theorem facts_of {g : PG_} {P : Program} {w : World} {K : PySem.W.Frag} {mg : Str → Option Value} {h : Heap} {tf : List He.Defn} (hK : K.In h) (hg : h.Ns mainGlobals mg) (c : He.SaysX g.fa g.fn [] tf g.exL w h K) (hd : ∀ e ∈ g.fes, ∀ d ∈ e.dv, flat0 d = true) (hb : ∀ e ∈ g.fes, BindsFor e) : Facts g P w K mg := by
  have cd : He.SaysD g.fa g.fn K := c.t.d
  refine ⟨fun e he => ?_, fun x d hx => ?_, fun b hbn => ?_⟩
  · obtain ⟨fd, D⟩ := cd.defs (d := e.dd) (List.mem_map.mpr ⟨e, he, rfl⟩)
    have hm := He.glo_ok hK hg (cd.facts (f := .glo e.name) (List.mem_append_left _ (List.mem_map.mpr ⟨e, he, rfl⟩)))
    refine ⟨_, _, fd, rfl, D, hm, fun H φ W => reps_dv (hd e he) H φ W, hb e he K _ _ fd ?_ D⟩
    show ((e.dv.map toDv).map (He.Dv.v K)).length = _
    rw [List.length_map, List.length_map]
  · have hm := PySem.mem_of_lookup hx
    have ok := List.all_eq_true.mp (Bool.and_eq_true_iff.mp c.more).1 _ hm
    cases d with
    | int i =>
      obtain ⟨t, e⟩ := He.int_ok hK hg ok
      exact ⟨_, .int i, e, ⟨t, rfl⟩, fun _ _ _ => by simp only [Rep]⟩
    | str i =>
      obtain ⟨t, e⟩ := He.str_ok hK hg ok
      exact ⟨_, .str i, e, ⟨t, rfl⟩, fun _ _ _ => by simp only [Rep]⟩
    | tup l =>
      simp only [glB, Bool.and_eq_true] at ok
      obtain ⟨h1, h2, h3⟩ := ok
      refine ⟨_, .ref (He.ga K x), He.glo_ok hK hg h1, rfl, fun H φ W => ?_⟩
      simp only [Rep]
      exact ⟨_, _, rfl, He.tupB_ok h2 H, reps_dv (fun d hd => List.all_eq_true.mp h3 d hd) H φ W⟩
    | _ => simp [glB] at ok
  · exact He.free_ok hK hg (cd.facts (f := .free (b : Str)) (List.mem_append_right _ (List.mem_map.mpr ⟨b, hbn, rfl⟩)))
/-- what the tables' place on the heap says -/
theorem tabs_of {g : PG_} {K : PySem.W.Frag} (h : g.lamB K = true) {H : Hp} (hH : ∀ p ∈ g.tf, H (He.cT K p).2 = some (.tbl #[])) : TabAll K H := fun x hx hg => by
  unfold PG_.lamB at h
  simp only [Bool.and_eq_true, List.all_eq_true, Bool.or_eq_true, Bool.not_eq_true', List.any_eq_true, beq_iff_eq] at h
  rcases h.1.2 x hx with z | ⟨le, hm, rfl⟩
  · rw [hg] at z; cases z
  · exact LamX.TabS.nil (hH _ (List.mem_map.mpr ⟨le, hm, rfl⟩))
theorem lfacts_of {g : PG_} {K : PySem.W.Frag} {mg : Str → Option Value} {base : Heap} (h : g.lamB K = true) (tb : ∀ p ∈ g.tf, LamX.TabB base mg (He.cT K p).1 (He.cT K p).2) : LFacts g K mg base := by
  unfold PG_.lamB at h
  simp only [Bool.and_eq_true, List.all_eq_true, Bool.or_eq_true, Bool.not_eq_true', List.any_eq_true, beq_iff_eq, beq_eq_false_iff_ne] at h
  obtain ⟨⟨h1, h2⟩, h3⟩ := h
  refine ⟨h1, fun le hm => tb _ (List.mem_map.mpr ⟨le, hm, rfl⟩), fun le hm x hx hg e => ?_⟩
  rcases h2 x hx with z | ⟨le2, hm2, rfl⟩
  · rw [hg] at z; cases z
  · rcases h3 le2 hm2 le hm with z | z
    · rw [z]
    · exact (z e).elim
/-- the law's call, from the heap behind the top -/
theorem law_end {g : PG_} {P : Program} {w : World} {K : PySem.W.Frag} {mg mb : Str → Option Value} {k : Nat} {fa a : Addr} {fd : FuncData} {C : Calls} {st : Shared} {us : List Value} {ns : List Int}
    (kin : K.In st.heap) (gl : st.heap.Ns mainGlobals mg) (bl : st.heap.Ns builtinsNs mb) (boot : ∀ x : Str, x ≠ "__name__" → mb x = bootBuiltins x) (lim : st.heap.NoLimit) (gens : st.gens = #[])
    (hB : g.lamB K = true) (tE : ∀ p ∈ g.tf, st.heap.get? (He.cT K p).2 = some { cls := .none, data := .fields #[] }) (tK : ∀ p ∈ g.tf, K.lookup (He.cT K p).2 = none) (tC : ∀ p ∈ g.tf, PySem.W.CodeHd st.heap (He.cT K p).1 (He.cT K p).2)
    (bm : ∃ (b : Addr) (o : Obj), mg "__builtins__" = some (.ref b) ∧ b ≠ builtinsNs ∧ st.heap.get? b = some o ∧ o.cls = .type "module" ∧ o.dict = some builtinsNs ∧ o.data = .plain)
    (sa : st.heap.get? a = some { cls := .type "list", data := .seq us.toArray }) (si : IntsAre us ns) (sl : ns.length ≤ sizeLine) (room : Room k callerA)
    (F : ∀ base : Heap, K.In base → base.Ns mainGlobals mg → (∀ p ∈ g.tf, LamX.TabB base mg (He.cT K p).1 (He.cT K p).2) → FnG P w K mg base k fa fd ["script"] C "law" (fun _ _ _ _ => True))
    (bind : ∀ u : Value, BindsTo st fd ⟨[u], []⟩ [("script", u)]) (law : C "law" [.scr ns] [] fun r _ => r = .bl true) :
    codeAny (model P w) callerA (.call (.ref fa) ⟨[.ref a], []⟩) (fun r s' => r = .ok (.ret (.bool true)) ∧ OldK st.heap s'.heap ∧ s'.os = st.os ∧ AllBare s'.gens) st := by
  have rv := vals_ints si
  have len := si.length
  let T : List Addr := g.tf.map fun p => (He.cT K p).2
  have inT : ∀ p ∈ g.tf, (He.cT K p).2 ∈ T := fun p hp => List.mem_map.mpr ⟨p, hp, rfl⟩
  have atT : ∀ b ∈ T, st.heap.get? b = some { cls := .none, data := .fields #[] } ∧ K.lookup b = none := fun b hb => by
    obtain ⟨p, hp, rfl⟩ := List.mem_map.mp hb
    exact ⟨tE p hp, tK p hp⟩
  have aT : a ∉ T := fun z => by
    have := (atT a z).1
    rw [sa] at this
    have := congrArg Obj.data (Option.some.inj this)
    cases this
  -- the script is told where the module does not hold it
  let H : Hp := fun b => if b ∈ T then some (.tbl #[]) else if b = a ∧ K.lookup a = none then some (.frz { cls := .type "list", data := .seq us.toArray } (.lst (ns.map V.int))) else none
  have HT : ∀ b ∈ T, H b = some (.tbl #[]) := fun b hb => if_pos hb
  have Ha : K.lookup a = none → H a = some (.frz { cls := .type "list", data := .seq us.toArray } (.lst (ns.map V.int))) := fun h => (if_neg aT).trans (if_pos ⟨rfl, h⟩)
  have Hn : ∀ b u, H b = some u → (b ∈ T ∧ u = .tbl #[]) ∨ (b = a ∧ K.lookup a = none ∧ u = .frz { cls := .type "list", data := .seq us.toArray } (.lst (ns.map V.int))) := fun b u e => by
    by_cases h1 : b ∈ T
    · rw [HT b h1] at e; cases e; exact .inl ⟨h1, rfl⟩
    · by_cases h2 : b = a ∧ K.lookup a = none
      · have := (if_neg h1).trans (if_pos h2) |>.symm.trans e
        cases this; exact .inr ⟨h2.1, h2.2, rfl⟩
      · have := (if_neg h1).trans (if_neg h2) |>.symm.trans e
        cases this
  have hok : HOk P w H st.heap := fun b u e => by
    rcases Hn b u e with ⟨hb, rfl⟩ | ⟨rfl, hk, rfl⟩
    · exact (atT b hb).1
    · exact ⟨sa, by rw [List.length_map]; exact sl, us, _, rv, sa⟩
  -- what is no list and no empty table is untold
  have untold : ∀ {b : Addr} {o : Obj}, st.heap.get? b = some o → (∀ vs n, o.data ≠ .seq vs n) → o.data ≠ .fields #[] → H b = none := fun {b o} e h1 h2 => by
    cases q : H b with
    | none => rfl
    | some u =>
      rcases Hn b u q with ⟨hb, _⟩ | ⟨rfl, _, _⟩
      · rw [(atT b hb).1] at e; cases e; exact (h2 rfl).elim
      · rw [sa] at e; cases e; exact (h1 _ _ rfl).elim
  have low : ∀ {b : Addr} {o : Obj}, st.heap.get? b = some o → H b = none → (hidT st.heap H).get? b = some o := fun e n => hidT_get e n
  have dictU : ∀ {b : Addr} {o : Obj} {es : Array DictEntry} {ep : Nat}, st.heap.get? b = some o → o.data = .dict es ep → H b = none := fun {b o es ep} e d => untold e (fun _ _ z => by rw [d] at z; cases z) fun z => by rw [d] at z; cases z
  have nsLow : ∀ {b : Addr} {m : Str → Option Value}, st.heap.Ns b m → (hidT st.heap H).Ns b m := fun {b m} ⟨o, es, ep, e, d, r⟩ => ⟨o, es, ep, low e (dictU e d), d, r⟩
  have kinL : K.In (hidT st.heap H) := fun b o e => by
    refine low (kin b o e) ?_
    cases q : H b with
    | none => rfl
    | some u =>
      rcases Hn b u q with ⟨hb, _⟩ | ⟨rfl, hk, _⟩
      · rw [(atT b hb).2] at e; cases e
      · rw [hk] at e; cases e
  have M : L2.Mod K mg (hidT st.heap H) := ⟨kinL, nsLow gl, ⟨mb, nsLow bl, boot⟩, by
    obtain ⟨mc, z1, z2⟩ := lim
    exact ⟨mc, nsLow z1, z2⟩⟩
  have TBs : ∀ p ∈ g.tf, LamX.TabB (hidT st.heap H) mg (He.cT K p).1 (He.cT K p).2 := fun p hp => by
    have eP := tE p hp
    have nG : ∀ {b : Addr} {o : Obj}, st.heap.get? b = some o → (∀ es ep, o.data ≠ .dict es ep) → b ≠ mainGlobals := fun {b o} e n z => by
      obtain ⟨o', es, ep, e', d, _⟩ := gl
      rw [z, e'] at e; cases e
      exact n _ _ d
    refine ⟨?_, ?_, fun z => nG eP (fun es ep q => by cases q) z.symm⟩
    · obtain ⟨o, vs, file, tf, flags, tg, inF, text, tt, c1, c2, c3, c4, rest⟩ := tC p hp
      refine ⟨o, vs, file, tf, flags, tg, inF, text, tt, low c1 (untold c1 (fun _ _ z => by rw [c3] at z; cases z) fun z => ?_), c2, c3, c4, rest⟩
      rw [c3] at z
      cases z
      simp at c4
    · obtain ⟨b, o, b1, b2, b3, b4, b5, b6⟩ := bm
      have nd : ∀ es ep, o.data ≠ .dict es ep := fun es ep z => by rw [b6] at z; cases z
      refine ⟨b, o, b1, b2, nG b3 nd, fun q => ?_, low b3 (untold b3 (fun _ _ z => by rw [b6] at z; cases z) fun z => by rw [b6] at z; cases z), b4, b5, b6⟩
      rw [q, eP] at b3
      cases b3
      cases b6
  have e0 : Env0 P w K mg (hidT st.heap H) callerA [] st H := ⟨rfl, M, fun _ _ e => of_hidT e, Nat.le_of_eq (hidT_size _ _), trivial, fun b hb => (by cases hb), hok, .of_eq gens⟩
  have scr : Rep K H [] (fun _ => False) (.scr ns) (.ref a) := by
    simp only [Rep]
    refine ⟨a, rfl, ?_⟩
    cases hk : K.lookup a with
    | none => exact .inl ⟨_, Ha hk⟩
    | some o =>
      have e := kin a o hk
      rw [sa] at e
      cases e
      exact .inr (.inr ⟨_, us.toArray, _, hk, rfl, rfl, rfl, by rw [List.size_toArray, len]; exact sl, by simpa using rv⟩)
  have pre : Pre K H (fun _ => False) [] [] := ⟨fun _ z => z.elim, List.nodup_nil, fun _ z => (by cases z), tabs_of hB fun p hp => HT _ (inT p hp), ⟨rfl, fun n b l e _ => by simp at e⟩⟩
  refine codeAny_mono ((F _ kinL (nsLow gl) TBs).run callerA [] st H ⟨[.ref a], []⟩ [.ref a] [.ref a] (fun _ => False) [] [] [.scr ns] _ (fun v _ => v = .bl true) room rfl e0 (bind (.ref a)) (.cons rfl .nil) rfl pre (Reps.cons scr Reps.nil) True.intro law
    fun r S' H' φ' v hr _ _ rv => by subst hr; simpa only [Rep] using rv) fun z s' hz => ?_
  match z, hz with
  | .error e, hz => exact hz.elim
  | .ok .next, hz => exact False.elim hz
  | .ok .brk, hz => exact False.elim hz
  | .ok .cont, hz => exact False.elim hz
  | .ok (.ret u), hz =>
    obtain ⟨v, H', os, bare, un, hok', r', rfl⟩ := hz
    obtain rfl : u = Value.bool true := r'
    have same : ∀ b o, b ∉ T → st.heap.get? b = some o → s'.heap.get? b = some o := fun b o nb e => by
      cases q : H b with
      | none => exact un.keep b o e q (fun z => by cases z) (fun z => by cases z)
      | some u =>
        rcases Hn b u q with ⟨hb, _⟩ | ⟨_, _, hu⟩
        · exact absurd hb nb
        · rw [hu] at q
          obtain ⟨x1, _⟩ := hok b _ q
          obtain ⟨x2, _⟩ := hok' b _ (un.frzs b _ _ q)
          rw [e] at x1; cases x1
          exact x2
    have more : ∀ p ∈ g.tf, ∃ ps : Array Value, s'.heap.get? (He.cT K p).2 = some { cls := .none, data := .fields ps } := fun p hp => by
      obtain ⟨ps, z⟩ := un.tbls _ #[] (HT _ (inT p hp))
      exact ⟨_, hok' _ _ z⟩
    refine ⟨rfl, ⟨fun b o e => ?_, fun b o e => ?_⟩, os, bare⟩
    · by_cases hb : b ∈ T
      · obtain ⟨p, hp, rfl⟩ := List.mem_map.mp hb
        obtain ⟨ps, hm⟩ := more p hp
        rw [tE p hp] at e
        cases e
        exact .inr (.inl ⟨((tC p hp).tab (tE p hp)).isCodeTable, rfl, #[], ps, rfl, by rw [Array.empty_append]; exact hm⟩)
      · exact .inl (same b o hb e)
    · by_cases hb : b ∈ T
      · obtain ⟨p, hp, rfl⟩ := List.mem_map.mp hb
        obtain ⟨ps, hm⟩ := more p hp
        exact ⟨_, hm⟩
      · exact ⟨o, same b o hb e⟩
/-- the law's walk over a head by facts -/
theorem walk_Q {g : PG_} {l : PySem.W.OpenLaw} {q : Program} {loose : List Str} {XP : (Str → Option Value) → Heap → Prop} {d : DefRec} {e : FE} {k n : Nat} (hok : g.ok = true) (he : e ∈ g.fes) (hen : e.name = "law") (heps : e.ps = (["script"] : List Str)) (hhl : e.hl = false) (hdv : e.dv = [])
    (hn : l.most = some n) (hn2 : n ≤ sizeLine) (hdf : d.params.defaults = []) (hdn : d.name = "law") (room : Room k callerA) (flats : ∀ e ∈ g.fes, ∀ d ∈ e.dv, flat0 d = true) (binds : ∀ e ∈ g.fes, BindsFor e)
    (pure_ : ∀ ns : List Int, ns.length ≤ n → Cl g.T k "law" [.scr ns] [] fun r _ => r = .bl true) :
    PySem.W.WalkO q loose XP (fun w h => ∃ K : PySem.W.Frag, K.In h ∧ He.SaysX g.fa g.fn [] g.tf g.exL w h K) l.row.toRowW d [] (fun f vs => PySem.call f vs) := by
  refine Att.attach_callB hn hdf fun w s₀ s₁ mg mb fa o pm cd doc a vs ns G Y ho hd hcd hmg hobj hints hlen hbits hg => ?_
  obtain ⟨K, kin, c⟩ := Y
  have hB : g.lamB K = true := (Bool.and_eq_true_iff.mp c.more).2
  have FF := facts_of (P := l.prog) (w := w) kin G.T.g c flats binds
  obtain ⟨dvs, a', fd, ea, D, hm, hr, hb⟩ := FF.fn e he
  subst ea
  have efa : fa = He.fAd K (e.name, none) := by
    rw [hdn] at hmg
    rw [hen] at hm
    rw [hm] at hmg
    rw [hen]
    cases hmg
    rfl
  subst efa
  have hdvs : dvs = [] := by
    have := (hr (fun _ => none) [] (fun _ => False)).len
    rw [hdv] at this
    exact List.length_eq_zero_iff.mp this.symm
  subst hdvs
  refine law_end kin G.T.g G.T.b G.T.builtins G.T.nolimit hg hB c.empty c.out (fun p hp => PySem.W.codeHd_of_K kin (c.hd p hp)) G.T.bmain hobj hints (Nat.le_trans hlen hn2) room (fd := fd) (C := Cl g.T k) (fun base hKb hgb TBs => ?_) (fun u => ?_) (pure_ ns hlen)
  · have := (fns_ok hok FF (lfacts_of hB TBs) k).1 e he [] fd D
    unfold preE at this
    rw [hhl, heps, hen] at this
    rw [hen]
    exact this
  · obtain ⟨us, hv, hB'⟩ := hb 0 (Nat.zero_le _)
    have : us = [] := by cases hv; rfl
    subst this
    have z := hB' s₁ [u] kin (by rw [heps]; rfl)
    rw [heps] at z
    exact z
end Q
/-! Rewriting rows for the meaning: they fire on constructors alone. -/
namespace Q
open PySem
theorem str_lit (a b : String) : (Str.ofString a == Str.ofString b) = (a == b) := by
  rw [Bool.eq_iff_iff, beq_iff_eq, beq_iff_eq, congrFun Str.ofString_eq_byList a, congrFun Str.ofString_eq_byList b]
  unfold Str.ofStringByList
  constructor
  · intro h
    have h := congrArg Array.toList (Str.mk.inj h)
    simp only at h
    have inj : ∀ (l m : List Char), l.map Char.toNat = m.map Char.toNat → l = m := by
      intro l
      induction l with
      | nil => intro m h; cases m <;> simp_all
      | cons c l ih =>
        intro m h
        cases m with
        | nil => simp at h
        | cons d m =>
          simp only [List.map_cons, List.cons.injEq] at h
          rw [ih m h.2, Char.toNat_inj.mp h.1]
    exact String.toList_inj.mp (inj _ _ h)
  · rintro rfl; rfl
def optP {α : Type} (o : Option α) (P : α → Prop) : Prop := match o with
  | some a => P a
  | none => False
theorem optP_some {α : Type} (a : α) (P : α → Prop) : optP (some a) P = P a := rfl
theorem optP_ex {α : Type} (o : Option α) (P : α → Prop) : (∃ d, o = some d ∧ P d) = optP o P := by
  cases o with
  | none => simp [optP]
  | some a => simp [optP]
def locE (o : Option Sl) (i : Nat) (L : Lo) (S : Sto) (P : KE) : Prop := match o with
  | some (.val d) => P d false L S
  | some (.own d) => P d false (L.set i (.val d)) S
  | _ => False
theorem locE_val (d : D) (i : Nat) (L : Lo) (S : Sto) (P : KE) : locE (some (.val d)) i L S P = P d false L S := rfl
theorem locE_own (d : D) (i : Nat) (L : Lo) (S : Sto) (P : KE) : locE (some (.own d)) i L S P = P d false (L.set i (.val d)) S := rfl
def locP (o : Option Sl) (L : Lo) (S : Sto) (P : KP) : Prop := match o with
  | some (.val d) => P d L S
  | some (.own d) => P d L S
  | _ => False
theorem locP_val (d : D) (L : Lo) (S : Sto) (P : KP) : locP (some (.val d)) L S P = P d L S := rfl
theorem locP_own (d : D) (L : Lo) (S : Sto) (P : KP) : locP (some (.own d)) L S P = P d L S := rfl
section
variable {C : Calls} {L : Lo} {S : Sto} {P : KE}
theorem wE_loc {i : Nat} : wE C (.loc i) L S P = locE L[i]? i L S P := rfl
theorem wE_cst {d : D} : wE C (.cst d) L S P = P d false L S := rfl
theorem wE_bin {op : BO} {a b : IE} : wE C (.bin op a b) L S P = pk a (wE C a) L S fun x L1 S1 => pk b (wE C b) L1 S1 fun y L2 S2 => dBin op x y fun r f => P r f L2 S2 := rfl
theorem wE_neg {a : IE} : wE C (.neg a) L S P = pk a (wE C a) L S fun x L1 S1 => ∃ i, x = .int i ∧ P (.int (-i)) false L1 S1 := rfl
theorem wE_not {a : IE} : wE C (.not a) L S P = wE C a L S fun x _ L1 S1 => x.truth fun b => P (.bl (!b)) false L1 S1 := rfl
theorem wE_and {a b : IE} : wE C (.and a b) L S P = wE C a L S fun x _ L1 S1 => x.truth fun k => if k = true then wE C b L1 S1 P else P x false L1 S1 := rfl
theorem wE_or {a b : IE} : wE C (.or a b) L S P = wE C a L S fun x _ L1 S1 => x.truth fun k => if k = true then P x false L1 S1 else wE C b L1 S1 P := rfl
theorem wE_ite {c : IC} {a b : IE} : wE C (.ite c a b) L S P = wT C c L S fun k L1 S1 => if k = true then wE C a L1 S1 P else wE C b L1 S1 P := rfl
theorem wE_cmp {op : CO} {a b : IE} : wE C (.cmp op a b) L S P = pk a (wE C a) L S fun x L1 S1 => pk b (wE C b) L1 S1 fun y L2 S2 => dCmp op x y fun k => P (.bl k) false L2 S2 := rfl
theorem wE_chain {o1 o2 : CO} {a b c : IE} : wE C (.chain o1 o2 a b c) L S P = pk a (wE C a) L S fun x L1 S1 => pk b (wE C b) L1 S1 fun y L2 S2 => dCmp o1 x y fun k =>
      if k = true then pk c (wE C c) L2 S2 fun z L3 S3 => dCmp o2 y z fun k2 => P (.bl k2) false L3 S3 else P (.bl false) false L2 S2 := rfl
theorem wE_tup {l : IEs} : wE C (.tup l) L S P = wEs C l L S fun ds L1 S1 => ds.length ≤ sizeLine ∧ P (.tup ds) false L1 S1 := rfl
theorem wE_lst {l : IEs} : wE C (.lst l) L S P = wEs C l L S fun ds L1 S1 => ds.length ≤ sizeLine ∧ P (.lst ds) true L1 S1 := rfl
theorem wE_new {l : IEs} : wE C (.new l) L S P = wEs C l L S fun ds L1 S1 => ds.length ≤ sizeLine ∧ P (.obj S1.length) false L1 (S1 ++ [ds]) := rfl
theorem wE_idx {a i : IE} : wE C (.idx a i) L S P = pk a (wE C a) L S fun x L1 S1 => pk i (wE C i) L1 S1 fun y L2 S2 => dIdx S2 x y fun r => P r false L2 S2 := rfl
theorem wE_rev {a : IE} : wE C (.rev a) L S P = pk a (wE C a) L S fun x L1 S1 => dRev x fun r f => P r f L1 S1 := rfl
theorem wE_slcE {a : IE} {lo hi : IEo} : wE C (.slcE a lo hi) L S P = pk a (wE C a) L S fun x L1 S1 => wEo C lo L1 S1 fun l L2 S2 => wEo C hi L2 S2 fun h L3 S3 => dSlc x l h fun r f => P r f L3 S3 := rfl
theorem wE_call {f : Str} {l : IEs} : wE C (.call f l) L S P = wAs C l L S [] fun ds bs L1 S1 => ds.length = l.len ∧ (∀ i, i ∈ bs → ∃ d, L1[i]? = some (.own d)) ∧ C f ds S1 fun r S2 => if bs = [] ∨ (r.flat = true ∧ Sto.flat S2 = true) ∨ (lentD L1 bs = true ∧ r.nodct = true ∧ Sto.nodct S2 = true) then P r false L1 S2 else P r false (freezeAll L1 bs) S2 := rfl
theorem wE_blt {f : String} {l : IEs} : wE C (.blt f l) L S P = wPs C l L S fun ds L1 S1 => dBlt S1 f ds fun r g => P r g L1 S1 := rfl
theorem wE_isa {a : IE} {t : String} : wE C (.isa a t) L S P = pk a (wE C a) L S fun x L1 S1 => optP (x.isA t) fun b => P (.bl b) false L1 S1 := by
  show pk a (wE C a) L S _ = _
  congr 1; funext x L1 S1; exact optP_ex _ _
theorem wE_comp {e : IE} {t : IT} {src : II} {c : IC} {own : List Nat} : wE C (.comp e t src c own) L S P = wI C src L S fun ds L1 S1 => (∀ i, i ∈ own → ∀ d, L1[i]? ≠ some (.own d)) ∧ compL (wG t) (wT C c) (wE C e) (wipeL L1 own) ds S1 [] fun acc S2 => P (.lst acc) true L1 S2 := rfl
theorem wE_dct {ks : List Str} {l : IEs} : wE C (.dct ks l) L S P = wEs C l L S fun ds L1 S1 => (ks.length = ds.length ∧ ks.length ≤ 15 ∧ ks.Nodup) ∧ P (.dct ks ds) true L1 S1 := rfl
theorem wE_dcomp {k v : IE} {t : IT} {src : II} {c : IC} {own : List Nat} : wE C (.dcomp k v t src c own) L S P = wI C src L S fun ds L1 S1 => (∀ i, i ∈ own → ∀ d, L1[i]? ≠ some (.own d)) ∧ compD (wG t) (wT C c) (wE C k) (wE C v) (wipeL L1 own) ds S1 [] [] fun ks vs S2 => P (.dct ks vs) true L1 S2 := rfl
theorem wE_comp2 {e : IE} {t1 t2 : IT} {s1 s2 : II} {own : List Nat} : wE C (.comp2 e t1 s1 t2 s2 own) L S P = wI C s1 L S fun ds L1 S1 => (∀ i, i ∈ own → ∀ d, L1[i]? ≠ some (.own d)) ∧ compL2 (wG t2) (wI C s2) (wE C e) (wG t1) t2.ix (wipeL L1 own) ds S1 [] fun acc S2 => P (.lst acc) true L1 S2 := rfl
end
section
variable {t : Lo → Sto → KE → Prop} {L : Lo} {S : Sto} {P : KP}
theorem pk_loc {i : Nat} : pk (.loc i) t L S P = locP L[i]? L S P := rfl
theorem pk_cst {d : D} : pk (.cst d) t L S P = t L S fun d _ L' S' => P d L' S' := rfl
theorem pk_bin {op : BO} {a b : IE} : pk (.bin op a b) t L S P = t L S fun d _ L' S' => P d L' S' := rfl
theorem pk_neg {a : IE} : pk (.neg a) t L S P = t L S fun d _ L' S' => P d L' S' := rfl
theorem pk_not {a : IE} : pk (.not a) t L S P = t L S fun d _ L' S' => P d L' S' := rfl
theorem pk_and {a b : IE} : pk (.and a b) t L S P = t L S fun d _ L' S' => P d L' S' := rfl
theorem pk_or {a b : IE} : pk (.or a b) t L S P = t L S fun d _ L' S' => P d L' S' := rfl
theorem pk_ite {c : IC} {a b : IE} : pk (.ite c a b) t L S P = t L S fun d _ L' S' => P d L' S' := rfl
theorem pk_cmp {op : CO} {a b : IE} : pk (.cmp op a b) t L S P = t L S fun d _ L' S' => P d L' S' := rfl
theorem pk_chain {o1 o2 : CO} {a b c : IE} : pk (.chain o1 o2 a b c) t L S P = t L S fun d _ L' S' => P d L' S' := rfl
theorem pk_tup {l : IEs} : pk (.tup l) t L S P = t L S fun d _ L' S' => P d L' S' := rfl
theorem pk_lst {l : IEs} : pk (.lst l) t L S P = t L S fun d _ L' S' => P d L' S' := rfl
theorem pk_new {l : IEs} : pk (.new l) t L S P = t L S fun d _ L' S' => P d L' S' := rfl
theorem pk_idx {a b : IE} : pk (.idx a b) t L S P = t L S fun d _ L' S' => P d L' S' := rfl
theorem pk_rev {a : IE} : pk (.rev a) t L S P = t L S fun d _ L' S' => P d L' S' := rfl
theorem pk_slcE {a : IE} {l h : IEo} : pk (.slcE a l h) t L S P = t L S fun d _ L' S' => P d L' S' := rfl
theorem pk_call {f : Str} {l : IEs} : pk (.call f l) t L S P = t L S fun d _ L' S' => P d L' S' := rfl
theorem pk_blt {f : String} {l : IEs} : pk (.blt f l) t L S P = t L S fun d _ L' S' => P d L' S' := rfl
theorem pk_isa {a : IE} {f : String} : pk (.isa a f) t L S P = t L S fun d _ L' S' => P d L' S' := rfl
theorem pk_comp {e : IE} {t' : IT} {src : II} {c : IC} {own : List Nat} : pk (.comp e t' src c own) t L S P = t L S fun d _ L' S' => P d L' S' := rfl
theorem pk_dct {ks : List Str} {l : IEs} : pk (.dct ks l) t L S P = t L S fun d _ L' S' => P d L' S' := rfl
theorem pk_dcomp {k v : IE} {t' : IT} {src : II} {c : IC} {own : List Nat} : pk (.dcomp k v t' src c own) t L S P = t L S fun d _ L' S' => P d L' S' := rfl
theorem pk_comp2 {e : IE} {t1 t2 : IT} {s1 s2 : II} {own : List Nat} : pk (.comp2 e t1 s1 t2 s2 own) t L S P = t L S fun d _ L' S' => P d L' S' := rfl
end
section
variable {P : KF} {Q : Bool → Prop} {S : Sto} {R : D → Prop}
theorem add_int {a b : Int} : dBin .add (.int a) (.int b) P = P (.int (a + b)) false := rfl
theorem add_str {a b : Str} : dBin .add (.str a) (.str b) P = (a.length + b.length ≤ sizeLine ∧ P (.str (a ++ b)) false) := rfl
theorem add_tup {a b : List D} : dBin .add (.tup a) (.tup b) P = (a.length + b.length ≤ sizeLine ∧ P (.tup (a ++ b)) false) := rfl
theorem add_lst {a b : List D} : dBin .add (.lst a) (.lst b) P = (a.length + b.length ≤ sizeLine ∧ P (.lst (a ++ b)) true) := rfl
theorem sub_int {a b : Int} : dBin .sub (.int a) (.int b) P = P (.int (a - b)) false := rfl
theorem mul_int {a b : Int} : dBin .mul (.int a) (.int b) P = ((small64 a ∨ small64 b ∨ (a.natAbs < 2 ^ 4000 ∧ b.natAbs < 2 ^ 4000)) ∧ P (.int (a * b)) false) := rfl
theorem fdiv_int {a b : Int} : dBin .fdiv (.int a) (.int b) P = ((0 < b ∧ b.natAbs < 2 ^ 9000) ∧ P (.int (a / b)) false) := rfl
theorem mod_int {a b : Int} : dBin .mod (.int a) (.int b) P = (b ≠ 0 ∧ P (.int (a.fmod b)) false) := rfl
theorem pow_int {a b : Int} : dBin .pow (.int a) (.int b) P = ((0 ≤ b ∧ b ≤ 1000000 ∧ a.natAbs < 2 ^ 64) ∧ P (.int (a ^ b.toNat)) false) := rfl
theorem cmp_eq {x y : D} : dCmp .eq x y Q = (eqQ x y = true ∧ Q (x.eq y)) := rfl
theorem cmp_ne {x y : D} : dCmp .ne x y Q = (eqQ x y = true ∧ Q (!x.eq y)) := rfl
theorem eqQ_str {a b : Str} : eqQ (.str a) (.str b) = true := rfl
theorem eqQ_int {a b : Int} : eqQ (.int a) (.int b) = true := rfl
theorem eqQ_bl {a b : Bool} : eqQ (.bl a) (.bl b) = true := rfl
theorem eq_bl {a b : Bool} : D.eq (.bl a) (.bl b) = (a == b) := rfl
theorem cmp_lt {a b : Int} : dCmp .lt (.int a) (.int b) Q = Q (decide (a < b)) := rfl
theorem cmp_gt {a b : Int} : dCmp .gt (.int a) (.int b) Q = Q (decide (b < a)) := rfl
theorem cmp_le {a b : Int} : dCmp .le (.int a) (.int b) Q = Q (decide (a ≤ b)) := rfl
theorem cmp_ge {a b : Int} : dCmp .ge (.int a) (.int b) Q = Q (decide (b ≤ a)) := rfl
theorem cmp_is {x : D} : dCmp .is x .non Q = Q x.isNon := rfl
theorem cmp_isn {x : D} : dCmp .isn x .non Q = Q (!x.isNon) := rfl
theorem cmp_isb {x : D} {k : Bool} : dCmp .is x (.bl k) Q = Q (x.isBl k) := by cases x <;> rfl
theorem cmp_isnb {x : D} {k : Bool} : dCmp .isn x (.bl k) Q = Q (!x.isBl k) := by cases x <;> rfl
theorem cmp_gts {a b : Str} : dCmp .gt (.str a) (.str b) Q = Q (decide (b.cps.toList < a.cps.toList)) := rfl
theorem cmp_lts {a b : Str} : dCmp .lt (.str a) (.str b) Q = Q (decide (a.cps.toList < b.cps.toList)) := rfl
theorem cmp_les {a b : Str} : dCmp .le (.str a) (.str b) Q = Q (!decide (b.cps.toList < a.cps.toList)) := rfl
theorem mem_dct {k : Str} {ks : List Str} {vs : List D} : dMem (.str k) (.dct ks vs) Q = (ks.length = vs.length ∧ Q (dLook ks vs k).isSome) := rfl
theorem isB_non {k : Bool} : D.isBl k .non = false := rfl
theorem isB_bl {k b : Bool} : D.isBl k (.bl b) = (b == k) := rfl
theorem isB_tup {k : Bool} {l : List D} : D.isBl k (.tup l) = false := rfl
theorem isB_str {k : Bool} {l : Str} : D.isBl k (.str l) = false := rfl
theorem mul_tup {a : List D} {k : Int} : dBin .mul (.tup a) (.int k) P = ((a ≠ [] ∧ 0 ≤ k ∧ k ≤ 1000 ∧ a.length ≤ 1000) ∧ P (.tup (List.replicate k.toNat a).flatten) false) := rfl
theorem idx_dct {ks : List Str} {vs : List D} {k : Str} : dIdx S (.dct ks vs) (.str k) R = optP (dLook ks vs k) R := optP_ex _ _
theorem blt_minL {l : List D} : dBlt S "min" [.lst l] P = optP (allI l) fun ns => optP ns.min? fun m => P (.int m) false := by
  rw [← optP_ex]
  apply propext
  constructor
  · rintro ⟨ns, m, h1, h2, h3⟩; exact ⟨ns, h1, by rw [← optP_ex]; exact ⟨m, h2, h3⟩⟩
  · rintro ⟨ns, h1, h2⟩
    rw [← optP_ex] at h2
    obtain ⟨m, h2, h3⟩ := h2
    exact ⟨ns, m, h1, h2, h3⟩
theorem blt_maxL {l : List D} : dBlt S "max" [.lst l] P = optP (allI l) fun ns => optP ns.max? fun m => P (.int m) false := by
  rw [← optP_ex]
  apply propext
  constructor
  · rintro ⟨ns, m, h1, h2, h3⟩; exact ⟨ns, h1, by rw [← optP_ex]; exact ⟨m, h2, h3⟩⟩
  · rintro ⟨ns, h1, h2⟩
    rw [← optP_ex] at h2
    obtain ⟨m, h2, h3⟩ := h2
    exact ⟨ns, m, h1, h2, h3⟩
theorem blt_min2L {x y : Int} : dBlt S "min" [.lst [.int x, .int y]] P = P (.int (if y < x then y else x)) false := by
  rw [blt_minL]
  have e : [x, y].min? = some (if y < x then y else x) := by
    rw [List.min?_eq_some_iff]
    split <;> simp <;> omega
  have e0 : allI [.int x, .int y] = some [x, y] := rfl
  rw [e0, optP_some, e, optP_some]
theorem blt_max2L {x y : Int} : dBlt S "max" [.lst [.int x, .int y]] P = P (.int (if x < y then y else x)) false := by
  rw [blt_maxL]
  have e : [x, y].max? = some (if x < y then y else x) := by
    rw [List.max?_eq_some_iff]
    split <;> simp <;> omega
  have e0 : allI [.int x, .int y] = some [x, y] := rfl
  rw [e0, optP_some, e, optP_some]
def sortP (l : List D) (P : KF) : Prop := optP (allS l) fun ss => ss.length < 64 ∧ ∀ ys : List Str, ys.Perm ss → PyProof.Rows.sortedS ys = true → P (.lst (ys.map .str)) true
def sortsetP (l : List D) (P : KF) : Prop := optP (allS l) fun ss => ss.length + 1 < 4096 ∧ ∀ ys : List Str, PyProof.Rows.sortedS ys = true → ys.Nodup → (∀ k, k ∈ ys ↔ k ∈ ss) → P (.lst (ys.map .str)) true
def pairsP (l : List D) (P : KF) : Prop := optP (allPr l) fun p => p.1.Nodup ∧ P (.dct p.1 p.2) true
theorem blt_sorted {l : List D} : dBlt S "sorted" [.lst l] P = sortP l P := optP_ex _ _
theorem blt_sortset {l : List D} : dBlt S "sortset" [.lst l] P = sortsetP l P := optP_ex _ _
theorem blt_dctL {l : List D} : dBlt S "dict" [.lst l] P = pairsP l P := optP_ex _ _
theorem blt_dctX {l : List D} : dBlt S "dict" [.xt l] P = pairsP l P := optP_ex _ _
theorem blt_xt {l : List D} : dBlt S "xtuple" [.lst l] P = P (.xt l) false := rfl
theorem len_xt {l : List D} : dBlt S "len" [.xt l] P = P (.int l.length) false := rfl
theorem idx_xt {l : List D} {i : Int} : dIdx S (.xt l) (.int i) R = optP (L2.atI l i) R := optP_ex _ _
theorem blt_dctD {ks : List Str} {vs : List D} : dBlt S "dict" [.dct ks vs] P = P (.dct ks vs) true := rfl
theorem blt_lstD {ks : List Str} {vs : List D} : dBlt S "list" [.dct ks vs] P = P (.lst (ks.map .str)) true := rfl
theorem len_dct {ks : List Str} {vs : List D} : dBlt S "len" [.dct ks vs] P = P (.int ks.length) false := rfl
theorem idx_str {z : Str} {i : Int} : dIdx S (.str z) (.int i) R = (z.length ≤ sizeLine ∧ optP (L2.atI z.cps.toList i) fun c => R (.str ⟨#[c]⟩)) := by
  apply propext
  constructor
  · rintro ⟨c, h0, h1, h2⟩; exact ⟨h0, by rw [← optP_ex]; exact ⟨c, h1, h2⟩⟩
  · rintro ⟨h0, h⟩
    rw [← optP_ex] at h
    obtain ⟨c, h1, h2⟩ := h
    exact ⟨c, h0, h1, h2⟩
theorem cmp_mem {x y : D} : dCmp .mem x y Q = dMem x y Q := rfl
theorem cmp_nmem {x y : D} : dCmp .nmem x y Q = dMem x y (fun b => Q (!b)) := rfl
theorem mem_lst {x : D} {l : List D} : dMem x (.lst l) Q = (x.eqOk = true ∧ (D.lst l).eqOk = true ∧ Q (l.any fun z => z.eq x)) := by
  cases x <;> rfl
theorem mem_tup {x : D} {l : List D} : dMem x (.tup l) Q = (x.eqOk = true ∧ (D.tup l).eqOk = true ∧ Q (l.any fun z => z.eq x)) := by
  cases x <;> rfl
theorem mem_str {x y : Str} : dMem (.str x) (.str y) Q = Q (strIn x y) := rfl
theorem eq_int {a b : Int} : D.eq (.int a) (.int b) = (a == b) := rfl
theorem eq_str {a b : Str} : D.eq (.str a) (.str b) = (a == b) := rfl
theorem ok_int {a : Int} : D.eqOk (.int a) = true := rfl
theorem ok_bl {a : Bool} : D.eqOk (.bl a) = true := rfl
theorem ok_non : D.eqOk .non = true := rfl
theorem tr_bl {b : Bool} : D.truth (.bl b) Q = Q b := rfl
theorem tr_int {b : Int} : D.truth (.int b) Q = Q (b != 0) := rfl
theorem tr_lst {b : List D} : D.truth (.lst b) Q = Q (!b.isEmpty) := rfl
theorem tr_tup {b : List D} : D.truth (.tup b) Q = Q (!b.isEmpty) := rfl
theorem tr_non : D.truth .non Q = Q false := rfl
theorem idx_tup {l : List D} {i : Int} : dIdx S (.tup l) (.int i) R = optP (L2.atI l i) R := optP_ex _ _
theorem idx_lst {l : List D} {i : Int} : dIdx S (.lst l) (.int i) R = optP (L2.atI l i) R := optP_ex _ _
theorem idx_obj {n : Nat} {i : Int} : dIdx S (.obj n) (.int i) R = optP S[n]? fun l => optP (L2.atI l i) R := by
  rw [← optP_ex]
  apply propext
  constructor
  · rintro ⟨l, d, h1, h2, h3⟩; exact ⟨l, h1, by rw [← optP_ex]; exact ⟨d, h2, h3⟩⟩
  · rintro ⟨l, h1, h2⟩
    rw [← optP_ex] at h2
    obtain ⟨d, h2, h3⟩ := h2
    exact ⟨l, d, h1, h2, h3⟩
theorem rev_tup {l : List D} : dRev (.tup l) P = P (.tup l.reverse) false := rfl
theorem rev_lst {l : List D} : dRev (.lst l) P = P (.lst l.reverse) true := rfl
theorem rev_xt {l : List D} : dRev (.xt l) P = P (.tup l.reverse) false := rfl
theorem slc_tup {l : List D} {lo hi : Option Int} : dSlc (.tup l) lo hi P = P (.tup (cut l lo hi)) false := rfl
theorem slc_lst {l : List D} {lo hi : Option Int} : dSlc (.lst l) lo hi P = P (.lst (cut l lo hi)) true := rfl
theorem slc_scr {l : List Int} {lo hi : Option Int} : dSlc (.scr l) lo hi P = P (.lst ((cut l lo hi).map .int)) true := rfl
theorem len_tup {l : List D} : dBlt S "len" [.tup l] P = P (.int l.length) false := rfl
theorem len_lst {l : List D} : dBlt S "len" [.lst l] P = P (.int l.length) false := rfl
theorem len_str {s : Str} : dBlt S "len" [.str s] P = (s.length ≤ sizeLine ∧ P (.int s.length) false) := rfl
theorem blt_all {l : List D} : dBlt S "all" [.lst l] P = optP (allB l) fun bs => P (.bl (bs.all id)) false := optP_ex _ _
theorem blt_any {l : List D} : dBlt S "any" [.lst l] P = optP (allB l) fun bs => P (.bl (bs.any id)) false := optP_ex _ _
theorem blt_sum {l : List D} : dBlt S "sum" [.lst l] P = optP (allI l) fun bs => P (.int bs.sum) false := optP_ex _ _
theorem blt_tupL {l : List D} : dBlt S "tuple" [.lst l] P = P (.tup l) false := rfl
theorem blt_tupT {l : List D} : dBlt S "tuple" [.tup l] P = P (.tup l) false := rfl
theorem blt_lstL {l : List D} : dBlt S "list" [.lst l] P = P (.lst l) true := rfl
theorem blt_lstT {l : List D} : dBlt S "list" [.tup l] P = P (.lst l) true := rfl
theorem blt_lstS {l : List Int} : dBlt S "list" [.scr l] P = P (.lst (l.map .int)) true := rfl
theorem blt_int {i : Int} : dBlt S "int" [.int i] P = P (.int i) false := rfl
theorem blt_min {i j : Int} : dBlt S "min" [.int i, .int j] P = P (.int (if j < i then j else i)) false := rfl
theorem blt_max {i j : Int} : dBlt S "max" [.int i, .int j] P = P (.int (if j > i then j else i)) false := rfl
end
theorem isa_non_str : D.isA (.non) "str" = some false := rfl
theorem isa_non_int : D.isA (.non) "int" = some false := rfl
theorem isa_non_bool : D.isA (.non) "bool" = some false := rfl
theorem isa_non_tuple : D.isA (.non) "tuple" = some false := rfl
theorem isa_non_list : D.isA (.non) "list" = some false := rfl
theorem isa_non_dict : D.isA (.non) "dict" = some false := rfl
theorem isa_bl_str {b : Bool} : D.isA (.bl b) "str" = some false := rfl
theorem isa_bl_int {b : Bool} : D.isA (.bl b) "int" = some true := rfl
theorem isa_bl_bool {b : Bool} : D.isA (.bl b) "bool" = some true := rfl
theorem isa_bl_tuple {b : Bool} : D.isA (.bl b) "tuple" = some false := rfl
theorem isa_bl_list {b : Bool} : D.isA (.bl b) "list" = some false := rfl
theorem isa_bl_dict {b : Bool} : D.isA (.bl b) "dict" = some false := rfl
theorem isa_int_str {i : Int} : D.isA (.int i) "str" = some false := rfl
theorem isa_int_int {i : Int} : D.isA (.int i) "int" = some true := rfl
theorem isa_int_bool {i : Int} : D.isA (.int i) "bool" = some false := rfl
theorem isa_int_tuple {i : Int} : D.isA (.int i) "tuple" = some false := rfl
theorem isa_int_list {i : Int} : D.isA (.int i) "list" = some false := rfl
theorem isa_int_dict {i : Int} : D.isA (.int i) "dict" = some false := rfl
theorem isa_str_str {s : Str} : D.isA (.str s) "str" = some true := rfl
theorem isa_str_int {s : Str} : D.isA (.str s) "int" = some false := rfl
theorem isa_str_bool {s : Str} : D.isA (.str s) "bool" = some false := rfl
theorem isa_str_tuple {s : Str} : D.isA (.str s) "tuple" = some false := rfl
theorem isa_str_list {s : Str} : D.isA (.str s) "list" = some false := rfl
theorem isa_str_dict {s : Str} : D.isA (.str s) "dict" = some false := rfl
theorem isa_tup_str {l : List D} : D.isA (.tup l) "str" = some false := rfl
theorem isa_tup_int {l : List D} : D.isA (.tup l) "int" = some false := rfl
theorem isa_tup_bool {l : List D} : D.isA (.tup l) "bool" = some false := rfl
theorem isa_tup_tuple {l : List D} : D.isA (.tup l) "tuple" = some true := rfl
theorem isa_tup_list {l : List D} : D.isA (.tup l) "list" = some false := rfl
theorem isa_tup_dict {l : List D} : D.isA (.tup l) "dict" = some false := rfl
theorem isa_lst_str {l : List D} : D.isA (.lst l) "str" = some false := rfl
theorem isa_lst_int {l : List D} : D.isA (.lst l) "int" = some false := rfl
theorem isa_lst_bool {l : List D} : D.isA (.lst l) "bool" = some false := rfl
theorem isa_lst_tuple {l : List D} : D.isA (.lst l) "tuple" = some false := rfl
theorem isa_lst_list {l : List D} : D.isA (.lst l) "list" = some true := rfl
theorem isa_lst_dict {l : List D} : D.isA (.lst l) "dict" = some false := rfl
theorem isa_xt_str {l : List D} : D.isA (.xt l) "str" = some false := rfl
theorem isa_xt_int {l : List D} : D.isA (.xt l) "int" = some false := rfl
theorem isa_xt_bool {l : List D} : D.isA (.xt l) "bool" = some false := rfl
theorem isa_xt_tuple {l : List D} : D.isA (.xt l) "tuple" = some true := rfl
theorem isa_xt_list {l : List D} : D.isA (.xt l) "list" = some false := rfl
theorem isa_xt_dict {l : List D} : D.isA (.xt l) "dict" = some false := rfl
theorem isa_dct_str {k : List Str} {l : List D} : D.isA (.dct k l) "str" = some false := rfl
theorem isa_dct_int {k : List Str} {l : List D} : D.isA (.dct k l) "int" = some false := rfl
theorem isa_dct_bool {k : List Str} {l : List D} : D.isA (.dct k l) "bool" = some false := rfl
theorem isa_dct_tuple {k : List Str} {l : List D} : D.isA (.dct k l) "tuple" = some false := rfl
theorem isa_dct_list {k : List Str} {l : List D} : D.isA (.dct k l) "list" = some false := rfl
theorem isa_dct_dict {k : List Str} {l : List D} : D.isA (.dct k l) "dict" = some true := rfl
theorem lentD_nil {L : Lo} : lentD L [] = true := rfl
theorem lentD_cons {L : Lo} {i : Nat} {r : List Nat} : lentD L (i :: r) = (isOwnD L[i]? && lentD L r) := rfl
theorem ownD_lst {l : List D} : isOwnD (some (.own (.lst l))) = false := rfl
theorem ownD_dct {k : List Str} {l : List D} : isOwnD (some (.own (.dct k l))) = true := rfl
theorem nd_int {i : Int} : D.nodct (.int i) = true := rfl
theorem nd_str {i : Str} : D.nodct (.str i) = true := rfl
theorem nd_bl {i : Bool} : D.nodct (.bl i) = true := rfl
theorem nd_non : D.nodct .non = true := rfl
theorem nd_tup {l : List D} : D.nodct (.tup l) = D.nodcts l := rfl
theorem nds_nil : D.nodcts [] = true := rfl
theorem nds_cons {d : D} {l : List D} : D.nodcts (d :: l) = (d.nodct && D.nodcts l) := rfl
theorem sz0 : (0 ≤ sizeLine) = True := eq_true (by decide)
theorem sz1 : (1 ≤ sizeLine) = True := eq_true (by decide)
theorem sz2 : (2 ≤ sizeLine) = True := eq_true (by decide)
theorem sz3 : (3 ≤ sizeLine) = True := eq_true (by decide)
theorem sz4 : (4 ≤ sizeLine) = True := eq_true (by decide)
theorem sz5 : (5 ≤ sizeLine) = True := eq_true (by decide)
theorem sz6 : (6 ≤ sizeLine) = True := eq_true (by decide)
theorem sz7 : (7 ≤ sizeLine) = True := eq_true (by decide)
theorem sz8 : (8 ≤ sizeLine) = True := eq_true (by decide)
theorem sz9 : (9 ≤ sizeLine) = True := eq_true (by decide)
theorem nc0 : ((0 : Nat) : Int) = 0 := rfl
theorem nc1 : ((1 : Nat) : Int) = 1 := rfl
theorem nc2 : ((2 : Nat) : Int) = 2 := rfl
theorem nc3 : ((3 : Nat) : Int) = 3 := rfl
theorem nc4 : ((4 : Nat) : Int) = 4 := rfl
theorem nc5 : ((5 : Nat) : Int) = 5 := rfl
theorem nc6 : ((6 : Nat) : Int) = 6 := rfl
theorem nc7 : ((7 : Nat) : Int) = 7 := rfl
theorem nc8 : ((8 : Nat) : Int) = 8 := rfl
theorem nc9 : ((9 : Nat) : Int) = 9 := rfl
theorem isN_non : D.isNon (.non) = true := rfl
theorem isN_bl {b : Bool} : D.isNon (.bl b) = false := rfl
theorem isN_int {i : Int} : D.isNon (.int i) = false := rfl
theorem isN_str {s : Str} : D.isNon (.str s) = false := rfl
theorem isN_tup {l : List D} : D.isNon (.tup l) = false := rfl
theorem isN_lst {l : List D} : D.isNon (.lst l) = false := rfl
/-! places, parts -/
theorem at0 {α : Type} (a : α) (l : List α) : L2.atI (a :: l) 0 = some a := by
  have := L2.atI_nat (xs := a :: l) (j := 0) (v := a) rfl
  exact this
theorem at1 {α : Type} (a b : α) (l : List α) : L2.atI (a :: b :: l) 1 = some b := L2.atI_nat (xs := a :: b :: l) (j := 1) (v := b) rfl
theorem at2 {α : Type} (a b c : α) (l : List α) : L2.atI (a :: b :: c :: l) 2 = some c := L2.atI_nat (xs := a :: b :: c :: l) (j := 2) (v := c) rfl
theorem at3 {α : Type} (a b c d : α) (l : List α) : L2.atI (a :: b :: c :: d :: l) 3 = some d := L2.atI_nat (xs := a :: b :: c :: d :: l) (j := 3) (v := d) rfl
theorem at4 {α : Type} (a b c d e : α) (l : List α) : L2.atI (a :: b :: c :: d :: e :: l) 4 = some e := L2.atI_nat (xs := a :: b :: c :: d :: e :: l) (j := 4) (v := e) rfl
theorem atN {α : Type} {l : List α} {j : Nat} {v : α} (h : l[j]? = some v) : L2.atI l (j : Int) = some v := L2.atI_nat h
theorem cut_hi {α : Type} (l : List α) (n : Nat) (h : n ≤ l.length) : cut l none (some (n : Int)) = l.take n := by
  unfold cut
  rw [HT.sIx_none, HT.sIx_nat, Nat.min_eq_left h]; simp
theorem cut_lo {α : Type} (l : List α) (n : Nat) (h : n ≤ l.length) : cut l (some (n : Int)) none = l.drop n := by
  unfold cut
  rw [HT.sIx_none, HT.sIx_nat, Nat.min_eq_left h]
  rw [List.take_of_length_le (by simp)]
theorem sizeL : sizeLine = 16777216 := rfl
/-! what is walked, statements -/
def intP (x : D) (P : Int → Prop) : Prop := match x with
  | .int i => P i
  | _ => False
theorem intP_int {i : Int} {P : Int → Prop} : intP (.int i) P = P i := rfl
theorem intP_ex {x : D} {P : Int → Prop} : (∃ i, x = .int i ∧ P i) = intP x P := by
  cases x <;> simp [intP]
def rngP (x y : D) (P : List D → Prop) : Prop := intP x fun i => intP y fun j => lim62 i ∧ lim62 j ∧ P (rngList i (j - i).toNat)
theorem rngP_int {i j : Int} {P : List D → Prop} : rngP (.int i) (.int j) P = (lim62 i ∧ lim62 j ∧ P (rngList i (j - i).toNat)) := rfl
def seqP (x : D) (P : List D → Prop) : Prop := match x with
  | .tup l => P l
  | .lst l => P l
  | .scr l => P (l.map .int)
  | .str z => P (z.cps.toList.map fun c => .str ⟨#[c]⟩)
  | .xt l => P l
  | _ => False
theorem seqP_xt {l : List D} {P : List D → Prop} : seqP (.xt l) P = P l := rfl
theorem seqP_tup {l : List D} {P : List D → Prop} : seqP (.tup l) P = P l := rfl
theorem seqP_lst {l : List D} {P : List D → Prop} : seqP (.lst l) P = P l := rfl
theorem seqP_scr {l : List Int} {P : List D → Prop} : seqP (.scr l) P = P (l.map .int) := rfl
theorem seqP_str {z : Str} {P : List D → Prop} : seqP (.str z) P = P (z.cps.toList.map fun c => .str ⟨#[c]⟩) := rfl
def zipP (x y : D) (P : List D → Prop) : Prop := match x, y with
  | .tup l, .tup m => l.length = m.length ∧ P (List.zipWith (fun u v => .tup [u, v]) l m)
  | .lst l, .lst m => l.length = m.length ∧ P (List.zipWith (fun u v => .tup [u, v]) l m)
  | _, _ => False
theorem zipP_tup {l m : List D} {P : List D → Prop} : zipP (.tup l) (.tup m) P = (l.length = m.length ∧ P (List.zipWith (fun u v => .tup [u, v]) l m)) := rfl
theorem zipP_lst {l m : List D} {P : List D → Prop} : zipP (.lst l) (.lst m) P = (l.length = m.length ∧ P (List.zipWith (fun u v => .tup [u, v]) l m)) := rfl
section
variable {C : Calls} {L : Lo} {S : Sto}
theorem wE_neg' {a : IE} {P : KE} : wE C (.neg a) L S P = pk a (wE C a) L S fun x L1 S1 => intP x fun i => P (.int (-i)) false L1 S1 := by
  show pk a (wE C a) L S _ = _
  congr 1; funext x L1 S1; exact intP_ex
theorem wEo_no {P : Option Int → Lo → Sto → Prop} : wEo C .no L S P = P none L S := rfl
theorem wEo_so {e : IE} {P : Option Int → Lo → Sto → Prop} : wEo C (.so e) L S P = pk e (wE C e) L S fun x L1 S1 => intP x fun i => P (some i) L1 S1 := by
  simp only [wEo, ← intP_ex]
theorem wI_seq {e : IE} {P : List D → Lo → Sto → Prop} : wI C (.seq e) L S P = wE C e L S fun x _ L1 S1 => seqP x fun ds => P ds L1 S1 := by
  show wE C e L S _ = wE C e L S _
  congr 1
  first | done | (funext x _ L1 S1; cases x <;> rfl)
theorem wI_rng {a b : IE} {P : List D → Lo → Sto → Prop} : wI C (.rng a b) L S P = wE C a L S fun x _ L1 S1 => wE C b L1 S1 fun y _ L2 S2 => rngP x y fun ds => P ds L2 S2 := by
  show wE C a L S _ = _
  congr 1; funext x _ L1 S1; congr 1; funext y _ L2 S2
  cases x <;> cases y <;> simp [rngP, intP]
theorem wI_zip {a b : IE} {P : List D → Lo → Sto → Prop} : wI C (.zip a b) L S P = wE C a L S fun x _ L1 S1 => wE C b L1 S1 fun y _ L2 S2 => zipP x y fun ds => P ds L2 S2 := by
  show wE C a L S _ = wE C a L S _
  congr 1
  first | done | (funext x _ L1 S1; congr 1; first | done | (funext y _ L2 S2; cases x <;> cases y <;> rfl))
def wkP (o : Option Sl) (i : Nat) (L : Lo) (S : Sto) (P : List D → Lo → Sto → Prop) : Prop := match o with
  | some (.val (.tup l)) => P l L S
  | some (.val (.lst l)) => P l L S
  | some (.own (.lst l)) => P l (L.set i (.val (.lst l))) S
  | some (.val (.dct ks _)) => P (ks.map .str) L S
  | some (.own (.dct ks vs)) => P (ks.map .str) (L.set i (.val (.dct ks vs))) S
  | _ => False
theorem wI_wk {i : Nat} {P : List D → Lo → Sto → Prop} : wI C (.wk i) L S P = wkP L[i]? i L S P := rfl
theorem wkP_tup {l : List D} {i : Nat} {P : List D → Lo → Sto → Prop} : wkP (some (.val (.tup l))) i L S P = P l L S := rfl
theorem wkP_lst {l : List D} {i : Nat} {P : List D → Lo → Sto → Prop} : wkP (some (.val (.lst l))) i L S P = P l L S := rfl
theorem wkP_lstO {l : List D} {i : Nat} {P : List D → Lo → Sto → Prop} : wkP (some (.own (.lst l))) i L S P = P l (L.set i (.val (.lst l))) S := rfl
theorem wkP_dct {ks : List Str} {vs : List D} {i : Nat} {P : List D → Lo → Sto → Prop} : wkP (some (.val (.dct ks vs))) i L S P = P (ks.map .str) L S := rfl
theorem wkP_dctO {ks : List Str} {vs : List D} {i : Nat} {P : List D → Lo → Sto → Prop} : wkP (some (.own (.dct ks vs))) i L S P = P (ks.map .str) (L.set i (.val (.dct ks vs))) S := rfl
def pkP (o : Option Sl) (L : Lo) (S : Sto) (P : List D → Lo → Sto → Prop) : Prop := match o with
  | some (.val (.tup l)) => P l L S
  | some (.val (.lst l)) => P l L S
  | some (.val (.xt l)) => P l L S
  | some (.own (.lst l)) => P l L S
  | _ => False
theorem wI_pk {i : Nat} {P : List D → Lo → Sto → Prop} : wI C (.pk i) L S P = pkP L[i]? L S P := rfl
theorem pkP_tup {l : List D} {P : List D → Lo → Sto → Prop} : pkP (some (.val (.tup l))) L S P = P l L S := rfl
theorem pkP_lst {l : List D} {P : List D → Lo → Sto → Prop} : pkP (some (.val (.lst l))) L S P = P l L S := rfl
theorem pkP_xt {l : List D} {P : List D → Lo → Sto → Prop} : pkP (some (.val (.xt l))) L S P = P l L S := rfl
theorem pkP_lstO {l : List D} {P : List D → Lo → Sto → Prop} : pkP (some (.own (.lst l))) L S P = P l L S := rfl
def ownL (o : Option Sl) (P : List D → Prop) : Prop := match o with
  | some (.own (.lst l)) => P l
  | _ => False
theorem ownL_own {l : List D} {P : List D → Prop} : ownL (some (.own (.lst l))) P = P l := rfl
theorem ownL_ex {o : Option Sl} {P : List D → Prop} : (∃ l, o = some (.own (.lst l)) ∧ P l) = ownL o P := by
  apply propext
  constructor
  · rintro ⟨l, rfl, h⟩; exact h
  · intro h
    unfold ownL at h
    split at h
    · exact ⟨_, rfl, h⟩
    · exact h.elim
theorem wS_asg {t : IT} {e : IE} {Z : Ends} : wS C (.asg t e) L S Z = wE C e L S fun d f L1 S1 => asgF t d f L1 fun L2 => Z.nx L2 S1 := rfl
theorem wS_par {i j : Nat} {a b : IE} {Z : Ends} : wS C (.par i j a b) L S Z = wE C a L S fun x f L1 S1 => wE C b L1 S1 fun y g L2 S2 => Z.nx ((L2.set i (flag f x)).set j (flag g y)) S2 := rfl
theorem wS_app {i : Nat} {e : IE} {Z : Ends} : wS C (.app i e) L S Z = ownL L[i]? fun _ => wE C e L S fun d _ L1 S1 => ownL L1[i]? fun l => l.length < sizeLine ∧ Z.nx (L1.set i (.own (.lst (l ++ [d])))) S1 := by
  rw [← ownL_ex]
  simp only [wS, ← ownL_ex]
  apply propext
  constructor
  · rintro ⟨⟨l, h1⟩, h2⟩; exact ⟨l, h1, h2⟩
  · rintro ⟨l, h1, h2⟩; exact ⟨⟨l, h1⟩, h2⟩
def lstP (d : D) (P : List D → Prop) : Prop := match d with
  | .lst m => P m
  | _ => False
theorem lstP_lst {m : List D} {P : List D → Prop} : lstP (.lst m) P = P m := rfl
theorem wS_ext {i : Nat} {e : IE} {Z : Ends} : wS C (.ext i e) L S Z = ownL L[i]? fun _ => wE C e L S fun d _ L1 S1 => ownL L1[i]? fun l => lstP d fun m => l.length + m.length ≤ sizeLine ∧ Z.nx (L1.set i (.own (.lst (l ++ m)))) S1 := by
  rw [← ownL_ex]
  simp only [wS, ← ownL_ex]
  have e1 : ∀ (d : D) (L1 : Lo) (S1 : Sto), (∃ l m, L1[i]? = some (Sl.own (D.lst l)) ∧ d = D.lst m ∧ l.length + m.length ≤ sizeLine ∧ Z.nx (L1.set i (.own (.lst (l ++ m)))) S1) = ∃ l, L1[i]? = some (Sl.own (D.lst l)) ∧ lstP d fun m => l.length + m.length ≤ sizeLine ∧ Z.nx (L1.set i (.own (.lst (l ++ m)))) S1 := fun d L1 S1 => by
    apply propext
    constructor
    · rintro ⟨l, m, h1, rfl, h2⟩; exact ⟨l, h1, h2⟩
    · rintro ⟨l, h1, h2⟩
      cases d <;> first | exact ⟨l, _, h1, rfl, h2⟩ | exact h2.elim
  simp only [e1]
  apply propext
  constructor
  · rintro ⟨⟨l, h1⟩, h2⟩; exact ⟨l, h1, h2⟩
  · rintro ⟨l, h1, h2⟩; exact ⟨⟨l, h1⟩, h2⟩
theorem wS_pop {t : IT} {i : Nat} {Z : Ends} : wS C (.pop t i) L S Z = ownL L[i]? fun l => optP l[l.length - 1]? fun d => wG t d (L.set i (.own (.lst l.dropLast))) fun L2 => Z.nx L2 S := by
  rw [← ownL_ex]
  simp only [wS, ← optP_ex]
  apply propext
  constructor
  · rintro ⟨l, d, h1, h2, h3⟩; exact ⟨l, h1, d, h2, h3⟩
  · rintro ⟨l, h1, d, h2, h3⟩; exact ⟨l, d, h1, h2, h3⟩
def augP (op : BO) (x y : D) (P : D → Prop) : Prop := match x, y with
  | .int _, .int _ => dBin op x y fun r _ => P r
  | .str _, .str _ => dBin op x y fun r _ => P r
  | _, _ => False
theorem augP_int {op : BO} {i j : Int} {P : D → Prop} : augP op (.int i) (.int j) P = dBin op (.int i) (.int j) fun r _ => P r := rfl
theorem augP_str {op : BO} {i j : Str} {P : D → Prop} : augP op (.str i) (.str j) P = dBin op (.str i) (.str j) fun r _ => P r := rfl
def valP (o : Option Sl) (P : D → Prop) : Prop := match o with
  | some (.val d) => P d
  | _ => False
theorem valP_val {d : D} {P : D → Prop} : valP (some (.val d)) P = P d := rfl
theorem valP_ex {o : Option Sl} {P : D → Prop} : (∃ l, o = some (.val l) ∧ P l) = valP o P := by
  apply propext
  constructor
  · rintro ⟨l, rfl, h⟩; exact h
  · intro h
    unfold valP at h
    split at h
    · exact ⟨_, rfl, h⟩
    · exact h.elim
theorem wS_aug {i : Nat} {op : BO} {e : IE} {Z : Ends} : wS C (.aug i op e) L S Z = valP L[i]? fun x => wE C e L S fun y _ L1 S1 => augP op x y fun r => Z.nx (L1.set i (.val r)) S1 := by
  rw [← valP_ex]
  simp only [wS]
  congr 1
  first | done | (funext x; congr 1; first | done | (congr 1; first | done | (funext y _ L1 S1; cases x <;> cases y <;> rfl)))
theorem ix51 : L2.ixN 5 1 = some 1 := by decide
theorem ix52 : L2.ixN 5 2 = some 2 := by decide
theorem ix53 : L2.ixN 5 3 = some 3 := by decide
def setP (o : Option Sl) (i : Nat) (y : D) (d : D) (L : Lo) (S : Sto) (P : Lo → Sto → Prop) : Prop := match o, y with
  | some (.val (.obj n)), .int z => optP S[n]? fun l => optP (L2.ixN l.length z) fun j => P L (S.set n (l.set j d))
  | some (.own (.lst l)), .int z => optP (L2.ixN l.length z) fun j => P (L.set i (.own (.lst (l.set j d)))) S
  | some (.own (.dct ks vs)), .str k => (ks.length = vs.length ∧ ks.length < sizeLine) ∧ P (L.set i (.own (.dct (putKs ks k) (putVs ks vs k d)))) S
  | _, _ => False
theorem setP_obj {n i : Nat} {z : Int} {d : D} {P : Lo → Sto → Prop} : setP (some (.val (.obj n))) i (.int z) d L S P = optP S[n]? fun l => optP (L2.ixN l.length z) fun j => P L (S.set n (l.set j d)) := rfl
theorem setP_own {l : List D} {i : Nat} {z : Int} {d : D} {P : Lo → Sto → Prop} : setP (some (.own (.lst l))) i (.int z) d L S P = optP (L2.ixN l.length z) fun j => P (L.set i (.own (.lst (l.set j d)))) S := rfl
theorem setP_dct {ks : List Str} {vs : List D} {i : Nat} {k : Str} {d : D} {P : Lo → Sto → Prop} : setP (some (.own (.dct ks vs))) i (.str k) d L S P = ((ks.length = vs.length ∧ ks.length < sizeLine) ∧ P (L.set i (.own (.dct (putKs ks k) (putVs ks vs k d)))) S) := rfl
def hasP (o : Option Sl) (Q : Prop) : Prop := match o with
  | some (.val _) => Q
  | some (.own _) => Q
  | _ => False
theorem hasP_val {d : D} {Q : Prop} : hasP (some (.val d)) Q = Q := rfl
theorem hasP_own {d : D} {Q : Prop} : hasP (some (.own d)) Q = Q := rfl
theorem wS_setI {i : Nat} {k e : IE} {Z : Ends} : wS C (.setI i k e) L S Z = hasP L[i]? (wE C e L S fun d _ L1 S1 => pk k (wE C k) L1 S1 fun y L3 S3 => setP L3[i]? i y d L3 S3 Z.nx) := by
  have e1 : ∀ (Q : Prop), ((∃ d, L[i]? = some (.own d) ∨ L[i]? = some (.val d)) ∧ Q) = hasP L[i]? Q := fun Q => by
    apply propext
    cases h : L[i]? with
    | none => simp [hasP]
    | some s => cases s <;> simp [hasP]
  rw [← e1]
  simp only [wS]
  congr 1; congr 1; funext d _ L1 S1; congr 1; funext y L3 S3
  cases h : L3[i]? with
  | none => rfl
  | some s =>
    cases s with
    | no => rfl
    | val x =>
      cases x <;> try rfl
      cases y <;> try rfl
      simp only [setP, ← optP_ex]
      apply propext
      constructor
      · rintro ⟨l, j, h1, h2, h3⟩; exact ⟨l, h1, j, h2, h3⟩
      · rintro ⟨l, h1, j, h2, h3⟩; exact ⟨l, j, h1, h2, h3⟩
    | own x =>
      cases x <;> try rfl
      all_goals
        cases y <;> try rfl
      simp only [setP, ← optP_ex]
theorem wS_asg2 {i j : Nat} {e : IE} {Z : Ends} : wS C (.asg2 i j e) L S Z = wE C e L S fun d _ L1 S1 => Z.nx ((L1.set i (.val d)).set j (.val d)) S1 := rfl
theorem wS_expr {e : IE} {Z : Ends} : wS C (.expr e) L S Z = wE C e L S fun _ _ L1 S1 => Z.nx L1 S1 := rfl
theorem wS_ret {e : IE} {Z : Ends} : wS C (.ret e) L S Z = wE C e L S fun d _ _ S1 => Z.rt d S1 := rfl
theorem wS_ifs {c : IC} {a b : ISs} {Z : Ends} : wS C (.ifs c a b) L S Z = wT C c L S fun k L1 S1 => if k = true then wSs C a L1 S1 Z else wSs C b L1 S1 Z := rfl
theorem wS_whl {c : IC} {a : ISs} {Z : Ends} : wS C (.whl c a) L S Z = whlL (wT C c) (wSs C a) Z L S := rfl
theorem wS_fors {t : IT} {src : II} {a : ISs} {Z : Ends} : wS C (.fors t src a) L S Z = wI C src L S fun ds L1 S1 => forL (wG t) (wSs C a) Z ds L1 S1 := rfl
theorem wS_cont {Z : Ends} : wS C .cont L S Z = Z.ct L S := rfl
theorem wS_brk {Z : Ends} : wS C .brk L S Z = Z.bk L S := rfl
theorem wS_pass {Z : Ends} : wS C .pass L S Z = Z.nx L S := rfl
theorem asg_nmT {i : Nat} {d : D} {P : Lo → Prop} : asgF (.nm i) d true L P = P (L.set i (.own d)) := rfl
theorem asg_nmF {i : Nat} {d : D} {P : Lo → Prop} : asgF (.nm i) d false L P = P (L.set i (.val d)) := rfl
def tupP (d : D) (P : List D → Prop) : Prop := match d with
  | .tup l => P l
  | _ => False
theorem tupP_tup {l : List D} {P : List D → Prop} : tupP (.tup l) P = P l := rfl
theorem asg_tp {ts : List IT} {d : D} {f : Bool} {P : Lo → Prop} : asgF (.tp ts) d f L P = tupP d fun ds => wG.wGs ts ds L P := by
  show (∃ ds, d = .tup ds ∧ wG.wGs ts ds L P) = _
  cases d <;> simp [tupP]
theorem g_nm {i : Nat} {d : D} {P : Lo → Prop} : wG (.nm i) d L P = P (L.set i (.val d)) := rfl
theorem g_tp {ts : List IT} {d : D} {P : Lo → Prop} : wG (.tp ts) d L P = tupP d fun ds => wG.wGs ts ds L P := by
  show (∃ ds, d = .tup ds ∧ wG.wGs ts ds L P) = _
  cases d <;> simp [tupP]
theorem gs_nil {P : Lo → Prop} : wG.wGs [] [] L P = P L := rfl
theorem gs_cons {t : IT} {ts : List IT} {d : D} {ds : List D} {P : Lo → Prop} : wG.wGs (t :: ts) (d :: ds) L P = wG t d L fun L1 => wG.wGs ts ds L1 P := rfl
end
section
variable {C : Calls} {L : Lo} {S : Sto}
theorem wT_not {a : IC} {P : KT} : wT C (.not a) L S P = wT C a L S fun b L1 S1 => P (!b) L1 S1 := rfl
theorem wT_and {a b : IC} {P : KT} : wT C (.and a b) L S P = wT C a L S fun k L1 S1 => if k = true then wT C b L1 S1 P else P false L1 S1 := rfl
theorem wT_or {a b : IC} {P : KT} : wT C (.or a b) L S P = wT C a L S fun k L1 S1 => if k = true then P true L1 S1 else wT C b L1 S1 P := rfl
theorem wT_cmp {op : CO} {a b : IE} {P : KT} : wT C (.cmp op a b) L S P = pk a (wE C a) L S fun x L1 S1 => pk b (wE C b) L1 S1 fun y L2 S2 => dCmp op x y fun k => P k L2 S2 := rfl
theorem wT_chain {o1 o2 : CO} {a b c : IE} {P : KT} : wT C (.chain o1 o2 a b c) L S P = pk a (wE C a) L S fun x L1 S1 => pk b (wE C b) L1 S1 fun y L2 S2 => dCmp o1 x y fun k =>
      if k = true then pk c (wE C c) L2 S2 fun z L3 S3 => dCmp o2 y z fun k2 => P k2 L3 S3 else P false L2 S2 := rfl
theorem wT_yes {P : KT} : wT C .yes L S P = P true L S := rfl
theorem wT_v {e : IE} {P : KT} : wT C (.v e) L S P = pk e (wE C e) L S fun x L1 S1 => x.truth fun k => P k L1 S1 := rfl
theorem wSs_nil {Z : Ends} : wSs C .nil L S Z = Z.nx L S := rfl
theorem wSs_cons {s : IS} {r : ISs} {Z : Ends} : wSs C (.cons s r) L S Z = wS C s L S { Z with nx := fun L1 S1 => wSs C r L1 S1 Z } := rfl
theorem wEs_nil {P : List D → Lo → Sto → Prop} : wEs C .nil L S P = P [] L S := rfl
theorem wEs_cons {e : IE} {r : IEs} {P : List D → Lo → Sto → Prop} : wEs C (.cons e r) L S P = wE C e L S fun d _ L1 S1 => wEs C r L1 S1 fun ds L2 S2 => P (d :: ds) L2 S2 := rfl
theorem wPs_nil {P : List D → Lo → Sto → Prop} : wPs C .nil L S P = P [] L S := rfl
theorem wPs_cons {e : IE} {r : IEs} {P : List D → Lo → Sto → Prop} : wPs C (.cons e r) L S P = pk e (wE C e) L S fun d L1 S1 => wPs C r L1 S1 fun ds L2 S2 => P (d :: ds) L2 S2 := rfl
end

/-! arguments of a call -/
section
variable {C : Calls} {L : Lo} {S : Sto} {bs : List Nat} {r : IEs} {P : List D → List Nat → Lo → Sto → Prop}
def locA (o : Option Sl) (i : Nat) (bs : List Nat) (P : D → List Nat → Prop) : Prop := match o with
  | some (.val d) => P d bs
  | some (.own d) => P d (i :: bs)
  | _ => False
theorem locA_val {d : D} {i : Nat} {P : D → List Nat → Prop} : locA (some (.val d)) i bs P = P d bs := rfl
theorem locA_own {d : D} {i : Nat} {P : D → List Nat → Prop} : locA (some (.own d)) i bs P = P d (i :: bs) := rfl
theorem wAs_nil : wAs C .nil L S bs P = P [] bs L S := by rw [wAs]
theorem wAs_loc {i : Nat} : wAs C (.cons (.loc i) r) L S bs P = locA L[i]? i bs fun d b1 => wAs C r L S b1 fun ds bs' L2 S2 => P (d :: ds) bs' L2 S2 := by
  rw [wAs]; unfold locA; rcases L[i]? with _ | _ | _ | _ <;> rfl
theorem wAs_cst {d : D} : wAs C (.cons (.cst d) r) L S bs P = wE C (.cst d) L S fun d _ L1 S1 => wAs C r L1 S1 bs fun ds bs' L2 S2 => P (d :: ds) bs' L2 S2 := by rw [wAs]; exact fun _ h => by cases h
theorem wAs_bin {op : BO} {a b : IE} : wAs C (.cons (.bin op a b) r) L S bs P = wE C (.bin op a b) L S fun d _ L1 S1 => wAs C r L1 S1 bs fun ds bs' L2 S2 => P (d :: ds) bs' L2 S2 := by rw [wAs]; exact fun _ h => by cases h
theorem wAs_neg {a : IE} : wAs C (.cons (.neg a) r) L S bs P = wE C (.neg a) L S fun d _ L1 S1 => wAs C r L1 S1 bs fun ds bs' L2 S2 => P (d :: ds) bs' L2 S2 := by rw [wAs]; exact fun _ h => by cases h
theorem wAs_not {a : IE} : wAs C (.cons (.not a) r) L S bs P = wE C (.not a) L S fun d _ L1 S1 => wAs C r L1 S1 bs fun ds bs' L2 S2 => P (d :: ds) bs' L2 S2 := by rw [wAs]; exact fun _ h => by cases h
theorem wAs_and {a b : IE} : wAs C (.cons (.and a b) r) L S bs P = wE C (.and a b) L S fun d _ L1 S1 => wAs C r L1 S1 bs fun ds bs' L2 S2 => P (d :: ds) bs' L2 S2 := by rw [wAs]; exact fun _ h => by cases h
theorem wAs_or {a b : IE} : wAs C (.cons (.or a b) r) L S bs P = wE C (.or a b) L S fun d _ L1 S1 => wAs C r L1 S1 bs fun ds bs' L2 S2 => P (d :: ds) bs' L2 S2 := by rw [wAs]; exact fun _ h => by cases h
theorem wAs_ite {c : IC} {a b : IE} : wAs C (.cons (.ite c a b) r) L S bs P = wE C (.ite c a b) L S fun d _ L1 S1 => wAs C r L1 S1 bs fun ds bs' L2 S2 => P (d :: ds) bs' L2 S2 := by rw [wAs]; exact fun _ h => by cases h
theorem wAs_cmp {op : CO} {a b : IE} : wAs C (.cons (.cmp op a b) r) L S bs P = wE C (.cmp op a b) L S fun d _ L1 S1 => wAs C r L1 S1 bs fun ds bs' L2 S2 => P (d :: ds) bs' L2 S2 := by rw [wAs]; exact fun _ h => by cases h
theorem wAs_chain {o1 o2 : CO} {a b c : IE} : wAs C (.cons (.chain o1 o2 a b c) r) L S bs P = wE C (.chain o1 o2 a b c) L S fun d _ L1 S1 => wAs C r L1 S1 bs fun ds bs' L2 S2 => P (d :: ds) bs' L2 S2 := by rw [wAs]; exact fun _ h => by cases h
theorem wAs_tup {l : IEs} : wAs C (.cons (.tup l) r) L S bs P = wE C (.tup l) L S fun d _ L1 S1 => wAs C r L1 S1 bs fun ds bs' L2 S2 => P (d :: ds) bs' L2 S2 := by rw [wAs]; exact fun _ h => by cases h
theorem wAs_lst {l : IEs} : wAs C (.cons (.lst l) r) L S bs P = wE C (.lst l) L S fun d _ L1 S1 => wAs C r L1 S1 bs fun ds bs' L2 S2 => P (d :: ds) bs' L2 S2 := by rw [wAs]; exact fun _ h => by cases h
theorem wAs_new {l : IEs} : wAs C (.cons (.new l) r) L S bs P = wE C (.new l) L S fun d _ L1 S1 => wAs C r L1 S1 bs fun ds bs' L2 S2 => P (d :: ds) bs' L2 S2 := by rw [wAs]; exact fun _ h => by cases h
theorem wAs_idx {a b : IE} : wAs C (.cons (.idx a b) r) L S bs P = wE C (.idx a b) L S fun d _ L1 S1 => wAs C r L1 S1 bs fun ds bs' L2 S2 => P (d :: ds) bs' L2 S2 := by rw [wAs]; exact fun _ h => by cases h
theorem wAs_rev {a : IE} : wAs C (.cons (.rev a) r) L S bs P = wE C (.rev a) L S fun d _ L1 S1 => wAs C r L1 S1 bs fun ds bs' L2 S2 => P (d :: ds) bs' L2 S2 := by rw [wAs]; exact fun _ h => by cases h
theorem wAs_slcE {a : IE} {l h : IEo} : wAs C (.cons (.slcE a l h) r) L S bs P = wE C (.slcE a l h) L S fun d _ L1 S1 => wAs C r L1 S1 bs fun ds bs' L2 S2 => P (d :: ds) bs' L2 S2 := by rw [wAs]; exact fun _ h => by cases h
theorem wAs_call {f : Str} {l : IEs} : wAs C (.cons (.call f l) r) L S bs P = wE C (.call f l) L S fun d _ L1 S1 => wAs C r L1 S1 bs fun ds bs' L2 S2 => P (d :: ds) bs' L2 S2 := by rw [wAs]; exact fun _ h => by cases h
theorem wAs_blt {f : String} {l : IEs} : wAs C (.cons (.blt f l) r) L S bs P = wE C (.blt f l) L S fun d _ L1 S1 => wAs C r L1 S1 bs fun ds bs' L2 S2 => P (d :: ds) bs' L2 S2 := by rw [wAs]; exact fun _ h => by cases h
theorem wAs_isa {a : IE} {f : String} : wAs C (.cons (.isa a f) r) L S bs P = wE C (.isa a f) L S fun d _ L1 S1 => wAs C r L1 S1 bs fun ds bs' L2 S2 => P (d :: ds) bs' L2 S2 := by rw [wAs]; exact fun _ h => by cases h
theorem wAs_comp {e : IE} {t' : IT} {src : II} {c : IC} {own : List Nat} : wAs C (.cons (.comp e t' src c own) r) L S bs P = wE C (.comp e t' src c own) L S fun d _ L1 S1 => wAs C r L1 S1 bs fun ds bs' L2 S2 => P (d :: ds) bs' L2 S2 := by rw [wAs]; exact fun _ h => by cases h
theorem wAs_comp2 {e : IE} {t1 t2 : IT} {s1 s2 : II} {own : List Nat} : wAs C (.cons (.comp2 e t1 s1 t2 s2 own) r) L S bs P = wE C (.comp2 e t1 s1 t2 s2 own) L S fun d _ L1 S1 => wAs C r L1 S1 bs fun ds bs' L2 S2 => P (d :: ds) bs' L2 S2 := by rw [wAs]; exact fun _ h => by cases h
theorem wAs_dct {ks : List Str} {l : IEs} : wAs C (.cons (.dct ks l) r) L S bs P = wE C (.dct ks l) L S fun d _ L1 S1 => wAs C r L1 S1 bs fun ds bs' L2 S2 => P (d :: ds) bs' L2 S2 := by rw [wAs]; exact fun _ h => by cases h
theorem wAs_dcomp {k v : IE} {t' : IT} {src : II} {c : IC} {own : List Nat} : wAs C (.cons (.dcomp k v t' src c own) r) L S bs P = wE C (.dcomp k v t' src c own) L S fun d _ L1 S1 => wAs C r L1 S1 bs fun ds bs' L2 S2 => P (d :: ds) bs' L2 S2 := by rw [wAs]; exact fun _ h => by cases h
end

section
variable {C : Calls} {L : Lo} {S : Sto}
theorem bindL_f {ds : List D} : bindL false C ds = C := rfl
theorem bindL_o {ds : List D} {f : Str} {es : List D} {P : D → Sto → Prop} (h : f ≠ "!") : bindL true C ds f es S P = C f es S P := if_neg h
theorem wE_chain3 {o1 o2 o3 : CO} {a b c d : IE} {P : KE} : wE C (.chain3 o1 o2 o3 a b c d) L S P = pk a (wE C a) L S fun x L1 S1 => pk b (wE C b) L1 S1 fun y L2 S2 => dCmp o1 x y fun k =>
      if k = true then pk c (wE C c) L2 S2 fun z L3 S3 => dCmp o2 y z fun k2 => if k2 = true then pk d (wE C d) L3 S3 fun u L4 S4 => dCmp o3 z u fun k3 => P (.bl k3) false L4 S4 else P (.bl false) false L3 S3 else P (.bl false) false L2 S2 := rfl
theorem wE_callv {i : Nat} {l : IEs} {P : KE} : wE C (.callv i l) L S P = cloP L[i]? fun f => wEs C l L S fun ds L1 S1 => C "!" (f :: ds) S1 fun r S2 => P r false L1 S2 := rfl
theorem cloP_clo {i : CloI} {nm : Str} {caps : List D} {P : D → Prop} : cloP (some (.val (.clo i nm caps))) P = P (.clo i nm caps) := rfl
theorem wE_callL {f : Str} {l : IEs} {nm : Str} {caps : List Nat} {P : KE} : wE C (.callL f l nm caps) L S P = wEs C l L S fun ds L1 S1 => ds.length = l.len ∧ capsP L1 caps fun cs => ∀ i : CloI, C f (ds ++ [.clo i nm cs]) S1 fun r S2 => P r false L1 S2 := rfl
theorem caps_nil {P : List D → Prop} : capsP L [] P = P [] := rfl
theorem caps_cons {i : Nat} {r : List Nat} {P : List D → Prop} : capsP L (i :: r) P = valP L[i]? fun d => capsP L r fun ds => P (d :: ds) := by
  show (match L[i]? with
    | some (.val d) => capsP L r fun ds => P (d :: ds)
    | _ => False) = _
  unfold valP
  rcases L[i]? with _ | _ | _ | _ <;> rfl
theorem pk_chain3 {t : Lo → Sto → KE → Prop} {P : KP} {o1 o2 o3 : CO} {a b c d : IE} : pk (.chain3 o1 o2 o3 a b c d) t L S P = t L S fun d _ L' S' => P d L' S' := rfl
theorem pk_callv {t : Lo → Sto → KE → Prop} {P : KP} {i : Nat} {l : IEs} : pk (.callv i l) t L S P = t L S fun d _ L' S' => P d L' S' := rfl
theorem pk_callL {t : Lo → Sto → KE → Prop} {P : KP} {f nm : Str} {l : IEs} {caps : List Nat} : pk (.callL f l nm caps) t L S P = t L S fun d _ L' S' => P d L' S' := rfl
theorem wAs_chain3 {r : IEs} {bs : List Nat} {P : List D → List Nat → Lo → Sto → Prop} {o1 o2 o3 : CO} {a b c d : IE} : wAs C (.cons (.chain3 o1 o2 o3 a b c d) r) L S bs P = wE C (.chain3 o1 o2 o3 a b c d) L S fun d _ L1 S1 => wAs C r L1 S1 bs fun ds bs' L2 S2 => P (d :: ds) bs' L2 S2 := by rw [wAs]; exact fun _ h => by cases h
theorem wAs_callv {r : IEs} {bs : List Nat} {P : List D → List Nat → Lo → Sto → Prop} {i : Nat} {l : IEs} : wAs C (.cons (.callv i l) r) L S bs P = wE C (.callv i l) L S fun d _ L1 S1 => wAs C r L1 S1 bs fun ds bs' L2 S2 => P (d :: ds) bs' L2 S2 := by rw [wAs]; exact fun _ h => by cases h
theorem wAs_callL {r : IEs} {bs : List Nat} {P : List D → List Nat → Lo → Sto → Prop} {f nm : Str} {l : IEs} {caps : List Nat} : wAs C (.cons (.callL f l nm caps) r) L S bs P = wE C (.callL f l nm caps) L S fun d _ L1 S1 => wAs C r L1 S1 bs fun ds bs' L2 S2 => P (d :: ds) bs' L2 S2 := by rw [wAs]; exact fun _ h => by cases h
theorem blt_repr {x : D} {P : KF} : dBlt S "repr" [x] P = dRepr x fun t => P (.str t) false := by cases x <;> rfl
theorem blt_str {i : Int} {P : KF} : dBlt S "str" [.int i] P = (i.natAbs.log2 < 1920 ∧ P (.str (toString i)) false) := rfl
def enmP (x : D) (P : List D → Prop) : Prop := match x with
  | .tup l => P (enumD l)
  | .lst l => P (enumD l)
  | _ => False
theorem enmP_tup {l : List D} {P : List D → Prop} : enmP (.tup l) P = P (enumD l) := rfl
theorem enmP_lst {l : List D} {P : List D → Prop} : enmP (.lst l) P = P (enumD l) := rfl
theorem wI_enm {e : IE} {P : List D → Lo → Sto → Prop} : wI C (.enm e) L S P = wE C e L S fun x _ L1 S1 => enmP x fun l => P l L1 S1 := rfl
theorem wS_ins {i : Nat} {e : IE} {Z : Ends} : wS C (.ins i e) L S Z = ownL L[i]? fun _ => wE C e L S fun d _ L1 S1 => ownL L1[i]? fun l => l.length < sizeLine ∧ Z.nx (L1.set i (.own (.lst (d :: l)))) S1 := by
  rw [← ownL_ex]
  simp only [wS, ← ownL_ex]
  apply propext
  constructor
  · rintro ⟨⟨l, h1⟩, h2⟩; exact ⟨l, h1, h2⟩
  · rintro ⟨l, h1, h2⟩; exact ⟨⟨l, h1⟩, h2⟩
def ownT (o : Option Sl) (P : List Str → List D → Prop) : Prop := match o with
  | some (.own (.dct ks vs)) => P ks vs
  | _ => False
theorem ownT_own {ks : List Str} {vs : List D} {P : List Str → List D → Prop} : ownT (some (.own (.dct ks vs))) P = P ks vs := rfl
theorem ownT_ex {o : Option Sl} {P : List Str → List D → Prop} : (∃ ks vs, o = some (.own (.dct ks vs)) ∧ P ks vs) = ownT o P := by
  apply propext
  constructor
  · rintro ⟨ks, vs, rfl, h⟩; exact h
  · intro h
    unfold ownT at h
    split at h
    · exact ⟨_, _, rfl, h⟩
    · exact h.elim
def dctP (d : D) (P : List Str → List D → Prop) : Prop := match d with
  | .dct ks vs => P ks vs
  | _ => False
theorem dctP_dct {ks : List Str} {vs : List D} {P : List Str → List D → Prop} : dctP (.dct ks vs) P = P ks vs := rfl
theorem wS_upd {i : Nat} {e : IE} {Z : Ends} : wS C (.upd i e) L S Z = ownT L[i]? fun _ _ => wE C e L S fun d _ L1 S1 => ownT L1[i]? fun ks vs => dctP d fun ks2 vs2 => ks.length + ks2.length ≤ sizeLine ∧ Z.nx (L1.set i (.own (.dct (mgK ks ks2) (mgV ks vs ks2 vs2)))) S1 := by
  rw [← ownT_ex]
  simp only [wS, ← ownT_ex]
  have e1 : ∀ (d : D) (L1 : Lo) (S1 : Sto), (∃ ks vs ks2 vs2, L1[i]? = some (Sl.own (D.dct ks vs)) ∧ d = D.dct ks2 vs2 ∧ ks.length + ks2.length ≤ sizeLine ∧ Z.nx (L1.set i (.own (.dct (mgK ks ks2) (mgV ks vs ks2 vs2)))) S1) = ∃ ks vs, L1[i]? = some (Sl.own (D.dct ks vs)) ∧ dctP d fun ks2 vs2 => ks.length + ks2.length ≤ sizeLine ∧ Z.nx (L1.set i (.own (.dct (mgK ks ks2) (mgV ks vs ks2 vs2)))) S1 := fun d L1 S1 => by
    apply propext
    constructor
    · rintro ⟨ks, vs, k2, v2, h1, rfl, h2⟩; exact ⟨ks, vs, h1, h2⟩
    · rintro ⟨ks, vs, h1, h2⟩
      cases d <;> first | exact ⟨ks, vs, _, _, h1, rfl, h2⟩ | exact h2.elim
  simp only [e1]
  apply propext
  constructor
  · rintro ⟨⟨k, v, h1⟩, h2⟩; exact ⟨k, v, h1, h2⟩
  · rintro ⟨k, v, h1, h2⟩; exact ⟨⟨k, v, h1⟩, h2⟩
theorem wS_pop2 {i j k : Nat} {l : List D} {d e : D} {Z : Ends} (h : L[k]? = some (.own (.lst (l ++ [e, d])))) (q : Z.nx (((L.set k (.own (.lst l))).set i (.val d)).set j (.val e)) S) : wS C (.pop2 i j k) L S Z := ⟨l, d, e, h, q⟩
end
end Q
local macro_rules
  | `(tactic| simp_arith only [$xs,*] $[$l]?) => `(tactic| simp only [$xs,*, ↓reduceIte, Q.bindL_f, Q.wE_chain3, Q.wE_callv, Q.cloP_clo, Q.wE_callL, Q.caps_nil, Q.caps_cons, Q.pk_chain3, Q.pk_callv, Q.pk_callL, Q.wAs_chain3, Q.wAs_callv, Q.wAs_callL, Q.blt_repr, Q.blt_str, Q.wI_enm, Q.enmP_tup, Q.enmP_lst, Q.wS_ins, Q.wS_upd, Q.ownT_own, Q.dctP_dct, Q.wSs_nil, Q.wSs_cons, Q.wS_asg, Q.wS_par, Q.wS_app, Q.wS_ext, Q.wS_pop, Q.wS_aug, Q.wS_setI, Q.wS_expr, Q.wS_ret, Q.wS_ifs, Q.wS_fors, Q.wS_cont, Q.wS_brk, Q.wS_pass, Q.asg_nmT, Q.asg_nmF, Q.asg_tp, Q.tupP_tup, Q.g_nm, Q.g_tp, Q.gs_nil, Q.gs_cons, Q.setP_obj, Q.str_lit, String.reduceBEq, Q.setP_dct, Q.wS_asg2, Q.wE_dct, Q.wE_dcomp, Q.pk_dct, Q.pk_dcomp, Q.cmp_isb, Q.cmp_isnb, Q.cmp_gts, Q.cmp_lts, Q.cmp_les, Q.mem_dct, Q.isB_non, Q.isB_bl, Q.isB_tup, Q.isB_str, Q.mul_tup, Q.idx_dct, Q.idx_str, Q.blt_min2L, Q.blt_max2L,  Q.blt_dctD, Q.blt_lstD, Q.len_dct, Q.wI_wk, Q.wI_pk, Q.pkP_tup, Q.pkP_lst, Q.pkP_xt, Q.pkP_lstO, Q.wkP_tup, Q.wkP_lst, Q.wkP_lstO, Q.wkP_dct, Q.wkP_dctO, Q.setP_own, Q.hasP_val, Q.hasP_own, Q.valP_val, Q.augP_int, Q.augP_str, Q.lstP_lst, Q.ownL_own, Q.wI_seq, Q.wI_rng, Q.wI_zip, Q.wEo_no, Q.wEo_so, Q.wE_neg', Q.zipP_tup, Q.zipP_lst, Q.seqP_tup, Q.seqP_xt, Q.blt_sorted, Q.blt_sortset, Q.blt_dctL, Q.blt_dctX, Q.blt_xt, Q.len_xt, Q.idx_xt, Q.isa_xt_str, Q.isa_xt_int, Q.isa_xt_bool, Q.isa_xt_tuple, Q.isa_xt_list, Q.isa_xt_dict, Q.isa_dct_str, Q.isa_dct_int, Q.isa_dct_bool, Q.isa_dct_tuple, Q.isa_dct_list, Q.isa_dct_dict, Q.lentD_nil, Q.lentD_cons, Q.ownD_lst, Q.ownD_dct, Bool.false_and, Bool.true_and, false_and,  Q.seqP_lst, Q.seqP_scr, Q.seqP_str, Q.rngP_int, Q.intP_int, Q.sz0, Q.sz1, Q.sz2, Q.sz3, Q.sz4, Q.sz5, Q.sz6, Q.sz7, Q.sz8, Q.sz9, Q.nc0, Q.nc1, Q.nc2, Q.nc3, Q.nc4, Q.nc5, Q.nc6, Q.nc7, Q.nc8, Q.nc9, Q.isN_non, Q.isN_bl, Q.isN_int, Q.isN_str, Q.isN_tup, Q.isN_lst, Int.reduceBEq, Int.reduceBNe, Int.reduceLT, Int.reduceLE, decide_true, decide_false, Bool.or_self, Bool.and_self, eq_self, decide_eq_true_eq, Q.ix51, Q.ix52, Q.ix53,  Q.wE_loc, Q.wE_cst, Q.wE_bin, Q.wE_not, Q.wE_and, Q.wE_or, Q.wE_ite, Q.wE_cmp, Q.wE_chain, Q.wE_tup, Q.wE_lst, Q.wE_new, Q.wE_idx, Q.wE_slcE, Q.wE_rev, Q.pk_rev, Q.wAs_rev, Q.rev_tup, Q.rev_lst, Q.rev_xt, Q.wE_call, Q.wE_blt, Q.wE_isa, Q.wE_comp, Q.wE_comp2, Q.pk_loc, Q.pk_cst, Q.pk_bin, Q.pk_neg, Q.pk_not, Q.pk_and, Q.pk_or, Q.pk_ite, Q.pk_cmp, Q.pk_chain, Q.pk_tup, Q.pk_lst, Q.pk_new, Q.pk_idx, Q.pk_slcE, Q.pk_call, Q.pk_blt, Q.pk_isa, Q.pk_comp, Q.pk_comp2, Q.add_int, Q.add_str, Q.add_tup, Q.add_lst, Q.sub_int, Q.mul_int, Q.fdiv_int, Q.mod_int, Q.pow_int, Q.cmp_eq, Q.cmp_ne, Q.cmp_lt, Q.cmp_gt, Q.cmp_le, Q.cmp_ge, Q.cmp_is, Q.cmp_isn, Q.cmp_mem, Q.cmp_nmem, Q.mem_lst, Q.mem_tup, Q.mem_str, Q.eqQ_str, Q.eqQ_int, Q.eqQ_bl, Q.eq_bl, Q.eq_int, Q.eq_str, Q.ok_int, Q.ok_bl, Q.ok_non, Q.tr_bl, Q.tr_int, Q.tr_lst, Q.tr_tup, Q.tr_non, Q.idx_tup, Q.idx_lst, Q.idx_obj, Q.slc_tup, Q.slc_lst, Q.slc_scr, Q.len_tup, Q.len_lst, Q.len_str, Q.blt_all, Q.blt_any, Q.blt_sum, Q.blt_tupL, Q.blt_tupT, Q.blt_lstL, Q.blt_lstT, Q.blt_lstS, Q.blt_int, Q.blt_min, Q.blt_max, Q.at0, Q.at1, Q.at2, Q.at3, Q.at4, Q.optP_some, Q.locE_val, Q.locE_own, Q.locP_val, Q.locP_own, Q.wEs_nil, Q.wEs_cons, Q.wPs_nil, Q.wPs_cons, Q.wAs_nil, Q.wAs_loc, Q.locA_val, Q.locA_own, Q.wAs_cst, Q.wAs_bin, Q.wAs_neg, Q.wAs_not, Q.wAs_and, Q.wAs_or, Q.wAs_ite, Q.wAs_cmp, Q.wAs_chain, Q.wAs_tup, Q.wAs_lst, Q.wAs_new, Q.wAs_idx, Q.wAs_slcE, Q.wAs_call, Q.wAs_blt, Q.wAs_isa, Q.wAs_comp, Q.wAs_comp2, Q.wAs_dct, Q.wAs_dcomp, Q.wT_not, Q.wT_and, Q.wT_or, Q.wT_cmp, Q.wT_chain, Q.wT_yes, Q.wT_v, Q.lo0, Q.flag, Q.wipeL, Q.IEs.len, List.map_cons, List.map_nil, List.length_cons, List.length_nil, List.cons_append, List.nil_append, Nat.reduceAdd, Nat.reduceSub, Nat.sub_self, List.replicate, List.getElem?_cons_zero, List.getElem?_cons_succ, List.set_cons_zero, List.set_cons_succ, List.getElem?_nil, Q.isa_non_str, Q.isa_non_int, Q.isa_non_bool, Q.isa_non_tuple, Q.isa_non_list, Q.isa_non_dict, Q.isa_bl_str, Q.isa_bl_int, Q.isa_bl_bool, Q.isa_bl_tuple, Q.isa_bl_list, Q.isa_bl_dict, Q.isa_int_str, Q.isa_int_int, Q.isa_int_bool, Q.isa_int_tuple, Q.isa_int_list, Q.isa_int_dict, Q.isa_str_str, Q.isa_str_int, Q.isa_str_bool, Q.isa_str_tuple, Q.isa_str_list, Q.isa_str_dict, Q.isa_tup_str, Q.isa_tup_int, Q.isa_tup_bool, Q.isa_tup_tuple, Q.isa_tup_list, Q.isa_tup_dict, Q.isa_lst_str, Q.isa_lst_int, Q.isa_lst_bool, Q.isa_lst_tuple, Q.isa_lst_list, Q.isa_lst_dict, if_true, if_false, Bool.false_eq_true, Bool.true_eq_false, true_and, and_true, Bool.not_true, Bool.not_false, List.not_mem_nil, false_implies, implies_true, forall_const, true_or, false_or, Option.some.injEq, Q.D.tup.injEq, exists_eq_left', exists_eq_left, Q.D.int.injEq] $[$l]?)
/-! The laws' own helpers: same, pool, spread, draw, pick. -/
namespace Q
open PySem
def i__law_same_r0 : ISs := (.cons (.ifs (.cmp .is (.loc 1) (.cst .non)) (.cons (.ret (.cmp .is (.loc 0) (.cst .non)))
  .nil) .nil)
  (.cons (.ifs (.or (.v (.isa (.loc 1) "bool")) (.v (.isa (.loc 0) "bool"))) (.cons (.ret (.and (.isa (.loc 1) "bool") (.and (.isa (.loc 0) "bool") (.cmp .eq (.loc 0) (.loc 1)))))
  .nil) .nil)
  (.cons (.ifs (.v (.isa (.loc 1) "int")) (.cons (.ret (.and (.isa (.loc 0) "int") (.cmp .eq (.loc 0) (.loc 1))))
  .nil) .nil)
  (.cons (.ret (.and (.isa (.loc 0) "str") (.cmp .eq (.loc 0) (.loc 1))))
  .nil))))
def i__law_same : ISs := (.cons (.ifs (.or (.v (.isa (.loc 1) "tuple")) (.v (.isa (.loc 1) "list"))) (.cons (.ifs (.or (.cmp .ne (.isa (.loc 1) "tuple") (.isa (.loc 0) "tuple")) (.cmp .ne (.isa (.loc 1) "list") (.isa (.loc 0) "list"))) (.cons (.ret (.cst (.bl false)))
  .nil) .nil)
  (.cons (.ifs (.cmp .ne (.blt "len" (.cons (.loc 0) .nil)) (.blt "len" (.cons (.loc 1) .nil))) (.cons (.ret (.cst (.bl false)))
  .nil) .nil)
  (.cons (.ret (.cmp .eq (.blt "len" (.cons (.comp (.loc 2) (.nm 2) (.rng (.cst (.int 0)) (.blt "len" (.cons (.loc 1) .nil))) (.not (.v (.call "_law_same" (.cons (.idx (.loc 0) (.loc 2)) (.cons (.idx (.loc 1) (.loc 2)) .nil))))) [2]) .nil)) (.cst (.int 0))))
  .nil))) .nil)
  i__law_same_r0)
def f__law_same : FD := ⟨2, 3, i__law_same, false⟩
def i__law_pool_b0 : ISs := (.cons (.asg (.nm 1) (.bin .mod (.blt "int" (.cons (.bin .add (.bin .mul (.loc 1) (.cst (.int 31))) (.loc 2)) .nil)) (.cst (.int 1000003))))
  .nil)
def i__law_pool_r0 : ISs := (.cons (.ret (.new (.cons (.blt "list" (.cons (.loc 0) .nil)) (.cons (.cst (.int 0)) (.cons (.cst (.int 0)) (.cons (.cst (.int 0)) (.cons (.loc 1) .nil)))))))
  .nil)
def i__law_pool : ISs := (.cons (.asg (.nm 1) (.cst (.int 7)))
  (.cons (.fors (.nm 2) (.seq (.slcE (.loc 0) .no (.so (.cst (.int 63))))) i__law_pool_b0)
  i__law_pool_r0))
def f__law_pool : FD := ⟨1, 3, i__law_pool, false⟩
def i__law_spread_b0 : ISs := (.cons (.asg (.nm 1) (.bin .mod (.blt "int" (.cons (.bin .add (.bin .add (.bin .mul (.loc 1) (.cst (.int 48271))) (.cst (.int 12345))) (.loc 3)) .nil)) (.cst (.int 2147483647))))
  (.cons (.asg (.nm 2) (.bin .add (.bin .mul (.loc 2) (.cst (.int 2147483647))) (.loc 1)))
  .nil))
def i__law_spread_r0 : ISs := (.cons (.ret (.loc 2))
  .nil)
def i__law_spread : ISs := (.cons (.asg (.nm 1) (.bin .mod (.blt "int" (.cons (.loc 0) .nil)) (.cst (.int 2147483647))))
  (.cons (.asg (.nm 2) (.cst (.int 1)))
  (.cons (.fors (.nm 3) (.rng (.cst (.int 0)) (.cst (.int 4))) i__law_spread_b0)
  i__law_spread_r0)))
def f__law_spread : FD := ⟨1, 4, i__law_spread, false⟩
def i__law_draw_r0 : ISs := (.cons (.setI 0 (.cst (.int 3)) (.bin .add (.idx (.loc 0) (.cst (.int 3))) (.cst (.int 1))))
  (.cons (.ifs (.cmp .le (.idx (.loc 0) (.cst (.int 2))) (.cst (.int 0))) (.cons (.asg (.nm 4) (.bin .mod (.blt "int" (.cons (.bin .add (.bin .add (.bin .mul (.idx (.loc 0) (.cst (.int 4))) (.cst (.int 48271))) (.bin .mul (.idx (.loc 0) (.cst (.int 3))) (.cst (.int 69621)))) (.cst (.int 1))) .nil)) (.cst (.int 2147483647))))
  (.cons (.asg (.nm 4) (.bin .mod (.blt "int" (.cons (.bin .add (.bin .mul (.loc 4) (.cst (.int 16807))) (.idx (.loc 0) (.cst (.int 3)))) .nil)) (.cst (.int 2147483629))))
  (.cons (.ret (.bin .mod (.bin .fdiv (.loc 4) (.cst (.int 5))) (.loc 1)))
  .nil))) .nil)
  (.cons (.asg (.nm 2) (.bin .mod (.blt "int" (.cons (.idx (.loc 0) (.cst (.int 2))) .nil)) (.loc 1)))
  (.cons (.setI 0 (.cst (.int 2)) (.bin .fdiv (.idx (.loc 0) (.cst (.int 2))) (.loc 1)))
  (.cons (.ret (.loc 2))
  .nil)))))
def i__law_draw : ISs := (.cons (.ifs (.and (.cmp .le (.idx (.loc 0) (.cst (.int 2))) (.cst (.int 0))) (.cmp .lt (.idx (.loc 0) (.cst (.int 1))) (.blt "len" (.cons (.idx (.loc 0) (.cst (.int 0))) .nil)))) (.cons (.asg (.nm 3) (.idx (.idx (.loc 0) (.cst (.int 0))) (.idx (.loc 0) (.cst (.int 1)))))
  (.cons (.setI 0 (.cst (.int 1)) (.bin .add (.idx (.loc 0) (.cst (.int 1))) (.cst (.int 1))))
  (.cons (.setI 0 (.cst (.int 2)) (.loc 3))
  (.cons (.ifs (.cmp .lt (.loc 3) (.cst (.int 1000000000000000000))) (.cons (.setI 0 (.cst (.int 2)) (.call "_law_spread" (.cons (.loc 3) .nil)))
  .nil) .nil)
  .nil)))) .nil)
  i__law_draw_r0)
def f__law_draw : FD := ⟨2, 5, i__law_draw, false⟩
def i__law_pick : ISs := (.cons (.ret (.idx (.loc 1) (.call "_law_draw" (.cons (.loc 0) (.cons (.blt "len" (.cons (.loc 1) .nil)) .nil)))))
  .nil)
def f__law_pick : FD := ⟨2, 2, i__law_pick, false⟩

def Pool (S : Sto) : Prop := ∃ (ns : List Int) (i : Nat) (v c s : Int), S = [[.lst (ns.map .int), .int i, .int v, .int c, .int s]]
theorem small_c {n : Int} (h : small64 n) (a : Int) : small64 a ∨ small64 n ∨ (a.natAbs < 2 ^ 4000 ∧ n.natAbs < 2 ^ 4000) := .inr (.inl h)
theorem rng4 : rngList 0 4 = [.int 0, .int 1, .int 2, .int 3] := rfl
theorem toNat4 : ((4 : Int) - 0).toNat = 4 := rfl
theorem lim_0 : lim62 0 := by unfold lim62; decide
theorem lim_4 : lim62 4 := by unfold lim62; decide
section
variable {T : Str → Option FD} {k : Nat} {S : Sto} {P : D → Sto → Prop}
theorem w_spread (hT : T "_law_spread" = some f__law_spread) {c : Int} (h : ∀ v : Int, P (.int v) S) : Cl T (k + 1) "_law_spread" [.int c] S P := by
  refine ⟨_, hT, rfl, ?_⟩
  have s1 : ∀ a : Int, (small64 a ∨ small64 48271 ∨ (a.natAbs < 2 ^ 4000 ∧ (48271 : Int).natAbs < 2 ^ 4000)) = True := fun a => eq_true (small_c (by unfold small64; decide) a)
  have s2 : ∀ a : Int, (small64 a ∨ small64 2147483647 ∨ (a.natAbs < 2 ^ 4000 ∧ (2147483647 : Int).natAbs < 2 ^ 4000)) = True := fun a => eq_true (small_c (by unfold small64; decide) a)
  simp_arith only [f__law_spread, i__law_spread, i__law_spread_b0, i__law_spread_r0, Q.forL, toNat4, rng4, s1, s2, lim_0, lim_4, ne_eq, Int.reduceEq, not_false_eq_true, h]
theorem w_draw (hT : T "_law_draw" = some f__law_draw) (hS' : T "_law_spread" = some f__law_spread) {n : Int} (hS : Pool S) (h0 : 0 < n) (h1 : n.natAbs < 2 ^ 9000) (h : ∀ (v : Int) S', 0 ≤ v → v < n → Pool S' → P (.int v) S') : Cl T (k + 2) "_law_draw" [.obj 0, .int n] S P := by
  have s1 : ∀ a : Int, (small64 a ∨ small64 48271 ∨ (a.natAbs < 2 ^ 4000 ∧ (48271 : Int).natAbs < 2 ^ 4000)) = True := fun a => eq_true (small_c (by unfold small64; decide) a)
  have s2 : ∀ a : Int, (small64 a ∨ small64 69621 ∨ (a.natAbs < 2 ^ 4000 ∧ (69621 : Int).natAbs < 2 ^ 4000)) = True := fun a => eq_true (small_c (by unfold small64; decide) a)
  have s3 : ∀ a : Int, (small64 a ∨ small64 16807 ∨ (a.natAbs < 2 ^ 4000 ∧ (16807 : Int).natAbs < 2 ^ 4000)) = True := fun a => eq_true (small_c (by unfold small64; decide) a)
  have n0 : (n = 0) = False := eq_false (by omega)
  have h0' : (0 < n) = True := eq_true h0
  have h1' : (n.natAbs < 2 ^ 9000) = True := eq_true h1
  have h5 : ((0 : Int) < 5) = True := eq_true (by decide)
  have h5' : ((5 : Int).natAbs < 2 ^ 9000) = True := eq_true (Nat.lt_of_lt_of_le (by decide : (5 : Int).natAbs < 2 ^ 3) (Nat.pow_le_pow_right (by decide) (by decide)))
  have tail : ∀ {L3 : Sl} {S : Sto}, Pool S → wSs (Cl T (k + 1)) i__law_draw_r0 [.val (.obj 0), .val (.int n), .no, L3, .no] S { nx := fun _ S1 => P .non S1, rt := P } := by
    rintro L3 S ⟨ns, i, v, c, s, rfl⟩
    simp_arith only [i__law_draw_r0, s1, s2, s3, n0, h0', h1', h5, h5', ne_eq, Int.reduceEq, not_false_eq_true]
    split
    · exact h _ _ (Int.fmod_nonneg_of_pos _ h0) (Int.fmod_lt_of_pos _ h0) ⟨ns, i, v, c + 1, s, rfl⟩
    · exact h _ _ (Int.fmod_nonneg_of_pos _ h0) (Int.fmod_lt_of_pos _ h0) ⟨ns, i, v / n, c + 1, s, rfl⟩
  obtain ⟨ns, i, v, c, s, rfl⟩ := hS
  refine ⟨_, hT, rfl, ?_⟩
  simp_arith only [f__law_draw, i__law_draw]
  rw [List.length_map]
  split
  · split
    · rename_i h2
      have h2 : i < ns.length := by simpa using h2
      have e : L2.atI (ns.map D.int) (i : Int) = some (.int ns[i]) := atN (by rw [List.getElem?_map, List.getElem?_eq_getElem h2]; rfl)
      simp_arith only [e]
      split
      · apply w_spread hS'
        intro v
        simp_arith only [true_and]
        exact tail ⟨ns, i + 1, v, c, s, rfl⟩
      · exact tail ⟨ns, i + 1, ns[i], c, s, rfl⟩
    · exact tail ⟨ns, i, v, c, s, rfl⟩
  · exact tail ⟨ns, i, v, c, s, rfl⟩
theorem forL_const {t : D → Lo → (Lo → Prop) → Prop} {b : Lo → Sto → Ends → Prop} {Z : Ends} (I : Lo → Prop) {S : Sto} : ∀ (ds : List D), (∀ d ∈ ds, ∀ L, I L → ∀ Z' : Ends, (∀ L, I L → Z'.nx L S) → t d L fun L1 => b L1 S Z') → (∀ L, I L → Z.nx L S) → ∀ L, I L → forL t b Z ds L S := by
  intro ds
  induction ds with
  | nil => intro _ h L hL; exact h L hL
  | cons d ds ih =>
    intro h1 h2 L hL
    unfold forL
    exact h1 d (by simp) L hL _ fun L hL => ih (fun d hd => h1 d (by simp [hd])) h2 L hL
theorem w_pool (hT : T "_law_pool" = some f__law_pool) {ns : List Int} (h : ∀ S', Pool S' → P (.obj 0) S') : Cl T (k + 1) "_law_pool" [.scr ns] [] P := by
  have s1 : ∀ a : Int, (small64 a ∨ small64 31 ∨ (a.natAbs < 2 ^ 4000 ∧ (31 : Int).natAbs < 2 ^ 4000)) = True := fun a => eq_true (small_c (by unfold small64; decide) a)
  refine ⟨_, hT, rfl, ?_⟩
  simp_arith only [f__law_pool, i__law_pool]
  refine forL_const (fun L => ∃ (s : Int) (x : Sl), L = [.val (.scr ns), .val (.int s), x]) _ ?_ ?_ _ ⟨_, _, rfl⟩
  · rintro d hd L ⟨s, x, rfl⟩ Z' hZ
    obtain ⟨c, hc, rfl⟩ := List.mem_map.mp hd
    simp_arith only [i__law_pool_b0, s1, ne_eq, Int.reduceEq, not_false_eq_true]
    exact hZ _ ⟨_, _, rfl⟩
  · rintro L ⟨s, x, rfl⟩
    simp_arith only [i__law_pool_r0, sizeL]
    refine ⟨by decide, h _ ⟨ns, 0, 0, 0, s, rfl⟩⟩
theorem w_pick (hP : T "_law_pick" = some f__law_pick) (hT : T "_law_draw" = some f__law_draw) (hS' : T "_law_spread" = some f__law_spread) {l : List D} (hS : Pool S) (h0 : l ≠ []) (h1 : l.length < 2 ^ 62) (h : ∀ v S', v ∈ l → Pool S' → P v S') : Cl T (k + 3) "_law_pick" [.obj 0, .tup l] S P := by
  refine ⟨_, hP, rfl, ?_⟩
  simp_arith only [f__law_pick, i__law_pick]
  have h0' : 0 < l.length := List.length_pos_iff.mpr h0
  apply w_draw hT hS' hS (by omega) (Nat.lt_of_lt_of_le (show (l.length : Int).natAbs < 2 ^ 62 by omega) (Nat.pow_le_pow_right (by decide) (by decide)))
  intro v S' v0 v1 hS
  obtain ⟨j, rfl⟩ := Int.eq_ofNat_of_zero_le v0
  have hj : j < l.length := by omega
  have e : L2.atI l (j : Int) = some l[j] := atN (List.getElem?_eq_getElem hj)
  simp_arith only [e]
  exact h _ _ (List.getElem_mem _) hS
end
/-! comprehensions -/
theorem filtT {α : Type} (l : List α) : l.filter (fun _ => true) = l := List.filter_eq_self.mpr fun _ _ => rfl
theorem filtF {α : Type} (l : List α) : l.filter (fun _ => false) = [] := List.filter_eq_nil_iff.mpr fun _ _ => by simp

section
variable {t : D → Lo → (Lo → Prop) → Prop} {c : Lo → Sto → KT → Prop} {e : Lo → Sto → KE → Prop} {Lw : Lo} {S : Sto} {P : List D → Sto → Prop}
theorem compL_fm {α : Type} (g f : α → D) (p : α → Bool) : ∀ (xs : List α) (acc : List D), acc.length + (xs.filter p).length ≤ sizeLine →
    (∀ x ∈ xs, ∀ (K : List D → Sto → Prop) (acc : List D), (p x = true → acc.length < sizeLine) → K (if p x then acc ++ [f x] else acc) S → t (g x) Lw fun L1 => c L1 S fun b L2 S2 => L2 = L1 ∧ if b = true then e L1 S2 fun r _ L3 S3 => L3 = L1 ∧ acc.length < sizeLine ∧ K (acc ++ [r]) S3 else K acc S2) →
    P (acc ++ (xs.filter p).map f) S → compL t c e Lw (xs.map g) S acc P := by
  intro xs
  induction xs with
  | nil => intro acc _ _ h; simpa [compL] using h
  | cons x xs ih =>
    intro acc hn h hP
    rw [List.map_cons]
    unfold compL
    cases hp : p x with
    | true =>
      rw [List.filter_cons, hp, if_pos rfl] at hn hP
      simp only [List.length_cons] at hn
      refine h x (by simp) (fun a S => compL t c e Lw (xs.map g) S a P) acc (fun _ => by omega) ?_
      rw [hp, if_pos rfl]
      exact ih _ (by simp; omega) (fun y hy => h y (by simp [hy])) (by simpa using hP)
    | false =>
      rw [List.filter_cons, hp, if_neg (by decide)] at hn hP
      refine h x (by simp) (fun a S => compL t c e Lw (xs.map g) S a P) acc (fun h => by rw [hp] at h; cases h) ?_
      rw [hp, if_neg (by decide)]
      exact ih _ hn (fun y hy => h y (by simp [hy])) hP
/-- every item kept -/
theorem compL_m {α : Type} (g f : α → D) (xs : List α) (hn : xs.length ≤ sizeLine)
    (h : ∀ x ∈ xs, ∀ (K : List D → Sto → Prop) (acc : List D), acc.length < sizeLine → K (acc ++ [f x]) S → t (g x) Lw fun L1 => c L1 S fun b L2 S2 => L2 = L1 ∧ if b = true then e L1 S2 fun r _ L3 S3 => L3 = L1 ∧ acc.length < sizeLine ∧ K (acc ++ [r]) S3 else K acc S2)
    (hP : P (xs.map f) S) : compL t c e Lw (xs.map g) S [] P :=
  compL_fm g f (fun _ => true) xs [] (by simpa [filtT] using hn) (fun x hx K acc ha hk => h x hx K acc (ha rfl) (by simpa using hk)) (by simpa [filtT] using hP)
end
section
variable {t1 t2 : D → Lo → (Lo → Prop) → Prop} {src : Lo → Sto → (List D → Lo → Sto → Prop) → Prop} {e : Lo → Sto → KE → Prop} {ix : List Nat} {Lw : Lo} {S : Sto} {P : List D → Sto → Prop}
/-- two loops: item x gives the list F x -/
theorem compL2_fm {α : Type} (g : α → D) (F : α → List D) : ∀ (xs : List α) (acc : List D),
    (∀ x ∈ xs, ∀ (K : List D → Sto → Prop) (acc : List D), acc.length + (F x).length ≤ sizeLine → K (acc ++ F x) S → t1 (g x) Lw fun L1 => src L1 S fun ys L2 S2 => L2 = L1 ∧ compL t2 (fun L S k => k true L S) e (wipeL L1 ix) ys S2 acc K) →
    acc.length + (xs.flatMap F).length ≤ sizeLine → P (acc ++ xs.flatMap F) S → compL2 t2 src e t1 ix Lw (xs.map g) S acc P := by
  intro xs
  induction xs with
  | nil => intro acc _ _ h; simpa [compL2] using h
  | cons x xs ih =>
    intro acc h hn hP
    rw [List.flatMap_cons, List.length_append] at hn
    rw [List.map_cons]
    unfold compL2
    refine h x (by simp) (fun a S => compL2 t2 src e t1 ix Lw (xs.map g) S a P) acc (by omega) ?_
    refine ih _ (fun y hy => h y (by simp [hy])) (by rw [List.length_append]; omega) ?_
    rw [List.flatMap_cons] at hP
    simpa using hP
end
/-! same -/
def D.okS : Nat → D → Prop
  | 0, _ => False
  | n + 1, .tup l => l.length < 2 ^ 62 ∧ ∀ d ∈ l, D.okS n d
  | n + 1, .lst l => l.length < 2 ^ 62 ∧ ∀ d ∈ l, D.okS n d
  | _, .non => True
  | _, .bl _ => True
  | _, .int _ => True
  | _, .str _ => True
  | _, _ => False
theorem rng0 (n : Nat) : rngList 0 n = (List.range n).map fun (k : Nat) => D.int (k : Int) := by
  unfold rngList
  simp
theorem lim_len {n : Nat} (h : n < 2 ^ 62) : lim62 (n : Int) := by
  unfold lim62; omega
theorem w_same {T : Str → Option FD} (hT : T "_law_same" = some f__law_same) {k : Nat} {S : Sto} : ∀ (n : Nat) {x : D} {P : D → Sto → Prop}, x.okS n → P (.bl true) S → Cl T (n + k) "_law_same" [x, x] S P := by
  intro n
  induction n with
  | zero => intro x P hx; exact (by cases x <;> exact hx.elim)
  | succ n ih =>
    intro x P hx h
    have body : ∀ (l : List D), l.length < 2 ^ 62 → (∀ d ∈ l, D.okS n d) → ∀ (P : List D → Sto → Prop), P [] S → ∀ (y : D), (∀ (i : Nat) (d : D), l[i]? = some d → ∀ P : D → Prop, P d → dIdx S y (.int i) P) → compL (wG (.nm 2)) (wT (Cl T (n + k)) (.not (.v (.call "_law_same" (.cons (.idx (.loc 0) (.loc 2)) (.cons (.idx (.loc 1) (.loc 2)) .nil)))))) (wE (Cl T (n + k)) (.loc 2)) [.val y, .val y, .no] (rngList 0 l.length) S [] P := by
      intro l hl hd P hP y hy
      rw [rng0]
      refine compL_fm (α := Nat) _ (fun _ => .non) (fun _ => false) _ [] (by simp [filtF]) ?_ (by simpa [filtF] using hP)
      intro i hi K acc ha hK
      have hi : i < l.length := by simpa using hi
      simp_arith only [true_and]
      refine hy i _ (List.getElem?_eq_getElem hi) _ (hy i _ (List.getElem?_eq_getElem hi) _ ?_)
      exact ih (hd _ (List.getElem_mem _)) (by simpa [tr_bl] using hK)
    rw [Nat.add_right_comm]
    refine ⟨_, hT, rfl, ?_⟩
    simp_arith only [f__law_same, i__law_same]
    have stop : ∀ d : D, d.eqOk = true → eqQ d d = true := fun d h => by cases d <;> simp [eqQ, h]
    cases x with
    | non => simp_arith only [i__law_same_r0, Q.D.isNon]; exact h
    | bl b => simp_arith only [i__law_same_r0, Q.D.isNon]; simpa using h
    | int i => simp_arith only [i__law_same_r0, Q.D.isNon]; simpa using h
    | str i => simp_arith only [i__law_same_r0, Q.D.isNon]; simpa using h
    | tup l =>
      simp_arith only [true_and]
      simp_arith only [beq_self_eq_true, Int.toNat_natCast, Int.sub_zero]
      refine ⟨lim_0, lim_len hx.1, by simp, body l hx.1 hx.2 _ ?_ _ ?_⟩
      · simpa [↓reduceIte, Q.bindL_f, Q.wE_chain3, Q.wE_callv, Q.cloP_clo, Q.wE_callL, Q.caps_nil, Q.caps_cons, Q.pk_chain3, Q.pk_callv, Q.pk_callL, Q.wAs_chain3, Q.wAs_callv, Q.wAs_callL, Q.blt_repr, Q.blt_str, Q.wI_enm, Q.enmP_tup, Q.enmP_lst, Q.wS_ins, Q.wS_upd, Q.ownT_own, Q.dctP_dct, Q.wSs_nil, Q.wSs_cons, Q.wS_asg, Q.wS_par, Q.wS_app, Q.wS_ext, Q.wS_pop, Q.wS_aug, Q.wS_setI, Q.wS_expr, Q.wS_ret, Q.wS_ifs, Q.wS_fors, Q.wS_cont, Q.wS_brk, Q.wS_pass, Q.asg_nmT, Q.asg_nmF, Q.asg_tp, Q.tupP_tup, Q.g_nm, Q.g_tp, Q.gs_nil, Q.gs_cons, Q.setP_obj, Q.str_lit, String.reduceBEq, Q.setP_dct, Q.wS_asg2, Q.wE_dct, Q.wE_dcomp, Q.pk_dct, Q.pk_dcomp, Q.cmp_isb, Q.cmp_isnb, Q.cmp_gts, Q.cmp_lts, Q.cmp_les, Q.mem_dct, Q.isB_non, Q.isB_bl, Q.isB_tup, Q.isB_str, Q.mul_tup, Q.idx_dct, Q.idx_str, Q.blt_min2L, Q.blt_max2L,  Q.blt_dctD, Q.blt_lstD, Q.len_dct, Q.wI_wk, Q.wI_pk, Q.pkP_tup, Q.pkP_lst, Q.pkP_xt, Q.pkP_lstO, Q.wkP_tup, Q.wkP_lst, Q.wkP_lstO, Q.wkP_dct, Q.wkP_dctO, Q.setP_own, Q.hasP_val, Q.hasP_own, Q.valP_val, Q.augP_int, Q.augP_str, Q.lstP_lst, Q.ownL_own, Q.wI_seq, Q.wI_rng, Q.wI_zip, Q.wEo_no, Q.wEo_so, Q.wE_neg', Q.zipP_tup, Q.zipP_lst, Q.seqP_tup, Q.seqP_xt, Q.blt_sorted, Q.blt_sortset, Q.blt_dctL, Q.blt_dctX, Q.blt_xt, Q.len_xt, Q.idx_xt, Q.isa_xt_str, Q.isa_xt_int, Q.isa_xt_bool, Q.isa_xt_tuple, Q.isa_xt_list, Q.isa_xt_dict, Q.isa_dct_str, Q.isa_dct_int, Q.isa_dct_bool, Q.isa_dct_tuple, Q.isa_dct_list, Q.isa_dct_dict, Q.lentD_nil, Q.lentD_cons, Q.ownD_lst, Q.ownD_dct, Bool.false_and, Bool.true_and, false_and,  Q.seqP_lst, Q.seqP_scr, Q.seqP_str, Q.rngP_int, Q.intP_int, Q.sz0, Q.sz1, Q.sz2, Q.sz3, Q.sz4, Q.sz5, Q.sz6, Q.sz7, Q.sz8, Q.sz9, Q.nc0, Q.nc1, Q.nc2, Q.nc3, Q.nc4, Q.nc5, Q.nc6, Q.nc7, Q.nc8, Q.nc9, Q.isN_non, Q.isN_bl, Q.isN_int, Q.isN_str, Q.isN_tup, Q.isN_lst, Int.reduceBEq, Int.reduceBNe, Int.reduceLT, Int.reduceLE, decide_true, decide_false, Bool.or_self, Bool.and_self, eq_self, decide_eq_true_eq, Q.ix51, Q.ix52, Q.ix53,  Q.wE_loc, Q.wE_cst, Q.wE_bin, Q.wE_not, Q.wE_and, Q.wE_or, Q.wE_ite, Q.wE_cmp, Q.wE_chain, Q.wE_tup, Q.wE_lst, Q.wE_new, Q.wE_idx, Q.wE_slcE, Q.wE_rev, Q.pk_rev, Q.wAs_rev, Q.rev_tup, Q.rev_lst, Q.rev_xt, Q.wE_call, Q.wE_blt, Q.wE_isa, Q.wE_comp, Q.wE_comp2, Q.pk_loc, Q.pk_cst, Q.pk_bin, Q.pk_neg, Q.pk_not, Q.pk_and, Q.pk_or, Q.pk_ite, Q.pk_cmp, Q.pk_chain, Q.pk_tup, Q.pk_lst, Q.pk_new, Q.pk_idx, Q.pk_slcE, Q.pk_call, Q.pk_blt, Q.pk_isa, Q.pk_comp, Q.pk_comp2, Q.add_int, Q.add_str, Q.add_tup, Q.add_lst, Q.sub_int, Q.mul_int, Q.fdiv_int, Q.mod_int, Q.pow_int, Q.cmp_eq, Q.cmp_ne, Q.cmp_lt, Q.cmp_gt, Q.cmp_le, Q.cmp_ge, Q.cmp_is, Q.cmp_isn, Q.cmp_mem, Q.cmp_nmem, Q.mem_lst, Q.mem_tup, Q.mem_str, Q.eqQ_str, Q.eqQ_int, Q.eqQ_bl, Q.eq_bl, Q.eq_int, Q.eq_str, Q.ok_int, Q.ok_bl, Q.ok_non, Q.tr_bl, Q.tr_int, Q.tr_lst, Q.tr_tup, Q.tr_non, Q.idx_tup, Q.idx_lst, Q.idx_obj, Q.slc_tup, Q.slc_lst, Q.slc_scr, Q.len_tup, Q.len_lst, Q.len_str, Q.blt_all, Q.blt_any, Q.blt_sum, Q.blt_tupL, Q.blt_tupT, Q.blt_lstL, Q.blt_lstT, Q.blt_lstS, Q.blt_int, Q.blt_min, Q.blt_max, Q.at0, Q.at1, Q.at2, Q.at3, Q.at4, Q.optP_some, Q.locE_val, Q.locE_own, Q.locP_val, Q.locP_own, Q.wEs_nil, Q.wEs_cons, Q.wPs_nil, Q.wPs_cons, Q.wAs_nil, Q.wAs_loc, Q.locA_val, Q.locA_own, Q.wAs_cst, Q.wAs_bin, Q.wAs_neg, Q.wAs_not, Q.wAs_and, Q.wAs_or, Q.wAs_ite, Q.wAs_cmp, Q.wAs_chain, Q.wAs_tup, Q.wAs_lst, Q.wAs_new, Q.wAs_idx, Q.wAs_slcE, Q.wAs_call, Q.wAs_blt, Q.wAs_isa, Q.wAs_comp, Q.wAs_comp2, Q.wAs_dct, Q.wAs_dcomp, Q.wT_not, Q.wT_and, Q.wT_or, Q.wT_cmp, Q.wT_chain, Q.wT_yes, Q.wT_v, Q.lo0, Q.flag, Q.wipeL, Q.IEs.len, List.map_cons, List.map_nil, List.length_cons, List.length_nil, List.cons_append, List.nil_append, Nat.reduceAdd, Nat.reduceSub, Nat.sub_self, List.replicate, List.getElem?_cons_zero, List.getElem?_cons_succ, List.set_cons_zero, List.set_cons_succ, List.getElem?_nil, Q.isa_non_str, Q.isa_non_int, Q.isa_non_bool, Q.isa_non_tuple, Q.isa_non_list, Q.isa_non_dict, Q.isa_bl_str, Q.isa_bl_int, Q.isa_bl_bool, Q.isa_bl_tuple, Q.isa_bl_list, Q.isa_bl_dict, Q.isa_int_str, Q.isa_int_int, Q.isa_int_bool, Q.isa_int_tuple, Q.isa_int_list, Q.isa_int_dict, Q.isa_str_str, Q.isa_str_int, Q.isa_str_bool, Q.isa_str_tuple, Q.isa_str_list, Q.isa_str_dict, Q.isa_tup_str, Q.isa_tup_int, Q.isa_tup_bool, Q.isa_tup_tuple, Q.isa_tup_list, Q.isa_tup_dict, Q.isa_lst_str, Q.isa_lst_int, Q.isa_lst_bool, Q.isa_lst_tuple, Q.isa_lst_list, Q.isa_lst_dict, if_true, if_false, Bool.false_eq_true, Bool.true_eq_false, true_and, and_true, Bool.not_true, Bool.not_false, List.not_mem_nil, false_implies, implies_true, forall_const, true_or, false_or, Option.some.injEq, Q.D.tup.injEq, exists_eq_left', exists_eq_left, Q.D.int.injEq] using h
      · intro i d e P h
        rw [idx_tup, atN e]; exact h
    | lst l =>
      simp_arith only [true_and]
      simp_arith only [beq_self_eq_true, Int.toNat_natCast, Int.sub_zero]
      refine ⟨lim_0, lim_len hx.1, by simp, body l hx.1 hx.2 _ ?_ _ ?_⟩
      · simpa [↓reduceIte, Q.bindL_f, Q.wE_chain3, Q.wE_callv, Q.cloP_clo, Q.wE_callL, Q.caps_nil, Q.caps_cons, Q.pk_chain3, Q.pk_callv, Q.pk_callL, Q.wAs_chain3, Q.wAs_callv, Q.wAs_callL, Q.blt_repr, Q.blt_str, Q.wI_enm, Q.enmP_tup, Q.enmP_lst, Q.wS_ins, Q.wS_upd, Q.ownT_own, Q.dctP_dct, Q.wSs_nil, Q.wSs_cons, Q.wS_asg, Q.wS_par, Q.wS_app, Q.wS_ext, Q.wS_pop, Q.wS_aug, Q.wS_setI, Q.wS_expr, Q.wS_ret, Q.wS_ifs, Q.wS_fors, Q.wS_cont, Q.wS_brk, Q.wS_pass, Q.asg_nmT, Q.asg_nmF, Q.asg_tp, Q.tupP_tup, Q.g_nm, Q.g_tp, Q.gs_nil, Q.gs_cons, Q.setP_obj, Q.str_lit, String.reduceBEq, Q.setP_dct, Q.wS_asg2, Q.wE_dct, Q.wE_dcomp, Q.pk_dct, Q.pk_dcomp, Q.cmp_isb, Q.cmp_isnb, Q.cmp_gts, Q.cmp_lts, Q.cmp_les, Q.mem_dct, Q.isB_non, Q.isB_bl, Q.isB_tup, Q.isB_str, Q.mul_tup, Q.idx_dct, Q.idx_str, Q.blt_min2L, Q.blt_max2L,  Q.blt_dctD, Q.blt_lstD, Q.len_dct, Q.wI_wk, Q.wI_pk, Q.pkP_tup, Q.pkP_lst, Q.pkP_xt, Q.pkP_lstO, Q.wkP_tup, Q.wkP_lst, Q.wkP_lstO, Q.wkP_dct, Q.wkP_dctO, Q.setP_own, Q.hasP_val, Q.hasP_own, Q.valP_val, Q.augP_int, Q.augP_str, Q.lstP_lst, Q.ownL_own, Q.wI_seq, Q.wI_rng, Q.wI_zip, Q.wEo_no, Q.wEo_so, Q.wE_neg', Q.zipP_tup, Q.zipP_lst, Q.seqP_tup, Q.seqP_xt, Q.blt_sorted, Q.blt_sortset, Q.blt_dctL, Q.blt_dctX, Q.blt_xt, Q.len_xt, Q.idx_xt, Q.isa_xt_str, Q.isa_xt_int, Q.isa_xt_bool, Q.isa_xt_tuple, Q.isa_xt_list, Q.isa_xt_dict, Q.isa_dct_str, Q.isa_dct_int, Q.isa_dct_bool, Q.isa_dct_tuple, Q.isa_dct_list, Q.isa_dct_dict, Q.lentD_nil, Q.lentD_cons, Q.ownD_lst, Q.ownD_dct, Bool.false_and, Bool.true_and, false_and,  Q.seqP_lst, Q.seqP_scr, Q.seqP_str, Q.rngP_int, Q.intP_int, Q.sz0, Q.sz1, Q.sz2, Q.sz3, Q.sz4, Q.sz5, Q.sz6, Q.sz7, Q.sz8, Q.sz9, Q.nc0, Q.nc1, Q.nc2, Q.nc3, Q.nc4, Q.nc5, Q.nc6, Q.nc7, Q.nc8, Q.nc9, Q.isN_non, Q.isN_bl, Q.isN_int, Q.isN_str, Q.isN_tup, Q.isN_lst, Int.reduceBEq, Int.reduceBNe, Int.reduceLT, Int.reduceLE, decide_true, decide_false, Bool.or_self, Bool.and_self, eq_self, decide_eq_true_eq, Q.ix51, Q.ix52, Q.ix53,  Q.wE_loc, Q.wE_cst, Q.wE_bin, Q.wE_not, Q.wE_and, Q.wE_or, Q.wE_ite, Q.wE_cmp, Q.wE_chain, Q.wE_tup, Q.wE_lst, Q.wE_new, Q.wE_idx, Q.wE_slcE, Q.wE_rev, Q.pk_rev, Q.wAs_rev, Q.rev_tup, Q.rev_lst, Q.rev_xt, Q.wE_call, Q.wE_blt, Q.wE_isa, Q.wE_comp, Q.wE_comp2, Q.pk_loc, Q.pk_cst, Q.pk_bin, Q.pk_neg, Q.pk_not, Q.pk_and, Q.pk_or, Q.pk_ite, Q.pk_cmp, Q.pk_chain, Q.pk_tup, Q.pk_lst, Q.pk_new, Q.pk_idx, Q.pk_slcE, Q.pk_call, Q.pk_blt, Q.pk_isa, Q.pk_comp, Q.pk_comp2, Q.add_int, Q.add_str, Q.add_tup, Q.add_lst, Q.sub_int, Q.mul_int, Q.fdiv_int, Q.mod_int, Q.pow_int, Q.cmp_eq, Q.cmp_ne, Q.cmp_lt, Q.cmp_gt, Q.cmp_le, Q.cmp_ge, Q.cmp_is, Q.cmp_isn, Q.cmp_mem, Q.cmp_nmem, Q.mem_lst, Q.mem_tup, Q.mem_str, Q.eqQ_str, Q.eqQ_int, Q.eqQ_bl, Q.eq_bl, Q.eq_int, Q.eq_str, Q.ok_int, Q.ok_bl, Q.ok_non, Q.tr_bl, Q.tr_int, Q.tr_lst, Q.tr_tup, Q.tr_non, Q.idx_tup, Q.idx_lst, Q.idx_obj, Q.slc_tup, Q.slc_lst, Q.slc_scr, Q.len_tup, Q.len_lst, Q.len_str, Q.blt_all, Q.blt_any, Q.blt_sum, Q.blt_tupL, Q.blt_tupT, Q.blt_lstL, Q.blt_lstT, Q.blt_lstS, Q.blt_int, Q.blt_min, Q.blt_max, Q.at0, Q.at1, Q.at2, Q.at3, Q.at4, Q.optP_some, Q.locE_val, Q.locE_own, Q.locP_val, Q.locP_own, Q.wEs_nil, Q.wEs_cons, Q.wPs_nil, Q.wPs_cons, Q.wAs_nil, Q.wAs_loc, Q.locA_val, Q.locA_own, Q.wAs_cst, Q.wAs_bin, Q.wAs_neg, Q.wAs_not, Q.wAs_and, Q.wAs_or, Q.wAs_ite, Q.wAs_cmp, Q.wAs_chain, Q.wAs_tup, Q.wAs_lst, Q.wAs_new, Q.wAs_idx, Q.wAs_slcE, Q.wAs_call, Q.wAs_blt, Q.wAs_isa, Q.wAs_comp, Q.wAs_comp2, Q.wAs_dct, Q.wAs_dcomp, Q.wT_not, Q.wT_and, Q.wT_or, Q.wT_cmp, Q.wT_chain, Q.wT_yes, Q.wT_v, Q.lo0, Q.flag, Q.wipeL, Q.IEs.len, List.map_cons, List.map_nil, List.length_cons, List.length_nil, List.cons_append, List.nil_append, Nat.reduceAdd, Nat.reduceSub, Nat.sub_self, List.replicate, List.getElem?_cons_zero, List.getElem?_cons_succ, List.set_cons_zero, List.set_cons_succ, List.getElem?_nil, Q.isa_non_str, Q.isa_non_int, Q.isa_non_bool, Q.isa_non_tuple, Q.isa_non_list, Q.isa_non_dict, Q.isa_bl_str, Q.isa_bl_int, Q.isa_bl_bool, Q.isa_bl_tuple, Q.isa_bl_list, Q.isa_bl_dict, Q.isa_int_str, Q.isa_int_int, Q.isa_int_bool, Q.isa_int_tuple, Q.isa_int_list, Q.isa_int_dict, Q.isa_str_str, Q.isa_str_int, Q.isa_str_bool, Q.isa_str_tuple, Q.isa_str_list, Q.isa_str_dict, Q.isa_tup_str, Q.isa_tup_int, Q.isa_tup_bool, Q.isa_tup_tuple, Q.isa_tup_list, Q.isa_tup_dict, Q.isa_lst_str, Q.isa_lst_int, Q.isa_lst_bool, Q.isa_lst_tuple, Q.isa_lst_list, Q.isa_lst_dict, if_true, if_false, Bool.false_eq_true, Bool.true_eq_false, true_and, and_true, Bool.not_true, Bool.not_false, List.not_mem_nil, false_implies, implies_true, forall_const, true_or, false_or, Option.some.injEq, Q.D.tup.injEq, exists_eq_left', exists_eq_left, Q.D.int.injEq] using h
      · intro i d e P h
        rw [idx_lst, atN e]; exact h
    | dct _ _ => exact hx.elim
    | scr _ => exact hx.elim
    | obj _ => exact hx.elim
    | clo _ _ _ => exact hx.elim
    | xt _ => exact hx.elim
end Q
/-! == of plain data; ranges. -/
namespace Q
open PySem
theorem iteI {c : Prop} {inst : Decidable c} {a b : Prop} (h1 : c → a) (h2 : ¬ c → b) : @ite Prop c inst a b := by
  cases inst with
  | isTrue h => exact h1 h
  | isFalse h => exact h2 h
def D.okE : Nat → D → Prop
  | _, .non => True
  | _, .bl _ => True
  | _, .int _ => True
  | _, .str s => PyData.canLay0 (.str s) = true
  | n + 1, .tup l => ∀ d ∈ l, D.okE n d
  | n + 1, .lst l => ∀ d ∈ l, D.okE n d
  | _, _ => False
theorem pys_all {Q1 : D → Bool} {l : List D} (h : ∀ d ∈ l, d.plain = true ∧ d.py.canLay0 = true) : D.plains l = true ∧ PyData.canLayAll0 (D.pys l) = true := by
  induction l with
  | nil => exact ⟨rfl, rfl⟩
  | cons d r ih =>
    have h1 := h d (by simp)
    have h2 := ih fun d hd => h d (by simp [hd])
    simp only [D.plains, D.pys, PyData.canLayAll0, h1, h2, Bool.and_self, and_self]
theorem pys_dep {n : Nat} {l : List D} (h : ∀ d ∈ l, d.py.depth ≤ n) : PyData.depthAll (D.pys l) ≤ n := by
  induction l with
  | nil => exact Nat.zero_le _
  | cons d r ih =>
    have h1 := h d (by simp)
    have h2 := ih fun d hd => h d (by simp [hd])
    simp only [D.pys, PyData.depthAll]
    omega
theorem okE_all : ∀ (n : Nat) (d : D), d.okE n → d.plain = true ∧ d.py.canLay0 = true ∧ d.py.depth ≤ n := by
  intro n
  induction n with
  | zero => intro d h; cases d <;> first | exact h.elim | exact ⟨rfl, rfl, Nat.le_refl _⟩ | exact ⟨rfl, h, Nat.le_refl _⟩
  | succ n ih =>
    intro d h
    cases d with
    | tup l =>
      have h1 := pys_all (Q1 := fun _ => true) fun d hd => ⟨(ih d (h d hd)).1, (ih d (h d hd)).2.1⟩
      have h2 := pys_dep fun d hd => (ih d (h d hd)).2.2
      exact ⟨h1.1, h1.2, Nat.succ_le_succ h2⟩
    | lst l =>
      have h1 := pys_all (Q1 := fun _ => true) fun d hd => ⟨(ih d (h d hd)).1, (ih d (h d hd)).2.1⟩
      have h2 := pys_dep fun d hd => (ih d (h d hd)).2.2
      exact ⟨h1.1, h1.2, Nat.succ_le_succ h2⟩
    | non => exact ⟨rfl, rfl, Nat.zero_le _⟩
    | bl b => exact ⟨rfl, rfl, Nat.zero_le _⟩
    | int i => exact ⟨rfl, rfl, Nat.zero_le _⟩
    | str s => exact ⟨rfl, h, Nat.zero_le _⟩
    | dct _ _ => exact h.elim
    | scr _ => exact h.elim
    | xt _ => exact h.elim
    | obj _ => exact h.elim
    | clo _ _ _ => exact h.elim
theorem eqOk_of {n : Nat} {d : D} (h : d.okE n) (hn : n ≤ 64) : d.eqOk = true := by
  obtain ⟨h1, h2, h3⟩ := okE_all n d h
  unfold D.eqOk SeqAt.shaped
  rw [h1, h2]
  simp; omega
def eqAll : List D → List D → Bool
  | [], [] => true
  | x :: xs, y :: ys => x.eq y && eqAll xs ys
  | _, _ => false
theorem eqAll_py : ∀ (a b : List D), PyData.eqvAll (D.pys a) (D.pys b) = eqAll a b
  | [], [] => rfl
  | [], _ :: _ => rfl
  | _ :: _, [] => rfl
  | x :: xs, y :: ys => by simp only [D.pys, PyData.eqvAll, eqAll, eqAll_py xs ys]; rfl
theorem eq_tup (a b : List D) : D.eq (.tup a) (.tup b) = eqAll a b := eqAll_py a b
theorem eq_lst (a b : List D) : D.eq (.lst a) (.lst b) = eqAll a b := eqAll_py a b
def rowD (r : List Int) : D := .tup (r.map .int)
theorem eq_row : ∀ (a b : List Int), D.eq (rowD a) (rowD b) = (a == b) := by
  intro a b
  unfold rowD
  rw [eq_tup]
  induction a generalizing b with
  | nil => cases b <;> rfl
  | cons x xs ih =>
    cases b with
    | nil => rfl
    | cons y ys => simp only [List.map_cons, eqAll, ih, eq_int, List.cons_beq_cons]
theorem okE_row (r : List Int) (n : Nat) : (rowD r).okE (n + 1) := by
  intro d hd
  obtain ⟨x, _, rfl⟩ := List.mem_map.mp hd
  cases n <;> exact True.intro
theorem okE_rows (l : List (List Int)) (n : Nat) : (D.lst (l.map rowD)).okE (n + 2) := by
  intro d hd
  obtain ⟨x, _, rfl⟩ := List.mem_map.mp hd
  exact okE_row x n
theorem any_rows (r : List Int) (l : List (List Int)) : ((l.map rowD).any fun z => z.eq (rowD r)) = decide (r ∈ l) := by
  rw [List.any_map, Bool.eq_iff_iff]
  simp [eq_row]
theorem mem_rows {r : List Int} {l : List (List Int)} {R : Bool → Prop} (h : R (decide (r ∈ l))) : dMem (rowD r) (.lst (l.map rowD)) R := by
  rw [mem_lst]
  refine ⟨eqOk_of (okE_row r 0) (by decide), eqOk_of (okE_rows l 0) (by decide), ?_⟩
  have : ((l.map rowD).any fun z => z.eq (rowD r)) = decide (r ∈ l) := by
    rw [List.any_map, Bool.eq_iff_iff]
    simp [eq_row]
  rw [this]; exact h
theorem okS_row (r : List Int) (h : r.length < 2 ^ 62) (n : Nat) : (rowD r).okS (n + 2) := by
  refine ⟨by simpa using h, fun d hd => ?_⟩
  obtain ⟨x, _, rfl⟩ := List.mem_map.mp hd
  exact True.intro
theorem okS_rows (l : List (List Int)) (hl : l.length < 2 ^ 62) (h : ∀ r ∈ l, r.length < 2 ^ 62) (n : Nat) : (D.lst (l.map rowD)).okS (n + 3) := by
  refine ⟨by simpa using hl, fun d hd => ?_⟩
  obtain ⟨x, hx, rfl⟩ := List.mem_map.mp hd
  exact okS_row x (h x hx) n
/-- lo .. hi -/
def rg (lo hi : Int) : List Int := (List.range (hi + 1 - lo).toNat).map fun (k : Nat) => lo + (k : Int)
theorem rng_rg (lo hi : Int) : rngList lo (hi + 1 - lo).toNat = (rg lo hi).map .int := by
  unfold rngList rg
  rw [List.map_map]; rfl
theorem rg_len (lo hi : Int) : (rg lo hi).length = (hi + 1 - lo).toNat := by simp [rg]
theorem mem_rg {lo hi x : Int} : x ∈ rg lo hi ↔ lo ≤ x ∧ x ≤ hi := by
  unfold rg
  simp only [List.mem_map, List.mem_range]
  constructor
  · rintro ⟨k, h, rfl⟩; omega
  · intro h; exact ⟨(x - lo).toNat, by omega, by omega⟩
theorem rg_nil {lo hi : Int} (h : hi < lo) : rg lo hi = [] := by
  unfold rg
  rw [show (hi + 1 - lo).toNat = 0 by omega]; rfl
theorem rg_app {lo at_ hi : Int} (h1 : lo ≤ at_ + 1) (h2 : at_ ≤ hi) : rg lo at_ ++ rg (at_ + 1) hi = rg lo hi := by
  unfold rg
  rw [show (hi + 1 - lo).toNat = (at_ + 1 - lo).toNat + (hi + 1 - (at_ + 1)).toNat by omega, List.range_add, List.map_append, List.map_map]
  congr 1
  apply List.map_congr_left
  intro a _
  simp only [Function.comp]
  omega
theorem rg_le {lo at_ hi : Int} (h1 : lo ≤ at_ + 1) (h2 : at_ ≤ hi) : (rg lo hi).filter (fun x => decide (x ≤ at_)) = rg lo at_ := by
  rw [← rg_app h1 h2, List.filter_append, List.filter_eq_self.mpr, List.filter_eq_nil_iff.mpr, List.append_nil]
  · intro x hx; have := mem_rg.mp hx; simp; omega
  · intro x hx; have := mem_rg.mp hx; simp; omega
theorem rg_gt {lo at_ hi : Int} (h1 : lo ≤ at_ + 1) (h2 : at_ ≤ hi) : (rg lo hi).filter (fun x => decide (at_ < x)) = rg (at_ + 1) hi := by
  rw [← rg_app h1 h2, List.filter_append, List.filter_eq_nil_iff.mpr, List.filter_eq_self.mpr, List.nil_append]
  · intro x hx; have := mem_rg.mp hx; simp; omega
  · intro x hx; have := mem_rg.mp hx; simp; omega
/-! the cases of a cell -/
abbrev Iv := Int × Int
def pr (p : Iv) : D := .tup [.int p.1, .int p.2]
def cellD (c : List Iv) : D := .tup (c.map pr)
def grow (p : Iv) (f : List (List Int)) : List (List Int) := f.flatMap fun r => (rg p.1 p.2).map fun x => r ++ [x]
def casesG : List Iv → List (List Int) → List (List Int)
  | [], f => f
  | p :: c, f => casesG c (grow p f)
def cases (c : List Iv) : List (List Int) := casesG c [[]]
theorem grow_len (p : Iv) (f : List (List Int)) : (grow p f).length = f.length * (p.2 + 1 - p.1).toNat := by
  unfold grow
  induction f with
  | nil => simp
  | cons r f ih => rw [List.flatMap_cons, List.length_append, ih, List.length_map, rg_len, List.length_cons, Nat.succ_mul, Nat.add_comm]
theorem grow_row {p : Iv} {f : List (List Int)} {n : Nat} (h : ∀ r ∈ f, r.length = n) : ∀ r ∈ grow p f, r.length = n + 1 := by
  intro r hr
  unfold grow at hr
  simp only [List.mem_flatMap, List.mem_map] at hr
  obtain ⟨a, ha, x, _, rfl⟩ := hr
  simp [h a ha]
theorem casesG_row : ∀ (c : List Iv) {f : List (List Int)} {n : Nat}, (∀ r ∈ f, r.length = n) → ∀ r ∈ casesG c f, r.length = n + c.length := by
  intro c
  induction c with
  | nil => intro f n h; exact h
  | cons p c ih =>
    intro f n h r hr
    have := ih (grow_row h) r hr
    rw [this]; simp; omega
theorem cases_row {c : List Iv} : ∀ r ∈ cases c, r.length = c.length := fun r hr => by
  have := casesG_row c (f := [[]]) (n := 0) (by simp) r hr
  omega
theorem casesG_len : ∀ (c : List Iv) (f : List (List Int)) (m : Nat), (∀ p ∈ c, p.2 + 1 - p.1 ≤ (m : Int)) → (casesG c f).length ≤ f.length * m ^ c.length := by
  intro c
  induction c with
  | nil => intro f m _; simp [casesG]
  | cons p c ih =>
    intro f m h
    have h1 := ih (grow p f) m fun q hq => h q (by simp [hq])
    have h2 := h p (by simp)
    rw [grow_len] at h1
    refine Nat.le_trans h1 ?_
    rw [List.length_cons, Nat.pow_succ, Nat.mul_comm (m ^ c.length) m, ← Nat.mul_assoc]
    exact Nat.mul_le_mul_right _ (Nat.mul_le_mul_left _ (by omega))
theorem mem_grow {p : Iv} {f : List (List Int)} {r : List Int} {x : Int} : r ++ [x] ∈ grow p f ↔ r ∈ f ∧ p.1 ≤ x ∧ x ≤ p.2 := by
  unfold grow
  simp only [List.mem_flatMap, List.mem_map, mem_rg]
  constructor
  · rintro ⟨a, ha, y, hy, e⟩
    have := List.append_inj' e rfl
    obtain ⟨rfl, e2⟩ := this
    cases e2
    exact ⟨ha, hy⟩
  · rintro ⟨h1, h2⟩; exact ⟨r, h1, x, h2, rfl⟩
def inCell : List Iv → List Int → Bool
  | [], [] => true
  | p :: c, x :: r => decide (p.1 ≤ x) && decide (x ≤ p.2) && inCell c r
  | _, _ => false
theorem mem_casesG : ∀ (c : List Iv) (f : List (List Int)) (a b : List Int), a ++ b ∈ casesG c f ∧ b.length = c.length ↔ a ∈ f ∧ inCell c b = true := by
  intro c
  induction c with
  | nil =>
    intro f a b
    cases b with
    | nil => simp [casesG, inCell]
    | cons x b => simp [inCell]
  | cons p c ih =>
    intro f a b
    cases b with
    | nil => simp [inCell]
    | cons x b =>
      have h := ih (grow p f) (a ++ [x]) b
      rw [mem_grow] at h
      simp only [List.append_assoc, List.singleton_append] at h
      simp only [casesG, inCell, List.length_cons, Nat.add_right_cancel_iff, h, Bool.and_eq_true, decide_eq_true_eq, and_assoc]
theorem mem_cases (c : List Iv) (b : List Int) (h : b.length = c.length) : decide (b ∈ cases c) = inCell c b := by
  have := mem_casesG c [[]] [] b
  simp only [List.nil_append, List.mem_singleton, true_and, h, and_true] at this
  rw [Bool.eq_iff_iff, decide_eq_true_eq]
  exact this
theorem casesG_filter {p : List Int → Bool} : ∀ (c : List Iv) (f : List (List Int)), (∀ r ∈ f, ∀ s, p (r ++ s) = p r) → casesG c (f.filter p) = (casesG c f).filter p := by
  intro c
  induction c with
  | nil => intro f _; rfl
  | cons q c ih =>
    intro f h
    have e : grow q (f.filter p) = (grow q f).filter p := by
      unfold grow
      clear ih
      induction f with
      | nil => rfl
      | cons r f ihf =>
        have h1 := ihf fun r hr => h r (by simp [hr])
        have h2 : ∀ x, p (r ++ [x]) = p r := fun x => h r (by simp) [x]
        rw [List.flatMap_cons, List.filter_append, ← h1, List.filter_map]
        cases hr : p r with
        | true =>
          rw [List.filter_cons, hr, if_pos rfl, List.flatMap_cons]
          congr 1
          rw [List.filter_eq_self.mpr]
          intro x _
          simp [h2, hr]
        | false =>
          have e3 : (rg q.1 q.2).filter (p ∘ fun x => r ++ [x]) = [] := List.filter_eq_nil_iff.mpr fun x _ => by simp [h2, hr]
          rw [List.filter_cons, hr, if_neg (by decide), e3]; rfl
    show casesG c (grow q (f.filter p)) = (casesG c (grow q f)).filter p
    rw [e, ih]
    intro r hr s
    unfold grow at hr
    simp only [List.mem_flatMap, List.mem_map] at hr
    obtain ⟨a, ha, x, _, rfl⟩ := hr
    rw [List.append_assoc, h a ha, h a ha]
theorem casesG_app (a b : List Iv) (f : List (List Int)) : casesG (a ++ b) f = casesG b (casesG a f) := by
  induction a generalizing f with
  | nil => rfl
  | cons p a ih => exact ih _
end Q
/-! Laws' drawn facts and cells. -/
namespace Q
open PySem
def i__law_facts_r0 : ISs := (.cons (.app 3 (.tup (.cons (.idx (.loc 2) (.loc 4)) (.cons (.cst (.int 0)) (.cons (.bin .sub (.blt "len" (.cons (.loc 5) .nil)) (.cst (.int 1))) (.cons (.loc 5) .nil))))))
  .nil)
def i__law_facts_r1 : ISs := (.cons (.app 3 (.tup (.cons (.idx (.loc 2) (.loc 4)) (.cons (.loc 6) (.cons (.bin .add (.loc 6) (.call "_law_draw" (.cons (.loc 0) (.cons (.cst (.int 5)) .nil)))) (.cons (.tup .nil) .nil))))))
  .nil)
def i__law_facts_b0 : ISs := (.cons (.ifs (.cmp .eq (.call "_law_draw" (.cons (.loc 0) (.cons (.cst (.int 3)) .nil))) (.cst (.int 0))) (.cons (.asg (.nm 5) (.slcE (.tup (.cons (.cst (.str "no")) (.cons (.cst (.str "so")) (.cons (.cst (.str "yes")) .nil)))) .no (.so (.bin .add (.cst (.int 2)) (.call "_law_draw" (.cons (.loc 0) (.cons (.cst (.int 2)) .nil)))))))
  i__law_facts_r0) (.cons (.asg (.nm 6) (.bin .sub (.call "_law_draw" (.cons (.loc 0) (.cons (.cst (.int 6)) .nil))) (.cst (.int 3))))
  i__law_facts_r1))
  .nil)
def i__law_facts_r2 : ISs := (.cons (.ret (.blt "tuple" (.cons (.loc 3) .nil)))
  .nil)
def i__law_facts : ISs := (.cons (.asg (.nm 2) (.tup (.cons (.cst (.str "aa")) (.cons (.cst (.str "bb")) (.cons (.cst (.str "cc")) (.cons (.cst (.str "dd")) .nil))))))
  (.cons (.asg (.nm 3) (.lst .nil))
  (.cons (.fors (.nm 4) (.rng (.cst (.int 0)) (.call "_law_draw" (.cons (.loc 0) (.cons (.bin .add (.loc 1) (.cst (.int 1))) .nil)))) i__law_facts_b0)
  i__law_facts_r2)))
def f__law_facts : FD := ⟨2, 7, i__law_facts, false⟩
def i__law_cases_b1 : ISs := (.cons (.asg (.nm 3) (.bin .add (.loc 3) (.comp (.bin .add (.loc 4) (.tup (.cons (.loc 5) .nil))) (.nm 5) (.rng (.idx (.loc 2) (.cst (.int 1))) (.bin .add (.idx (.loc 2) (.cst (.int 2))) (.cst (.int 1)))) .yes [5])))
  .nil)
def i__law_cases_r0 : ISs := (.cons (.asg (.nm 1) (.loc 3))
  .nil)
def i__law_cases_b0 : ISs := (.cons (.asg (.nm 3) (.lst .nil))
  (.cons (.fors (.nm 4) (.seq (.loc 1)) i__law_cases_b1)
  i__law_cases_r0))
def i__law_cases_r1 : ISs := (.cons (.ret (.loc 1))
  .nil)
def i__law_cases : ISs := (.cons (.asg (.nm 1) (.lst (.cons (.tup .nil) .nil)))
  (.cons (.fors (.nm 2) (.seq (.loc 0)) i__law_cases_b0)
  i__law_cases_r1))
def f__law_cases : FD := ⟨1, 6, i__law_cases, false⟩
def i__law_whole : ISs := (.cons (.ret (.blt "tuple" (.cons (.comp (.tup (.cons (.idx (.loc 1) (.cst (.int 1))) (.cons (.idx (.loc 1) (.cst (.int 2))) .nil))) (.nm 1) (.seq (.loc 0)) .yes [1]) .nil)))
  .nil)
def f__law_whole : FD := ⟨1, 2, i__law_whole, false⟩
def i__law_cell_r0 : ISs := (.cons (.app 2 (.tup (.cons (.loc 4) (.cons (.bin .add (.loc 4) (.call "_law_draw" (.cons (.loc 0) (.cons (.bin .add (.bin .sub (.idx (.loc 3) (.cst (.int 2))) (.loc 4)) (.cst (.int 1))) .nil)))) .nil))))
  .nil)
def i__law_cell_b0 : ISs := (.cons (.asg (.nm 4) (.bin .add (.idx (.loc 3) (.cst (.int 1))) (.call "_law_draw" (.cons (.loc 0) (.cons (.bin .add (.bin .sub (.idx (.loc 3) (.cst (.int 2))) (.idx (.loc 3) (.cst (.int 1)))) (.cst (.int 1))) .nil)))))
  i__law_cell_r0)
def i__law_cell_r1 : ISs := (.cons (.ret (.blt "tuple" (.cons (.loc 2) .nil)))
  .nil)
def i__law_cell : ISs := (.cons (.asg (.nm 2) (.lst .nil))
  (.cons (.fors (.nm 3) (.seq (.loc 1)) i__law_cell_b0)
  i__law_cell_r1))
def f__law_cell : FD := ⟨2, 5, i__law_cell, false⟩
def i__law_cases_in : ISs := (.cons (.ret (.call "_law_cases" (.cons (.comp (.tup (.cons (.cst (.str "x")) (.cons (.loc 1) (.cons (.loc 2) (.cons (.tup .nil) .nil))))) (.tp [(.nm 1), (.nm 2)]) (.seq (.loc 0)) .yes [1, 2]) .nil)))
  .nil)
def f__law_cases_in : FD := ⟨1, 3, i__law_cases_in, false⟩
section
variable {T : Str → Option FD}
/-- facts -/
structure Fc where
  n : D
  lo : Int
  hi : Int
  w : D
def Fc.d (f : Fc) : D := .tup [f.n, .int f.lo, .int f.hi, f.w]
def Fc.iv (f : Fc) : Iv := (f.lo, f.hi)
def Fc.ok (f : Fc) : Prop := -3 ≤ f.lo ∧ f.lo ≤ f.hi ∧ f.hi ≤ f.lo + 4 ∧ f.lo ≤ 2
theorem w_lwhole (hT : T "_law_whole" = some f__law_whole) {k : Nat} {S : Sto} {P : D → Sto → Prop} {fs : List Fc} (hc : fs.length ≤ 1000)
  (h : P (.tup ((fs.map Fc.iv).map pr)) S) : Cl T (k + 1) "_law_whole" [.tup (fs.map Fc.d)] S P := by
  refine ⟨_, hT, rfl, ?_⟩
  simp_arith only [f__law_whole, i__law_whole]
  refine ⟨by simp, compL_m Fc.d (fun f => pr f.iv) fs (by rw [sizeL]; omega) ?_ (by rw [List.map_map] at h; exact h)⟩
  intro x hx K acc hac hK
  simp_arith only [Fc.d]
  exact ⟨hac, hK⟩
/-- what _law_cases walks -/
def fseq (x : D) (fs : List Fc) : Prop := x = .tup (fs.map Fc.d) ∨ x = .lst (fs.map Fc.d)
theorem w_law_cases (hT : T "_law_cases" = some f__law_cases) {k : Nat} {S : Sto} {P : D → Sto → Prop} {fs : List Fc} {y : D} (hy : fseq y fs) (hc : fs.length ≤ 3) (hb : ∀ f ∈ fs, -100 ≤ f.lo ∧ f.lo ≤ 100 ∧ f.hi + 1 - f.lo ≤ 5 ∧ -100 ≤ f.hi)
  (h : P (.lst ((cases (fs.map Fc.iv)).map rowD)) S) : Cl T (k + 1) "_law_cases" [y] S P := by
  refine ⟨_, hT, rfl, ?_⟩
  simp_arith only [f__law_cases, i__law_cases]
  have inner : ∀ (f l : List (List Int)) (y q u : D) (p : Fc) (s4 : Sl) (Z : Ends), (-100 ≤ p.lo ∧ p.lo ≤ 100 ∧ p.hi + 1 - p.lo ≤ 5 ∧ -100 ≤ p.hi) → l.length + 5 * f.length ≤ 10000 → (∀ r ∈ f, r.length ≤ 1000) → (∀ s4, Z.nx [.val y, .val q, .val p.d, .own (.lst ((l ++ grow p.iv f).map rowD)), s4, .no] S) → forL (wG (.nm 4)) (wSs (Cl T k) i__law_cases_b1) Z (f.map rowD) [.val y, .val q, .val p.d, .own (.lst (l.map rowD)), s4, .no] S := by
    intro f
    induction f with
    | nil => intro l y q u p s4 Z _ _ _ h; simpa [forL, grow] using h s4
    | cons r f ih =>
      intro l y q u p s4 Z hp hl hr h
      have l1 : lim62 p.lo := by unfold lim62; omega
      have l2 : lim62 (p.hi + 1) := by unfold lim62; omega
      simp only [List.length_cons] at hl
      have hrg := rg_len p.lo p.hi
      simp_arith only [List.map_cons, forL, i__law_cases_b1, Fc.d, l1, l2]
      refine ⟨by simp, ?_⟩
      rw [rng_rg]
      refine compL_m D.int (fun x => rowD (r ++ [x])) _ (by rw [rg_len, sizeL]; omega) ?_ ?_
      · intro x hx K acc hac hK
        simp_arith only [rowD]
        refine ⟨by have := hr r (by simp); simp [sizeL]; omega, hac, ?_⟩
        simpa [rowD] using hK
      · refine ⟨by simp [hrg, sizeL]; omega, ?_⟩
        have := ih (l ++ (rg p.lo p.hi).map fun x => r ++ [x]) y q u p (.val (rowD r)) Z hp (by simp [hrg]; omega) (fun q hq => hr q (by simp [hq])) (fun s4 => by
          have := h s4
          unfold grow at this ⊢
          rw [List.flatMap_cons, ← List.append_assoc] at this
          exact this)
        simp only [Fc.d, List.map_append, List.map_map] at this
        exact this
  have loop : ∀ (fs : List Fc) (f : List (List Int)) (n : Nat) (y : D) (s1 s2 s3 s4 : Sl), (s1 = .val (.lst (f.map rowD)) ∨ s1 = .own (.lst (f.map rowD))) → (∀ f ∈ fs, -100 ≤ f.lo ∧ f.lo ≤ 100 ∧ f.hi + 1 - f.lo ≤ 5 ∧ -100 ≤ f.hi) → f.length * 5 ^ fs.length ≤ 1000 → (∀ r ∈ f, r.length = n) → n + fs.length ≤ 1000 → P (.lst ((casesG (fs.map Fc.iv) f).map rowD)) S → forL (wG (.nm 2)) (wSs (Cl T k) i__law_cases_b0) { nx := fun L1 S1 => wSs (Cl T k) i__law_cases_r1 L1 S1 { nx := fun x S1 => P D.non S1, rt := P }, rt := P } (fs.map Fc.d) [.val y, s1, s2, s3, s4, .no] S := by
    intro fs
    induction fs with
    | nil =>
      intro f n y s1 s2 s3 s4 h1 _ _ _ _ h
      rcases h1 with rfl | rfl
      · simp_arith only [List.map_nil, forL, i__law_cases_r1]; exact h
      · simp_arith only [List.map_nil, forL, i__law_cases_r1]; exact h
    | cons p fs ih =>
      intro f n y s1 s2 s3 s4 h1 hb hf hn hn2 h
      have hp := hb p (by simp)
      simp only [List.length_cons, Nat.pow_succ] at hf hn2
      have h5 : 0 < 5 ^ fs.length := Nat.pow_pos (by decide)
      have hg : (grow p.iv f).length ≤ f.length * 5 := by rw [grow_len]; exact Nat.mul_le_mul_left _ (by simp only [Fc.iv]; omega)
      have hg2 : (grow p.iv f).length * 5 ^ fs.length ≤ 1000 := by
        refine Nat.le_trans (Nat.mul_le_mul_right _ hg) ?_
        rw [Nat.mul_assoc, Nat.mul_comm 5]; exact hf
      have hf2 : f.length ≤ 1000 := by
        refine Nat.le_trans ?_ hf
        exact Nat.le_mul_of_pos_right _ (Nat.mul_pos h5 (by decide))
      have fin : ∀ q : D, forL (wG (.nm 4)) (wSs (Cl T k) i__law_cases_b1) { nx := fun L1 S1 => wSs (Cl T k) i__law_cases_r0 L1 S1 { nx := fun L2 S2 => forL (wG (.nm 2)) (wSs (Cl T k) i__law_cases_b0) { nx := fun L1 S1 => wSs (Cl T k) i__law_cases_r1 L1 S1 { nx := fun x S1 => P D.non S1, rt := P }, rt := P } (fs.map Fc.d) L2 S2, rt := P, bk := fun L1 S1 => wSs (Cl T k) i__law_cases_r1 L1 S1 { nx := fun x S1 => P D.non S1, rt := P }, ct := fun L2 S2 => forL (wG (.nm 2)) (wSs (Cl T k) i__law_cases_b0) { nx := fun L1 S1 => wSs (Cl T k) i__law_cases_r1 L1 S1 { nx := fun x S1 => P D.non S1, rt := P }, rt := P } (fs.map Fc.d) L2 S2 }, rt := P, bk := fun L1 S1 => wSs (Cl T k) i__law_cases_r1 L1 S1 { nx := fun x S1 => P D.non S1, rt := P }, ct := fun L2 S2 => forL (wG (.nm 2)) (wSs (Cl T k) i__law_cases_b0) { nx := fun L1 S1 => wSs (Cl T k) i__law_cases_r1 L1 S1 { nx := fun x S1 => P D.non S1, rt := P }, rt := P } (fs.map Fc.d) L2 S2 } (f.map rowD) [.val y, .val q, .val p.d, .own (.lst []), s4, .no] S := fun q => by
        refine inner f [] y q q p s4 _ hp (by simp; omega) (fun r hr => by have := hn r hr; omega) fun s4 => ?_
        simp_arith only [i__law_cases_r0]
        exact ih (grow p.iv f) (n + 1) y _ _ _ _ (.inl rfl) (fun q hq => hb q (by simp [hq])) hg2 (grow_row hn) (by omega) h
      rcases h1 with rfl | rfl
      · simp_arith only [List.map_cons, forL, i__law_cases_b0]
        exact fin _
      · simp_arith only [List.map_cons, forL, i__law_cases_b0]
        exact fin _
  have h5 : 5 ^ fs.length ≤ 5 ^ 3 := Nat.pow_le_pow_right (by decide) hc
  have l0 := loop fs [[]] 0 y (.own (.lst ([[]].map rowD))) .no .no .no (.inr rfl) hb (by simp; omega) (by simp) (by omega) h
  rcases hy with rfl | rfl
  · exact l0
  · exact l0

theorem w_law_cases_in (hT : T "_law_cases_in" = some f__law_cases_in) (hC : T "_law_cases" = some f__law_cases) {k : Nat} {S : Sto} {P : D → Sto → Prop} {c : List Iv} (hc : c.length ≤ 3) (hb : ∀ p ∈ c, -100 ≤ p.1 ∧ p.1 ≤ 100 ∧ p.2 + 1 - p.1 ≤ 5 ∧ -100 ≤ p.2)
  (h : P (.lst ((cases c).map rowD)) S) : Cl T (k + 2) "_law_cases_in" [cellD c] S P := by
  refine ⟨_, hT, rfl, ?_⟩
  simp_arith only [f__law_cases_in, i__law_cases_in, cellD]
  refine ⟨by simp, compL_m pr (fun p : Iv => Fc.d ⟨.str "x", p.1, p.2, .tup []⟩) c (by rw [sizeL]; omega) ?_ ?_⟩
  · intro x hx K acc hac hK
    simp_arith only [pr]
    exact ⟨hac, hK⟩
  · have e : (c.map fun p : Iv => (⟨.str "x", p.1, p.2, .tup []⟩ : Fc)).map Fc.iv = c := by
      rw [List.map_map]; exact List.map_id'' (fun _ => rfl) c
    refine w_law_cases hC (fs := c.map fun p : Iv => ⟨.str "x", p.1, p.2, .tup []⟩) (.inr (by rw [List.map_map]; rfl)) (by simpa using hc) (fun f hf => ?_) ?_
    · obtain ⟨p, hp, rfl⟩ := List.mem_map.mp hf
      exact hb p hp
    · rw [e]
      exact h
theorem pow9 {n : Int} (h0 : 0 ≤ n) (h : n ≤ 1000) : n.natAbs < 2 ^ 9000 := Nat.lt_of_lt_of_le (show n.natAbs < 2 ^ 10 by omega) (Nat.pow_le_pow_right (by decide) (by decide))
theorem w_law_facts (hT : T "_law_facts" = some f__law_facts) (hD : T "_law_draw" = some f__law_draw) (hSp : T "_law_spread" = some f__law_spread) {k : Nat} {S : Sto} {P : D → Sto → Prop} (hS : Pool S)
  (h : ∀ (fs : List Fc) S', fs.length ≤ 3 → (∀ f ∈ fs, f.ok) → Pool S' → P (.tup (fs.map Fc.d)) S') : Cl T (k + 3) "_law_facts" [.obj 0, .int 3] S P := by
  refine ⟨_, hT, rfl, ?_⟩
  simp_arith only [f__law_facts, i__law_facts]
  have nm : ∀ j : Nat, j < 4 → ∃ n, L2.atI [D.str "aa", .str "bb", .str "cc", .str "dd"] (j : Int) = some n := fun j hj => by
    have : j < [D.str "aa", .str "bb", .str "cc", .str "dd"].length := hj
    exact ⟨_, atN (List.getElem?_eq_getElem this)⟩
  have loop : ∀ (ks : List Nat) (fs : List Fc) (s4 s5 s6 : Sl) (S : Sto), Pool S → (∀ j ∈ ks, j < 4) → fs.length + ks.length ≤ 3 → (∀ f ∈ fs, f.ok) → forL (wG (.nm 4)) (wSs (Cl T (k + 2)) i__law_facts_b0) { nx := fun L1 S1 => wSs (Cl T (k + 2)) i__law_facts_r2 L1 S1 { nx := fun x S1 => P D.non S1, rt := P }, rt := P } (ks.map fun (j : Nat) => D.int (j : Int)) [.val (.obj 0), .val (.int 3), .val (.tup [.str "aa", .str "bb", .str "cc", .str "dd"]), .own (.lst (fs.map Fc.d)), s4, s5, s6] S := by
    intro ks
    induction ks with
    | nil =>
      intro fs s4 s5 s6 S hS _ hl hf
      simp_arith only [List.map_nil, forL, i__law_facts_r2]
      exact h fs S (by simpa using hl) hf hS
    | cons j ks ih =>
      intro fs s4 s5 s6 S hS hj hl hf
      obtain ⟨n, en⟩ := nm j (hj j (by simp))
      simp only [List.length_cons] at hl
      simp_arith only [List.map_cons, forL, i__law_facts_b0]
      apply w_draw hD hSp hS (by decide) (pow9 (by decide) (by decide))
      intro v S1 v0 v1 hS1
      simp_arith only [true_and]
      refine iteI (fun hb => ?_) (fun hb => ?_)
      · apply w_draw hD hSp hS1 (by decide) (pow9 (by decide) (by decide))
        intro v S1 v0 v1 hS1
        have hv : v = 0 ∨ v = 1 := by omega
        have fin : ∀ (m : Int) (w : D), m = 1 ∨ m = 2 → ∀ s5 : Sl, forL (wG (.nm 4)) (wSs (Cl T (k + 2)) i__law_facts_b0) { nx := fun L1 S1 => wSs (Cl T (k + 2)) i__law_facts_r2 L1 S1 { nx := fun x S1 => P D.non S1, rt := P }, rt := P } (ks.map fun (j : Nat) => D.int (j : Int)) [.val (.obj 0), .val (.int 3), .val (.tup [.str "aa", .str "bb", .str "cc", .str "dd"]), .own (.lst (fs.map Fc.d ++ [.tup [n, .int 0, .int m, w]])), .val (.int j), s5, s6] S1 := fun m w hm s5 => by
          have := ih (fs ++ [⟨n, 0, m, w⟩]) (.val (.int j)) s5 s6 S1 hS1 (fun i hi => hj i (by simp [hi])) (by simp; omega) (by
            intro f hf1
            rcases List.mem_append.mp hf1 with h1 | h1
            · exact hf f h1
            · rw [List.mem_singleton.mp h1]; unfold Fc.ok; dsimp only; omega)
          simpa [Fc.d] using this
        have hsz : (fs.map Fc.d).length < sizeLine := by simp [sizeL]; omega
        rcases hv with rfl | rfl
        · have e : cut [D.str "no", .str "so", .str "yes"] none (some (2 + 0)) = [.str "no", .str "so"] := rfl
          simp_arith only [e, i__law_facts_r0, en]
          exact ⟨hsz, fin _ _ (.inl rfl) _⟩
        · have e : cut [D.str "no", .str "so", .str "yes"] none (some (2 + 1)) = [.str "no", .str "so", .str "yes"] := rfl
          simp_arith only [e, i__law_facts_r0, en]
          exact ⟨hsz, fin _ _ (.inr rfl) _⟩
      · apply w_draw hD hSp hS1 (by decide) (pow9 (by decide) (by decide))
        intro v S1 v0 v1 hS1
        simp_arith only [i__law_facts_r1, en]
        apply w_draw hD hSp hS1 (by decide) (pow9 (by decide) (by decide))
        intro u S1 u0 u1 hS1
        simp_arith only [true_and]
        have hsz : (fs.map Fc.d).length < sizeLine := by simp [sizeL]; omega
        refine ⟨hsz, ?_⟩
        have := ih (fs ++ [⟨n, v - 3, v - 3 + u, .tup []⟩]) (.val (.int j)) s5 (.val (.int (v - 3))) S1 hS1 (fun i hi => hj i (by simp [hi])) (by simp; omega) (by
            intro f hf1
            rcases List.mem_append.mp hf1 with h1 | h1
            · exact hf f h1
            · rw [List.mem_singleton.mp h1]; unfold Fc.ok; dsimp only; omega)
        rw [List.map_append] at this
        exact this
  apply w_draw hD hSp hS (by decide) (pow9 (by decide) (by decide))
  intro v S1 v0 v1 hS1
  obtain ⟨m, rfl⟩ := Int.eq_ofNat_of_zero_le v0
  have l2 : lim62 (m : Int) := by unfold lim62; omega
  simp_arith only [lim_0, l2]
  rw [Int.sub_zero, Int.toNat_natCast, rng0]
  exact loop (List.range m) [] .no .no .no S1 hS1 (fun j hj => by have := List.mem_range.mp hj; omega) (by simp; omega) (by simp)
def sub (p q : Iv) : Prop := q.1 ≤ p.1 ∧ p.1 ≤ p.2 ∧ p.2 ≤ q.2
theorem w_law_cell (hT : T "_law_cell" = some f__law_cell) (hD : T "_law_draw" = some f__law_draw) (hSp : T "_law_spread" = some f__law_spread) {k : Nat} {S : Sto} {P : D → Sto → Prop} {fs : List Fc} (hS : Pool S) (hc : fs.length ≤ 3) (hf : ∀ f ∈ fs, f.ok)
  (h : ∀ (c : List Iv) S', c.length = fs.length → (∀ p ∈ c, -3 ≤ p.1 ∧ p.1 ≤ p.2 ∧ p.2 ≤ 6 ∧ p.2 + 1 - p.1 ≤ 5) → Pool S' → P (cellD c) S') : Cl T (k + 3) "_law_cell" [.obj 0, .tup (fs.map Fc.d)] S P := by
  refine ⟨_, hT, rfl, ?_⟩
  simp_arith only [f__law_cell, i__law_cell]
  have loop : ∀ (fs : List Fc) (c : List Iv) (y : D) (m : Nat) (s3 s4 : Sl) (S : Sto), Pool S → (∀ f ∈ fs, f.ok) → c.length + fs.length ≤ 3 → (∀ p ∈ c, -3 ≤ p.1 ∧ p.1 ≤ p.2 ∧ p.2 ≤ 6 ∧ p.2 + 1 - p.1 ≤ 5) → (∀ (c' : List Iv) S', c'.length = c.length + fs.length → (∀ p ∈ c', -3 ≤ p.1 ∧ p.1 ≤ p.2 ∧ p.2 ≤ 6 ∧ p.2 + 1 - p.1 ≤ 5) → Pool S' → P (cellD c') S') → forL (wG (.nm 3)) (wSs (Cl T (k + 2)) i__law_cell_b0) { nx := fun L1 S1 => wSs (Cl T (k + 2)) i__law_cell_r1 L1 S1 { nx := fun x S1 => P D.non S1, rt := P }, rt := P } (fs.map Fc.d) [.val (.obj 0), .val y, .own (.lst (c.map pr)), s3, s4] S := by
    intro fs
    induction fs with
    | nil =>
      intro c y m s3 s4 S hS _ _ hc h
      simp_arith only [List.map_nil, forL, i__law_cell_r1]
      exact h c S rfl hc hS
    | cons f fs ih =>
      intro c y m s3 s4 S hS hf hl hc h
      have hp := hf f (by simp)
      unfold Fc.ok at hp
      simp only [List.length_cons] at hl
      simp_arith only [List.map_cons, forL, i__law_cell_b0, Fc.d]
      apply w_draw hD hSp hS (by omega) (pow9 (by omega) (by omega))
      intro v S1 v0 v1 hS1
      simp_arith only [i__law_cell_r0]
      apply w_draw hD hSp hS1 (by omega) (pow9 (by omega) (by omega))
      intro u S1 u0 u1 hS1
      simp_arith only [true_and]
      have hsz : (c.map pr).length < sizeLine := by simp [sizeL]; omega
      refine ⟨hsz, ?_⟩
      have := ih (c ++ [(f.lo + v, f.lo + v + u)]) y m (.val (.tup [f.n, .int f.lo, .int f.hi, f.w])) (.val (.int (f.lo + v))) S1 hS1 (fun q hq => hf q (by simp [hq])) (by simp; omega) (by
          intro p hp1
          rcases List.mem_append.mp hp1 with h1 | h1
          · exact hc p h1
          · rw [List.mem_singleton.mp h1]; dsimp only; omega) (fun c' S' hl' => h c' S' (by simp at hl' ⊢; omega))
      rw [List.map_append] at this
      exact this
  exact loop fs [] _ 0 .no .no S hS hf (by simpa using hc) (by simp) (fun c' S' hl => h c' S' (by simpa using hl))

end
theorem okS_pairs (l : List Iv) (hl : l.length < 2 ^ 62) (n : Nat) : (D.tup (l.map pr)).okS (n + 3) := by
  refine ⟨by simpa using hl, fun d hd => ?_⟩
  obtain ⟨x, hx, rfl⟩ := List.mem_map.mp hd
  refine ⟨by simp, fun d hd => ?_⟩
  simp only [List.mem_cons, List.not_mem_nil, or_false] at hd
  rcases hd with rfl | rfl <;> exact True.intro
theorem okS_2 {a b : D} {n : Nat} (ha : a.okS n) (hb : b.okS n) : (D.lst [a, b]).okS (n + 1) := by
  refine ⟨by simp, fun d hd => ?_⟩
  simp only [List.mem_cons, List.not_mem_nil, or_false] at hd
  rcases hd with rfl | rfl <;> assumption
theorem cases_small {c : List Iv} (hc : c.length ≤ 3) (hb : ∀ p ∈ c, p.2 + 1 - p.1 ≤ 5) : (cases c).length ≤ 125 := by
  have h := casesG_len c [[]] 5 hb
  have h5 : 5 ^ c.length ≤ 5 ^ 3 := Nat.pow_le_pow_right (by decide) hc
  simp only [List.length_cons, List.length_nil] at h
  unfold cases
  omega
theorem okS_cases {c : List Iv} (hc : c.length ≤ 3) (hb : ∀ p ∈ c, p.2 + 1 - p.1 ≤ 5) (n : Nat) : (D.lst ((cases c).map rowD)).okS (n + 3) :=
  okS_rows _ (by have := cases_small hc hb; omega) (fun r hr => by have := cases_row r hr; omega) n
theorem cases_le {c : List Iv} {p : Nat} {lo hi at_ : Int} (hp : c[p]? = some (lo, hi)) (h1 : lo ≤ at_ + 1) (h2 : at_ ≤ hi) :
    cases (c.set p (lo, at_)) = (cases c).filter (fun r => decide (r.getD p 0 ≤ at_)) ∧ cases (c.set p (at_ + 1, hi)) = (cases c).filter (fun r => decide (at_ < r.getD p 0)) := by
  have hl : p < c.length := (List.getElem?_eq_some_iff.mp hp).1
  have e : c = c.take p ++ (lo, hi) :: c.drop (p + 1) := by
    have := List.getElem?_eq_some_iff.mp hp
    rw [← this.2, List.getElem_cons_drop, List.take_append_drop]
  have es : ∀ q : Iv, c.set p q = c.take p ++ q :: c.drop (p + 1) := fun q => by rw [List.set_eq_take_append_cons_drop, if_pos hl]
  have ht : (c.take p).length = p := by simp; omega
  have hrow : ∀ r ∈ casesG (c.take p) [[]], r.length = p := fun r hr => by
    have := casesG_row (c.take p) (f := [[]]) (n := 0) (by simp) r hr
    omega
  have key : ∀ (q : Int → Bool) (iv : Iv), (rg lo hi).filter q = rg iv.1 iv.2 → cases (c.set p iv) = (cases c).filter (fun r => q (r.getD p 0)) := by
    intro q iv hq
    have e2 : cases c = casesG (c.drop (p + 1)) (grow (lo, hi) (casesG (c.take p) [[]])) := by
      conv => lhs; rw [e]
      unfold cases
      rw [casesG_app]; rfl
    have e3 : cases (c.set p iv) = casesG (c.drop (p + 1)) (grow iv (casesG (c.take p) [[]])) := by
      rw [es]
      unfold cases
      rw [casesG_app]; rfl
    rw [e2, e3, ← casesG_filter]
    · congr 1
      generalize casesG (c.take p) [[]] = f at hrow
      unfold grow
      induction f with
      | nil => rfl
      | cons r f ih =>
        have hr := hrow r (by simp)
        rw [List.flatMap_cons, List.flatMap_cons, List.filter_append, ih fun r hr => hrow r (by simp [hr]), List.filter_map]
        congr 2
        rw [← hq]
        apply List.filter_congr
        intro x _
        simp [← hr]
    · intro r hr s
      unfold grow at hr
      simp only [List.mem_flatMap, List.mem_map] at hr
      obtain ⟨a, ha, x, _, rfl⟩ := hr
      have := hrow a ha
      simp [← this, List.getElem?_append]
  exact ⟨key _ (lo, at_) (rg_le h1 h2), key _ (at_ + 1, hi) (rg_gt h1 h2)⟩
end Q
/-! Trees of cells. -/
namespace Q
open PySem
def i_halves : ISs := (.cons (.asg (.tp [(.nm 3), (.nm 4)]) (.idx (.loc 0) (.loc 1)))
  (.cons (.ret (.tup (.cons (.bin .add (.bin .add (.slcE (.loc 0) .no (.so (.loc 1))) (.tup (.cons (.tup (.cons (.loc 3) (.cons (.loc 2) .nil))) .nil))) (.slcE (.loc 0) (.so (.bin .add (.loc 1) (.cst (.int 1)))) .no)) (.cons (.bin .add (.bin .add (.slcE (.loc 0) .no (.so (.loc 1))) (.tup (.cons (.tup (.cons (.bin .add (.loc 2) (.cst (.int 1))) (.cons (.loc 4) .nil))) .nil))) (.slcE (.loc 0) (.so (.bin .add (.loc 1) (.cst (.int 1)))) .no)) .nil))))
  .nil))
def f_halves : FD := ⟨3, 5, i_halves, false⟩
def i_leaves_of_r0 : ISs := (.cons (.ext 3 (.lst (.cons (.tup (.cons (.idx (.loc 4) (.cst (.int 4))) (.cons (.loc 7) .nil))) (.cons (.tup (.cons (.idx (.loc 4) (.cst (.int 3))) (.cons (.loc 6) .nil))) .nil))))
  .nil)
def i_leaves_of_b0 : ISs := (.cons (.pop (.tp [(.nm 4), (.nm 5)]) 3)
  (.cons (.ifs (.cmp .eq (.loc 4) (.cst (D.tup [D.str "leaf"]))) (.cons (.app 2 (.loc 5))
  .nil) (.cons (.asg (.tp [(.nm 6), (.nm 7)]) (.call "halves" (.cons (.loc 5) (.cons (.idx (.loc 4) (.cst (.int 1))) (.cons (.idx (.loc 4) (.cst (.int 2))) .nil)))))
  i_leaves_of_r0))
  .nil))
def i_leaves_of_r1 : ISs := (.cons (.ret (.loc 2))
  .nil)
def i_leaves_of : ISs := (.cons (.par 2 3 (.lst .nil) (.lst (.cons (.tup (.cons (.loc 0) (.cons (.loc 1) .nil))) .nil)))
  (.cons (.whl (.cmp .gt (.blt "len" (.cons (.loc 3) .nil)) (.cst (.int 0))) i_leaves_of_b0)
  i_leaves_of_r1))
def f_leaves_of : FD := ⟨2, 8, i_leaves_of, false⟩
def i__law_is_integer : ISs := (.cons (.ret (.and (.isa (.loc 0) "int") (.not (.isa (.loc 0) "bool"))))
  .nil)
def f__law_is_integer : FD := ⟨1, 1, i__law_is_integer, false⟩
def i__law_is_worded : ISs := (.cons (.ifs (.or (.not (.v (.isa (.loc 0) "tuple"))) (.cmp .ne (.blt "len" (.cons (.loc 0) .nil)) (.loc 2))) (.cons (.ret (.cst (.bl false)))
  .nil) .nil)
  (.cons (.ret (.and (.isa (.idx (.loc 0) (.cst (.int 0))) "str") (.cmp .eq (.idx (.loc 0) (.cst (.int 0))) (.loc 1))))
  .nil))
def f__law_is_worded : FD := ⟨3, 3, i__law_is_worded, false⟩
def i__law_leaves_r0 : ISs := (.cons (.ret (.ite (.or (.cmp .is (.loc 4) (.cst .non)) (.cmp .is (.loc 5) (.cst .non))) (.cst .non) (.bin .add (.loc 4) (.loc 5))))
  .nil)
def i__law_leaves_r1 : ISs := (.cons (.asg (.nm 5) (.call "_law_leaves" (.cons (.idx (.loc 0) (.cst (.int 4))) (.cons (.bin .add (.bin .add (.slcE (.loc 1) .no (.so (.loc 2))) (.tup (.cons (.tup (.cons (.bin .add (.loc 3) (.cst (.int 1))) (.cons (.idx (.idx (.loc 1) (.loc 2)) (.cst (.int 1))) .nil))) .nil))) (.slcE (.loc 1) (.so (.bin .add (.loc 2) (.cst (.int 1)))) .no)) .nil))))
  i__law_leaves_r0)
def i__law_leaves_r2 : ISs := (.cons (.par 2 3 (.idx (.loc 0) (.cst (.int 1))) (.idx (.loc 0) (.cst (.int 2))))
  (.cons (.ifs (.or (.cmp .lt (.loc 3) (.idx (.idx (.loc 1) (.loc 2)) (.cst (.int 0)))) (.cmp .ge (.loc 3) (.idx (.idx (.loc 1) (.loc 2)) (.cst (.int 1))))) (.cons (.ret (.cst .non))
  .nil) .nil)
  (.cons (.asg (.nm 4) (.call "_law_leaves" (.cons (.idx (.loc 0) (.cst (.int 3))) (.cons (.bin .add (.bin .add (.slcE (.loc 1) .no (.so (.loc 2))) (.tup (.cons (.tup (.cons (.idx (.idx (.loc 1) (.loc 2)) (.cst (.int 0))) (.cons (.loc 3) .nil))) .nil))) (.slcE (.loc 1) (.so (.bin .add (.loc 2) (.cst (.int 1)))) .no)) .nil))))
  i__law_leaves_r1)))
def i__law_leaves_r3 : ISs := (.cons (.ifs (.or (.not (.v (.call "_law_is_worded" (.cons (.loc 0) (.cons (.cst (.str "split")) (.cons (.cst (.int 5)) .nil)))))) (.or (.not (.v (.call "_law_is_integer" (.cons (.idx (.loc 0) (.cst (.int 1))) .nil)))) (.or (.not (.v (.call "_law_is_integer" (.cons (.idx (.loc 0) (.cst (.int 2))) .nil)))) (.or (.cmp .lt (.idx (.loc 0) (.cst (.int 1))) (.cst (.int 0))) (.cmp .ge (.idx (.loc 0) (.cst (.int 1))) (.blt "len" (.cons (.loc 1) .nil))))))) (.cons (.ret (.cst .non))
  .nil) .nil)
  i__law_leaves_r2)
def i__law_leaves : ISs := (.cons (.ifs (.and (.v (.isa (.loc 0) "tuple")) (.and (.cmp .eq (.blt "len" (.cons (.loc 0) .nil)) (.cst (.int 1))) (.v (.call "_law_same" (.cons (.loc 0) (.cons (.tup (.cons (.cst (.str "leaf")) .nil)) .nil)))))) (.cons (.ret (.lst (.cons (.loc 1) .nil)))
  .nil) .nil)
  i__law_leaves_r3)
def f__law_leaves : FD := ⟨2, 6, i__law_leaves, false⟩
def i__law_a_tree_r0 : ISs := (.cons (.ret (.tup (.cons (.cst (.str "split")) (.cons (.loc 4) (.cons (.loc 5) (.cons (.call "_law_a_tree" (.cons (.loc 0) (.cons (.bin .add (.bin .add (.slcE (.loc 1) .no (.so (.loc 4))) (.tup (.cons (.tup (.cons (.idx (.idx (.loc 1) (.loc 4)) (.cst (.int 0))) (.cons (.loc 5) .nil))) .nil))) (.slcE (.loc 1) (.so (.bin .add (.loc 4) (.cst (.int 1)))) .no)) (.cons (.bin .sub (.loc 2) (.cst (.int 1))) .nil)))) (.cons (.call "_law_a_tree" (.cons (.loc 0) (.cons (.bin .add (.bin .add (.slcE (.loc 1) .no (.so (.loc 4))) (.tup (.cons (.tup (.cons (.bin .add (.loc 5) (.cst (.int 1))) (.cons (.idx (.idx (.loc 1) (.loc 4)) (.cst (.int 1))) .nil))) .nil))) (.slcE (.loc 1) (.so (.bin .add (.loc 4) (.cst (.int 1)))) .no)) (.cons (.bin .sub (.loc 2) (.cst (.int 1))) .nil)))) .nil)))))))
  .nil)
def i__law_a_tree_r1 : ISs := (.cons (.asg (.nm 5) (.bin .add (.idx (.idx (.loc 1) (.loc 4)) (.cst (.int 0))) (.call "_law_draw" (.cons (.loc 0) (.cons (.bin .sub (.idx (.idx (.loc 1) (.loc 4)) (.cst (.int 1))) (.idx (.idx (.loc 1) (.loc 4)) (.cst (.int 0)))) .nil)))))
  i__law_a_tree_r0)
def i__law_a_tree_r2 : ISs := (.cons (.asg (.nm 4) (.call "_law_pick" (.cons (.loc 0) (.cons (.loc 3) .nil))))
  i__law_a_tree_r1)
def i__law_a_tree_r3 : ISs := (.cons (.ifs (.or (.cmp .eq (.loc 2) (.cst (.int 0))) (.or (.cmp .eq (.blt "len" (.cons (.loc 3) .nil)) (.cst (.int 0))) (.cmp .eq (.call "_law_draw" (.cons (.loc 0) (.cons (.cst (.int 4)) .nil))) (.cst (.int 0))))) (.cons (.ret (.tup (.cons (.cst (.str "leaf")) .nil)))
  .nil) .nil)
  i__law_a_tree_r2)
def i__law_a_tree : ISs := (.cons (.asg (.nm 3) (.comp (.loc 4) (.nm 4) (.rng (.cst (.int 0)) (.blt "len" (.cons (.loc 1) .nil))) (.cmp .lt (.idx (.idx (.loc 1) (.loc 4)) (.cst (.int 0))) (.idx (.idx (.loc 1) (.loc 4)) (.cst (.int 1)))) [4]))
  i__law_a_tree_r3)
def f__law_a_tree : FD := ⟨3, 6, i__law_a_tree, false⟩
def i__law_full_tree_r0 : ISs := (.cons (.ifs (.cmp .eq (.blt "len" (.cons (.loc 1) .nil)) (.cst (.int 0))) (.cons (.ret (.tup (.cons (.cst (.str "leaf")) .nil)))
  .nil) .nil)
  (.cons (.par 2 3 (.idx (.loc 1) (.cst (.int 0))) (.idx (.idx (.loc 0) (.idx (.loc 1) (.cst (.int 0)))) (.cst (.int 0))))
  (.cons (.ret (.tup (.cons (.cst (.str "split")) (.cons (.loc 2) (.cons (.loc 3) (.cons (.call "_law_full_tree" (.cons (.bin .add (.bin .add (.slcE (.loc 0) .no (.so (.loc 2))) (.tup (.cons (.tup (.cons (.loc 3) (.cons (.loc 3) .nil))) .nil))) (.slcE (.loc 0) (.so (.bin .add (.loc 2) (.cst (.int 1)))) .no)) .nil)) (.cons (.call "_law_full_tree" (.cons (.bin .add (.bin .add (.slcE (.loc 0) .no (.so (.loc 2))) (.tup (.cons (.tup (.cons (.bin .add (.loc 3) (.cst (.int 1))) (.cons (.idx (.idx (.loc 0) (.loc 2)) (.cst (.int 1))) .nil))) .nil))) (.slcE (.loc 0) (.so (.bin .add (.loc 2) (.cst (.int 1)))) .no)) .nil)) .nil)))))))
  .nil)))
def i__law_full_tree : ISs := (.cons (.asg (.nm 1) (.comp (.loc 2) (.nm 2) (.rng (.cst (.int 0)) (.blt "len" (.cons (.loc 0) .nil))) (.cmp .lt (.idx (.idx (.loc 0) (.loc 2)) (.cst (.int 0))) (.idx (.idx (.loc 0) (.loc 2)) (.cst (.int 1)))) [2]))
  i__law_full_tree_r0)
def f__law_full_tree : FD := ⟨1, 4, i__law_full_tree, false⟩

/-- parting a cell -/
structure CutAt (c : List Iv) (p : Nat) (lo hi : Int) : Prop where
  at_ : L2.atI (c.map pr) (p : Int) = some (.tup [.int lo, .int hi])
  l : cut (c.map pr) none (some (p : Int)) = (c.take p).map pr
  r : cut (c.map pr) (some ((p : Int) + 1)) none = (c.drop (p + 1)).map pr
  s : ∀ a b : Int, (c.take p).map pr ++ [.tup [.int a, .int b]] ++ (c.drop (p + 1)).map pr = (c.set p (a, b)).map pr
  a1 : (((c.take p).map pr).length + 1 ≤ sizeLine) = True
  a2 : ∀ x : D, (((c.take p).map pr ++ [x]).length + ((c.drop (p + 1)).map pr).length ≤ sizeLine) = True
theorem cutAt {c : List Iv} {p : Nat} {lo hi : Int} (hp : c[p]? = some (lo, hi)) (hc : c.length ≤ 1000) : CutAt c p lo hi := by
  have hl : p < c.length := (List.getElem?_eq_some_iff.mp hp).1
  refine ⟨atN (by rw [List.getElem?_map, hp]; rfl), by rw [cut_hi _ _ (by simp; omega), List.map_take], ?_, ?_, eq_true ?_, fun x => eq_true ?_⟩
  · have := cut_lo (c.map pr) (p + 1) (by simp; omega)
    rw [← List.map_drop] at this; exact this
  · intro a b
    rw [List.set_eq_take_append_cons_drop, if_pos hl]; simp [pr]
  · rw [sizeL]; simp; omega
  · rw [sizeL]; simp; omega
inductive Tre where
  | leaf
  | split (k : Nat) (a : Int) (l r : Tre)
namespace Tre
def d : Tre → D
  | leaf => .tup [.str "leaf"]
  | split k a l r => .tup [.str "split", .int k, .int a, l.d, r.d]
def fits : Tre → List Iv → Prop
  | leaf, _ => True
  | split k a l r, c => ∃ lo hi, c[k]? = some (lo, hi) ∧ lo ≤ a ∧ a < hi ∧ l.fits (c.set k (lo, a)) ∧ r.fits (c.set k (a + 1, hi))
def leaves : Tre → List Iv → List (List Iv)
  | leaf, c => [c]
  | split k a l r, c => l.leaves (c.set k ((c.getD k (0, 0)).1, a)) ++ r.leaves (c.set k (a + 1, (c.getD k (0, 0)).2))
def dep : Tre → Nat
  | leaf => 0
  | split _ _ l r => max l.dep r.dep + 1
def nl : Tre → Nat
  | leaf => 1
  | split _ _ l r => l.nl + r.nl
theorem leaves_len : ∀ (t : Tre) (c : List Iv), (t.leaves c).length = t.nl
  | leaf, _ => rfl
  | split k a l r, c => by simp [leaves, nl, leaves_len l, leaves_len r]
theorem getD_of {c : List Iv} {k : Nat} {p : Iv} (h : c[k]? = some p) : c.getD k (0, 0) = p := by
  rw [List.getD_eq_getElem?_getD, h]; rfl
theorem nl_pos : ∀ t : Tre, 0 < t.nl
  | leaf => Nat.one_pos
  | split _ _ l r => by have := nl_pos l; simp [nl]; omega
theorem okE : ∀ (t : Tre) (n : Nat), t.dep ≤ n → D.okE (n + 1) t.d := by
  intro t
  induction t with
  | leaf =>
    intro n _ d hd
    rw [List.mem_singleton.mp hd]
    cases n <;> (show PyData.canLay0 (.str "leaf") = true; decide +kernel)
  | split k a l r ihl ihr =>
    intro n hn d hd
    cases n with
    | zero => simp [dep] at hn
    | succ n =>
      simp only [dep] at hn
      simp only [List.mem_cons, List.not_mem_nil, or_false] at hd
      rcases hd with rfl | rfl | rfl | rfl | rfl
      · show PyData.canLay0 (.str "split") = true; decide +kernel
      · exact True.intro
      · exact True.intro
      · exact ihl n (by omega)
      · exact ihr n (by omega)
end Tre
theorem eq_leaf_no (k : Nat) (a : Int) (l r : Tre) : D.eq (Tre.split k a l r).d (.tup [.str "leaf"]) = false := by
  show D.eq (.tup _) (.tup _) = false
  rw [eq_tup]
  have : (("split" : Str) == ("leaf" : Str)) = false := by decide
  simp [eqAll, eq_str, this]
theorem eq_leaf_yes : D.eq Tre.leaf.d (.tup [.str "leaf"]) = true := by
  show D.eq (.tup _) (.tup _) = true
  rw [eq_tup]
  simp [eqAll, eq_str]
theorem eqQ_tree (t : Tre) (h : t.dep ≤ 60) : eqQ t.d (.tup [.str "leaf"]) = true := by
  have h1 := eqOk_of (t.okE t.dep (Nat.le_refl _)) (by omega)
  have h2 : (D.tup [.str "leaf"]).eqOk = true := eqOk_of (Tre.leaf.okE 0 (Nat.le_refl _)) (by decide)
  have : ∀ x : List D, eqQ (.tup x) (.tup [.str "leaf"]) = ((D.tup x).eqOk && (D.tup [.str "leaf"]).eqOk) := fun _ => rfl
  cases t with
  | leaf => simp only [Tre.d] at h1 ⊢; rw [this, h1]; rfl
  | split k a l r => simp only [Tre.d] at h1 ⊢; rw [this, h1, h2]; rfl
section
variable {T : Str → Option FD}
theorem w_halves (hT : T "halves" = some f_halves) {k : Nat} {S : Sto} {P : D → Sto → Prop} {c : List Iv} {p : Nat} {lo hi at_ : Int} (hp : c[p]? = some (lo, hi)) (hc : c.length ≤ 1000)
  (h : P (.tup [cellD (c.set p (lo, at_)), cellD (c.set p (at_ + 1, hi))]) S) : Cl T (k + 1) "halves" [cellD c, .int p, .int at_] S P := by
  refine ⟨_, hT, rfl, ?_⟩
  have C := cutAt hp hc
  simp_arith only [f_halves, i_halves, cellD, C.at_, C.l, C.r, C.s, C.a1, C.a2]
  exact h
def item (x : Tre × List Iv) : D := .tup [x.1.d, cellD x.2]
theorem w_leaves_of (hT : T "leaves_of" = some f_leaves_of) (hH : T "halves" = some f_halves) {k : Nat} {S : Sto} {P : D → Sto → Prop} {t : Tre} {c : List Iv} (hf : t.fits c) (hd : t.dep ≤ 60) (hn : t.nl ≤ 100000) (hc : c.length ≤ 1000)
  (h : P (.lst ((t.leaves c).map cellD)) S) : Cl T (k + 2) "leaves_of" [t.d, cellD c] S P := by
  refine ⟨_, hT, rfl, ?_⟩
  simp_arith only [f_leaves_of, i_leaves_of]
  refine ⟨fun m L S1 => S1 = S ∧ ∃ (acc : List (List Iv)) (st : List (Tre × List Iv)) (x y : D) (s4 s5 s6 s7 : Sl), L = [.val x, .val y, .own (.lst (acc.map cellD)), .own (.lst (st.reverse.map item)), s4, s5, s6, s7] ∧ (∀ q ∈ st, q.1.fits q.2 ∧ q.1.dep ≤ 60 ∧ q.2.length ≤ 1000) ∧ acc ++ st.flatMap (fun q => q.1.leaves q.2) = t.leaves c ∧ m = (st.map fun q => 2 * q.1.nl - 1).sum, ⟨_, rfl, [], [(t, c)], t.d, cellD c, .no, .no, .no, .no, rfl, ?_, ?_, rfl⟩, ?_⟩
  · intro q hq
    rw [List.mem_singleton.mp hq]
    exact ⟨hf, hd, hc⟩
  · simp
  · rintro m L S1 ⟨rfl, acc, st, x, y, s4, s5, s6, s7, rfl, hst, hac, rfl⟩
    have hlen := congrArg List.length hac
    rw [List.length_append, t.leaves_len] at hlen
    cases st with
    | nil =>
      simp_arith only [i_leaves_of_r1, List.reverse_nil]
      simp only [List.flatMap_nil, List.append_nil] at hac
      rw [hac]
      exact h
    | cons q st =>
      obtain ⟨q1, q2⟩ := q
      have hq := hst (q1, q2) (by simp)
      have hl1 : ((st.reverse ++ [(q1, q2)]).map item).length - 1 = (st.reverse.map item).length := by simp
      have hpos : (0 < (((st.reverse ++ [(q1, q2)]).map item).length : Int)) = True := eq_true (by rw [List.map_append, List.length_append]; simp only [List.map_cons, List.map_nil, List.length_cons, List.length_nil]; omega)
      have hget : ((st.reverse ++ [(q1, q2)]).map item)[((st.reverse ++ [(q1, q2)]).map item).length - 1]? = some (item (q1, q2)) := by
        rw [hl1, List.map_append]; simp
      have hdrop : ((st.reverse ++ [(q1, q2)]).map item).dropLast = st.reverse.map item := by
        rw [List.map_append]; simp
      rw [List.flatMap_cons, List.length_append, q1.leaves_len] at hlen
      rw [List.flatMap_cons] at hac
      simp_arith only [List.reverse_cons, hpos, i_leaves_of_b0, hget, hdrop, item, eqQ_tree q1 hq.2.1]
      cases q1 with
      | leaf =>
        simp_arith only [eq_leaf_yes]
        have h1 := Tre.nl_pos Tre.leaf
        refine ⟨by rw [sizeL, List.length_map]; omega, _, ?_, acc ++ [q2], st, x, y, _, _, _, _, by rw [List.map_append]; rfl, fun q hq => hst q (by simp [hq]), by simpa [Tre.leaves] using hac, rfl⟩
        rw [List.sum_cons]; simp only [Tre.nl]; omega
      | split k a l r =>
        obtain ⟨lo, hi, e, h1, h2, f1, f2⟩ := hq.1
        simp only at e f1 f2 hac
        have ed : (Tre.split k a l r).d = .tup [.str "split", .int k, .int a, l.d, r.d] := rfl
        have eg := Tre.getD_of e
        simp_arith only [eq_leaf_no]
        rw [ed]
        simp_arith only [true_and]
        refine w_halves hH e hq.2.2 ?_
        have hd2 := hq.2.1
        have n1 := l.nl_pos
        have n2 := r.nl_pos
        simp only [Tre.dep] at hd2
        simp only [Tre.leaves, eg] at hac
        simp only [Tre.nl] at hlen
        have hpl : st.length ≤ (st.flatMap fun q => q.1.leaves q.2).length := by
          clear hac hlen hst hget hdrop hl1 hpos
          induction st with
          | nil => simp
          | cons q st ih => rw [List.flatMap_cons, List.length_append, q.1.leaves_len, List.length_cons]; have := q.1.nl_pos; omega
        simp_arith only [i_leaves_of_r0]
        refine ⟨by rw [sizeL, List.length_map, List.length_reverse]; omega, _, ?_, acc, (l, q2.set k (lo, a)) :: (r, q2.set k (a + 1, hi)) :: st, x, y, _, _, _, _, by simp [item]; exact ⟨rfl, rfl, rfl, rfl⟩, ?_, ?_, rfl⟩
        · rw [List.map_cons, List.map_cons, List.sum_cons, List.sum_cons, List.sum_cons]; simp only [Tre.nl]; omega
        · intro q hq2
          simp only [List.mem_cons] at hq2
          rcases hq2 with rfl | rfl | hq2
          · exact ⟨f1, by dsimp only; omega, by simpa using hq.2.2⟩
          · exact ⟨f2, by dsimp only; omega, by simpa using hq.2.2⟩
          · exact hst q (by simp [hq2])
        · rw [List.flatMap_cons, List.flatMap_cons]
          simpa using hac

theorem w_is_integer (hT : T "_law_is_integer" = some f__law_is_integer) {N : Nat} (hN : 1 ≤ N) {S : Sto} {P : D → Sto → Prop} {i : Int} (h : P (.bl true) S) : Cl T N "_law_is_integer" [.int i] S P := by
  cases N with
  | zero => omega
  | succ N =>
    refine ⟨_, hT, rfl, ?_⟩
    simp_arith only [f__law_is_integer, i__law_is_integer]
    exact h
theorem w_is_worded (hT : T "_law_is_worded" = some f__law_is_worded) {N : Nat} (hN : 1 ≤ N) {S : Sto} {P : D → Sto → Prop} {w : Str} {l : List D} {n : Int} (hn : n = (l.length : Int) + 1) (h : P (.bl true) S) : Cl T N "_law_is_worded" [.tup (.str w :: l), .str w, .int n] S P := by
  cases N with
  | zero => omega
  | succ N =>
    refine ⟨_, hT, rfl, ?_⟩
    subst hn
    have e : ((((l.length + 1 : Nat) : Int) == (l.length : Int) + 1)) = true := by simp
    simp_arith only [f__law_is_worded, i__law_is_worded, e]
    have e2 : (w == w) = true := by simp
    simp only [e2]
    exact h
theorem pool_flat {S : Sto} (h : Pool S) : Sto.flat S = false := by
  obtain ⟨ns, i, v, c, s, rfl⟩ := h
  rfl
theorem w_pickL {k : Nat} {S : Sto} {P : D → Sto → Prop} (hP : T "_law_pick" = some f__law_pick) (hT : T "_law_draw" = some f__law_draw) (hS' : T "_law_spread" = some f__law_spread) {l : List D} (hS : Pool S) (h0 : l ≠ []) (h1 : l.length < 2 ^ 62) (h : ∀ v S', v ∈ l → Pool S' → P v S') : Cl T (k + 3) "_law_pick" [.obj 0, .lst l] S P := by
  refine ⟨_, hP, rfl, ?_⟩
  simp_arith only [f__law_pick, i__law_pick]
  have h0' : 0 < l.length := List.length_pos_iff.mpr h0
  apply w_draw hT hS' hS (by omega) (Nat.lt_of_lt_of_le (show (l.length : Int).natAbs < 2 ^ 62 by omega) (Nat.pow_le_pow_right (by decide) (by decide)))
  intro v S' v0 v1 hS
  obtain ⟨j, rfl⟩ := Int.eq_ofNat_of_zero_le v0
  have hj : j < l.length := by omega
  have e : L2.atI l (j : Int) = some l[j] := atN (List.getElem?_eq_getElem hj)
  simp_arith only [e]
  exact h _ _ (List.getElem_mem _) hS
theorem w_leaves (hT : T "_law_leaves" = some f__law_leaves) (hS : T "_law_same" = some f__law_same) (hW : T "_law_is_worded" = some f__law_is_worded) (hI : T "_law_is_integer" = some f__law_is_integer) {S : Sto} : ∀ (t : Tre) (c : List Iv) (N : Nat) (P : D → Sto → Prop), t.dep + 5 ≤ N → t.fits c → c.length ≤ 1000 → t.nl ≤ 100000 → P (.lst ((t.leaves c).map cellD)) S → Cl T N "_law_leaves" [t.d, cellD c] S P := by
  intro t
  induction t with
  | leaf =>
    intro c N P hN _ _ _ h
    cases N with
    | zero => omega
    | succ N =>
      refine ⟨_, hT, rfl, ?_⟩
      simp_arith only [f__law_leaves, i__law_leaves, Tre.d]
      obtain ⟨k, rfl⟩ : ∃ k, N = 3 + k := ⟨N - 3, by simp only [Tre.dep] at hN; omega⟩
      refine w_same hS 3 (x := .tup [.str "leaf"]) ⟨by simp, fun d hd => by rw [List.mem_singleton.mp hd]; exact True.intro⟩ ?_
      simp_arith only [true_and]
      exact h
  | split j a l r ihl ihr =>
    intro c N P hN hf hc hn h
    cases N with
    | zero => omega
    | succ N =>
      obtain ⟨lo, hi, e, h1, h2, f1, f2⟩ := hf
      have C := cutAt e hc
      have eg := Tre.getD_of e
      have hjl : j < c.length := (List.getElem?_eq_some_iff.mp e).1
      simp only [Tre.dep] at hN
      simp only [Tre.nl] at hn
      simp only [Tre.leaves, eg] at h
      have n1 : ((j : Int) < 0) = False := eq_false (by omega)
      have n2 : (((c.map pr).length : Int) ≤ (j : Int)) = False := eq_false (by rw [List.length_map]; omega)
      have n3 : (a < lo) = False := eq_false (by omega)
      have n4 : (hi ≤ a) = False := eq_false (by omega)
      refine ⟨_, hT, rfl, ?_⟩
      simp_arith only [f__law_leaves, i__law_leaves, i__law_leaves_r3, Tre.d]
      refine w_is_worded hW (by omega) rfl ?_
      simp_arith only [true_and]
      refine w_is_integer hI (by omega) ?_
      simp_arith only [true_and]
      refine w_is_integer hI (by omega) ?_
      simp_arith only [cellD, n1, n2, n3, n4, i__law_leaves_r2, C.at_, C.l, C.r, C.s, C.a1, C.a2]
      refine ihl (c.set j (lo, a)) N _ (by omega) f1 (by simpa using hc) (by omega) ?_
      simp_arith only [cellD, i__law_leaves_r1, C.at_, C.l, C.r, C.s, C.a1, C.a2]
      refine ihr (c.set j (a + 1, hi)) N _ (by omega) f2 (by simpa using hc) (by omega) ?_
      simp_arith only [i__law_leaves_r0]
      rw [List.map_append] at h
      exact ⟨by simp [Tre.leaves_len, sizeL]; omega, h⟩

theorem Tre.nl_le : ∀ t : Tre, t.nl ≤ 2 ^ t.dep
  | leaf => Nat.le_refl _
  | split _ _ l r => by
    have h1 := Tre.nl_le l
    have h2 := Tre.nl_le r
    have h3 : 2 ^ l.dep ≤ 2 ^ max l.dep r.dep := Nat.pow_le_pow_right (by decide) (Nat.le_max_left _ _)
    have h4 : 2 ^ r.dep ≤ 2 ^ max l.dep r.dep := Nat.pow_le_pow_right (by decide) (Nat.le_max_right _ _)
    simp only [Tre.nl, Tre.dep, Nat.pow_succ]
    omega
/-- the places of a cell that may be parted -/
def wide (c : List Iv) : List Nat := (List.range c.length).filter fun k => decide ((c.getD k (0, 0)).1 < (c.getD k (0, 0)).2)
theorem mem_wide {c : List Iv} {k : Nat} (h : k ∈ wide c) : ∃ lo hi, c[k]? = some (lo, hi) ∧ lo < hi := by
  unfold wide at h
  rw [List.mem_filter, List.mem_range] at h
  refine ⟨(c[k]'h.1).1, (c[k]'h.1).2, List.getElem?_eq_getElem h.1, ?_⟩
  have := of_decide_eq_true h.2
  rw [Tre.getD_of (List.getElem?_eq_getElem h.1)] at this
  exact this
/-- the numbers that a cell may be parted at -/
def wsum (c : List Iv) : Nat := (c.map fun p => (p.2 - p.1).toNat).sum
theorem wsum_set : ∀ (c : List Iv) (k : Nat) (p q : Iv), c[k]? = some p → wsum (c.set k q) + (p.2 - p.1).toNat = wsum c + (q.2 - q.1).toNat
  | [], k, p, q, h => by simp at h
  | x :: c, 0, p, q, h => by
    simp only [List.getElem?_cons_zero, Option.some.injEq] at h
    subst h
    simp [wsum]; omega
  | x :: c, k + 1, p, q, h => by
    have := wsum_set c k p q (by simpa using h)
    simp only [wsum, List.set_cons_succ, List.map_cons, List.sum_cons] at this ⊢
    omega
/-- widths that a draw may have -/
def draws (c : List Iv) : Prop := ∀ p ∈ c, p.2 - p.1 ≤ 1000
theorem draws_set {c : List Iv} {k : Nat} {q : Iv} (h : draws c) (hq : q.2 - q.1 ≤ 1000) : draws (c.set k q) := fun p hp => by
  rcases List.mem_or_eq_of_mem_set hp with h1 | rfl
  · exact h p h1
  · exact hq
theorem wide_comp {T : Str → Option FD} {k : Nat} {Lw : Lo} {S : Sto} {P : List D → Sto → Prop} {c : List Iv} {i j : Nat} (hc : c.length ≤ 1000)
    (hi : ∀ x, (Lw.set j (.val x))[i]? = some (.val (.tup (c.map pr)))) (hj : ∀ x, (Lw.set j x)[j]? = some x)
    (h : P ((wide c).map fun (k : Nat) => D.int (k : Int)) S) :
    compL (wG (.nm j)) (wT (Cl T k) (.cmp .lt (.idx (.idx (.loc i) (.loc j)) (.cst (.int 0))) (.idx (.idx (.loc i) (.loc j)) (.cst (.int 1))))) (wE (Cl T k) (.loc j)) Lw (rngList 0 c.length) S [] P := by
  rw [rng0]
  refine compL_fm (fun (k : Nat) => D.int (k : Int)) (fun (k : Nat) => D.int (k : Int)) (fun k => decide ((c.getD k (0, 0)).1 < (c.getD k (0, 0)).2)) _ [] ?_ ?_ h
  · have := List.length_filter_le (fun k => decide ((c.getD k (0, 0)).1 < (c.getD k (0, 0)).2)) (List.range c.length)
    rw [List.length_range] at this
    rw [sizeL]; simp only [List.length_nil, Nat.zero_add]; omega
  · intro m hm K acc hac hK
    have hm := List.mem_range.mp hm
    have e : L2.atI (c.map pr) (m : Int) = some (.tup [.int (c.getD m (0, 0)).1, .int (c.getD m (0, 0)).2]) := by
      refine atN ?_
      rw [List.getElem?_map, List.getElem?_eq_getElem hm, Tre.getD_of (List.getElem?_eq_getElem hm)]
      rfl
    simp_arith only [hi, hj, e]
    refine iteI (fun h => ?_) (fun h => ?_)
    · rw [if_pos (decide_eq_true h)] at hK
      exact ⟨hac (decide_eq_true h), hK⟩
    · rw [if_neg (by simpa using h)] at hK
      exact hK
section
variable {T : Str → Option FD}
theorem w_full_tree (hT : T "_law_full_tree" = some f__law_full_tree) {S : Sto} : ∀ (m : Nat) (c : List Iv) (N : Nat) (P : D → Sto → Prop), wsum c ≤ m → m < N → c.length ≤ 1000 → (∀ t : Tre, t.fits c → t.dep ≤ m → P t.d S) → Cl T N "_law_full_tree" [cellD c] S P := by
  intro m
  induction m with
  | zero =>
    intro c N P hm hN hc h
    cases N with
    | zero => omega
    | succ N =>
      have l1 : lim62 (((c.map pr).length : Nat) : Int) := by unfold lim62; simp; omega
      refine ⟨_, hT, rfl, ?_⟩
      simp_arith only [f__law_full_tree, i__law_full_tree, cellD, lim_0, l1, Int.sub_zero, Int.toNat_natCast]
      refine ⟨by simp, ?_⟩
      rw [List.length_map]
      refine wide_comp hc (fun _ => rfl) (fun _ => rfl) ?_
      have hw : wide c = [] := by
        rw [List.eq_nil_iff_forall_not_mem]
        intro k hk
        obtain ⟨lo, hi, e, h1⟩ := mem_wide hk
        have := wsum_set c k _ (0, 0) e
        simp only at this
        omega
      simp_arith only [hw, i__law_full_tree_r0]
      exact h .leaf True.intro (Nat.le_refl _)
  | succ m ih =>
    intro c N P hm hN hc h
    cases N with
    | zero => omega
    | succ N =>
      have l1 : lim62 (((c.map pr).length : Nat) : Int) := by unfold lim62; simp; omega
      refine ⟨_, hT, rfl, ?_⟩
      simp_arith only [f__law_full_tree, i__law_full_tree, cellD, lim_0, l1, Int.sub_zero, Int.toNat_natCast]
      refine ⟨by simp, ?_⟩
      rw [List.length_map]
      refine wide_comp hc (fun _ => rfl) (fun _ => rfl) ?_
      cases hw : wide c with
      | nil =>
        simp_arith only [i__law_full_tree_r0]
        exact h .leaf True.intro (Nat.zero_le _)
      | cons k w =>
        obtain ⟨lo, hi, e, h1⟩ := mem_wide (c := c) (k := k) (by rw [hw]; simp)
        have C := cutAt e hc
        have s1 := wsum_set c k _ (lo, lo) e
        have s2 := wsum_set c k _ (lo + 1, hi) e
        simp only at s1 s2
        have n0 : ((((w.map fun (k : Nat) => D.int (k : Int)).length + 1 : Nat) : Int) == 0) = false := by
          simp only [beq_eq_false_iff_ne, ne_eq]; omega
        simp_arith only [i__law_full_tree_r0, n0, C.at_, C.l, C.r, C.s, C.a1, C.a2]
        refine ih (c.set k (lo, lo)) N _ (by omega) (by omega) (by simpa using hc) fun t1 f1 d1 => ?_
        try simp_arith only [C.at_, C.l, C.r, C.s, C.a1, C.a2]
        refine ih (c.set k (lo + 1, hi)) N _ (by omega) (by omega) (by simpa using hc) fun t2 f2 d2 => ?_
        try simp_arith only [true_and]
        exact h (.split k lo t1 t2) ⟨lo, hi, e, Int.le_refl _, h1, f1, f2⟩ (by simp only [Tre.dep]; omega)
theorem w_a_tree (hT : T "_law_a_tree" = some f__law_a_tree) (hP : T "_law_pick" = some f__law_pick) (hD : T "_law_draw" = some f__law_draw) (hSp : T "_law_spread" = some f__law_spread) : ∀ (deep : Nat) (c : List Iv) (N : Nat) (S : Sto) (P : D → Sto → Prop), Pool S → deep + 6 ≤ N → c.length ≤ 1000 → draws c → (∀ (t : Tre) S', t.fits c → t.dep ≤ deep → Pool S' → P t.d S') → Cl T N "_law_a_tree" [.obj 0, cellD c, .int deep] S P := by
  intro deep
  induction deep with
  | zero =>
    intro c N S P hS hN hc hd h
    cases N with
    | zero => omega
    | succ N =>
      have l1 : lim62 (((c.map pr).length : Nat) : Int) := by unfold lim62; simp; omega
      refine ⟨_, hT, rfl, ?_⟩
      simp_arith only [f__law_a_tree, i__law_a_tree, cellD, lim_0, l1, Int.sub_zero, Int.toNat_natCast]
      refine ⟨by simp, ?_⟩
      rw [List.length_map]
      refine wide_comp hc (fun _ => rfl) (fun _ => rfl) ?_
      simp_arith only [i__law_a_tree_r3]
      exact h .leaf S True.intro (Nat.le_refl _) hS
  | succ deep ih =>
    intro c N S P hS hN hc hd h
    obtain ⟨N, rfl⟩ : ∃ M, N = M + 4 := ⟨N - 4, by omega⟩
    have l1 : lim62 (((c.map pr).length : Nat) : Int) := by unfold lim62; simp; omega
    have d0 : (((deep + 1 : Nat) : Int) == 0) = false := by
      simp only [beq_eq_false_iff_ne, ne_eq]; omega
    refine ⟨_, hT, rfl, ?_⟩
    simp_arith only [f__law_a_tree, i__law_a_tree, cellD, lim_0, l1, Int.sub_zero, Int.toNat_natCast]
    refine ⟨by simp, ?_⟩
    rw [List.length_map]
    refine wide_comp hc (fun _ => rfl) (fun _ => rfl) ?_
    simp_arith only [i__law_a_tree_r3, d0]
    refine iteI (fun hw => ?_) (fun hw => ?_)
    · exact h .leaf S True.intro (Nat.zero_le _) hS
    · apply w_draw hD hSp hS (by decide) (pow9 (by decide) (by decide))
      intro v S1 v0 v1 hS1
      simp_arith only [true_and]
      refine iteI (fun hv => ?_) (fun hv => ?_)
      · exact h .leaf S1 True.intro (Nat.zero_le _) hS1
      · simp_arith only [i__law_a_tree_r2]
        have own3 : ∀ (i : Nat), i ∈ [3] → ∃ d, [Sl.val (.obj 0), .val (.tup (c.map pr)), .val (.int ((deep + 1 : Nat) : Int)), .own (.lst ((wide c).map fun (k : Nat) => D.int (k : Int))), .no, .no][i]? = some (.own d) := fun i hi => by
          rw [List.mem_singleton.mp hi]; exact ⟨_, rfl⟩
        refine ⟨own3, ?_⟩
        have hne : (wide c).map (fun (k : Nat) => D.int (k : Int)) ≠ [] := by
          intro h; rw [h] at hw; exact hw rfl
        have hlw : (wide c).length ≤ c.length := by
          have := List.length_filter_le (fun k => decide ((c.getD k (0, 0)).1 < (c.getD k (0, 0)).2)) (List.range c.length)
          rw [List.length_range] at this
          exact this
        refine w_pickL hP hD hSp hS1 hne (by rw [List.length_map]; omega) ?_
        intro v S2 hv hS2
        obtain ⟨k, hk, rfl⟩ := List.mem_map.mp hv
        obtain ⟨lo, hi, e, h1⟩ := mem_wide hk
        have C := cutAt e hc
        have hdr := hd _ (List.mem_of_getElem? e)
        simp only at hdr
        simp_arith only [pool_flat hS2, reduceCtorEq, and_false, or_self, freezeAll, freezeAt, List.foldl_cons, List.foldl_nil, i__law_a_tree_r1, C.at_]
        apply w_draw hD hSp hS2 (by omega) (pow9 (by omega) (by omega))
        intro u S3 u0 u1 hS3
        have ed : ((deep + 1 : Nat) : Int) - 1 = (deep : Int) := by omega
        simp_arith only [i__law_a_tree_r0, C.at_, C.l, C.r, C.s, C.a1, C.a2, ed]
        refine ih (c.set k (lo, lo + u)) (N + 3) S3 _ hS3 (by omega) (by simpa using hc) (draws_set hd (by dsimp only; omega)) fun t1 S4 f1 e1 hS4 => ?_
        try simp_arith only [C.at_, C.l, C.r, C.s, C.a1, C.a2, ed]
        refine ih (c.set k (lo + u + 1, hi)) (N + 3) S4 _ hS4 (by omega) (by simpa using hc) (draws_set hd (by dsimp only; omega)) fun t2 S5 f2 e2 hS5 => ?_
        try simp_arith only [true_and]
        exact h (.split k (lo + u) t1 t2) S5 ⟨lo, hi, e, by omega, by omega, f1, f2⟩ (by simp only [Tre.dep]; omega) hS5
end
end
end Q
/-! Values of papers: odd ones, spots, bent ones. -/
namespace Q
open PySem
def i_is_integer : ISs := (.cons (.ret (.and (.isa (.loc 0) "int") (.not (.isa (.loc 0) "bool"))))
  .nil)
def f_is_integer : FD := ⟨1, 1, i_is_integer, false⟩
def i__law_put : ISs := (.cons (.ret (.bin .add (.bin .add (.slcE (.loc 0) .no (.so (.loc 1))) (.tup (.cons (.loc 2) .nil))) (.slcE (.loc 0) (.so (.bin .add (.loc 1) (.cst (.int 1)))) .no)))
  .nil)
def f__law_put : FD := ⟨3, 3, i__law_put, false⟩
def i__law_odd_values : ISs := (.cons (.ret (.lst (.cons (.cst .non) (.cons (.cst (.bl true)) (.cons (.cst (.bl false)) (.cons (.cst (.int 0)) (.cons (.cst (.int 1)) (.cons (.neg (.cst (.int 1))) (.cons (.cst (.str "")) (.cons (.cst (.str "ranking")) (.cons (.tup .nil) (.cons (.lst .nil) (.cons (.dct [] .nil) (.cons (.tup (.cons (.cst (.int 0)) .nil)) (.cons (.tup (.cons (.cst (.bl true)) .nil)) (.cons (.tup (.cons (.tup .nil) .nil)) (.cons (.lst (.cons (.cst (.int 0)) (.cons (.cst (.int 1)) .nil))) (.cons (.tup (.cons (.cst (.int 0)) (.cons (.cst (.int 0)) .nil))) (.cons (.tup (.cons (.cst (.int 1)) (.cons (.cst (.int 0)) (.cons (.cst (.int 2)) .nil)))) (.cons (.tup (.cons (.cst (.str "ranking")) .nil)) (.cons (.tup (.cons (.cst (.str "ranking")) (.cons (.tup .nil) .nil))) (.cons (.tup (.cons (.cst (.str "clash")) (.cons (.tup .nil) .nil))) (.cons (.tup (.cons (.cst (.str "ranking")) (.cons (.tup (.cons (.cst (.int 0)) (.cons (.cst (.int 1)) .nil))) (.cons (.cst (.int 2)) .nil)))) .nil)))))))))))))))))))))))
  .nil)
def f__law_odd_values : FD := ⟨0, 0, i__law_odd_values, false⟩
def i__law_spots_b0 : ISs := (.cons (.asg (.nm 2) (.bin .add (.loc 2) (.call "_law_spots" (.cons (.idx (.loc 0) (.loc 3)) (.cons (.bin .add (.loc 1) (.lst (.cons (.loc 3) .nil))) .nil)))))
  .nil)
def i__law_spots_r0 : ISs := (.cons (.ret (.loc 2))
  .nil)
def i__law_spots : ISs := (.cons (.asg (.nm 2) (.lst (.cons (.loc 1) .nil)))
  (.cons (.ifs (.v (.isa (.loc 0) "tuple")) (.cons (.fors (.nm 3) (.rng (.cst (.int 0)) (.blt "len" (.cons (.loc 0) .nil))) i__law_spots_b0)
  .nil) .nil)
  i__law_spots_r0))
def f__law_spots : FD := ⟨2, 4, i__law_spots, false⟩
def i__law_spot_put : ISs := (.cons (.ifs (.cmp .eq (.blt "len" (.cons (.loc 1) .nil)) (.cst (.int 0))) (.cons (.ret (.loc 2))
  .nil) .nil)
  (.cons (.ret (.bin .add (.bin .add (.slcE (.loc 0) .no (.so (.idx (.loc 1) (.cst (.int 0))))) (.tup (.cons (.call "_law_spot_put" (.cons (.idx (.loc 0) (.idx (.loc 1) (.cst (.int 0)))) (.cons (.slcE (.loc 1) (.so (.cst (.int 1))) .no) (.cons (.loc 2) .nil)))) .nil))) (.slcE (.loc 0) (.so (.bin .add (.idx (.loc 1) (.cst (.int 0))) (.cst (.int 1)))) .no)))
  .nil))
def f__law_spot_put : FD := ⟨3, 3, i__law_spot_put, false⟩
def i__law_spot_b0 : ISs := (.cons (.asg (.nm 0) (.idx (.loc 0) (.loc 2)))
  .nil)
def i__law_spot_r0 : ISs := (.cons (.ret (.loc 0))
  .nil)
def i__law_spot : ISs := (.cons (.fors (.nm 2) (.seq (.loc 1)) i__law_spot_b0)
  i__law_spot_r0)
def f__law_spot : FD := ⟨2, 3, i__law_spot, false⟩
def i__law_bent_spot_r0 : ISs := (.cons (.ret (.call "_law_pick" (.cons (.loc 0) (.cons (.lst (.cons (.bin .add (.loc 1) (.cst (.int 1))) (.cons (.bin .sub (.loc 1) (.cst (.int 1))) (.cons (.bin .add (.loc 1) (.cst (.int 0))) (.cons (.cmp .eq (.loc 1) (.cst (.int 1))) (.cons (.cst .non) (.cons (.blt "str" (.cons (.loc 1) .nil)) (.cons (.cst (.int 7)) .nil)))))))) .nil))))
  .nil)
def i__law_bent_spot_r1 : ISs := (.cons (.ifs (.cmp .is (.loc 1) (.cst .non)) (.cons (.ret (.call "_law_pick" (.cons (.loc 0) (.cons (.lst (.cons (.tup .nil) (.cons (.cst (.int 0)) (.cons (.cst (.bl false)) (.cons (.tup (.cons (.cst (.str "tell")) (.cons (.tup .nil) (.cons (.cst .non) .nil)))) (.cons (.tup (.cons (.tup .nil) (.cons (.tup .nil) .nil))) .nil)))))) .nil))))
  .nil) .nil)
  i__law_bent_spot_r0)
def i__law_bent_spot_r2 : ISs := (.cons (.ifs (.v (.isa (.loc 1) "str")) (.cons (.ret (.call "_law_pick" (.cons (.loc 0) (.cons (.lst (.cons (.cst (.str "ask")) (.cons (.cst (.str "tell")) (.cons (.cst (.str "plan")) (.cons (.cst (.str "trap")) (.cons (.cst (.str "told")) (.cons (.cst (.str "two")) (.cons (.cst (.str "language")) (.cons (.cst (.str "x")) (.cons (.cst .non) .nil)))))))))) .nil))))
  .nil) .nil)
  i__law_bent_spot_r1)
def i__law_bent_spot : ISs := (.cons (.ifs (.v (.isa (.loc 1) "tuple")) (.cons (.asg (.nm 2) (.lst (.cons (.slcE (.loc 1) (.so (.cst (.int 1))) .no) (.cons (.bin .add (.loc 1) (.slcE (.loc 1) (.so (.neg (.cst (.int 1)))) .no)) (.cons (.rev (.loc 1)) (.cons (.blt "list" (.cons (.loc 1) .nil)) (.cons (.cst .non) (.cons (.tup .nil) (.cons (.bin .add (.loc 1) (.tup (.cons (.cst (.int 0)) .nil))) .nil)))))))))
  (.cons (.ret (.call "_law_pick" (.cons (.loc 0) (.cons (.loc 2) .nil))))
  .nil)) .nil)
  i__law_bent_spot_r2)
def f__law_bent_spot : FD := ⟨2, 3, i__law_bent_spot, false⟩
def i__law_is_row : ISs := (.cons (.ret (.and (.isa (.loc 0) "tuple") (.and (.cmp .eq (.blt "len" (.cons (.loc 0) .nil)) (.loc 1)) (.cmp .eq (.blt "len" (.cons (.comp (.loc 2) (.nm 2) (.seq (.loc 0)) (.not (.v (.call "_law_is_integer" (.cons (.loc 2) .nil)))) [2]) .nil)) (.cst (.int 0))))))
  .nil)
def f__law_is_row : FD := ⟨2, 3, i__law_is_row, false⟩
def i__law_bent_r0 : ISs := (.cons (.app 3 (.call "_law_spot_put" (.cons (.loc 1) (.cons (.loc 6) (.cons (.call "_law_bent_spot" (.cons (.loc 0) (.cons (.call "_law_spot" (.cons (.loc 1) (.cons (.loc 6) .nil))) .nil))) .nil)))))
  .nil)
def i__law_bent_b0 : ISs := (.cons (.asg (.nm 6) (.call "_law_pick" (.cons (.loc 0) (.cons (.loc 4) .nil))))
  i__law_bent_r0)
def i__law_bent_r1 : ISs := (.cons (.ret (.bin .add (.loc 3) (.call "_law_odd_values" .nil)))
  .nil)
def i__law_bent_r2 : ISs := (.cons (.fors (.nm 5) (.rng (.cst (.int 0)) (.loc 2)) i__law_bent_b0)
  i__law_bent_r1)
def i__law_bent : ISs := (.cons (.asg (.nm 3) (.lst (.cons (.loc 1) (.cons (.blt "list" (.cons (.loc 1) .nil)) (.cons (.bin .add (.loc 1) (.tup (.cons (.cst (.int 0)) .nil))) (.cons (.tup (.cons (.idx (.loc 1) (.cst (.int 0))) .nil)) (.cons (.rev (.loc 1)) .nil)))))))
  (.cons (.asg (.nm 4) (.call "_law_spots" (.cons (.loc 1) (.cons (.lst .nil) .nil))))
  i__law_bent_r2))
def f__law_bent : FD := ⟨3, 7, i__law_bent, false⟩
/-! how long a value's text is -/
def wd (d : D) : Nat := d.py.shown.length
def wl (l : List D) : Nat := (l.map fun d => wd d + 2).sum
theorem wl_cons (d : D) (l : List D) : wl (d :: l) = wd d + 2 + wl l := by simp [wl]
theorem wl_app (a b : List D) : wl (a ++ b) = wl a + wl b := by simp [wl]
theorem wl_nil : wl [] = 0 := rfl
theorem wl_rev (a : List D) : wl a.reverse = wl a := by simp [wl, List.sum_reverse]
theorem wl_sub {a b : List D} (h : a.Sublist b) : wl a ≤ wl b := by
  induction h with
  | slnil => exact Nat.le_refl _
  | cons d _ ih => rw [wl_cons]; omega
  | cons_cons d _ ih => rw [wl_cons, wl_cons]; omega
theorem pys_map (l : List D) : D.pys l = l.map D.py := by
  induction l with
  | nil => rfl
  | cons d l ih => simp only [D.pys, ih, List.map_cons]
theorem shown_map (l : List PyData) : PyData.shownAll l = l.map PyData.shown := by
  induction l with
  | nil => rfl
  | cons d l ih => simp only [PyData.shownAll, ih, List.map_cons]
theorem piled_wl (l : List D) : piled (PyData.shownAll (D.pys l)) = wl l := by
  rw [pys_map, shown_map, List.map_map]
  unfold piled wl wd
  rw [List.map_map]; rfl
/-- the marks about a tuple's parts -/
def mk (n : Nat) : Nat := if n = 0 then 2 else if n = 1 then 1 else 0
theorem wd_tup (l : List D) : wd (.tup l) = wl l + mk l.length := by
  have h1 : wd (.tup l) = (tupleText (PyData.shownAll (D.pys l))).length := by unfold wd; simp only [D.py, PyData.shown]
  rw [h1, ← piled_wl]
  have h2 : (PyData.shownAll (D.pys l)).length = l.length := by rw [shown_map, pys_map]; simp
  generalize PyData.shownAll (D.pys l) = ts at *
  unfold tupleText
  rw [strLen_append, strLen_append]
  have e1 : ((("(" : String) : Str)).length = 1 := rfl
  rw [e1]
  by_cases h : ts = []
  · subst h
    have : l.length = 0 := h2.symm
    rw [this]; rfl
  · have h3 := join_length_add ts h
    have h4 : l.length ≠ 0 := by rw [← h2]; simpa using h
    by_cases h5 : l.length = 1
    · have e3 : (((if ts.length == 1 then ",)" else ")" : String) : Str)).length = 2 := by rw [h2, h5]; rfl
      rw [e3]; unfold mk; rw [if_neg h4, if_pos h5]; omega
    · have e3 : (((if ts.length == 1 then ",)" else ")" : String) : Str)).length = 1 := by rw [h2, if_neg (by simpa using h5)]; rfl
      rw [e3]; unfold mk; rw [if_neg h4, if_neg h5]; omega
theorem wd_lst (l : List D) : wd (.lst l) ≤ wl l + 2 := by
  have h1 : wd (.lst l) = (listText (PyData.shownAll (D.pys l))).length := by unfold wd; simp only [D.py, PyData.shown]
  rw [h1, ← piled_wl]
  cases PyData.shownAll (D.pys l) with
  | nil => exact Nat.le_refl 2
  | cons t r =>
    have h := textFrom_length_pos r 1 (("[" : Str) ++ (if (0 : Nat) > 0 then ", " else "" : String) ++ t) (Nat.succ_pos 0)
    have e : ((("[" : Str) ++ (if (0 : Nat) > 0 then ", " else "" : String) ++ t)).length = 1 + t.length := by
      rw [strLen_append, strLen_append]; rfl
    have hX : (listText (t :: r)).length = (textFrom 0 "[" (t :: r)).length + 1 := by
      show (textFrom 0 "[" (t :: r) ++ "]").length = _
      rw [strLen_append]; rfl
    have hY : (textFrom 0 "[" (t :: r)).length = (textFrom 1 (("[" : Str) ++ (if (0 : Nat) > 0 then ", " else "" : String) ++ t) r).length := rfl
    rw [hX, hY, h, e, piled_cons]; omega
theorem mk_le (n : Nat) : mk n ≤ 2 := by
  unfold mk
  split
  · omega
  · split <;> omega
theorem len_wl (l : List D) : 2 * l.length ≤ wl l := by
  induction l with
  | nil => exact Nat.le_refl 0
  | cons d l ih => rw [wl_cons, List.length_cons]; omega
/-- nice values -/
def strN (s : Str) : Prop := PyData.strOk s = true ∧ s.length ≤ 60
def D.nv : Nat → D → Prop
  | _, .non => True
  | _, .bl _ => True
  | _, .int i => i.natAbs < 10 ^ 20
  | _, .str s => strN s
  | n + 1, .tup l => ∀ d ∈ l, D.nv n d
  | n + 1, .lst l => ∀ d ∈ l, D.nv n d
  | _, _ => False
theorem nv_mono : ∀ (n m : Nat) (d : D), n ≤ m → d.nv n → d.nv m := by
  intro n
  induction n with
  | zero => intro m d _ h; cases d <;> first | exact h.elim | (cases m <;> exact h)
  | succ n ih =>
    intro m d hm h
    obtain ⟨m, rfl⟩ : ∃ k, m = k + 1 := ⟨m - 1, by omega⟩
    cases d with
    | tup l => exact fun d hd => ih m d (by omega) (h d hd)
    | lst l => exact fun d hd => ih m d (by omega) (h d hd)
    | _ => exact h
theorem nv_okE : ∀ (n : Nat) (d : D), d.nv n → d.okE n := by
  intro n
  induction n with
  | zero => intro d h; cases d <;> first | exact h.elim | exact True.intro | exact h.1
  | succ n ih =>
    intro d h
    cases d with
    | tup l => exact fun d hd => ih d (h d hd)
    | lst l => exact fun d hd => ih d (h d hd)
    | str s => exact h.1
    | non => exact True.intro
    | bl _ => exact True.intro
    | int _ => exact True.intro
    | _ => exact h.elim
theorem nv_show : ∀ (n : Nat) (d : D), d.nv n → d.py.showable = true := by
  have all : ∀ (l : List D), (∀ d ∈ l, d.py.showable = true) → PyData.showableAll (D.pys l) = true := by
    intro l
    induction l with
    | nil => intro _; rfl
    | cons d l ih => intro h; simp only [D.pys, PyData.showableAll, h d (by simp), ih fun d hd => h d (by simp [hd]), Bool.and_self]
  have int : ∀ i : Int, i.natAbs < 10 ^ 20 → decide (i.natAbs.log2 < 1920) = true := fun i h => by
    rw [decide_eq_true_eq]
    by_cases h0 : i.natAbs = 0
    · rw [h0]; decide
    · rw [Nat.log2_lt h0]
      exact Nat.lt_of_lt_of_le h (Nat.le_trans (by decide : 10 ^ 20 ≤ 2 ^ 70) (Nat.pow_le_pow_right (by decide) (by decide)))
  intro n
  induction n with
  | zero => intro d h; cases d <;> first | exact h.elim | rfl | exact int _ h
  | succ n ih =>
    intro d h
    cases d with
    | tup l => simp only [D.py, PyData.showable]; exact all l fun d hd => ih d (h d hd)
    | lst l => simp only [D.py, PyData.showable]; exact all l fun d hd => ih d (h d hd)
    | int i => exact int _ h
    | non => rfl
    | bl _ => rfl
    | str _ => rfl
    | _ => exact h.elim
theorem repr_nv {n : Nat} {d : D} (h : d.nv n) (hn : n ≤ 60) (hw : wd d ≤ sizeLine) {P : Str → Prop} (hP : P d.py.shown) : dRepr d P := by
  obtain ⟨h1, h2, h3⟩ := okE_all n d (nv_okE n d h)
  exact ⟨.inl ⟨h1, PyData.hasDict_of_canLay _ h2⟩, nv_show n d h, by omega, hw, hP⟩
theorem repr_dct {P : Str → Prop} (hP : P (D.dct [] []).py.shown) : dRepr (.dct [] []) P := by
  refine ⟨.inr rfl, by decide, by decide, by decide, hP⟩
/-- a value of a law: nice, its text not long; or {} -/
def Val (n w : Nat) (d : D) : Prop := (d.nv n ∧ wd d ≤ w) ∨ d = .dct [] []
theorem repr_val {n w : Nat} {d : D} (h : Val n w d) (hn : n ≤ 60) (hw : w ≤ sizeLine) {P : Str → Prop} (hP : P d.py.shown) : dRepr d P := by
  rcases h with ⟨h, h1⟩ | rfl
  · exact repr_nv h hn (by omega) hP
  · exact repr_dct hP
theorem Val.mono {n w m v : Nat} {d : D} (h : Val n w d) (h1 : n ≤ m) (h2 : w ≤ v) : Val m v d := by
  rcases h with ⟨h, h3⟩ | h
  · exact .inl ⟨nv_mono n m d h1 h, by omega⟩
  · exact .inr h
theorem wd_int {i : Int} (h : i.natAbs < 10 ^ 20) : wd (.int i) ≤ 21 := by
  show (Str.ofString (toString i)).length ≤ 21
  rw [ofString_length]
  exact int_text_length_le10 (by decide) h
theorem strN_cps {s : Str} (h : strN s) : ∀ c ∈ s.cps.toList, c < 16 ^ 8 := fun c hc => by
  have := h.1
  unfold PyData.strOk at this
  rw [Array.all_eq_true'] at this
  have h2 := this c (by simpa using hc)
  simp only [decide_eq_true_eq] at h2
  omega
theorem wd_str {s : Str} (h : strN s) : wd (.str s) ≤ 602 := by
  have h1 := StrLaws.reprText_len s (strN_cps h)
  have h2 := h.2
  show (reprText s).length ≤ 602
  omega
theorem wd_non : wd .non = 4 := rfl
theorem wd_bl (b : Bool) : wd (.bl b) ≤ 5 := by cases b <;> decide
/-! the laws' own helpers on values -/
/-- papers: tuples, integers, words, None -/
def D.pv : Nat → D → Prop
  | _, .non => True
  | _, .int i => i.natAbs < 10 ^ 15
  | _, .str s => strN s
  | n + 1, .tup l => ∀ d ∈ l, D.pv n d
  | _, _ => False
theorem pv_nv : ∀ (n : Nat) (d : D), d.pv n → d.nv n := by
  have hi : ∀ i : Int, i.natAbs < 10 ^ 15 → i.natAbs < 10 ^ 20 := fun i h => Nat.lt_trans h (by decide)
  intro n
  induction n with
  | zero => intro d h; cases d <;> first | exact h.elim | exact True.intro | exact hi _ h | exact h
  | succ n ih =>
    intro d h
    cases d with
    | tup l => exact fun d hd => ih d (h d hd)
    | str s => exact h
    | non => exact True.intro
    | int i => exact hi _ h
    | _ => exact h.elim
/-- what lies at a spot -/
def at_ : D → List Nat → Option D
  | d, [] => some d
  | .tup l, k :: p => (match l[k]? with
    | some d => at_ d p
    | none => none)
  | _, _ :: _ => none
def put_ : D → List Nat → D → D
  | _, [], x => x
  | .tup l, k :: p, x => (match l[k]? with
    | some d => .tup (l.take k ++ [put_ d p x] ++ l.drop (k + 1))
    | none => .tup l)
  | d, _ :: _, _ => d
def pathD (p : List Nat) : D := .lst (p.map fun (k : Nat) => D.int (k : Int))
theorem at_tup {l : List D} {k : Nat} {p : List Nat} {d : D} (h : l[k]? = some d) : at_ (.tup l) (k :: p) = at_ d p := by
  simp only [at_, h]
theorem at_inv {v : D} {k : Nat} {p : List Nat} {x : D} (h : at_ v (k :: p) = some x) : ∃ l d, v = .tup l ∧ l[k]? = some d ∧ at_ d p = some x := by
  cases v with
  | tup l =>
    cases e : l[k]? with
    | none => simp [at_, e] at h
    | some d => rw [at_tup e] at h; exact ⟨l, d, rfl, e, h⟩
  | _ => simp [at_] at h
theorem at_pv : ∀ (p : List Nat) (n : Nat) (v d : D), v.pv n → at_ v p = some d → d.pv n ∧ p.length ≤ n := by
  intro p
  induction p with
  | nil => intro n v d h e; simp [at_] at e; subst e; exact ⟨h, Nat.zero_le _⟩
  | cons k p ih =>
    intro n v d h e
    obtain ⟨l, x, rfl, e1, e2⟩ := at_inv e
    cases n with
    | zero => exact h.elim
    | succ n =>
      obtain ⟨h1, h2⟩ := ih n x d (h x (List.mem_of_getElem? e1)) e2
      refine ⟨?_, by simp; omega⟩
      clear ih e2 e1 e
      revert h1
      generalize d = y
      have : ∀ (n : Nat) (y : D), y.pv n → y.pv (n + 1) := by
        intro n
        induction n with
        | zero => intro y h; cases y <;> first | exact h.elim | exact h
        | succ n ih =>
          intro y h
          cases y with
          | tup l => exact fun d hd => ih d (h d hd)
          | _ => exact h
      exact this n y
theorem cut_take (l : List D) (k : Nat) (h : k < l.length) : cut l none (some (k : Int)) = l.take k := by
  unfold cut
  have e1 : HT.sIx l.length 0 none = 0 := rfl
  have e2 : HT.sIx l.length l.length (some (k : Int)) = k := by rw [HT.sIx_nat]; omega
  rw [e1, e2]; simp
theorem cut_drop (l : List D) (k : Nat) (h : k < l.length) : cut l (some ((k : Int) + 1)) none = l.drop (k + 1) := by
  unfold cut
  have e1 : HT.sIx l.length 0 (some ((k : Int) + 1)) = k + 1 := by
    show HT.sIx l.length 0 (some ((k + 1 : Nat) : Int)) = k + 1
    rw [HT.sIx_nat]; omega
  have e2 : HT.sIx l.length l.length none = l.length := rfl
  rw [e1, e2, List.take_of_length_le (by simp)]
theorem take_drop_len {l : List D} {k : Nat} {d : D} (h : l[k]? = some d) : l = l.take k ++ [d] ++ l.drop (k + 1) ∧ k < l.length := by
  obtain ⟨hk, e⟩ := List.getElem?_eq_some_iff.mp h
  refine ⟨?_, hk⟩
  rw [List.append_assoc, ← e]
  simp
theorem put_tup {l : List D} {k : Nat} {p : List Nat} {d x : D} (h : l[k]? = some d) : put_ (.tup l) (k :: p) x = .tup (l.take k ++ [put_ d p x] ++ l.drop (k + 1)) := by
  simp only [put_, h]
theorem put_wd : ∀ (p : List Nat) (v d x : D), at_ v p = some d → wd (put_ v p x) ≤ wd v + wd x := by
  have main : ∀ (p : List Nat) (v d x : D), at_ v p = some d → wd (put_ v p x) + wd d = wd v + wd x := by
    intro p
    induction p with
    | nil => intro v d x e; simp [at_] at e; subst e; simp [put_]; omega
    | cons k p ih =>
      intro v d x e
      obtain ⟨l, y, rfl, e1, e2⟩ := at_inv e
      have h := ih y d x e2
      obtain ⟨h2, h3⟩ := take_drop_len e1
      rw [put_tup e1, wd_tup, wd_tup]
      have h4 : wl l = wl (l.take k ++ [y] ++ l.drop (k + 1)) := by rw [← h2]
      have h5 : (l.take k ++ [put_ y p x] ++ l.drop (k + 1)).length = l.length := by simp; omega
      rw [h5, h4]
      simp only [wl_app, wl_cons, wl_nil]
      omega
  intro p v d x e
  have := main p v d x e
  omega
theorem put_nv : ∀ (p : List Nat) (n m : Nat) (v d x : D), v.pv n → x.nv m → at_ v p = some d → (put_ v p x).nv (n + m) := by
  intro p
  induction p with
  | nil => intro n m v d x _ h _; simp only [put_]; exact nv_mono m _ x (by omega) h
  | cons k p ih =>
    intro n m v d x hv h e
    obtain ⟨l, y, rfl, e1, e2⟩ := at_inv e
    cases n with
    | zero => exact hv.elim
    | succ n =>
      rw [put_tup e1, Nat.succ_add]
      intro z hz
      rw [List.mem_append, List.mem_append, List.mem_singleton] at hz
      rcases hz with (hz | rfl) | hz
      · exact nv_mono n _ z (by omega) (pv_nv n z (hv z (List.mem_of_mem_take hz)))
      · exact ih n m y d x (hv y (List.mem_of_getElem? e1)) h e2
      · exact nv_mono n _ z (by omega) (pv_nv n z (hv z (List.mem_of_mem_drop hz)))
theorem rng_r (n : Nat) : rngList 0 n = (List.range' 0 n).map fun (k : Nat) => D.int (k : Int) := by
  rw [rng0, List.range_eq_range']
section
variable {T : Str → Option FD}
theorem w_spots (hT : T "_law_spots" = some f__law_spots) : ∀ (n k : Nat) (v : D) (p : List Nat) (S : Sto) (P : D → Sto → Prop), v.pv n → p.length + n ≤ 1000 → wd v ≤ 1000000 →
    (∀ ps : List (List Nat), ps ≠ [] → ps.length ≤ wd v + 1 → (∀ q ∈ ps, ∃ d, at_ v q = some d) → P (.lst (ps.map fun q => pathD (p ++ q))) S) → Cl T (k + n + 1) "_law_spots" [v, pathD p] S P := by
  intro n
  induction n with
  | zero =>
    intro k v p S P hv hp hw h
    have h1 := h [[]] (by simp) (by simp) (by simp [at_])
    simp only [List.map_cons, List.map_nil, List.append_nil] at h1
    refine ⟨_, hT, rfl, ?_⟩
    cases v <;> first | exact hv.elim | (simp_arith only [f__law_spots, i__law_spots, i__law_spots_r0]; exact h1)
  | succ n ih =>
    intro k v p S P hv hp hw h
    have h1 := h [[]] (by simp) (by simp) (by simp [at_])
    simp only [List.map_cons, List.map_nil, List.append_nil] at h1
    refine ⟨_, hT, rfl, ?_⟩
    cases v with
    | tup l =>
      simp_arith only [f__law_spots, i__law_spots]
      rw [wd_tup] at hw h
      have hl := len_wl l
      have loop : ∀ (Z : Ends), (∀ (ps : List (List Nat)) (s3 : Sl), ps ≠ [] → ps.length ≤ wl l + 1 → (∀ q ∈ ps, ∃ d, at_ (.tup l) q = some d) → Z.nx [.val (.tup l), .val (pathD p), .own (.lst (ps.map fun q => pathD (p ++ q))), s3] S) →
          ∀ (m i : Nat) (ps : List (List Nat)) (s3 : Sl), i + m = l.length → ps.length + wl (l.drop i) ≤ wl l + 1 → ps ≠ [] → (∀ q ∈ ps, ∃ d, at_ (.tup l) q = some d) → forL (wG (.nm 3)) (wSs (Cl T (k + (n + 1))) i__law_spots_b0) Z ((List.range' i m).map fun (j : Nat) => D.int (j : Int)) [.val (.tup l), .val (pathD p), .own (.lst (ps.map fun q => pathD (p ++ q))), s3] S := by
        intro Z hZ m
        induction m with
        | zero => intro i ps s3 _ h1 h2 h3; simp only [List.range'_zero, List.map_nil, forL]; exact hZ ps s3 h2 (by omega) h3
        | succ m ihm =>
          intro i ps s3 hi h1 h2 h3
          have hil : i < l.length := by omega
          have e : L2.atI l (i : Int) = some l[i] := atN (List.getElem?_eq_getElem hil)
          rw [List.drop_eq_getElem_cons hil, wl_cons] at h1
          have hwi : wd l[i] + 2 ≤ wl l := by
            have := wl_sub (List.singleton_sublist.mpr (List.getElem_mem hil))
            rw [wl_cons, wl_nil] at this; omega
          simp_arith only [List.range'_succ, List.map_cons, forL, i__law_spots_b0, e, pathD]
          refine ⟨by simp [sizeL]; omega, ?_⟩
          have e2 : (D.lst ((p.map fun (k : Nat) => D.int (k : Int)) ++ [.int (i : Int)])) = pathD (p ++ [i]) := by simp [pathD]
          rw [e2]
          refine ih k l[i] (p ++ [i]) S _ (hv _ (List.getElem_mem _)) (by simp; omega) (by omega) fun qs q1 q2 q3 => ?_
          simp_arith only [true_and]
          refine ⟨by simp [sizeL]; omega, ?_⟩
          have e3 : (ps.map fun q => pathD (p ++ q)) ++ (qs.map fun q => pathD (p ++ [i] ++ q)) = (ps ++ qs.map fun q => i :: q).map fun q => pathD (p ++ q) := by
            rw [List.map_append, List.map_map]
            congr 1
            apply List.map_congr_left
            intro q _
            simp [Function.comp]
          have := ihm (i + 1) (ps ++ qs.map fun q => i :: q) (.val (.int (i : Int))) (by omega) (by simp; omega) (by simp [h2]) (fun q hq => by
            rcases List.mem_append.mp hq with hq | hq
            · exact h3 q hq
            · obtain ⟨r, hr, rfl⟩ := List.mem_map.mp hq
              obtain ⟨d, hd⟩ := q3 r hr
              exact ⟨d, by rw [at_tup (List.getElem?_eq_getElem hil)]; exact hd⟩)
          rw [← e3] at this
          simp only [pathD] at this ⊢
          exact this
      have l2 : lim62 (l.length : Int) := lim_len (by omega)
      refine ⟨lim_0, l2, ?_⟩
      rw [Int.sub_zero, Int.toNat_natCast, rng_r]
      have := fun Z hZ => loop Z hZ l.length 0 [[]] .no (by omega) (by simp; omega) (by simp) (by simp [at_])
      simp only [List.map_cons, List.map_nil, List.append_nil] at this
      refine this _ fun ps s3 p1 p2 p3 => ?_
      simp_arith only [i__law_spots_r0]
      exact h ps p1 (by omega) p3
    | non => simp_arith only [f__law_spots, i__law_spots, i__law_spots_r0]; exact h1
    | int i => simp_arith only [f__law_spots, i__law_spots, i__law_spots_r0]; exact h1
    | str i => simp_arith only [f__law_spots, i__law_spots, i__law_spots_r0]; exact h1
    | _ => exact hv.elim
theorem w_spot (hT : T "_law_spot" = some f__law_spot) {k : Nat} {v d : D} {p : List Nat} {S : Sto} {P : D → Sto → Prop} (e : at_ v p = some d) (h : P d S) : Cl T (k + 1) "_law_spot" [v, pathD p] S P := by
  refine ⟨_, hT, rfl, ?_⟩
  simp_arith only [f__law_spot, i__law_spot, pathD]
  have loop : ∀ (Z : Ends) (a : D), (∀ s2, Z.nx [.val d, .val a, s2] S) → ∀ (p : List Nat) (v : D) (s2 : Sl), at_ v p = some d → forL (wG (.nm 2)) (wSs (Cl T k) i__law_spot_b0) Z (p.map fun (j : Nat) => D.int (j : Int)) [.val v, .val a, s2] S := by
    intro Z a hZ p
    induction p with
    | nil => intro v s2 e; simp [at_] at e; subst e; simp only [List.map_nil, forL]; exact hZ s2
    | cons j p ih =>
      intro v s2 e
      obtain ⟨l, y, rfl, e1, e2⟩ := at_inv e
      simp_arith only [List.map_cons, forL, i__law_spot_b0, atN e1]
      exact ih y _ e2
  refine loop _ _ (fun s2 => ?_) p v .no e
  simp_arith only [i__law_spot_r0]
  exact h
theorem w_spot_put (hT : T "_law_spot_put" = some f__law_spot_put) {d x : D} {S : Sto} : ∀ (p : List Nat) (k : Nat) (v : D) (P : D → Sto → Prop), at_ v p = some d → wd v ≤ 1000000 → P (put_ v p x) S → Cl T (k + p.length + 1) "_law_spot_put" [v, pathD p, x] S P := by
  intro p
  induction p with
  | nil =>
    intro k v P e hw h
    refine ⟨_, hT, rfl, ?_⟩
    simp_arith only [f__law_spot_put, i__law_spot_put, pathD]
    exact h
  | cons j p ih =>
    intro k v P e hw h
    obtain ⟨l, y, rfl, e1, e2⟩ := at_inv e
    obtain ⟨h2, h3⟩ := take_drop_len e1
    rw [put_tup e1] at h
    rw [wd_tup] at hw
    have hl := len_wl l
    have hwy : wd y + 2 ≤ wl l := by
      have := wl_sub (List.singleton_sublist.mpr (List.mem_of_getElem? e1))
      rw [wl_cons, wl_nil] at this; omega
    refine ⟨_, hT, rfl, ?_⟩
    have c1 : ((((p.length + 1 : Nat) : Int) == 0)) = false := by simp; omega
    simp_arith only [f__law_spot_put, i__law_spot_put, pathD, List.length_map, atN e1]
    first | (rw [c1]; simp_arith only [true_and]) | skip
    have e3 : cut (.int (j : Int) :: p.map fun (k : Nat) => D.int (k : Int)) (some 1) none = p.map fun (k : Nat) => D.int (k : Int) := by
      have := cut_drop (.int (j : Int) :: p.map fun (k : Nat) => D.int (k : Int)) 0 (by simp)
      simpa using this
    rw [e3]
    refine ih k y _ e2 (by omega) ?_
    simp_arith only [cut_take l j h3, cut_drop l j h3]
    exact ⟨by simp [sizeL]; omega, by simp [sizeL]; omega, h⟩
end
theorem strOk_of (s : String) : PyData.strOk (Str.ofString s) = true := by
  unfold PyData.strOk
  rw [Array.all_eq_true']
  intro c hc
  have : c ∈ (Str.ofString s).cps.toList := by simpa using hc
  rw [PyProof.Rows.signs_ofString] at this
  obtain ⟨x, _, rfl⟩ := List.mem_map.mp this
  rw [decide_eq_true_eq]
  rcases x.valid with h | h
  · have : x.toNat < 0xd800 := h
    omega
  · exact h.2
theorem strN_int {i : Int} (h : i.natAbs < 10 ^ 20) : strN (Str.ofString (toString i)) := by
  constructor
  · exact strOk_of _
  · rw [ofString_length]
    have := int_text_length_le10 (a := i) (k := 20) (by decide) h
    omega
def oddV : List D := [.non, .bl true, .bl false, .int 0, .int 1, .int (-1), .str "", .str "ranking", .tup [], .lst [], .dct [] [], .tup [.int 0], .tup [.bl true], .tup [.tup []], .lst [.int 0, .int 1], .tup [.int 0, .int 0], .tup [.int 1, .int 0, .int 2], .tup [.str "ranking"], .tup [.str "ranking", .tup []], .tup [.str "clash", .tup []], .tup [.str "ranking", .tup [.int 0, .int 1], .int 2]]
theorem odd_val : ∀ d ∈ oddV, Val 2 40 d := by
  have s1 : strN "" := ⟨strOk_of _, by decide⟩
  have s2 : strN "ranking" := ⟨strOk_of _, by decide⟩
  have s3 : strN "clash" := ⟨strOk_of _, by decide⟩
  have i0 : (0 : Int).natAbs < 10 ^ 20 := by decide
  have i1 : (1 : Int).natAbs < 10 ^ 20 := by decide
  have i2 : (2 : Int).natAbs < 10 ^ 20 := by decide
  have i3 : (-1 : Int).natAbs < 10 ^ 20 := by decide
  have w : ∀ d ∈ oddV, d.py.shown.length ≤ 40 := by decide +kernel
  have n : ∀ d ∈ oddV, d.nv 2 ∨ d = .dct [] [] := by
    intro d hd
    simp only [oddV, List.mem_cons, List.not_mem_nil, or_false] at hd
    rcases hd with rfl | rfl | rfl | rfl | rfl | rfl | rfl | rfl | rfl | rfl | rfl | rfl | rfl | rfl | rfl | rfl | rfl | rfl | rfl | rfl | rfl
    all_goals first | exact .inr rfl | (left; simp [D.nv, s1, s2, s3])
  intro d hd
  rcases n d hd with h | h
  · exact .inl ⟨h, w d hd⟩
  · exact .inr h
section
variable {T : Str → Option FD}
theorem w_odd (hT : T "_law_odd_values" = some f__law_odd_values) {k : Nat} {S : Sto} {P : D → Sto → Prop} (h : P (.lst oddV) S) : Cl T (k + 1) "_law_odd_values" [] S P := by
  refine ⟨_, hT, rfl, ?_⟩
  simp_arith only [f__law_odd_values, i__law_odd_values, List.nodup_nil, Nat.zero_le]
  exact ⟨by decide, h⟩
def vB (w : Nat) : Nat := 2 * w + 640
/-- what becomes of a spot -/
theorem w_bent_spot (hB : T "_law_bent_spot" = some f__law_bent_spot) (hP : T "_law_pick" = some f__law_pick) (hT : T "_law_draw" = some f__law_draw) (hS' : T "_law_spread" = some f__law_spread) {n k : Nat} {v : D} {S : Sto} {P : D → Sto → Prop}
    (hS : Pool S) (hv : v.pv n) (hw : wd v ≤ 1000000) (h : ∀ x S', x.nv (n + 2) → wd x ≤ vB (wd v) → Pool S' → P x S') : Cl T (k + 4) "_law_bent_spot" [.obj 0, v] S P := by
  have i0 : (0 : Int).natAbs < 10 ^ 20 := by decide
  have i7 : (7 : Int).natAbs < 10 ^ 20 := by decide
  have sm1 : small64 (1 : Int) := by unfold small64; omega
  refine ⟨_, hB, rfl, ?_⟩
  cases v with
  | tup l =>
    have hn := pv_nv n _ hv
    cases n with
    | zero => exact hv.elim
    | succ n =>
      have hl := len_wl l
      have hwt := wd_tup l
      have hml := mk_le l.length
      simp_arith only [f__law_bent_spot, i__law_bent_spot]
      have c1 : ∀ a b, (cut l a b).Sublist l := fun a b => by unfold cut; exact (List.take_sublist _ _).trans (List.drop_sublist _ _)
      have nvt : ∀ m : List D, (∀ d ∈ m, d ∈ l ∨ d = .int 0) → (D.tup m).nv (n + 1) := fun m hm d hd => by
        rcases hm d hd with h | rfl
        · exact hn d h
        · cases n <;> exact i0
      have len1 : l.length + (cut l (some (-1)) none).length ≤ 2 * l.length := by have := (c1 (some (-1)) none).length_le; omega
      refine ⟨by rw [sizeL]; omega, by simp [sizeL]; omega, ?_⟩
      refine ⟨fun i hi => by cases List.mem_singleton.mp hi; exact ⟨_, rfl⟩, ?_⟩
      refine w_pickL hP hT hS' (k := k) hS (by simp) (by simp) fun x S' hx hS2 => ?_
      have ok : x.nv (n + 1 + 2) ∧ wd x ≤ vB (wd (.tup l)) := by
        unfold vB
        simp only [List.mem_cons, List.not_mem_nil, or_false] at hx
        rcases hx with rfl | rfl | rfl | rfl | rfl | rfl | rfl
        · refine ⟨nv_mono (n + 1) _ _ (by omega) (nvt _ fun d hd => .inl ((c1 _ _).mem hd)), ?_⟩
          rw [wd_tup]; have := wl_sub (c1 (some 1) none); have := mk_le (cut l (some 1) none).length; omega
        · refine ⟨nv_mono (n + 1) _ _ (by omega) (nvt _ fun d hd => .inl ((List.mem_append.mp hd).elim id fun hd => (c1 _ _).mem hd)), ?_⟩
          rw [wd_tup, wl_app]; have := wl_sub (c1 (some (-1)) none); have := mk_le (l ++ cut l (some (-1)) none).length; omega
        · refine ⟨nv_mono (n + 1) _ _ (by omega) (nvt _ fun d hd => .inl (List.mem_reverse.mp hd)), ?_⟩
          rw [wd_tup, wl_rev]; have := mk_le l.reverse.length; omega
        · refine ⟨nv_mono (n + 1) _ _ (by omega) (fun d hd => hn d hd), ?_⟩
          have := wd_lst l; omega
        · exact ⟨True.intro, by rw [wd_non]; omega⟩
        · exact ⟨fun d hd => (List.not_mem_nil hd).elim, by rw [wd_tup]; have := mk_le ([] : List D).length; rw [wl_nil]; omega⟩
        · refine ⟨nv_mono (n + 1) _ _ (by omega) (nvt _ fun d hd => (List.mem_append.mp hd).elim .inl fun hd => .inr (by simpa using hd)), ?_⟩
          rw [wd_tup, wl_app, wl_cons, wl_nil]; have := wd_int i0; have := mk_le (l ++ [D.int 0]).length; omega
      split
      · exact h x S' ok.1 ok.2 hS2
      · exact h x S' ok.1 ok.2 hS2
  | str s =>
    simp_arith only [f__law_bent_spot, i__law_bent_spot, i__law_bent_spot_r2]
    refine w_pickL hP hT hS' (k := k) hS (by simp) (by simp) fun x S' hx hS2 => ?_
    have ok : ∀ x ∈ [D.str "ask", .str "tell", .str "plan", .str "trap", .str "told", .str "two", .str "language", .str "x", .non], x.nv (n + 2) ∧ wd x ≤ 12 := by
      intro x hx
      have hw : wd x ≤ 12 := by revert x hx; decide +kernel
      refine ⟨?_, hw⟩
      simp only [List.mem_cons, List.not_mem_nil, or_false] at hx
      rcases hx with rfl | rfl | rfl | rfl | rfl | rfl | rfl | rfl | rfl
      all_goals first | exact True.intro | exact ⟨strOk_of _, by decide⟩
    obtain ⟨o1, o2⟩ := ok x hx
    exact h x S' o1 (by unfold vB; omega) hS2
  | non =>
    simp_arith only [f__law_bent_spot, i__law_bent_spot, i__law_bent_spot_r2, i__law_bent_spot_r1, Q.D.isNon]
    refine w_pickL hP hT hS' (k := k) hS (by simp) (by simp) fun x S' hx hS2 => ?_
    have ok : ∀ x ∈ [D.tup [], .int 0, .bl false, .tup [.str "tell", .tup [], .non], .tup [.tup [], .tup []]], x.nv (n + 2) ∧ wd x ≤ 20 := by
      intro x hx
      have hw : wd x ≤ 20 := by revert x hx; decide +kernel
      refine ⟨?_, hw⟩
      have st : strN "tell" := ⟨strOk_of _, by decide⟩
      simp only [List.mem_cons, List.not_mem_nil, or_false] at hx
      rcases hx with rfl | rfl | rfl | rfl | rfl
      all_goals simp [D.nv, st]
    obtain ⟨o1, o2⟩ := ok x hx
    exact h x S' o1 (by unfold vB; omega) hS2
  | int i =>
    have hi : i.natAbs < 10 ^ 15 := by cases n <;> exact hv
    have hl : i.natAbs.log2 < 1920 := by
      have := nv_show 0 (.int i) (show i.natAbs < 10 ^ 20 from Nat.lt_trans hi (by decide))
      simpa [D.py, PyData.showable] using this
    simp_arith only [f__law_bent_spot, i__law_bent_spot, i__law_bent_spot_r2, i__law_bent_spot_r1, i__law_bent_spot_r0, Q.D.isNon]
    refine ⟨hl, ?_⟩
    refine w_pickL hP hT hS' (k := k) hS (by simp) (by simp) fun x S' hx hS2 => ?_
    have ok : x.nv (n + 2) ∧ wd x ≤ 602 := by
      have iN : ∀ j : Int, j.natAbs < 10 ^ 20 → (D.int j).nv (n + 2) ∧ wd (.int j) ≤ 602 := fun j hj => ⟨hj, by have := wd_int hj; omega⟩
      simp only [List.mem_cons, List.not_mem_nil, or_false] at hx
      rcases hx with rfl | rfl | rfl | rfl | rfl | rfl | rfl
      · exact iN _ (by omega)
      · exact iN _ (by omega)
      · exact iN _ (by omega)
      · exact ⟨True.intro, by have := wd_bl (i == 1); omega⟩
      · exact ⟨True.intro, by rw [wd_non]; omega⟩
      · have := strN_int (i := i) (by omega)
        exact ⟨this, wd_str this⟩
      · exact iN _ i7
    exact h x S' ok.1 (by unfold vB; omega) hS2
  | _ => exact (by cases n <;> exact hv.elim)
end
theorem nv_sub {n : Nat} {l m : List D} (h : (D.tup l).nv (n + 1)) (hs : ∀ d ∈ m, d ∈ l) : (D.tup m).nv (n + 1) := fun d hd => h d (hs d hd)
section
variable {T : Str → Option FD}
theorem w_bent (hB : T "_law_bent" = some f__law_bent) (h1 : T "_law_spots" = some f__law_spots) (h2 : T "_law_spot" = some f__law_spot) (h3 : T "_law_spot_put" = some f__law_spot_put) (h4 : T "_law_bent_spot" = some f__law_bent_spot) (h5 : T "_law_odd_values" = some f__law_odd_values)
    (hP : T "_law_pick" = some f__law_pick) (hT : T "_law_draw" = some f__law_draw) (hS' : T "_law_spread" = some f__law_spread) {n k m : Nat} {l : List D} {S : Sto} {P : D → Sto → Prop}
    (hS : Pool S) (hn : n ≤ 900) (hm : m ≤ 1000) (hne : l ≠ []) (hv : (D.tup l).pv (n + 1)) (hw : wd (.tup l) ≤ 1000000)
    (h : ∀ vs S', (∀ d ∈ vs, Val (2 * n + 6) (3 * wd (.tup l) + 700) d) → vs.length ≤ m + 26 → Pool S' → P (.lst vs) S') : Cl T (k + n + 9) "_law_bent" [.obj 0, .tup l, .int (m : Int)] S P := by
  have i0 : (0 : Int).natAbs < 10 ^ 20 := by decide
  have hnv := pv_nv _ _ hv
  have hl := len_wl l
  have hwt := wd_tup l
  have hml := mk_le l.length
  obtain ⟨d0, l0, rfl⟩ := List.exists_cons_of_ne_nil hne
  have lm : lim62 (m : Int) := lim_len (by omega)
  refine ⟨_, hB, rfl, ?_⟩
  simp_arith only [f__law_bent, i__law_bent]
  refine ⟨by simp [sizeL] at hl ⊢; omega, ?_⟩
  have hk : k + n + 8 = (k + 6) + (n + 1) + 1 := by omega
  rw [hk]
  refine w_spots h1 (n + 1) (k + 6) (.tup (d0 :: l0)) [] S _ hv (by simp; omega) hw fun ps p1 p2 p3 => ?_
  rw [← hk]
  simp_arith only [i__law_bent_r2, lim_0, lm, Int.sub_zero, Int.toNat_natCast, List.nil_append]
  have loop : ∀ (Z : Ends) (w : Nat), (∀ vs s5 s6 S', (∀ d ∈ vs, Val (2 * n + 6) (3 * wd (.tup (d0 :: l0)) + 700) d) → vs.length ≤ w → Pool S' → Z.nx [.val (.obj 0), .val (.tup (d0 :: l0)), .val (.int (m : Int)), .own (.lst vs), .val (.lst (ps.map pathD)), s5, s6] S') →
      ∀ (ds vs : List D) (s5 s6 : Sl) (S : Sto), (∀ d ∈ vs, Val (2 * n + 6) (3 * wd (.tup (d0 :: l0)) + 700) d) → vs.length + ds.length ≤ w → w ≤ 5000 → Pool S → forL (wG (.nm 5)) (wSs (Cl T (k + n + 8)) i__law_bent_b0) Z ds [.val (.obj 0), .val (.tup (d0 :: l0)), .val (.int (m : Int)), .own (.lst vs), .val (.lst (ps.map pathD)), s5, s6] S := by
    intro Z w hZ ds
    induction ds with
    | nil => intro vs s5 s6 S hvs hw _ hS; simp only [forL]; exact hZ vs s5 s6 S hvs (by simpa using hw) hS
    | cons x ds ih =>
      intro vs s5 s6 S hvs hw2 hw5 hS
      simp_arith only [forL, i__law_bent_b0]
      refine w_pickL hP hT hS' (k := k + n + 5) hS (by simpa using p1) (by rw [List.length_map]; omega) fun q S2 hq hS2 => ?_
      obtain ⟨p, hp, rfl⟩ := List.mem_map.mp hq
      obtain ⟨v, hv2⟩ := p3 p hp
      obtain ⟨v1, v2⟩ := at_pv p _ _ v hv hv2
      simp_arith only [i__law_bent_r0]
      refine w_spot h2 (k := k + n + 7) hv2 ?_
      have wv : wd v ≤ wd (.tup (d0 :: l0)) := by
        have : ∀ (p : List Nat) (u : D), at_ u p = some v → wd v ≤ wd u := by
          intro p
          induction p with
          | nil => intro u e; simp [at_] at e; subst e; exact Nat.le_refl _
          | cons j p ih =>
            intro u e
            obtain ⟨l, y, rfl, e1, e2⟩ := at_inv e
            have h1 := ih y e2
            have h2 := wl_sub (List.singleton_sublist.mpr (List.mem_of_getElem? e1))
            rw [wl_cons, wl_nil] at h2
            rw [wd_tup]; omega
        exact this p _ hv2
      refine w_bent_spot h4 hP hT hS' (k := k + n + 4) hS2 v1 (by omega) fun x S3 x1 x2 hS3 => ?_
      obtain ⟨c, hc⟩ : ∃ c, k + n + 8 = c + p.length + 1 := ⟨k + n + 8 - p.length - 1, by omega⟩
      rw [hc]
      refine w_spot_put h3 p c _ _ hv2 hw ?_
      try simp_arith only [true_and]
      rw [← hc]
      simp only [List.length_cons] at hw2
      refine ⟨by rw [sizeL]; omega, ?_⟩
      refine ih (vs ++ [put_ (.tup (d0 :: l0)) p x]) _ _ S3 (fun d hd => ?_) (by simp; omega) hw5 hS3
      rcases List.mem_append.mp hd with hd | hd
      · exact hvs d hd
      · rw [List.mem_singleton.mp hd]
        refine .inl ⟨nv_mono ((n + 1) + (n + 1 + 2)) _ _ (by omega) (put_nv p _ _ _ _ _ hv x1 hv2), ?_⟩
        have := put_wd p _ _ x hv2
        unfold vB at x2
        omega
  refine loop _ (m + 5) (fun vs s5 s6 S' v1 v2 hS2 => ?_) _ _ _ _ S ?_ ?_ (by omega) hS
  · simp_arith only [i__law_bent_r1]
    refine w_odd h5 (k := k + n + 7) ?_
    simp_arith only [true_and]
    have lo : oddV.length = 21 := rfl
    refine ⟨by rw [sizeL, lo]; omega, h _ _ (fun d hd => ?_) (by rw [List.length_append, lo]; omega) hS2⟩
    rcases List.mem_append.mp hd with hd | hd
    · exact v1 d hd
    · exact (odd_val d hd).mono (by omega) (by omega)
  · intro d hd
    simp only [List.mem_cons, List.not_mem_nil, or_false] at hd
    rcases hd with rfl | rfl | rfl | rfl | rfl
    · exact .inl ⟨nv_mono (n + 1) _ _ (by omega) hnv, by omega⟩
    · exact .inl ⟨nv_mono (n + 1) _ _ (by omega) (fun d hd => hnv d hd), by have := wd_lst (d0 :: l0); omega⟩
    · refine .inl ⟨nv_mono (n + 1) _ _ (by omega) fun d hd => ?_, ?_⟩
      · rcases List.mem_append.mp (show d ∈ (d0 :: l0) ++ [D.int 0] from hd) with hd | hd
        · exact hnv d hd
        · rw [List.mem_singleton.mp hd]; cases n <;> exact i0
      · rw [wd_tup]; have := wl_app (d0 :: l0) [D.int 0]; rw [wl_cons (.int 0), wl_nil] at this; have := wd_int i0; have := mk_le ((d0 :: l0) ++ [D.int 0]).length
        simp only [List.cons_append] at *; omega
    · refine .inl ⟨nv_mono (n + 1) _ _ (by omega) (nv_sub hnv fun d hd => by rw [List.mem_singleton.mp hd]; simp), ?_⟩
      rw [wd_tup, wl_cons, wl_nil]; have := mk_le [d0].length; rw [wl_cons] at hwt; omega
    · refine .inl ⟨nv_mono (n + 1) _ _ (by omega) (nv_sub hnv fun d hd => List.mem_reverse.mp hd), ?_⟩
      rw [wd_tup, wl_rev]; have := mk_le (d0 :: l0).reverse.length; omega
  · simp [rngList]; omega
theorem w_isint (hI : T "is_integer" = some f_is_integer) {k : Nat} {S : Sto} {P : D → Sto → Prop} {d : D} (hd : ∃ n w, Val n w d) (h : P (.bl (match d with | .int _ => true | _ => false)) S) : Cl T (k + 1) "is_integer" [d] S P := by
  obtain ⟨n, w, hd⟩ := hd
  refine ⟨_, hI, rfl, ?_⟩
  rcases hd with ⟨hd, _⟩ | rfl
  · cases d with
    | dct _ _ => cases n <;> exact hd.elim
    | scr _ => cases n <;> exact hd.elim
    | xt _ => cases n <;> exact hd.elim
    | obj _ => cases n <;> exact hd.elim
    | clo _ _ _ => cases n <;> exact hd.elim
    | _ => simp_arith only [f_is_integer, i_is_integer]; exact h
  · simp_arith only [f_is_integer, i_is_integer]; exact h
theorem w_lisint (hI : T "_law_is_integer" = some f__law_is_integer) {k : Nat} {S : Sto} {P : D → Sto → Prop} {d : D} (hd : ∃ n w, Val n w d) (h : P (.bl (match d with | .int _ => true | _ => false)) S) : Cl T (k + 1) "_law_is_integer" [d] S P := by
  obtain ⟨n, w, hd⟩ := hd
  refine ⟨_, hI, rfl, ?_⟩
  rcases hd with ⟨hd, _⟩ | rfl
  · cases d with
    | dct _ _ => cases n <;> exact hd.elim
    | scr _ => cases n <;> exact hd.elim
    | xt _ => cases n <;> exact hd.elim
    | obj _ => cases n <;> exact hd.elim
    | clo _ _ _ => cases n <;> exact hd.elim
    | _ => simp_arith only [f__law_is_integer, i__law_is_integer]; exact h
  · simp_arith only [f__law_is_integer, i__law_is_integer]; exact h
end
end Q
/-! Amounts and conditions told: words, small integers, amounts, conditions. -/
namespace Q
open PySem
def i_is_word : ISs := (.cons (.ifs (.or (.not (.v (.isa (.loc 0) "str"))) (.or (.not (.chain .le .le (.cst (.int 1)) (.blt "len" (.cons (.loc 0) .nil)) (.cst (D.int 12)))) (.cmp .mem (.loc 0) (.cst (D.tup [D.str "and", D.str "at", D.str "both", D.str "clause", D.str "else", D.str "fact", D.str "if", D.str "is", D.str "least", D.str "most", D.str "not", D.str "or", D.str "over", D.str "part", D.str "term", D.str "true"]))))) (.cons (.ret (.cst (.bl false)))
  .nil) .nil)
  (.cons (.ret (.blt "all" (.cons (.comp (.cmp .mem (.loc 1) (.cst (D.str "abcdefghijklmnopqrstuvwxyz"))) (.nm 1) (.seq (.loc 0)) .yes [1]) .nil)))
  .nil))
def f_is_word : FD := ⟨1, 2, i_is_word, false⟩
def i_is_tuple : ISs := (.cons (.ret (.and (.isa (.loc 0) "tuple") (.and (.cmp .eq (.blt "len" (.cons (.loc 0) .nil)) (.loc 2)) (.and (.isa (.idx (.loc 0) (.cst (.int 0))) "str") (.cmp .eq (.idx (.loc 0) (.cst (.int 0))) (.loc 1))))))
  .nil)
def f_is_tuple : FD := ⟨3, 3, i_is_tuple, false⟩
def i_is_small : ISs := (.cons (.ret (.and (.call "is_integer" (.cons (.loc 0) .nil)) (.chain .le .le (.neg (.cst (D.int 1000000))) (.loc 0) (.cst (D.int 1000000)))))
  .nil)
def f_is_small : FD := ⟨1, 1, i_is_small, false⟩
def i_is_amount_r0 : ISs := (.cons (.ifs (.or (.not (.v (.isa (.loc 0) "tuple"))) (.or (.cmp .ne (.blt "len" (.cons (.loc 0) .nil)) (.cst (.int 3))) (.or (.not (.v (.isa (.idx (.loc 0) (.cst (.int 0))) "str"))) (.cmp .nmem (.idx (.loc 0) (.cst (.int 0))) (.cst (D.tup [D.str "plus", D.str "less", D.str "least", D.str "most"])))))) (.cons (.ret (.cst (.bl false)))
  .nil) .nil)
  (.cons (.ret (.blt "all" (.cons (.comp (.call "is_amount" (.cons (.loc 4) (.cons (.loc 1) (.cons (.loc 2) (.cons (.bin .add (.loc 3) (.cst (.int 1))) .nil))))) (.nm 4) (.seq (.slcE (.loc 0) (.so (.cst (.int 1))) .no)) .yes [4]) .nil)))
  .nil))
def i_is_amount_r1 : ISs := (.cons (.ifs (.v (.call "is_tuple" (.cons (.loc 0) (.cons (.cst (.str "part")) (.cons (.cst (.int 3)) .nil))))) (.cons (.ret (.and (.call "is_amount" (.cons (.idx (.loc 0) (.cst (.int 1))) (.cons (.loc 1) (.cons (.loc 2) (.cons (.bin .add (.loc 3) (.cst (.int 1))) .nil))))) (.and (.call "is_small" (.cons (.idx (.loc 0) (.cst (.int 2))) .nil)) (.cmp .ge (.idx (.loc 0) (.cst (.int 2))) (.cst (.int 1))))))
  .nil) .nil)
  i_is_amount_r0)
def i_is_amount_r2 : ISs := (.cons (.ifs (.v (.call "is_tuple" (.cons (.loc 0) (.cons (.cst (.str "times")) (.cons (.cst (.int 3)) .nil))))) (.cons (.ret (.and (.call "is_small" (.cons (.idx (.loc 0) (.cst (.int 1))) .nil)) (.call "is_amount" (.cons (.idx (.loc 0) (.cst (.int 2))) (.cons (.loc 1) (.cons (.loc 2) (.cons (.bin .add (.loc 3) (.cst (.int 1))) .nil)))))))
  .nil) .nil)
  i_is_amount_r1)
def i_is_amount_r3 : ISs := (.cons (.ifs (.v (.call "is_tuple" (.cons (.loc 0) (.cons (.cst (.str "term")) (.cons (.cst (.int 2)) .nil))))) (.cons (.ret (.and (.call "is_word" (.cons (.idx (.loc 0) (.cst (.int 1))) .nil)) (.cmp .mem (.idx (.loc 0) (.cst (.int 1))) (.loc 2))))
  .nil) .nil)
  i_is_amount_r2)
def i_is_amount_r4 : ISs := (.cons (.ifs (.v (.call "is_tuple" (.cons (.loc 0) (.cons (.cst (.str "fact")) (.cons (.cst (.int 2)) .nil))))) (.cons (.ret (.and (.call "is_word" (.cons (.idx (.loc 0) (.cst (.int 1))) .nil)) (.cmp .mem (.idx (.loc 0) (.cst (.int 1))) (.loc 1))))
  .nil) .nil)
  i_is_amount_r3)
def i_is_amount : ISs := (.cons (.ifs (.cmp .gt (.loc 3) (.cst (D.int 20))) (.cons (.ret (.cst (.bl false)))
  .nil) .nil)
  (.cons (.ifs (.v (.call "is_tuple" (.cons (.loc 0) (.cons (.cst (.str "num")) (.cons (.cst (.int 2)) .nil))))) (.cons (.ret (.call "is_small" (.cons (.idx (.loc 0) (.cst (.int 1))) .nil)))
  .nil) .nil)
  i_is_amount_r4))
def f_is_amount : FD := ⟨4, 5, i_is_amount, false⟩
def i_is_condition_r0 : ISs := (.cons (.ret (.blt "all" (.cons (.comp (.call "is_condition" (.cons (.loc 4) (.cons (.loc 1) (.cons (.loc 2) (.cons (.bin .add (.loc 3) (.cst (.int 1))) .nil))))) (.nm 4) (.seq (.slcE (.loc 0) (.so (.cst (.int 1))) .no)) .yes [4]) .nil)))
  .nil)
def i_is_condition_r1 : ISs := (.cons (.ifs (.and (.not (.v (.call "is_tuple" (.cons (.loc 0) (.cons (.cst (.str "both")) (.cons (.cst (.int 3)) .nil)))))) (.not (.v (.call "is_tuple" (.cons (.loc 0) (.cons (.cst (.str "either")) (.cons (.cst (.int 3)) .nil))))))) (.cons (.ret (.cst (.bl false)))
  .nil) .nil)
  i_is_condition_r0)
def i_is_condition_r2 : ISs := (.cons (.ifs (.or (.v (.call "is_tuple" (.cons (.loc 0) (.cons (.cst (.str "is")) (.cons (.cst (.int 3)) .nil))))) (.v (.call "is_tuple" (.cons (.loc 0) (.cons (.cst (.str "below")) (.cons (.cst (.int 3)) .nil)))))) (.cons (.ret (.blt "all" (.cons (.comp (.call "is_amount" (.cons (.loc 4) (.cons (.loc 1) (.cons (.loc 2) (.cons (.bin .add (.loc 3) (.cst (.int 1))) .nil))))) (.nm 4) (.seq (.slcE (.loc 0) (.so (.cst (.int 1))) .no)) .yes [4]) .nil)))
  .nil) .nil)
  i_is_condition_r1)
def i_is_condition_r3 : ISs := (.cons (.ifs (.v (.call "is_tuple" (.cons (.loc 0) (.cons (.cst (.str "not")) (.cons (.cst (.int 2)) .nil))))) (.cons (.ret (.call "is_condition" (.cons (.idx (.loc 0) (.cst (.int 1))) (.cons (.loc 1) (.cons (.loc 2) (.cons (.bin .add (.loc 3) (.cst (.int 1))) .nil))))))
  .nil) .nil)
  i_is_condition_r2)
def i_is_condition : ISs := (.cons (.ifs (.cmp .gt (.loc 3) (.cst (D.int 20))) (.cons (.ret (.cst (.bl false)))
  .nil) .nil)
  (.cons (.ifs (.v (.call "is_tuple" (.cons (.loc 0) (.cons (.cst (.str "true")) (.cons (.cst (.int 1)) .nil))))) (.cons (.ret (.cst (.bl true)))
  .nil) .nil)
  i_is_condition_r3))
def f_is_condition : FD := ⟨4, 5, i_is_condition, false⟩
def keptW : List Str := ["and", "at", "both", "clause", "else", "fact", "if", "is", "least", "most", "not", "or", "over", "part", "term", "true"]
def wordB (s : Str) : Bool := decide (1 ≤ s.length) && decide (s.length ≤ 12) && !(keptW.any fun z => z == s) && s.cps.toList.all fun c => strIn ⟨#[c]⟩ "abcdefghijklmnopqrstuvwxyz"
def wordD (d : D) : Bool := match d with
  | .str s => wordB s
  | _ => false
/-- a value of any depth -/
def Nv (d : D) : Prop := ∃ n, n ≤ 60 ∧ d.nv n
def Vl (d : D) : Prop := Nv d ∨ d = .dct [] []
theorem Vl.shape {d : D} (h : Vl d) : d = .non ∨ (∃ b, d = .bl b) ∨ (∃ i, d = .int i) ∨ (∃ s, d = .str s ∧ strN s) ∨ (∃ l, d = .tup l ∧ ∀ x ∈ l, Nv x) ∨ (∃ l, d = .lst l) ∨ d = .dct [] [] := by
  rcases h with ⟨n, hn, h⟩ | rfl
  · cases d with
    | non => exact .inl rfl
    | bl b => exact .inr (.inl ⟨b, rfl⟩)
    | int i => exact .inr (.inr (.inl ⟨i, rfl⟩))
    | str s => exact .inr (.inr (.inr (.inl ⟨s, rfl, by cases n <;> exact h⟩)))
    | tup l =>
      cases n with
      | zero => exact h.elim
      | succ n => exact .inr (.inr (.inr (.inr (.inl ⟨l, rfl, fun x hx => ⟨n, by omega, h x hx⟩⟩))))
    | lst l => exact .inr (.inr (.inr (.inr (.inr (.inl ⟨l, rfl⟩)))))
    | _ => exact (by cases n <;> exact h.elim)
  · exact .inr (.inr (.inr (.inr (.inr (.inr rfl)))))
theorem Nv.vl {d : D} (h : Nv d) : Vl d := .inl h
theorem Vl.val {d : D} (h : Vl d) : ∃ n w, Val n w d := by
  rcases h with ⟨n, _, h⟩ | rfl
  · exact ⟨n, wd d, .inl ⟨h, Nat.le_refl _⟩⟩
  · exact ⟨0, 0, .inr rfl⟩
theorem Nv.ok {d : D} (h : Nv d) : d.eqOk = true := by
  obtain ⟨n, hn, h⟩ := h
  exact eqOk_of (nv_okE n d h) (by omega)
theorem strN.nv {s : Str} (h : strN s) : Nv (.str s) := ⟨0, by omega, h⟩
theorem allB_ia (l : List Bool) : allB (l.map .bl) = some l := by
  induction l with
  | nil => rfl
  | cons b l ih => simp only [List.map_cons, allB, ih, Option.map_some]
section
variable {T : Str → Option FD}
theorem w_is_word (hT : T "is_word" = some f_is_word) {k : Nat} {S : Sto} {P : D → Sto → Prop} {d : D} (hd : Vl d) (h : P (.bl (wordD d)) S) : Cl T (k + 1) "is_word" [d] S P := by
  refine ⟨_, hT, rfl, ?_⟩
  rcases hd.shape with rfl | ⟨b, rfl⟩ | ⟨b, rfl⟩ | ⟨s, rfl, hs⟩ | ⟨l, rfl, _⟩ | ⟨l, rfl⟩ | rfl
  case inr.inr.inr.inl =>
    have ok := hs.nv.ok
    have okk : (D.tup (keptW.map D.str)).eqOk = true := by decide +kernel
    have hlen := hs.2
    have sz : s.length ≤ sizeLine := by rw [sizeL]; omega
    simp only [keptW, List.map_cons, List.map_nil] at okk
    simp_arith only [f_is_word, i_is_word, ok, okk, sz]
    have hcl : s.cps.toList.length ≤ sizeLine := by
      have : s.cps.toList.length = s.length := by simp [Str.length]
      omega
    have hk : ∀ b : Bool, wordB s = b → P (.bl b) S := fun b e => by rw [← e]; exact h
    refine iteI (fun h1 => ?_) (fun h1 => hk _ (by unfold wordB; simp; omega))
    refine iteI (fun h2 => hk _ (by unfold wordB; simp at h2 ⊢; omega)) (fun h2 => ?_)
    refine iteI (fun h3 => hk _ ?_) (fun h3 => ?_)
    · have h3 : (keptW.any fun z => z == s) = true := h3
      unfold wordB; rw [h3]; simp
    · have h3 : ¬ (keptW.any fun z => z == s) = true := h3
      refine ⟨by simp, ?_⟩
      refine compL_m (fun c => D.str ⟨#[c]⟩) (fun c => .bl (strIn ⟨#[c]⟩ "abcdefghijklmnopqrstuvwxyz")) _ hcl (fun x hx K acc ha hK => ?_) ?_
      · simp_arith only [true_and]
        exact ⟨ha, hK⟩
      · rw [show (s.cps.toList.map fun c => D.bl (strIn ⟨#[c]⟩ "abcdefghijklmnopqrstuvwxyz")) = (s.cps.toList.map fun c => strIn ⟨#[c]⟩ "abcdefghijklmnopqrstuvwxyz").map D.bl by rw [List.map_map]; rfl, allB_ia]
        simp_arith only [true_and]
        refine hk _ ?_
        unfold wordB
        have e1 : decide (1 ≤ s.length) = true := by simp; omega
        have e2 : decide (s.length ≤ 12) = true := by simp at h2 ⊢; omega
        rw [e1, e2, Bool.eq_false_iff.mpr h3]
        simp [List.all_map]
  all_goals (simp_arith only [f_is_word, i_is_word]; exact h)
end
def tupW (d : D) (w : Str) (n : Nat) : Bool := match d with
  | .tup (.str h :: l) => (l.length + 1 == n) && (h == w)
  | _ => false
def smallD (d : D) : Bool := match d with
  | .int i => decide (-1000000 ≤ i) && decide (i ≤ 1000000)
  | _ => false
def posD (d : D) : Bool := match d with
  | .int i => decide (1 ≤ i)
  | _ => false
def memD (fs : List Str) (d : D) : Bool := match d with
  | .str s => fs.any fun z => z == s
  | _ => false
def twoW : List Str := ["plus", "less", "least", "most"]
/-- amounts, conditions: m levels deep at most -/
def amB (fs ts : List Str) : Nat → D → Bool
  | 0, _ => false
  | m + 1, .tup [.str w, x] => if (w == "num") = true then smallD x else if (w == "fact") = true then memD fs x else if (w == "term") = true then memD ts x else false
  | m + 1, .tup [.str w, x, y] => if (w == "times") = true then smallD x && amB fs ts m y else if (w == "part") = true then amB fs ts m x && (smallD y && posD y) else if (twoW.any fun z => z == w) = true then amB fs ts m x && amB fs ts m y else false
  | _ + 1, _ => false
def cnB (fs ts : List Str) : Nat → D → Bool
  | 0, _ => false
  | m + 1, .tup [.str w] => w == "true"
  | m + 1, .tup [.str w, x] => if (w == "not") = true then cnB fs ts m x else false
  | m + 1, .tup [.str w, x, y] => if (w == "is" || w == "below") = true then amB fs ts m x && amB fs ts m y else if (w == "both" || w == "either") = true then cnB fs ts m x && cnB fs ts m y else false
  | _ + 1, _ => false
def strsD (fs : List Str) : D := .lst (fs.map .str)
def fineW (fs : List Str) : Prop := fs.length ≤ 40 ∧ ∀ s ∈ fs, wordB s = true ∧ strN s
theorem strsD_ok {fs : List Str} (h : fineW fs) : (strsD fs).eqOk = true := by
  refine eqOk_of (n := 1) (fun d hd => ?_) (by omega)
  obtain ⟨s, hs, rfl⟩ := List.mem_map.mp hd
  exact (h.2 s hs).2.1
theorem any_strs (fs : List Str) (s : Str) : ((fs.map D.str).any fun z => z.eq (.str s)) = fs.any fun z => z == s := by
  rw [List.any_map]; rfl
theorem word_mem {fs : List Str} (h : fineW fs) (s : Str) (hs : (fs.any fun z => z == s) = true) : wordB s = true := by
  obtain ⟨z, hz, e⟩ := List.any_eq_true.mp hs
  have : z = s := by simpa using e
  subst this
  exact (h.2 z hz).1
section
variable {T : Str → Option FD}
theorem w_is_tuple (hT : T "is_tuple" = some f_is_tuple) {k : Nat} {S : Sto} {P : D → Sto → Prop} {d : D} {w : Str} {n : Nat} (hn : 1 ≤ n) (hd : Vl d) (h : P (.bl (tupW d w n)) S) : Cl T (k + 1) "is_tuple" [d, .str w, .int (n : Int)] S P := by
  refine ⟨_, hT, rfl, ?_⟩
  rcases hd.shape with rfl | ⟨b, rfl⟩ | ⟨b, rfl⟩ | ⟨s, rfl, hs⟩ | ⟨l, rfl, hl⟩ | ⟨l, rfl⟩ | rfl
  case inr.inr.inr.inr.inl =>
    cases l with
    | nil =>
      simp_arith only [f_is_tuple, i_is_tuple]
      refine iteI (fun h1 => ?_) (fun h1 => ?_)
      · simp at h1; omega
      · rw [Bool.eq_false_iff.mpr h1]; exact h
    | cons x l =>
      simp_arith only [f_is_tuple, i_is_tuple]
      have hx := (hl x (by simp)).vl.shape
      refine iteI (fun h1 => ?_) (fun h1 => ?_)
      · have h2 : (l.length + 1 == n) = true := by simp at h1 ⊢; omega
        rcases hx with rfl | ⟨b, rfl⟩ | ⟨b, rfl⟩ | ⟨s, rfl, hs⟩ | ⟨l, rfl, hl⟩ | ⟨l, rfl⟩ | rfl
        case inr.inr.inr.inl =>
          simp_arith only [true_and]
          simp only [tupW, h2, Bool.true_and] at h
          exact h
        all_goals (simp_arith only [true_and]; exact h)
      · have h2 : (l.length + 1 == n) = false := by simp at h1 ⊢; omega
        have e : tupW (.tup (x :: l)) w n = false := by
          cases x <;> simp only [tupW, h2, Bool.false_and]
        rw [e] at h
        rw [Bool.eq_false_iff.mpr h1]; exact h
  all_goals (simp_arith only [f_is_tuple, i_is_tuple]; exact h)
theorem w_is_small (hT : T "is_small" = some f_is_small) (hI : T "is_integer" = some f_is_integer) {k : Nat} {S : Sto} {P : D → Sto → Prop} {d : D} (hd : Vl d) (h : P (.bl (smallD d)) S) : Cl T (k + 2) "is_small" [d] S P := by
  refine ⟨_, hT, rfl, ?_⟩
  simp_arith only [f_is_small, i_is_small]
  refine w_isint hI hd.val ?_
  rcases hd.shape with rfl | ⟨b, rfl⟩ | ⟨b, rfl⟩ | ⟨s, rfl, hs⟩ | ⟨l, rfl, hl⟩ | ⟨l, rfl⟩ | rfl
  case inr.inr.inl =>
    simp_arith only [true_and]
    refine iteI (fun h1 => ?_) (fun h1 => ?_)
    · simp only [smallD] at h
      rw [show decide (-1000000 ≤ b) = true by simpa using h1] at h
      simpa using h
    · simp only [smallD] at h
      rw [show decide (-1000000 ≤ b) = false by simpa using h1] at h
      simpa using h
  all_goals (simp_arith only [true_and]; exact h)
end
theorem cut_drop2 (a b c : D) : cut [a, b, c] (some 1) none = [b, c] := rfl
section
variable {T : Str → Option FD} {fs ts : List Str}
theorem all2 {f : D → Bool} {x y : D} {C : D → Lo → (Lo → Prop) → Prop} {c : Lo → Sto → KT → Prop} {e : Lo → Sto → KE → Prop} {Lw : Lo} {S : Sto} {P : D → Sto → Prop}
    (h : ∀ z ∈ [x, y], ∀ (K : List D → Sto → Prop) (acc : List D), acc.length < sizeLine → K (acc ++ [.bl (f z)]) S → C z Lw fun L1 => c L1 S fun b L2 S2 => L2 = L1 ∧ if b = true then e L1 S2 fun r _ L3 S3 => L3 = L1 ∧ acc.length < sizeLine ∧ K (acc ++ [r]) S3 else K acc S2)
    (hP : P (.bl (f x && f y)) S) : compL C c e Lw [x, y] S [] fun acc S2 => optP (allB acc) fun bs => P (.bl (bs.all id)) S2 := by
  have := compL_m (t := C) (c := c) (e := e) (Lw := Lw) (S := S) (P := fun acc S2 => optP (allB acc) fun bs => P (.bl (bs.all id)) S2) id (fun z => .bl (f z)) [x, y] (by simp [sizeL]) h
  rw [List.map_id] at this
  refine this ?_
  simp_arith only [List.map_cons, List.map_nil, allB, Option.map_some, List.all_cons, List.all_nil, id, Bool.and_true]
  exact hP
theorem lim_pos {b : Int} {d : D} (hd : d = .int b) : posD d = decide (1 ≤ b) := by subst hd; rfl
theorem w_is_amount (hA : T "is_amount" = some f_is_amount) (hU : T "is_tuple" = some f_is_tuple) (hW : T "is_word" = some f_is_word) (hM : T "is_small" = some f_is_small) (hI : T "is_integer" = some f_is_integer) (hf : fineW fs) (ht : fineW ts) {S : Sto} :
    ∀ (m k : Nat) (d : D) (P : D → Sto → Prop) (dep : Int), dep + m = 21 → Vl d → P (.bl (amB fs ts m d)) S → Cl T (k + m + 3) "is_amount" [d, strsD fs, strsD ts, .int dep] S P := by
  intro m
  induction m with
  | zero =>
    intro k d P dep hm hd h
    refine ⟨_, hA, rfl, ?_⟩
    have c1 : (20 < dep) = True := eq_true (by omega)
    simp_arith only [f_is_amount, i_is_amount, c1]
    exact h
  | succ m ih =>
    intro k d P dep hm hd h
    have c1 : (20 < dep) = False := eq_false (by omega)
    have ih' : ∀ (d : D) (P : D → Sto → Prop), Vl d → P (.bl (amB fs ts m d)) S → Cl T (k + m + 3) "is_amount" [d, strsD fs, strsD ts, .int (dep + 1)] S P := fun d P hd h => ih k d P (dep + 1) (by omega) hd h
    have start : tupW d "num" 2 = false → tupW d "fact" 2 = false → tupW d "term" 2 = false → tupW d "times" 3 = false → tupW d "part" 3 = false →
        wSs (Cl T (k + m + 3)) i_is_amount_r0 [.val d, .val (strsD fs), .val (strsD ts), .val (.int dep), .no] S { nx := fun _ S1 => P .non S1, rt := P } → Cl T (k + m + 4) "is_amount" [d, strsD fs, strsD ts, .int dep] S P := by
      intro e1 e2 e3 e4 e5 h0
      refine ⟨_, hA, rfl, ?_⟩
      simp_arith only [f_is_amount, i_is_amount, c1]
      refine w_is_tuple hU (k := k + m + 2) (n := 2) (by decide) hd ?_
      simp_arith only [e1, i_is_amount_r4]
      refine w_is_tuple hU (k := k + m + 2) (n := 2) (by decide) hd ?_
      simp_arith only [e2, i_is_amount_r3]
      refine w_is_tuple hU (k := k + m + 2) (n := 2) (by decide) hd ?_
      simp_arith only [e3, i_is_amount_r2]
      refine w_is_tuple hU (k := k + m + 2) (n := 3) (by decide) hd ?_
      simp_arith only [e4, i_is_amount_r1]
      refine w_is_tuple hU (k := k + m + 2) (n := 3) (by decide) hd ?_
      simp_arith only [e5]
      exact h0
    have okT : (D.tup [.str "plus", .str "less", .str "least", .str "most"]).eqOk = true := by decide +kernel
    rw [show k + (m + 1) + 3 = k + m + 4 by omega]
    rcases hd.shape with rfl | ⟨b, rfl⟩ | ⟨b, rfl⟩ | ⟨s, rfl, hs⟩ | ⟨l, rfl, hl⟩ | ⟨l, rfl⟩ | rfl
    case inr.inr.inr.inr.inl =>
      cases l with
      | nil =>
        refine start rfl rfl rfl rfl rfl ?_
        simp_arith only [i_is_amount_r0]
        exact h
      | cons a l =>
        have ha := hl a (by simp)
        by_cases hstr : ∃ w, a = .str w ∧ strN w
        · obtain ⟨w, rfl, hw⟩ := hstr
          have okw := hw.nv.ok
          cases l with
          | nil =>
            refine start (by simp [tupW]) (by simp [tupW]) (by simp [tupW]) (by simp [tupW]) (by simp [tupW]) ?_
            simp_arith only [i_is_amount_r0]
            exact h
          | cons x l =>
            have hx := (hl x (by simp)).vl
            cases l with
            | nil =>
              refine ⟨_, hA, rfl, ?_⟩
              simp_arith only [f_is_amount, i_is_amount, c1]
              refine w_is_tuple hU (k := k + m + 2) (n := 2) (by decide) hd ?_
              simp only [amB] at h
              have tw : ∀ w', tupW (.tup [.str w, x]) w' 2 = (w == w') := fun w' => by simp [tupW]
              have tw3 : ∀ w', tupW (.tup [.str w, x]) w' 3 = false := fun w' => by simp [tupW]
              simp_arith only [tw]
              have inF : ∀ (gs : List Str), fineW gs → P (.bl (memD gs x)) S → Cl T (k + m + 3) "is_word" [x] S fun r S2 => r.truth fun b => if b = true then dMem x (strsD gs) fun k => P (.bl k) S2 else P r S2 := by
                intro gs hg hP
                refine w_is_word hW (k := k + m + 2) hx ?_
                rcases hx.shape with rfl | ⟨b, rfl⟩ | ⟨b, rfl⟩ | ⟨s, rfl, hs⟩ | ⟨l, rfl, hl⟩ | ⟨l, rfl⟩ | rfl
                case inr.inr.inr.inl =>
                  simp_arith only [wordD]
                  refine iteI (fun h1 => ?_) (fun h1 => ?_)
                  · have o1 := hs.nv.ok
                    have o2 := strsD_ok hg
                    unfold strsD at o2 ⊢
                    simp_arith only [true_and]
                    rw [any_strs]
                    exact ⟨o1, o2, hP⟩
                  · have : memD gs (.str s) = false := Bool.eq_false_iff.mpr fun e => h1 (word_mem hg s e)
                    rw [this] at hP
                    rw [Bool.eq_false_iff.mpr h1]; exact hP
                all_goals (simp_arith only [wordD]; exact hP)
              refine iteI (fun h1 => ?_) (fun h1 => ?_)
              · rw [if_pos h1] at h
                try simp_arith only [true_and]
                exact w_is_small hM hI (k := k + m + 1) hx h
              · rw [if_neg h1] at h
                simp_arith only [i_is_amount_r4]
                refine w_is_tuple hU (k := k + m + 2) (n := 2) (by decide) hd ?_
                simp_arith only [tw]
                refine iteI (fun h1 => ?_) (fun h1 => ?_)
                · rw [if_pos h1] at h
                  have := inF fs hf h
                  try simp_arith only [true_and]
                  exact this
                · rw [if_neg h1] at h
                  simp_arith only [i_is_amount_r3]
                  refine w_is_tuple hU (k := k + m + 2) (n := 2) (by decide) hd ?_
                  simp_arith only [tw]
                  refine iteI (fun h1 => ?_) (fun h1 => ?_)
                  · rw [if_pos h1] at h
                    have := inF ts ht h
                    try simp_arith only [true_and]
                    exact this
                  · rw [if_neg h1] at h
                    simp_arith only [i_is_amount_r2]
                    refine w_is_tuple hU (k := k + m + 2) (n := 3) (by decide) hd ?_
                    simp_arith only [tw3, i_is_amount_r1]
                    refine w_is_tuple hU (k := k + m + 2) (n := 3) (by decide) hd ?_
                    simp_arith only [tw3, i_is_amount_r0]
                    exact h
            | cons y l =>
              cases l with
              | nil =>
                have hy := (hl y (by simp)).vl
                have tw2 : ∀ w', tupW (.tup [.str w, x, y]) w' 2 = false := fun w' => by simp [tupW]
                have tw : ∀ w', tupW (.tup [.str w, x, y]) w' 3 = (w == w') := fun w' => by simp [tupW]
                refine ⟨_, hA, rfl, ?_⟩
                simp only [amB] at h
                simp_arith only [f_is_amount, i_is_amount, c1]
                refine w_is_tuple hU (k := k + m + 2) (n := 2) (by decide) hd ?_
                simp_arith only [tw2, i_is_amount_r4]
                refine w_is_tuple hU (k := k + m + 2) (n := 2) (by decide) hd ?_
                simp_arith only [tw2, i_is_amount_r3]
                refine w_is_tuple hU (k := k + m + 2) (n := 2) (by decide) hd ?_
                simp_arith only [tw2, i_is_amount_r2]
                refine w_is_tuple hU (k := k + m + 2) (n := 3) (by decide) hd ?_
                simp_arith only [tw]
                refine iteI (fun h1 => ?_) (fun h1 => ?_)
                · rw [if_pos h1] at h
                  try simp_arith only [true_and]
                  refine w_is_small hM hI (k := k + m + 1) hx ?_
                  simp_arith only [true_and]
                  refine iteI (fun h2 => ?_) (fun h2 => ?_)
                  · rw [h2, Bool.true_and] at h
                    exact ih' y _ hy h
                  · rw [Bool.eq_false_iff.mpr h2, Bool.false_and] at h
                    rw [Bool.eq_false_iff.mpr h2]; exact h
                · rw [if_neg h1] at h
                  simp_arith only [i_is_amount_r1]
                  refine w_is_tuple hU (k := k + m + 2) (n := 3) (by decide) hd ?_
                  simp_arith only [tw]
                  refine iteI (fun h1 => ?_) (fun h1 => ?_)
                  · rw [if_pos h1] at h
                    try simp_arith only [true_and]
                    refine ih' x _ hx ?_
                    simp_arith only [true_and]
                    refine iteI (fun h2 => ?_) (fun h2 => ?_)
                    · rw [h2, Bool.true_and] at h
                      refine w_is_small hM hI (k := k + m + 1) hy ?_
                      simp_arith only [true_and]
                      refine iteI (fun h3 => ?_) (fun h3 => ?_)
                      · rw [h3, Bool.true_and] at h
                        obtain ⟨i, rfl⟩ : ∃ i, y = .int i := by
                          cases y <;> first | exact ⟨_, rfl⟩ | cases h3
                        simp_arith only [true_and]
                        exact h
                      · rw [Bool.eq_false_iff.mpr h3, Bool.false_and] at h
                        rw [Bool.eq_false_iff.mpr h3]; exact h
                    · rw [Bool.eq_false_iff.mpr h2, Bool.false_and] at h
                      rw [Bool.eq_false_iff.mpr h2]; exact h
                  · rw [if_neg h1] at h
                    simp_arith only [i_is_amount_r0, okw, okT]
                    refine iteI (fun h2 => ?_) (fun h2 => ?_)
                    · rw [if_neg] at h
                      · exact h
                      · intro e
                        have e' : ([D.str "plus", .str "less", .str "least", .str "most"].any fun z => z.eq (.str w)) = true := e
                        rw [e'] at h2; cases h2
                    · rw [if_pos] at h
                      · refine ⟨by simp, ?_⟩
                        rw [cut_drop2]
                        refine all2 (f := amB fs ts m) (fun z hz K acc ha hK => ?_) h
                        simp_arith only [true_and]
                        refine ih' z _ ?_ ⟨ha, hK⟩
                        simp only [List.mem_cons, List.not_mem_nil, or_false] at hz
                        rcases hz with rfl | rfl
                        · exact hx
                        · exact hy
                      · have : ([D.str "plus", .str "less", .str "least", .str "most"].any fun z => z.eq (.str w)) = true := Decidable.byContradiction fun e => h2 (by rw [Bool.eq_false_iff.mpr e]; rfl)
                        exact this
              | cons z l =>
                have tw : ∀ w' n, n ≤ 3 → tupW (.tup (.str w :: x :: y :: z :: l)) w' n = false := fun w' n hn => by
                  simp only [tupW, List.length_cons]
                  rw [show (l.length + 1 + 1 + 1 + 1 == n) = false by simp; omega, Bool.false_and]
                refine start (tw _ _ (by omega)) (tw _ _ (by omega)) (tw _ _ (by omega)) (tw _ _ (by omega)) (tw _ _ (by omega)) ?_
                simp_arith only [i_is_amount_r0]
                refine iteI (fun _ => h) (fun h1 => ?_)
                simp at h1; omega
        · have ns : ∀ w, a ≠ .str w := fun w e => by
            subst e
            obtain ⟨n, _, hn⟩ := ha
            exact hstr ⟨w, rfl, by cases n <;> exact hn⟩
          have tw : ∀ w' n, tupW (.tup (a :: l)) w' n = false := fun w' n => by
            cases a <;> first | rfl | exact absurd rfl (ns _)
          have am : amB fs ts (m + 1) (.tup (a :: l)) = false := by
            cases a <;> first | rfl | exact absurd rfl (ns _) | (cases l with
              | nil => rfl
              | cons _ l => cases l with
                | nil => rfl
                | cons _ l => cases l <;> rfl)
          rw [am] at h
          refine start (tw _ _) (tw _ _) (tw _ _) (tw _ _) (tw _ _) ?_
          simp_arith only [i_is_amount_r0]
          refine iteI (fun _ => h) (fun h1 => ?_)
          rcases ha.vl.shape with rfl | ⟨b, rfl⟩ | ⟨b, rfl⟩ | ⟨s, rfl, hs⟩ | ⟨l, rfl, hl⟩ | ⟨l, rfl⟩ | rfl
          case inr.inr.inr.inl => exact absurd rfl (ns s)
          all_goals (simp_arith only [true_and]; exact h)
    all_goals (refine start rfl rfl rfl rfl rfl ?_; simp_arith only [i_is_amount_r0]; exact h)
end
section
variable {T : Str → Option FD} {fs ts : List Str}
theorem w_is_condition (hC : T "is_condition" = some f_is_condition) (hA : T "is_amount" = some f_is_amount) (hU : T "is_tuple" = some f_is_tuple) (hW : T "is_word" = some f_is_word) (hM : T "is_small" = some f_is_small) (hI : T "is_integer" = some f_is_integer) (hf : fineW fs) (ht : fineW ts) {S : Sto} :
    ∀ (m k : Nat) (d : D) (P : D → Sto → Prop) (dep : Int), dep + m = 21 → Vl d → P (.bl (cnB fs ts m d)) S → Cl T (k + m + 3) "is_condition" [d, strsD fs, strsD ts, .int dep] S P := by
  intro m
  induction m with
  | zero =>
    intro k d P dep hm hd h
    refine ⟨_, hC, rfl, ?_⟩
    have c1 : (20 < dep) = True := eq_true (by omega)
    simp_arith only [f_is_condition, i_is_condition, c1]
    exact h
  | succ m ih =>
    intro k d P dep hm hd h
    have c1 : (20 < dep) = False := eq_false (by omega)
    have ih' : ∀ (d : D) (P : D → Sto → Prop), Vl d → P (.bl (cnB fs ts m d)) S → Cl T (k + m + 3) "is_condition" [d, strsD fs, strsD ts, .int (dep + 1)] S P := fun d P hd h => ih k d P (dep + 1) (by omega) hd h
    have am' : ∀ (d : D) (P : D → Sto → Prop), Vl d → P (.bl (amB fs ts m d)) S → Cl T (k + m + 3) "is_amount" [d, strsD fs, strsD ts, .int (dep + 1)] S P := fun d P hd h => w_is_amount hA hU hW hM hI hf ht m k d P (dep + 1) (by omega) hd h
    have none_ : tupW d "true" 1 = false → tupW d "not" 2 = false → tupW d "is" 3 = false → tupW d "below" 3 = false → tupW d "both" 3 = false → tupW d "either" 3 = false → P (.bl false) S → Cl T (k + m + 4) "is_condition" [d, strsD fs, strsD ts, .int dep] S P := by
      intro e1 e2 e3 e4 e5 e6 h0
      refine ⟨_, hC, rfl, ?_⟩
      simp_arith only [f_is_condition, i_is_condition, c1]
      refine w_is_tuple hU (k := k + m + 2) (n := 1) (by decide) hd ?_
      simp_arith only [e1, i_is_condition_r3]
      refine w_is_tuple hU (k := k + m + 2) (n := 2) (by decide) hd ?_
      simp_arith only [e2, i_is_condition_r2]
      refine w_is_tuple hU (k := k + m + 2) (n := 3) (by decide) hd ?_
      simp_arith only [e3]
      refine w_is_tuple hU (k := k + m + 2) (n := 3) (by decide) hd ?_
      simp_arith only [e4, i_is_condition_r1]
      refine w_is_tuple hU (k := k + m + 2) (n := 3) (by decide) hd ?_
      simp_arith only [e5]
      refine w_is_tuple hU (k := k + m + 2) (n := 3) (by decide) hd ?_
      simp_arith only [e6]
      exact h0
    rw [show k + (m + 1) + 3 = k + m + 4 by omega]
    rcases hd.shape with rfl | ⟨b, rfl⟩ | ⟨b, rfl⟩ | ⟨s, rfl, hs⟩ | ⟨l, rfl, hl⟩ | ⟨l, rfl⟩ | rfl
    case inr.inr.inr.inr.inl =>
      cases l with
      | nil => exact none_ rfl rfl rfl rfl rfl rfl h
      | cons a l =>
        have ha := hl a (by simp)
        by_cases hstr : ∃ w, a = .str w ∧ strN w
        · obtain ⟨w, rfl, hw⟩ := hstr
          cases l with
          | nil =>
            have tw : ∀ w' n, n ≠ 1 → tupW (.tup [.str w]) w' n = false := fun w' n hn => by
              simp only [tupW, List.length_nil]
              rw [show (0 + 1 == n) = false by simp; omega, Bool.false_and]
            have tw1 : ∀ w', tupW (.tup [.str w]) w' 1 = (w == w') := fun w' => by simp [tupW]
            simp only [cnB] at h
            by_cases h1 : (w == "true") = true
            · rw [h1] at h
              refine ⟨_, hC, rfl, ?_⟩
              simp_arith only [f_is_condition, i_is_condition, c1]
              refine w_is_tuple hU (k := k + m + 2) (n := 1) (by decide) hd ?_
              simp_arith only [tw1, h1]
              exact h
            · rw [Bool.eq_false_iff.mpr h1] at h
              exact none_ (by rw [tw1]; exact Bool.eq_false_iff.mpr h1) (tw _ _ (by omega)) (tw _ _ (by omega)) (tw _ _ (by omega)) (tw _ _ (by omega)) (tw _ _ (by omega)) h
          | cons x l =>
            have hx := (hl x (by simp)).vl
            cases l with
            | nil =>
              have tw : ∀ w' n, n ≠ 2 → tupW (.tup [.str w, x]) w' n = false := fun w' n hn => by
                simp only [tupW, List.length_cons, List.length_nil]
                rw [show (0 + 1 + 1 == n) = false by simp; omega, Bool.false_and]
              have tw1 : ∀ w', tupW (.tup [.str w, x]) w' 2 = (w == w') := fun w' => by simp [tupW]
              simp only [cnB] at h
              by_cases h1 : (w == "not") = true
              · rw [if_pos h1] at h
                refine ⟨_, hC, rfl, ?_⟩
                simp_arith only [f_is_condition, i_is_condition, c1]
                refine w_is_tuple hU (k := k + m + 2) (n := 1) (by decide) hd ?_
                simp_arith only [tw _ 1 (by omega), i_is_condition_r3]
                refine w_is_tuple hU (k := k + m + 2) (n := 2) (by decide) hd ?_
                simp_arith only [tw1, h1]
                exact ih' x _ hx h
              · rw [if_neg h1] at h
                exact none_ (tw _ _ (by omega)) (by rw [tw1]; exact Bool.eq_false_iff.mpr h1) (tw _ _ (by omega)) (tw _ _ (by omega)) (tw _ _ (by omega)) (tw _ _ (by omega)) h
            | cons y l =>
              cases l with
              | nil =>
                have hy := (hl y (by simp)).vl
                have tw2 : ∀ w' n, n ≠ 3 → tupW (.tup [.str w, x, y]) w' n = false := fun w' n hn => by
                  simp only [tupW, List.length_cons, List.length_nil]
                  rw [show (0 + 1 + 1 + 1 == n) = false by simp; omega, Bool.false_and]
                have tw : ∀ w', tupW (.tup [.str w, x, y]) w' 3 = (w == w') := fun w' => by simp [tupW]
                have two : ∀ z ∈ [x, y], Vl z := fun z hz => by
                  simp only [List.mem_cons, List.not_mem_nil, or_false] at hz
                  rcases hz with rfl | rfl
                  · exact hx
                  · exact hy
                simp only [cnB] at h
                by_cases h5 : (w == "is" || w == "below" || w == "both" || w == "either") = true
                case neg =>
                  have h5' := Bool.eq_false_iff.mpr h5
                  simp only [Bool.or_eq_false_iff] at h5'
                  obtain ⟨⟨⟨b1, b2⟩, b3⟩, b4⟩ := h5'
                  rw [b1, b2, b3, b4] at h
                  exact none_ (tw2 _ _ (by omega)) (tw2 _ _ (by omega)) (by rw [tw, b1]) (by rw [tw, b2]) (by rw [tw, b3]) (by rw [tw, b4]) h
                refine ⟨_, hC, rfl, ?_⟩
                simp_arith only [f_is_condition, i_is_condition, c1]
                refine w_is_tuple hU (k := k + m + 2) (n := 1) (by decide) hd ?_
                simp_arith only [tw2 _ 1 (by omega), i_is_condition_r3]
                refine w_is_tuple hU (k := k + m + 2) (n := 2) (by decide) hd ?_
                simp_arith only [tw2 _ 2 (by omega), i_is_condition_r2]
                refine w_is_tuple hU (k := k + m + 2) (n := 3) (by decide) hd ?_
                simp_arith only [tw]
                have fin1 : (w == "is" || w == "below") = true → ((∀ (i : Nat), i ∈ [4] → ∀ (z : D), [Sl.val (.tup [.str w, x, y]), .val (strsD fs), .val (strsD ts), .val (.int dep), .no][i]? ≠ some (.own z)) ∧ compL (wG (.nm 4)) (wT (Cl T (k + m + 3)) .yes) (wE (Cl T (k + m + 3)) (.call "is_amount" (.cons (.loc 4) (.cons (.loc 1) (.cons (.loc 2) (.cons (.bin .add (.loc 3) (.cst (.int 1))) .nil)))))) [.val (.tup [.str w, x, y]), .val (strsD fs), .val (strsD ts), .val (.int dep), .no] (cut [.str w, x, y] (some 1) none) S [] fun acc S2 => optP (allB acc) fun bs => P (.bl (bs.all id)) S2) := by
                  intro hw
                  rw [if_pos hw] at h
                  refine ⟨by simp, ?_⟩
                  rw [cut_drop2]
                  refine all2 (f := amB fs ts m) (fun z hz K acc ha hK => ?_) h
                  simp_arith only [true_and]
                  exact am' z _ (two z hz) ⟨ha, hK⟩
                have fin2 : (w == "is" || w == "below") = false → (w == "both" || w == "either") = true → ((∀ (i : Nat), i ∈ [4] → ∀ (z : D), [Sl.val (.tup [.str w, x, y]), .val (strsD fs), .val (strsD ts), .val (.int dep), .no][i]? ≠ some (.own z)) ∧ compL (wG (.nm 4)) (wT (Cl T (k + m + 3)) .yes) (wE (Cl T (k + m + 3)) (.call "is_condition" (.cons (.loc 4) (.cons (.loc 1) (.cons (.loc 2) (.cons (.bin .add (.loc 3) (.cst (.int 1))) .nil)))))) [.val (.tup [.str w, x, y]), .val (strsD fs), .val (strsD ts), .val (.int dep), .no] (cut [.str w, x, y] (some 1) none) S [] fun acc S2 => optP (allB acc) fun bs => P (.bl (bs.all id)) S2) := by
                  intro hw hw2
                  rw [hw, hw2, if_neg (by decide), if_pos rfl] at h
                  refine ⟨by simp, ?_⟩
                  rw [cut_drop2]
                  refine all2 (f := cnB fs ts m) (fun z hz K acc ha hK => ?_) h
                  simp_arith only [true_and]
                  exact ih' z _ (two z hz) ⟨ha, hK⟩
                refine iteI (fun h1 => ?_) (fun h1 => ?_)
                · try simp_arith only [true_and]
                  exact fin1 (by rw [h1]; rfl)
                · have b1 := Bool.eq_false_iff.mpr h1
                  refine w_is_tuple hU (k := k + m + 2) (n := 3) (by decide) hd ?_
                  simp_arith only [tw]
                  refine iteI (fun h2 => ?_) (fun h2 => ?_)
                  · try simp_arith only [true_and]
                    exact fin1 (by rw [h2, Bool.or_true])
                  · have b2 := Bool.eq_false_iff.mpr h2
                    simp_arith only [i_is_condition_r1]
                    refine w_is_tuple hU (k := k + m + 2) (n := 3) (by decide) hd ?_
                    simp_arith only [tw]
                    cases b3 : w == "both" with
                    | true =>
                      simp_arith only [i_is_condition_r0]
                      exact fin2 (by rw [b1, b2]; rfl) (by rw [b3]; rfl)
                    | false =>
                      simp_arith only [true_and]
                      refine w_is_tuple hU (k := k + m + 2) (n := 3) (by decide) hd ?_
                      have b4 : (w == "either") = true := by rw [b1, b2, b3] at h5; simpa using h5
                      simp_arith only [tw, b4, i_is_condition_r0]
                      exact fin2 (by rw [b1, b2]; rfl) (by rw [b3, b4]; rfl)
              | cons z l =>
                have tw : ∀ w' n, n ≤ 3 → tupW (.tup (.str w :: x :: y :: z :: l)) w' n = false := fun w' n hn => by
                  simp only [tupW, List.length_cons]
                  rw [show (l.length + 1 + 1 + 1 + 1 == n) = false by simp; omega, Bool.false_and]
                exact none_ (tw _ _ (by omega)) (tw _ _ (by omega)) (tw _ _ (by omega)) (tw _ _ (by omega)) (tw _ _ (by omega)) (tw _ _ (by omega)) h
        · have ns : ∀ w, a ≠ .str w := fun w e => by
            subst e
            obtain ⟨n, _, hn⟩ := ha
            exact hstr ⟨w, rfl, by cases n <;> exact hn⟩
          have tw : ∀ w' n, tupW (.tup (a :: l)) w' n = false := fun w' n => by
            cases a <;> first | rfl | exact absurd rfl (ns _)
          have am : cnB fs ts (m + 1) (.tup (a :: l)) = false := by
            cases a <;> first | exact absurd rfl (ns _) | (cases l with
              | nil => rfl
              | cons _ l => cases l with
                | nil => rfl
                | cons _ l => cases l <;> rfl)
          rw [am] at h
          exact none_ (tw _ _) (tw _ _) (tw _ _) (tw _ _) (tw _ _) (tw _ _) h
    all_goals exact none_ rfl rfl rfl rfl rfl rfl h
end
end Q
/-! Amounts and conditions: drawn, worked. -/
namespace Q
open PySem
def i_place_of_b0 : ISs := (.cons (.ifs (.cmp .eq (.idx (.idx (.loc 0) (.loc 2)) (.cst (.int 0))) (.loc 1)) (.cons (.ret (.loc 2))
  .nil) .nil)
  .nil)
def i_place_of_r0 : ISs := (.cons (.ret (.cst .non))
  .nil)
def i_place_of : ISs := (.cons (.fors (.nm 2) (.rng (.cst (.int 0)) (.blt "len" (.cons (.loc 0) .nil))) i_place_of_b0)
  i_place_of_r0)
def f_place_of : FD := ⟨2, 3, i_place_of, false⟩
def i_amount_in_r0 : ISs := (.cons (.ifs (.cmp .eq (.loc 4) (.cst (.str "plus"))) (.cons (.ret (.bin .add (.loc 5) (.loc 6)))
  .nil) .nil)
  (.cons (.ifs (.cmp .eq (.loc 4) (.cst (.str "less"))) (.cons (.ret (.bin .sub (.loc 5) (.loc 6)))
  .nil) .nil)
  (.cons (.ret (.ite (.cmp .eq (.loc 4) (.cst (.str "least"))) (.blt "min" (.cons (.loc 5) (.cons (.loc 6) .nil))) (.blt "max" (.cons (.loc 5) (.cons (.loc 6) .nil)))))
  .nil)))
def i_amount_in_r1 : ISs := (.cons (.par 5 6 (.call "amount_in" (.cons (.idx (.loc 0) (.cst (.int 1))) (.cons (.loc 1) (.cons (.loc 2) (.cons (.loc 3) .nil))))) (.call "amount_in" (.cons (.idx (.loc 0) (.cst (.int 2))) (.cons (.loc 1) (.cons (.loc 2) (.cons (.loc 3) .nil))))))
  i_amount_in_r0)
def i_amount_in_r2 : ISs := (.cons (.ifs (.cmp .eq (.loc 4) (.cst (.str "part"))) (.cons (.ret (.bin .fdiv (.call "amount_in" (.cons (.idx (.loc 0) (.cst (.int 1))) (.cons (.loc 1) (.cons (.loc 2) (.cons (.loc 3) .nil))))) (.idx (.loc 0) (.cst (.int 2)))))
  .nil) .nil)
  i_amount_in_r1)
def i_amount_in_r3 : ISs := (.cons (.ifs (.cmp .eq (.loc 4) (.cst (.str "term"))) (.cons (.ret (.idx (.loc 3) (.idx (.loc 0) (.cst (.int 1)))))
  .nil) .nil)
  (.cons (.ifs (.cmp .eq (.loc 4) (.cst (.str "times"))) (.cons (.ret (.bin .mul (.idx (.loc 0) (.cst (.int 1))) (.call "amount_in" (.cons (.idx (.loc 0) (.cst (.int 2))) (.cons (.loc 1) (.cons (.loc 2) (.cons (.loc 3) .nil)))))))
  .nil) .nil)
  i_amount_in_r2))
def i_amount_in : ISs := (.cons (.asg (.nm 4) (.idx (.loc 0) (.cst (.int 0))))
  (.cons (.ifs (.cmp .eq (.loc 4) (.cst (.str "num"))) (.cons (.ret (.idx (.loc 0) (.cst (.int 1))))
  .nil) .nil)
  (.cons (.ifs (.cmp .eq (.loc 4) (.cst (.str "fact"))) (.cons (.ret (.idx (.loc 2) (.call "place_of" (.cons (.loc 1) (.cons (.idx (.loc 0) (.cst (.int 1))) .nil)))))
  .nil) .nil)
  i_amount_in_r3)))
def f_amount_in : FD := ⟨4, 7, i_amount_in, false⟩
def i_truth_in_r0 : ISs := (.cons (.ret (.ite (.cmp .eq (.loc 4) (.cst (.str "is"))) (.cmp .eq (.loc 5) (.loc 6)) (.cmp .lt (.loc 5) (.loc 6))))
  .nil)
def i_truth_in_r1 : ISs := (.cons (.par 5 6 (.call "amount_in" (.cons (.idx (.loc 0) (.cst (.int 1))) (.cons (.loc 1) (.cons (.loc 2) (.cons (.loc 3) .nil))))) (.call "amount_in" (.cons (.idx (.loc 0) (.cst (.int 2))) (.cons (.loc 1) (.cons (.loc 2) (.cons (.loc 3) .nil))))))
  i_truth_in_r0)
def i_truth_in_r2 : ISs := (.cons (.ifs (.cmp .eq (.loc 4) (.cst (.str "either"))) (.cons (.ret (.or (.call "truth_in" (.cons (.idx (.loc 0) (.cst (.int 1))) (.cons (.loc 1) (.cons (.loc 2) (.cons (.loc 3) .nil))))) (.call "truth_in" (.cons (.idx (.loc 0) (.cst (.int 2))) (.cons (.loc 1) (.cons (.loc 2) (.cons (.loc 3) .nil)))))))
  .nil) .nil)
  i_truth_in_r1)
def i_truth_in_r3 : ISs := (.cons (.ifs (.cmp .eq (.loc 4) (.cst (.str "both"))) (.cons (.ret (.and (.call "truth_in" (.cons (.idx (.loc 0) (.cst (.int 1))) (.cons (.loc 1) (.cons (.loc 2) (.cons (.loc 3) .nil))))) (.call "truth_in" (.cons (.idx (.loc 0) (.cst (.int 2))) (.cons (.loc 1) (.cons (.loc 2) (.cons (.loc 3) .nil)))))))
  .nil) .nil)
  i_truth_in_r2)
def i_truth_in : ISs := (.cons (.asg (.nm 4) (.idx (.loc 0) (.cst (.int 0))))
  (.cons (.ifs (.cmp .eq (.loc 4) (.cst (.str "true"))) (.cons (.ret (.cst (.bl true)))
  .nil) .nil)
  (.cons (.ifs (.cmp .eq (.loc 4) (.cst (.str "not"))) (.cons (.ret (.not (.call "truth_in" (.cons (.idx (.loc 0) (.cst (.int 1))) (.cons (.loc 1) (.cons (.loc 2) (.cons (.loc 3) .nil)))))))
  .nil) .nil)
  i_truth_in_r3)))
def f_truth_in : FD := ⟨4, 7, i_truth_in, false⟩
def i__law_number : ISs := (.cons (.ret (.bin .sub (.call "_law_draw" (.cons (.loc 0) (.cons (.bin .add (.bin .mul (.cst (.int 2)) (.loc 1)) (.cst (.int 1))) .nil))) (.loc 1)))
  .nil)
def f__law_number : FD := ⟨2, 2, i__law_number, false⟩
def i__law_amount_r0 : ISs := (.cons (.ret (.tup (.cons (.idx (.tup (.cons (.cst (.str "plus")) (.cons (.cst (.str "less")) (.cons (.cst (.str "least")) (.cons (.cst (.str "most")) .nil))))) (.bin .sub (.loc 4) (.cst (.int 8)))) (.cons (.loc 5) (.cons (.call "_law_amount" (.cons (.loc 0) (.cons (.loc 1) (.cons (.loc 2) (.cons (.bin .sub (.loc 3) (.cst (.int 1))) .nil))))) .nil)))))
  .nil)
def i__law_amount_r1 : ISs := (.cons (.ifs (.cmp .eq (.loc 4) (.cst (.int 7))) (.cons (.ret (.tup (.cons (.cst (.str "part")) (.cons (.loc 5) (.cons (.bin .add (.cst (.int 1)) (.call "_law_draw" (.cons (.loc 0) (.cons (.cst (.int 4)) .nil)))) .nil)))))
  .nil) .nil)
  i__law_amount_r0)
def i__law_amount_r2 : ISs := (.cons (.ifs (.cmp .eq (.loc 4) (.cst (.int 6))) (.cons (.ret (.tup (.cons (.cst (.str "times")) (.cons (.bin .sub (.call "_law_draw" (.cons (.loc 0) (.cons (.cst (.int 6)) .nil))) (.cst (.int 2))) (.cons (.loc 5) .nil)))))
  .nil) .nil)
  i__law_amount_r1)
def i__law_amount_r3 : ISs := (.cons (.asg (.nm 5) (.call "_law_amount" (.cons (.loc 0) (.cons (.loc 1) (.cons (.loc 2) (.cons (.bin .sub (.loc 3) (.cst (.int 1))) .nil))))))
  i__law_amount_r2)
def i__law_amount_r4 : ISs := (.cons (.ifs (.cmp .eq (.loc 4) (.cst (.int 5))) (.cons (.ret (.tup (.cons (.cst (.str "term")) (.cons (.idx (.loc 2) (.call "_law_draw" (.cons (.loc 0) (.cons (.blt "len" (.cons (.loc 2) .nil)) .nil)))) .nil))))
  .nil) .nil)
  i__law_amount_r3)
def i__law_amount_r5 : ISs := (.cons (.ifs (.cmp .lt (.loc 4) (.cst (.int 5))) (.cons (.ret (.tup (.cons (.cst (.str "fact")) (.cons (.idx (.idx (.loc 1) (.call "_law_draw" (.cons (.loc 0) (.cons (.blt "len" (.cons (.loc 1) .nil)) .nil)))) (.cst (.int 0))) .nil))))
  .nil) .nil)
  i__law_amount_r4)
def i__law_amount_r6 : ISs := (.cons (.ifs (.or (.cmp .lt (.loc 4) (.cst (.int 2))) (.or (.and (.cmp .lt (.loc 4) (.cst (.int 5))) (.cmp .eq (.blt "len" (.cons (.loc 1) .nil)) (.cst (.int 0)))) (.and (.cmp .eq (.loc 4) (.cst (.int 5))) (.cmp .eq (.blt "len" (.cons (.loc 2) .nil)) (.cst (.int 0)))))) (.cons (.ret (.tup (.cons (.cst (.str "num")) (.cons (.bin .sub (.call "_law_draw" (.cons (.loc 0) (.cons (.cst (.int 13)) .nil))) (.cst (.int 4))) .nil))))
  .nil) .nil)
  i__law_amount_r5)
def i__law_amount : ISs := (.cons (.asg (.nm 4) (.call "_law_draw" (.cons (.loc 0) (.cons (.ite (.cmp .gt (.loc 3) (.cst (.int 0))) (.cst (.int 12)) (.cst (.int 6))) .nil))))
  i__law_amount_r6)
def f__law_amount : FD := ⟨4, 6, i__law_amount, false⟩
def i__law_condition_r0 : ISs := (.cons (.ret (.ite (.cmp .lt (.loc 4) (.cst (.int 7))) (.tup (.cons (.cst (.str "not")) (.cons (.loc 5) .nil))) (.tup (.cons (.idx (.tup (.cons (.cst (.str "both")) (.cons (.cst (.str "either")) .nil))) (.bin .sub (.loc 4) (.cst (.int 7)))) (.cons (.loc 5) (.cons (.call "_law_condition" (.cons (.loc 0) (.cons (.loc 1) (.cons (.loc 2) (.cons (.bin .sub (.loc 3) (.cst (.int 1))) .nil))))) .nil))))))
  .nil)
def i__law_condition_r1 : ISs := (.cons (.asg (.nm 5) (.call "_law_condition" (.cons (.loc 0) (.cons (.loc 1) (.cons (.loc 2) (.cons (.bin .sub (.loc 3) (.cst (.int 1))) .nil))))))
  i__law_condition_r0)
def i__law_condition_r2 : ISs := (.cons (.ifs (.cmp .eq (.loc 4) (.cst (.int 0))) (.cons (.ret (.tup (.cons (.cst (.str "true")) .nil)))
  .nil) .nil)
  (.cons (.ifs (.cmp .lt (.loc 4) (.cst (.int 5))) (.cons (.ret (.tup (.cons (.idx (.tup (.cons (.cst (.str "is")) (.cons (.cst (.str "below")) .nil))) (.call "_law_draw" (.cons (.loc 0) (.cons (.cst (.int 2)) .nil)))) (.cons (.call "_law_amount" (.cons (.loc 0) (.cons (.loc 1) (.cons (.loc 2) (.cons (.cst (.int 1)) .nil))))) (.cons (.call "_law_amount" (.cons (.loc 0) (.cons (.loc 1) (.cons (.loc 2) (.cons (.cst (.int 1)) .nil))))) .nil)))))
  .nil) .nil)
  i__law_condition_r1))
def i__law_condition : ISs := (.cons (.asg (.nm 4) (.call "_law_draw" (.cons (.loc 0) (.cons (.ite (.cmp .gt (.loc 3) (.cst (.int 0))) (.cst (.int 9)) (.cst (.int 5))) .nil))))
  i__law_condition_r2)
def f__law_condition : FD := ⟨4, 6, i__law_condition, false⟩
def i__law_place : ISs := (.cons (.ret (.idx (.comp (.loc 2) (.nm 2) (.rng (.cst (.int 0)) (.blt "len" (.cons (.loc 0) .nil))) (.cmp .eq (.idx (.idx (.loc 0) (.loc 2)) (.cst (.int 0))) (.loc 1)) [2]) (.cst (.int 0))))
  .nil)
def f__law_place : FD := ⟨2, 3, i__law_place, false⟩
def i__law_worked_r0 : ISs := (.cons (.ifs (.cmp .mem (.loc 4) (.tup (.cons (.cst (.str "plus")) (.cons (.cst (.str "less")) .nil)))) (.cons (.ret (.ite (.cmp .eq (.loc 4) (.cst (.str "plus"))) (.bin .add (.loc 5) (.loc 6)) (.bin .sub (.loc 5) (.loc 6))))
  .nil) .nil)
  (.cons (.ret (.ite (.cmp .eq (.loc 4) (.cst (.str "least"))) (.blt "min" (.cons (.lst (.cons (.loc 5) (.cons (.loc 6) .nil))) .nil)) (.blt "max" (.cons (.lst (.cons (.loc 5) (.cons (.loc 6) .nil))) .nil))))
  .nil))
def i__law_worked_r1 : ISs := (.cons (.ifs (.cmp .eq (.loc 4) (.cst (.str "part"))) (.cons (.ret (.bin .fdiv (.loc 5) (.idx (.loc 0) (.cst (.int 2)))))
  .nil) .nil)
  (.cons (.asg (.nm 6) (.call "_law_worked" (.cons (.idx (.loc 0) (.cst (.int 2))) (.cons (.loc 1) (.cons (.loc 2) (.cons (.loc 3) .nil))))))
  i__law_worked_r0))
def i__law_worked_r2 : ISs := (.cons (.asg (.nm 5) (.call "_law_worked" (.cons (.idx (.loc 0) (.cst (.int 1))) (.cons (.loc 1) (.cons (.loc 2) (.cons (.loc 3) .nil))))))
  i__law_worked_r1)
def i__law_worked_r3 : ISs := (.cons (.ifs (.cmp .eq (.loc 4) (.cst (.str "term"))) (.cons (.ret (.idx (.loc 3) (.idx (.loc 0) (.cst (.int 1)))))
  .nil) .nil)
  (.cons (.ifs (.cmp .eq (.loc 4) (.cst (.str "times"))) (.cons (.ret (.bin .mul (.idx (.loc 0) (.cst (.int 1))) (.call "_law_worked" (.cons (.idx (.loc 0) (.cst (.int 2))) (.cons (.loc 1) (.cons (.loc 2) (.cons (.loc 3) .nil)))))))
  .nil) .nil)
  i__law_worked_r2))
def i__law_worked : ISs := (.cons (.asg (.nm 4) (.idx (.loc 0) (.cst (.int 0))))
  (.cons (.ifs (.cmp .eq (.loc 4) (.cst (.str "num"))) (.cons (.ret (.idx (.loc 0) (.cst (.int 1))))
  .nil) .nil)
  (.cons (.ifs (.cmp .eq (.loc 4) (.cst (.str "fact"))) (.cons (.ret (.idx (.loc 2) (.call "_law_place" (.cons (.loc 1) (.cons (.idx (.loc 0) (.cst (.int 1))) .nil)))))
  .nil) .nil)
  i__law_worked_r3)))
def f__law_worked : FD := ⟨4, 7, i__law_worked, false⟩
def i__law_truth_r0 : ISs := (.cons (.ret (.ite (.cmp .eq (.loc 4) (.cst (.str "both"))) (.and (.loc 5) (.loc 6)) (.or (.loc 5) (.loc 6))))
  .nil)
def i__law_truth_r1 : ISs := (.cons (.ret (.ite (.cmp .eq (.loc 4) (.cst (.str "is"))) (.cmp .eq (.loc 5) (.loc 6)) (.cmp .lt (.loc 5) (.loc 6))))
  .nil)
def i__law_truth_r2 : ISs := (.cons (.par 5 6 (.call "_law_worked" (.cons (.idx (.loc 0) (.cst (.int 1))) (.cons (.loc 1) (.cons (.loc 2) (.cons (.loc 3) .nil))))) (.call "_law_worked" (.cons (.idx (.loc 0) (.cst (.int 2))) (.cons (.loc 1) (.cons (.loc 2) (.cons (.loc 3) .nil))))))
  i__law_truth_r1)
def i__law_truth_r3 : ISs := (.cons (.ifs (.cmp .mem (.loc 4) (.tup (.cons (.cst (.str "both")) (.cons (.cst (.str "either")) .nil)))) (.cons (.par 5 6 (.call "_law_truth" (.cons (.idx (.loc 0) (.cst (.int 1))) (.cons (.loc 1) (.cons (.loc 2) (.cons (.loc 3) .nil))))) (.call "_law_truth" (.cons (.idx (.loc 0) (.cst (.int 2))) (.cons (.loc 1) (.cons (.loc 2) (.cons (.loc 3) .nil))))))
  i__law_truth_r0) .nil)
  i__law_truth_r2)
def i__law_truth : ISs := (.cons (.asg (.nm 4) (.idx (.loc 0) (.cst (.int 0))))
  (.cons (.ifs (.cmp .eq (.loc 4) (.cst (.str "true"))) (.cons (.ret (.cst (.bl true)))
  .nil) .nil)
  (.cons (.ifs (.cmp .eq (.loc 4) (.cst (.str "not"))) (.cons (.ret (.not (.call "_law_truth" (.cons (.idx (.loc 0) (.cst (.int 1))) (.cons (.loc 1) (.cons (.loc 2) (.cons (.loc 3) .nil)))))))
  .nil) .nil)
  i__law_truth_r3)))
def f__law_truth : FD := ⟨4, 7, i__law_truth, false⟩
def i__law_some_cases_r0 : ISs := (.cons (.ifs (.cmp .le (.blt "len" (.cons (.loc 3) .nil)) (.loc 2)) (.cons (.ret (.loc 3))
  .nil) .nil)
  (.cons (.ret (.comp (.call "_law_pick" (.cons (.loc 0) (.cons (.loc 3) .nil))) (.nm 4) (.rng (.cst (.int 0)) (.loc 2)) .yes [4]))
  .nil))
def i__law_some_cases : ISs := (.cons (.asg (.nm 3) (.call "_law_cases" (.cons (.loc 1) .nil)))
  i__law_some_cases_r0)
def f__law_some_cases : FD := ⟨3, 5, i__law_some_cases, false⟩

def nmS : Nat → String
  | 0 => "aa" | 1 => "bb" | 2 => "cc" | _ => "dd"
def nmD (k : Nat) : D := .str (nmS k)
inductive Am where
  | num (i : Int)
  | fact (k : Nat)
  | term (t : Str)
  | times (i : Int) (a : Am)
  | part (a : Am) (i : Int)
  | plus (a b : Am)
  | less (a b : Am)
  | least (a b : Am)
  | most (a b : Am)
namespace Am
def d : Am → D
  | num i => .tup [.str "num", .int i]
  | fact k => .tup [.str "fact", nmD k]
  | term t => .tup [.str "term", .str t]
  | times i a => .tup [.str "times", .int i, a.d]
  | part a i => .tup [.str "part", a.d, .int i]
  | plus a b => .tup [.str "plus", a.d, b.d]
  | less a b => .tup [.str "less", a.d, b.d]
  | least a b => .tup [.str "least", a.d, b.d]
  | most a b => .tup [.str "most", a.d, b.d]
def dep : Am → Nat
  | num _ => 0 | fact _ => 0 | term _ => 0
  | times _ a => a.dep + 1 | part a _ => a.dep + 1
  | plus a b => max a.dep b.dep + 1 | less a b => max a.dep b.dep + 1 | least a b => max a.dep b.dep + 1 | most a b => max a.dep b.dep + 1
/-- n facts, terms ts, numbers as drawn -/
def ok (n : Nat) (ts : List Str) : Am → Prop
  | num i => -4 ≤ i ∧ i ≤ 8
  | fact k => k < n
  | term t => t ∈ ts
  | times i a => (-2 ≤ i ∧ i ≤ 3) ∧ a.ok n ts
  | part a i => a.ok n ts ∧ 1 ≤ i ∧ i ≤ 4
  | plus a b => a.ok n ts ∧ b.ok n ts
  | less a b => a.ok n ts ∧ b.ok n ts
  | least a b => a.ok n ts ∧ b.ok n ts
  | most a b => a.ok n ts ∧ b.ok n ts
/-- worked -/
def val (r : List Int) (kn : Str → Int) : Am → Int
  | num i => i
  | fact k => r.getD k 0
  | term t => kn t
  | times i a => i * a.val r kn
  | part a i => a.val r kn / i
  | plus a b => a.val r kn + b.val r kn
  | less a b => a.val r kn - b.val r kn
  | least a b => if b.val r kn < a.val r kn then b.val r kn else a.val r kn
  | most a b => if a.val r kn < b.val r kn then b.val r kn else a.val r kn
end Am
/-- the facts' names -/
def named (fs : List Fc) : Prop := ∀ k f, fs[k]? = some f → f.n = nmD k
theorem nm_eq {i j : Nat} (hi : i < 4) (hj : j < 4) : D.eq (nmD i) (nmD j) = (i == j) := by
  have : ∀ i < 4, ∀ j < 4, (nmS i == nmS j) = (i == j) := by decide
  show ((Str.ofString (nmS i)) == (Str.ofString (nmS j))) = _
  rw [str_lit, this i hi j hj]
section
variable {T : Str → Option FD}
theorem w_place_of (hT : T "place_of" = some f_place_of) {k : Nat} {S : Sto} {P : D → Sto → Prop} {fs : List Fc} (hn : named fs) (hl : fs.length ≤ 4) {j : Nat} (hj : j < fs.length) (h : P (.int j) S) : Cl T (k + 1) "place_of" [.tup (fs.map Fc.d), nmD j] S P := by
  refine ⟨_, hT, rfl, ?_⟩
  have l1 : lim62 (((fs.map Fc.d).length : Nat) : Int) := by unfold lim62; simp; omega
  simp_arith only [f_place_of, i_place_of, lim_0, l1, Int.sub_zero, Int.toNat_natCast]
  rw [rng0, List.length_map]
  have loop : ∀ (m i : Nat) (s2 : Sl), i ≤ j → i + m = fs.length → forL (wG (.nm 2)) (wSs (Cl T k) i_place_of_b0) { nx := fun L1 S1 => wSs (Cl T k) i_place_of_r0 L1 S1 { nx := fun x S1 => P D.non S1, rt := P }, rt := P } ((List.range' i m).map fun (k : Nat) => D.int (k : Int)) [.val (.tup (fs.map Fc.d)), .val (nmD j), s2] S := by
    intro m
    induction m with
    | zero => intro i s2 h1 h2; omega
    | succ m ih =>
      intro i s2 h1 h2
      have hi : i < fs.length := by omega
      have e1 : L2.atI (fs.map Fc.d) (i : Int) = some (.tup [nmD i, .int fs[i].lo, .int fs[i].hi, fs[i].w]) := by
        refine atN ?_
        rw [List.getElem?_map, List.getElem?_eq_getElem hi]
        show some (Fc.d fs[i]) = _
        rw [Fc.d, hn i fs[i] (List.getElem?_eq_getElem hi)]
      rw [List.range'_succ]
      have eq1 : eqQ (nmD i) (nmD j) = true := rfl
      simp_arith only [List.map_cons, forL, i_place_of_b0, e1, nm_eq (show i < 4 by omega) (show j < 4 by omega), eq1]
      by_cases hij : i = j
      · subst hij
        simp_arith only [beq_self_eq_true]
        exact h
      · have : (i == j) = false := by simpa using hij
        simp_arith only [this]
        exact ih (i + 1) _ (by omega) (by omega)
  rw [List.range_eq_range']
  exact loop fs.length 0 .no (Nat.zero_le _) (by omega)
theorem w_law_place (hT : T "_law_place" = some f__law_place) {k : Nat} {S : Sto} {P : D → Sto → Prop} {fs : List Fc} (hn : named fs) (hl : fs.length ≤ 4) {j : Nat} (hj : j < fs.length) (h : P (.int j) S) : Cl T (k + 1) "_law_place" [.tup (fs.map Fc.d), nmD j] S P := by
  refine ⟨_, hT, rfl, ?_⟩
  have l1 : lim62 (((fs.map Fc.d).length : Nat) : Int) := by unfold lim62; simp; omega
  simp_arith only [f__law_place, i__law_place, lim_0, l1, Int.sub_zero, Int.toNat_natCast]
  refine ⟨by simp, ?_⟩
  rw [rng0, List.length_map]
  have ef : (List.range fs.length).filter (fun i => i == j) = [j] := by
    have := List.filter_beq (l := List.range fs.length) j
    rw [this, List.nodup_range.count, if_pos (List.mem_range.mpr hj)]; rfl
  refine compL_fm (fun (k : Nat) => D.int (k : Int)) (fun (k : Nat) => D.int (k : Int)) (fun i => i == j) _ [] (by rw [ef, sizeL]; simp) ?_ ?_
  · intro i hi K acc hac hK
    have hi := List.mem_range.mp hi
    have e1 : L2.atI (fs.map Fc.d) (i : Int) = some (.tup [nmD i, .int fs[i].lo, .int fs[i].hi, fs[i].w]) := by
      refine atN ?_
      rw [List.getElem?_map, List.getElem?_eq_getElem hi]
      show some (Fc.d fs[i]) = _
      rw [Fc.d, hn i fs[i] (List.getElem?_eq_getElem hi)]
    have eq1 : eqQ (nmD i) (nmD j) = true := rfl
    simp_arith only [e1, nm_eq (show i < 4 by omega) (show j < 4 by omega), eq1]
    refine iteI (fun h => ?_) (fun h => ?_)
    · rw [if_pos h] at hK
      exact ⟨hac h, hK⟩
    · rw [if_neg h] at hK
      exact hK
  · rw [ef]
    simp_arith only [true_and]
    exact h

/-- what a dict knows -/
def knows (kd : D) (ts : List Str) (kn : Str → Int) : Prop := ∃ ks vs, kd = .dct ks vs ∧ ∀ t ∈ ts, dLook ks vs t = some (.int (kn t))
theorem row_at {r : List Int} {k : Nat} (h : k < r.length) : L2.atI (r.map D.int) (k : Int) = some (.int (r.getD k 0)) := by
  refine atN ?_
  rw [List.getElem?_map, List.getD_eq_getElem?_getD, List.getElem?_eq_getElem h]
  rfl
theorem sm {i : Int} (h : -100 ≤ i ∧ i ≤ 100) (a : Int) : small64 i ∨ small64 a ∨ (i.natAbs < 2 ^ 4000 ∧ a.natAbs < 2 ^ 4000) := .inl (by unfold small64; omega)
theorem w_amount_in (hT : T "amount_in" = some f_amount_in) (hP : T "place_of" = some f_place_of) {fs : List Fc} (hn : named fs) (hl : fs.length ≤ 4) {r : List Int} (hr : r.length = fs.length) {kd : D} {ts : List Str} {kn : Str → Int} (hk : knows kd ts kn) {S : Sto} :
    ∀ (a : Am) (N : Nat) (P : D → Sto → Prop), a.ok fs.length ts → a.dep + 2 ≤ N → P (.int (a.val r kn)) S → Cl T N "amount_in" [a.d, .tup (fs.map Fc.d), rowD r, kd] S P := by
  obtain ⟨ks, vs, rfl, hk⟩ := hk
  intro a
  induction a with
  | num i =>
    intro N P ho hN h
    cases N with
    | zero => omega
    | succ N =>
      refine ⟨_, hT, rfl, ?_⟩
      simp_arith only [f_amount_in, i_amount_in, Am.d]
      exact h
  | fact k =>
    intro N P ho hN h
    obtain ⟨M, rfl⟩ : ∃ M, N = M + 2 := ⟨N - 2, by simp only [Am.dep] at hN; omega⟩
    refine ⟨_, hT, rfl, ?_⟩
    have ho : k < fs.length := ho
    simp_arith only [f_amount_in, i_amount_in, Am.d]
    refine w_place_of hP hn hl ho ?_
    simp_arith only [rowD, row_at (show k < r.length by omega)]
    exact h
  | term t =>
    intro N P ho hN h
    cases N with
    | zero => omega
    | succ N =>
      refine ⟨_, hT, rfl, ?_⟩
      simp_arith only [f_amount_in, i_amount_in, i_amount_in_r3, Am.d, hk t ho]
      exact h
  | times i a ih =>
    intro N P ho hN h
    simp only [Am.dep] at hN
    cases N with
    | zero => omega
    | succ N =>
      refine ⟨_, hT, rfl, ?_⟩
      simp_arith only [f_amount_in, i_amount_in, i_amount_in_r3, Am.d]
      refine ih N _ ho.2 (by omega) ?_
      simp_arith only [true_and]
      exact ⟨sm ⟨by have := ho.1; omega, by have := ho.1; omega⟩ _, h⟩
  | part a i ih =>
    intro N P ho hN h
    simp only [Am.dep] at hN
    cases N with
    | zero => omega
    | succ N =>
      refine ⟨_, hT, rfl, ?_⟩
      simp_arith only [f_amount_in, i_amount_in, i_amount_in_r3, i_amount_in_r2, Am.d]
      refine ih N _ ho.1 (by omega) ?_
      simp_arith only [true_and]
      have := ho.2
      exact ⟨⟨by omega, pow9 (by omega) (by omega)⟩, h⟩
  | plus a b iha ihb =>
    intro N P ho hN h
    simp only [Am.dep] at hN
    cases N with
    | zero => omega
    | succ N =>
      refine ⟨_, hT, rfl, ?_⟩
      simp_arith only [f_amount_in, i_amount_in, i_amount_in_r3, i_amount_in_r2, i_amount_in_r1, Am.d]
      refine iha N _ ho.1 (by omega) ?_
      try simp_arith only [true_and]
      refine ihb N _ ho.2 (by omega) ?_
      simp_arith only [i_amount_in_r0]
      exact h
  | less a b iha ihb =>
    intro N P ho hN h
    simp only [Am.dep] at hN
    cases N with
    | zero => omega
    | succ N =>
      refine ⟨_, hT, rfl, ?_⟩
      simp_arith only [f_amount_in, i_amount_in, i_amount_in_r3, i_amount_in_r2, i_amount_in_r1, Am.d]
      refine iha N _ ho.1 (by omega) ?_
      try simp_arith only [true_and]
      refine ihb N _ ho.2 (by omega) ?_
      simp_arith only [i_amount_in_r0]
      exact h
  | least a b iha ihb =>
    intro N P ho hN h
    simp only [Am.dep] at hN
    cases N with
    | zero => omega
    | succ N =>
      refine ⟨_, hT, rfl, ?_⟩
      simp_arith only [f_amount_in, i_amount_in, i_amount_in_r3, i_amount_in_r2, i_amount_in_r1, Am.d]
      refine iha N _ ho.1 (by omega) ?_
      try simp_arith only [true_and]
      refine ihb N _ ho.2 (by omega) ?_
      simp_arith only [i_amount_in_r0]
      exact h
  | most a b iha ihb =>
    intro N P ho hN h
    simp only [Am.dep] at hN
    cases N with
    | zero => omega
    | succ N =>
      refine ⟨_, hT, rfl, ?_⟩
      simp_arith only [f_amount_in, i_amount_in, i_amount_in_r3, i_amount_in_r2, i_amount_in_r1, Am.d]
      refine iha N _ ho.1 (by omega) ?_
      try simp_arith only [true_and]
      refine ihb N _ ho.2 (by omega) ?_
      simp_arith only [i_amount_in_r0]
      exact h
theorem w_law_worked (hT : T "_law_worked" = some f__law_worked) (hP : T "_law_place" = some f__law_place) {fs : List Fc} (hn : named fs) (hl : fs.length ≤ 4) {r : List Int} (hr : r.length = fs.length) {kd : D} {ts : List Str} {kn : Str → Int} (hk : knows kd ts kn) {S : Sto} :
    ∀ (a : Am) (N : Nat) (P : D → Sto → Prop), a.ok fs.length ts → a.dep + 2 ≤ N → P (.int (a.val r kn)) S → Cl T N "_law_worked" [a.d, .tup (fs.map Fc.d), rowD r, kd] S P := by
  obtain ⟨ks, vs, rfl, hk⟩ := hk
  have okStr : ((D.str "plus").eqOk = true) = True ∧ ((D.str "less").eqOk = true) = True ∧ ((D.str "least").eqOk = true) = True ∧ ((D.str "most").eqOk = true) = True ∧ ((D.tup [.str "plus", .str "less"]).eqOk = true) = True := by
    refine ⟨eq_true ?_, eq_true ?_, eq_true ?_, eq_true ?_, eq_true ?_⟩ <;> decide +kernel
  intro a
  induction a with
  | num i =>
    intro N P ho hN h
    cases N with
    | zero => omega
    | succ N =>
      refine ⟨_, hT, rfl, ?_⟩
      simp_arith only [f__law_worked, i__law_worked, Am.d]
      exact h
  | fact k =>
    intro N P ho hN h
    obtain ⟨M, rfl⟩ : ∃ M, N = M + 2 := ⟨N - 2, by simp only [Am.dep] at hN; omega⟩
    refine ⟨_, hT, rfl, ?_⟩
    have ho : k < fs.length := ho
    simp_arith only [f__law_worked, i__law_worked, Am.d]
    refine w_law_place hP hn hl ho ?_
    simp_arith only [rowD, row_at (show k < r.length by omega)]
    exact h
  | term t =>
    intro N P ho hN h
    cases N with
    | zero => omega
    | succ N =>
      refine ⟨_, hT, rfl, ?_⟩
      simp_arith only [f__law_worked, i__law_worked, i__law_worked_r3, Am.d, hk t ho]
      exact h
  | times i a ih =>
    intro N P ho hN h
    simp only [Am.dep] at hN
    cases N with
    | zero => omega
    | succ N =>
      refine ⟨_, hT, rfl, ?_⟩
      simp_arith only [f__law_worked, i__law_worked, i__law_worked_r3, Am.d]
      refine ih N _ ho.2 (by omega) ?_
      simp_arith only [true_and]
      exact ⟨sm ⟨by have := ho.1; omega, by have := ho.1; omega⟩ _, h⟩
  | part a i ih =>
    intro N P ho hN h
    simp only [Am.dep] at hN
    cases N with
    | zero => omega
    | succ N =>
      refine ⟨_, hT, rfl, ?_⟩
      simp_arith only [f__law_worked, i__law_worked, i__law_worked_r3, i__law_worked_r2, Am.d]
      refine ih N _ ho.1 (by omega) ?_
      simp_arith only [i__law_worked_r1]
      have := ho.2
      exact ⟨⟨by omega, pow9 (by omega) (by omega)⟩, h⟩
  | plus a b iha ihb =>
    intro N P ho hN h
    simp only [Am.dep] at hN
    cases N with
    | zero => omega
    | succ N =>
      refine ⟨_, hT, rfl, ?_⟩
      simp_arith only [f__law_worked, i__law_worked, i__law_worked_r3, i__law_worked_r2, Am.d]
      refine iha N _ ho.1 (by omega) ?_
      simp_arith only [i__law_worked_r1]
      refine ihb N _ ho.2 (by omega) ?_
      simp_arith only [i__law_worked_r0, okStr, List.any_cons, List.any_nil, Bool.or_false, Bool.false_or, Bool.true_or, Bool.or_true]
      exact h
  | less a b iha ihb =>
    intro N P ho hN h
    simp only [Am.dep] at hN
    cases N with
    | zero => omega
    | succ N =>
      refine ⟨_, hT, rfl, ?_⟩
      simp_arith only [f__law_worked, i__law_worked, i__law_worked_r3, i__law_worked_r2, Am.d]
      refine iha N _ ho.1 (by omega) ?_
      simp_arith only [i__law_worked_r1]
      refine ihb N _ ho.2 (by omega) ?_
      simp_arith only [i__law_worked_r0, okStr, List.any_cons, List.any_nil, Bool.or_false, Bool.false_or, Bool.true_or, Bool.or_true]
      exact h
  | least a b iha ihb =>
    intro N P ho hN h
    simp only [Am.dep] at hN
    cases N with
    | zero => omega
    | succ N =>
      refine ⟨_, hT, rfl, ?_⟩
      simp_arith only [f__law_worked, i__law_worked, i__law_worked_r3, i__law_worked_r2, Am.d]
      refine iha N _ ho.1 (by omega) ?_
      simp_arith only [i__law_worked_r1]
      refine ihb N _ ho.2 (by omega) ?_
      simp_arith only [i__law_worked_r0, okStr, List.any_cons, List.any_nil, Bool.or_false, Bool.false_or, Bool.true_or, Bool.or_true]
      exact h
  | most a b iha ihb =>
    intro N P ho hN h
    simp only [Am.dep] at hN
    cases N with
    | zero => omega
    | succ N =>
      refine ⟨_, hT, rfl, ?_⟩
      simp_arith only [f__law_worked, i__law_worked, i__law_worked_r3, i__law_worked_r2, Am.d]
      refine iha N _ ho.1 (by omega) ?_
      simp_arith only [i__law_worked_r1]
      refine ihb N _ ho.2 (by omega) ?_
      simp_arith only [i__law_worked_r0, okStr, List.any_cons, List.any_nil, Bool.or_false, Bool.false_or, Bool.true_or, Bool.or_true]
      exact h
end
end Q
/-! Conditions. -/
namespace Q
open PySem
inductive Cn where
  | tru
  | is (a b : Am)
  | lt (a b : Am)
  | not (c : Cn)
  | both (c e : Cn)
  | either (c e : Cn)
namespace Cn
def d : Cn → D
  | tru => .tup [.str "true"]
  | is a b => .tup [.str "is", a.d, b.d]
  | lt a b => .tup [.str "below", a.d, b.d]
  | not c => .tup [.str "not", c.d]
  | both c e => .tup [.str "both", c.d, e.d]
  | either c e => .tup [.str "either", c.d, e.d]
def dep : Cn → Nat
  | tru => 0
  | is a b => max a.dep b.dep + 1
  | lt a b => max a.dep b.dep + 1
  | not c => c.dep + 1
  | both c e => max c.dep e.dep + 1
  | either c e => max c.dep e.dep + 1
def ok (n : Nat) (ts : List Str) : Cn → Prop
  | tru => True
  | is a b => a.ok n ts ∧ b.ok n ts
  | lt a b => a.ok n ts ∧ b.ok n ts
  | not c => c.ok n ts
  | both c e => c.ok n ts ∧ e.ok n ts
  | either c e => c.ok n ts ∧ e.ok n ts
def val (r : List Int) (kn : Str → Int) : Cn → Bool
  | tru => true
  | is a b => a.val r kn == b.val r kn
  | lt a b => decide (a.val r kn < b.val r kn)
  | not c => !c.val r kn
  | both c e => c.val r kn && e.val r kn
  | either c e => c.val r kn || e.val r kn
end Cn
section
variable {T : Str → Option FD}
theorem w_truth_in (hT : T "truth_in" = some f_truth_in) (hA : T "amount_in" = some f_amount_in) (hP : T "place_of" = some f_place_of) {fs : List Fc} (hn : named fs) (hl : fs.length ≤ 4) {r : List Int} (hr : r.length = fs.length) {kd : D} {ts : List Str} {kn : Str → Int} (hk : knows kd ts kn) {S : Sto} :
    ∀ (c : Cn) (N : Nat) (P : D → Sto → Prop), c.ok fs.length ts → c.dep + 3 ≤ N → P (.bl (c.val r kn)) S → Cl T N "truth_in" [c.d, .tup (fs.map Fc.d), rowD r, kd] S P := by
  have okStr : ((D.str "both").eqOk = true) = True ∧ ((D.str "either").eqOk = true) = True ∧ ((D.str "is").eqOk = true) = True ∧ ((D.str "below").eqOk = true) = True ∧ ((D.tup [.str "both", .str "either"]).eqOk = true) = True := by
    refine ⟨eq_true ?_, eq_true ?_, eq_true ?_, eq_true ?_, eq_true ?_⟩ <;> decide +kernel
  intro c
  induction c with
  | tru =>
    intro N P ho hN h
    cases N with
    | zero => omega
    | succ N =>
      refine ⟨_, hT, rfl, ?_⟩
      simp_arith only [f_truth_in, i_truth_in, Cn.d]
      exact h
  | not c ih =>
    intro N P ho hN h
    simp only [Cn.dep] at hN
    cases N with
    | zero => omega
    | succ N =>
      refine ⟨_, hT, rfl, ?_⟩
      simp_arith only [f_truth_in, i_truth_in, Cn.d]
      refine ih N _ ho (by omega) ?_
      simp_arith only [true_and]
      exact h
  | is a b =>
    intro N P ho hN h
    simp only [Cn.dep] at hN
    cases N with
    | zero => omega
    | succ N =>
      refine ⟨_, hT, rfl, ?_⟩
      simp_arith only [f_truth_in, i_truth_in, i_truth_in_r3, i_truth_in_r2, i_truth_in_r1,  Cn.d, okStr, List.any_cons, List.any_nil, Bool.or_false, Bool.false_or, Bool.true_or, Bool.or_true]
      refine w_amount_in hA hP hn hl hr hk a N _ ho.1 (by omega) ?_
      try simp_arith only [true_and]
      refine w_amount_in hA hP hn hl hr hk b N _ ho.2 (by omega) ?_
      simp_arith only [i_truth_in_r0]
      exact h
  | lt a b =>
    intro N P ho hN h
    simp only [Cn.dep] at hN
    cases N with
    | zero => omega
    | succ N =>
      refine ⟨_, hT, rfl, ?_⟩
      simp_arith only [f_truth_in, i_truth_in, i_truth_in_r3, i_truth_in_r2, i_truth_in_r1,  Cn.d, okStr, List.any_cons, List.any_nil, Bool.or_false, Bool.false_or, Bool.true_or, Bool.or_true]
      refine w_amount_in hA hP hn hl hr hk a N _ ho.1 (by omega) ?_
      try simp_arith only [true_and]
      refine w_amount_in hA hP hn hl hr hk b N _ ho.2 (by omega) ?_
      simp_arith only [i_truth_in_r0]
      exact h
  | both c e ihc ihe =>
    intro N P ho hN h
    simp only [Cn.dep] at hN
    cases N with
    | zero => omega
    | succ N =>
      refine ⟨_, hT, rfl, ?_⟩
      simp_arith only [f_truth_in, i_truth_in, i_truth_in_r3, i_truth_in_r2, i_truth_in_r1,  Cn.d]
      refine ihc N _ ho.1 (by omega) ?_
      simp only [Cn.val] at h
      cases hc : c.val r kn with
      | true =>
        rw [hc] at h
        simp_arith only [true_and]
        first
          | exact (ihe N _ ho.2 (by omega) (by simpa using h))
          | simpa using h
      | false =>
        rw [hc] at h
        simp_arith only [true_and]
        first
          | exact (ihe N _ ho.2 (by omega) (by simpa using h))
          | simpa using h
  | either c e ihc ihe =>
    intro N P ho hN h
    simp only [Cn.dep] at hN
    cases N with
    | zero => omega
    | succ N =>
      refine ⟨_, hT, rfl, ?_⟩
      simp_arith only [f_truth_in, i_truth_in, i_truth_in_r3, i_truth_in_r2, i_truth_in_r1,  Cn.d]
      refine ihc N _ ho.1 (by omega) ?_
      simp only [Cn.val] at h
      cases hc : c.val r kn with
      | true =>
        rw [hc] at h
        simp_arith only [true_and]
        first
          | exact (ihe N _ ho.2 (by omega) (by simpa using h))
          | simpa using h
      | false =>
        rw [hc] at h
        simp_arith only [true_and]
        first
          | exact (ihe N _ ho.2 (by omega) (by simpa using h))
          | simpa using h
theorem w_law_truth (hT : T "_law_truth" = some f__law_truth) (hA : T "_law_worked" = some f__law_worked) (hP : T "_law_place" = some f__law_place) {fs : List Fc} (hn : named fs) (hl : fs.length ≤ 4) {r : List Int} (hr : r.length = fs.length) {kd : D} {ts : List Str} {kn : Str → Int} (hk : knows kd ts kn) {S : Sto} :
    ∀ (c : Cn) (N : Nat) (P : D → Sto → Prop), c.ok fs.length ts → c.dep + 3 ≤ N → P (.bl (c.val r kn)) S → Cl T N "_law_truth" [c.d, .tup (fs.map Fc.d), rowD r, kd] S P := by
  have okStr : ((D.str "both").eqOk = true) = True ∧ ((D.str "either").eqOk = true) = True ∧ ((D.str "is").eqOk = true) = True ∧ ((D.str "below").eqOk = true) = True ∧ ((D.tup [.str "both", .str "either"]).eqOk = true) = True := by
    refine ⟨eq_true ?_, eq_true ?_, eq_true ?_, eq_true ?_, eq_true ?_⟩ <;> decide +kernel
  intro c
  induction c with
  | tru =>
    intro N P ho hN h
    cases N with
    | zero => omega
    | succ N =>
      refine ⟨_, hT, rfl, ?_⟩
      simp_arith only [f__law_truth, i__law_truth, Cn.d]
      exact h
  | not c ih =>
    intro N P ho hN h
    simp only [Cn.dep] at hN
    cases N with
    | zero => omega
    | succ N =>
      refine ⟨_, hT, rfl, ?_⟩
      simp_arith only [f__law_truth, i__law_truth, Cn.d]
      refine ih N _ ho (by omega) ?_
      simp_arith only [true_and]
      exact h
  | is a b =>
    intro N P ho hN h
    simp only [Cn.dep] at hN
    cases N with
    | zero => omega
    | succ N =>
      refine ⟨_, hT, rfl, ?_⟩
      simp (config := { maxSteps := 2000000 }) only [f__law_truth, i__law_truth, i__law_truth_r3, Cn.d, ↓reduceIte, Q.bindL_f, Q.wE_chain3, Q.wE_callv, Q.cloP_clo, Q.wE_callL, Q.caps_nil, Q.caps_cons, Q.pk_chain3, Q.pk_callv, Q.pk_callL, Q.wAs_chain3, Q.wAs_callv, Q.wAs_callL, Q.blt_repr, Q.blt_str, Q.wI_enm, Q.enmP_tup, Q.enmP_lst, Q.wS_ins, Q.wS_upd, Q.ownT_own, Q.dctP_dct, Q.wSs_nil, Q.wSs_cons, Q.wS_asg, Q.wS_par, Q.wS_app, Q.wS_ext, Q.wS_pop, Q.wS_aug, Q.wS_setI, Q.wS_expr, Q.wS_ret, Q.wS_ifs, Q.wS_fors, Q.wS_cont, Q.wS_brk, Q.wS_pass, Q.asg_nmT, Q.asg_nmF, Q.asg_tp, Q.tupP_tup, Q.g_nm, Q.g_tp, Q.gs_nil, Q.gs_cons, Q.setP_obj, Q.str_lit, String.reduceBEq, Q.setP_dct, Q.wS_asg2, Q.wE_dct, Q.wE_dcomp, Q.pk_dct, Q.pk_dcomp, Q.cmp_isb, Q.cmp_isnb, Q.cmp_gts, Q.cmp_lts, Q.cmp_les, Q.mem_dct, Q.isB_non, Q.isB_bl, Q.isB_tup, Q.isB_str, Q.mul_tup, Q.idx_dct, Q.idx_str, Q.blt_min2L, Q.blt_max2L,  Q.blt_dctD, Q.blt_lstD, Q.len_dct, Q.wI_wk, Q.wI_pk, Q.pkP_tup, Q.pkP_lst, Q.pkP_xt, Q.pkP_lstO, Q.wkP_tup, Q.wkP_lst, Q.wkP_lstO, Q.wkP_dct, Q.wkP_dctO, Q.setP_own, Q.hasP_val, Q.hasP_own, Q.valP_val, Q.augP_int, Q.augP_str, Q.lstP_lst, Q.ownL_own, Q.wI_seq, Q.wI_rng, Q.wI_zip, Q.wEo_no, Q.wEo_so, Q.wE_neg', Q.zipP_tup, Q.zipP_lst, Q.seqP_tup, Q.seqP_xt, Q.blt_sorted, Q.blt_sortset, Q.blt_dctL, Q.blt_dctX, Q.blt_xt, Q.len_xt, Q.idx_xt, Q.isa_xt_str, Q.isa_xt_int, Q.isa_xt_bool, Q.isa_xt_tuple, Q.isa_xt_list, Q.isa_xt_dict, Q.isa_dct_str, Q.isa_dct_int, Q.isa_dct_bool, Q.isa_dct_tuple, Q.isa_dct_list, Q.isa_dct_dict, Q.lentD_nil, Q.lentD_cons, Q.ownD_lst, Q.ownD_dct, Bool.false_and, Bool.true_and, false_and,  Q.seqP_lst, Q.seqP_scr, Q.seqP_str, Q.rngP_int, Q.intP_int, Q.sz0, Q.sz1, Q.sz2, Q.sz3, Q.sz4, Q.sz5, Q.sz6, Q.sz7, Q.sz8, Q.sz9, Q.nc0, Q.nc1, Q.nc2, Q.nc3, Q.nc4, Q.nc5, Q.nc6, Q.nc7, Q.nc8, Q.nc9, Q.isN_non, Q.isN_bl, Q.isN_int, Q.isN_str, Q.isN_tup, Q.isN_lst, Int.reduceBEq, Int.reduceBNe, Int.reduceLT, Int.reduceLE, decide_true, decide_false, Bool.or_self, Bool.and_self, eq_self, decide_eq_true_eq, Q.ix51, Q.ix52, Q.ix53,  Q.wE_loc, Q.wE_cst, Q.wE_bin, Q.wE_not, Q.wE_and, Q.wE_or, Q.wE_ite, Q.wE_cmp, Q.wE_chain, Q.wE_tup, Q.wE_lst, Q.wE_new, Q.wE_idx, Q.wE_slcE, Q.wE_rev, Q.pk_rev, Q.wAs_rev, Q.rev_tup, Q.rev_lst, Q.rev_xt, Q.wE_call, Q.wE_blt, Q.wE_isa, Q.wE_comp, Q.wE_comp2, Q.pk_loc, Q.pk_cst, Q.pk_bin, Q.pk_neg, Q.pk_not, Q.pk_and, Q.pk_or, Q.pk_ite, Q.pk_cmp, Q.pk_chain, Q.pk_tup, Q.pk_lst, Q.pk_new, Q.pk_idx, Q.pk_slcE, Q.pk_call, Q.pk_blt, Q.pk_isa, Q.pk_comp, Q.pk_comp2, Q.add_int, Q.add_str, Q.add_tup, Q.add_lst, Q.sub_int, Q.mul_int, Q.fdiv_int, Q.mod_int, Q.pow_int, Q.cmp_eq, Q.cmp_ne, Q.cmp_lt, Q.cmp_gt, Q.cmp_le, Q.cmp_ge, Q.cmp_is, Q.cmp_isn, Q.cmp_mem, Q.cmp_nmem, Q.mem_lst, Q.mem_tup, Q.mem_str, Q.eqQ_str, Q.eqQ_int, Q.eqQ_bl, Q.eq_bl, Q.eq_int, Q.eq_str, Q.ok_int, Q.ok_bl, Q.ok_non, Q.tr_bl, Q.tr_int, Q.tr_lst, Q.tr_tup, Q.tr_non, Q.idx_tup, Q.idx_lst, Q.idx_obj, Q.slc_tup, Q.slc_lst, Q.slc_scr, Q.len_tup, Q.len_lst, Q.len_str, Q.blt_all, Q.blt_any, Q.blt_sum, Q.blt_tupL, Q.blt_tupT, Q.blt_lstL, Q.blt_lstT, Q.blt_lstS, Q.blt_int, Q.blt_min, Q.blt_max, Q.at0, Q.at1, Q.at2, Q.at3, Q.at4, Q.optP_some, Q.locE_val, Q.locE_own, Q.locP_val, Q.locP_own, Q.wEs_nil, Q.wEs_cons, Q.wPs_nil, Q.wPs_cons, Q.wAs_nil, Q.wAs_loc, Q.locA_val, Q.locA_own, Q.wAs_cst, Q.wAs_bin, Q.wAs_neg, Q.wAs_not, Q.wAs_and, Q.wAs_or, Q.wAs_ite, Q.wAs_cmp, Q.wAs_chain, Q.wAs_tup, Q.wAs_lst, Q.wAs_new, Q.wAs_idx, Q.wAs_slcE, Q.wAs_call, Q.wAs_blt, Q.wAs_isa, Q.wAs_comp, Q.wAs_comp2, Q.wAs_dct, Q.wAs_dcomp, Q.wT_not, Q.wT_and, Q.wT_or, Q.wT_cmp, Q.wT_chain, Q.wT_yes, Q.wT_v, Q.lo0, Q.flag, Q.wipeL, Q.IEs.len, List.map_cons, List.map_nil, List.length_cons, List.length_nil, List.cons_append, List.nil_append, Nat.reduceAdd, Nat.reduceSub, Nat.sub_self, List.replicate, List.getElem?_cons_zero, List.getElem?_cons_succ, List.set_cons_zero, List.set_cons_succ, List.getElem?_nil, Q.isa_non_str, Q.isa_non_int, Q.isa_non_bool, Q.isa_non_tuple, Q.isa_non_list, Q.isa_non_dict, Q.isa_bl_str, Q.isa_bl_int, Q.isa_bl_bool, Q.isa_bl_tuple, Q.isa_bl_list, Q.isa_bl_dict, Q.isa_int_str, Q.isa_int_int, Q.isa_int_bool, Q.isa_int_tuple, Q.isa_int_list, Q.isa_int_dict, Q.isa_str_str, Q.isa_str_int, Q.isa_str_bool, Q.isa_str_tuple, Q.isa_str_list, Q.isa_str_dict, Q.isa_tup_str, Q.isa_tup_int, Q.isa_tup_bool, Q.isa_tup_tuple, Q.isa_tup_list, Q.isa_tup_dict, Q.isa_lst_str, Q.isa_lst_int, Q.isa_lst_bool, Q.isa_lst_tuple, Q.isa_lst_list, Q.isa_lst_dict, if_true, if_false, Bool.false_eq_true, Bool.true_eq_false, true_and, and_true, Bool.not_true, Bool.not_false, List.not_mem_nil, false_implies, implies_true, forall_const, true_or, false_or, Option.some.injEq, Q.D.tup.injEq, exists_eq_left', exists_eq_left, Q.D.int.injEq, okStr, List.any_cons, List.any_nil, Bool.or_false, Bool.false_or, Bool.true_or, Bool.or_true]
      simp_arith only [i__law_truth_r2]
      refine w_law_worked hA hP hn hl hr hk a N _ ho.1 (by omega) ?_
      try simp_arith only [true_and]
      refine w_law_worked hA hP hn hl hr hk b N _ ho.2 (by omega) ?_
      simp_arith only [i__law_truth_r1]
      exact h
  | lt a b =>
    intro N P ho hN h
    simp only [Cn.dep] at hN
    cases N with
    | zero => omega
    | succ N =>
      refine ⟨_, hT, rfl, ?_⟩
      simp (config := { maxSteps := 2000000 }) only [f__law_truth, i__law_truth, i__law_truth_r3, Cn.d, ↓reduceIte, Q.bindL_f, Q.wE_chain3, Q.wE_callv, Q.cloP_clo, Q.wE_callL, Q.caps_nil, Q.caps_cons, Q.pk_chain3, Q.pk_callv, Q.pk_callL, Q.wAs_chain3, Q.wAs_callv, Q.wAs_callL, Q.blt_repr, Q.blt_str, Q.wI_enm, Q.enmP_tup, Q.enmP_lst, Q.wS_ins, Q.wS_upd, Q.ownT_own, Q.dctP_dct, Q.wSs_nil, Q.wSs_cons, Q.wS_asg, Q.wS_par, Q.wS_app, Q.wS_ext, Q.wS_pop, Q.wS_aug, Q.wS_setI, Q.wS_expr, Q.wS_ret, Q.wS_ifs, Q.wS_fors, Q.wS_cont, Q.wS_brk, Q.wS_pass, Q.asg_nmT, Q.asg_nmF, Q.asg_tp, Q.tupP_tup, Q.g_nm, Q.g_tp, Q.gs_nil, Q.gs_cons, Q.setP_obj, Q.str_lit, String.reduceBEq, Q.setP_dct, Q.wS_asg2, Q.wE_dct, Q.wE_dcomp, Q.pk_dct, Q.pk_dcomp, Q.cmp_isb, Q.cmp_isnb, Q.cmp_gts, Q.cmp_lts, Q.cmp_les, Q.mem_dct, Q.isB_non, Q.isB_bl, Q.isB_tup, Q.isB_str, Q.mul_tup, Q.idx_dct, Q.idx_str, Q.blt_min2L, Q.blt_max2L,  Q.blt_dctD, Q.blt_lstD, Q.len_dct, Q.wI_wk, Q.wI_pk, Q.pkP_tup, Q.pkP_lst, Q.pkP_xt, Q.pkP_lstO, Q.wkP_tup, Q.wkP_lst, Q.wkP_lstO, Q.wkP_dct, Q.wkP_dctO, Q.setP_own, Q.hasP_val, Q.hasP_own, Q.valP_val, Q.augP_int, Q.augP_str, Q.lstP_lst, Q.ownL_own, Q.wI_seq, Q.wI_rng, Q.wI_zip, Q.wEo_no, Q.wEo_so, Q.wE_neg', Q.zipP_tup, Q.zipP_lst, Q.seqP_tup, Q.seqP_xt, Q.blt_sorted, Q.blt_sortset, Q.blt_dctL, Q.blt_dctX, Q.blt_xt, Q.len_xt, Q.idx_xt, Q.isa_xt_str, Q.isa_xt_int, Q.isa_xt_bool, Q.isa_xt_tuple, Q.isa_xt_list, Q.isa_xt_dict, Q.isa_dct_str, Q.isa_dct_int, Q.isa_dct_bool, Q.isa_dct_tuple, Q.isa_dct_list, Q.isa_dct_dict, Q.lentD_nil, Q.lentD_cons, Q.ownD_lst, Q.ownD_dct, Bool.false_and, Bool.true_and, false_and,  Q.seqP_lst, Q.seqP_scr, Q.seqP_str, Q.rngP_int, Q.intP_int, Q.sz0, Q.sz1, Q.sz2, Q.sz3, Q.sz4, Q.sz5, Q.sz6, Q.sz7, Q.sz8, Q.sz9, Q.nc0, Q.nc1, Q.nc2, Q.nc3, Q.nc4, Q.nc5, Q.nc6, Q.nc7, Q.nc8, Q.nc9, Q.isN_non, Q.isN_bl, Q.isN_int, Q.isN_str, Q.isN_tup, Q.isN_lst, Int.reduceBEq, Int.reduceBNe, Int.reduceLT, Int.reduceLE, decide_true, decide_false, Bool.or_self, Bool.and_self, eq_self, decide_eq_true_eq, Q.ix51, Q.ix52, Q.ix53,  Q.wE_loc, Q.wE_cst, Q.wE_bin, Q.wE_not, Q.wE_and, Q.wE_or, Q.wE_ite, Q.wE_cmp, Q.wE_chain, Q.wE_tup, Q.wE_lst, Q.wE_new, Q.wE_idx, Q.wE_slcE, Q.wE_rev, Q.pk_rev, Q.wAs_rev, Q.rev_tup, Q.rev_lst, Q.rev_xt, Q.wE_call, Q.wE_blt, Q.wE_isa, Q.wE_comp, Q.wE_comp2, Q.pk_loc, Q.pk_cst, Q.pk_bin, Q.pk_neg, Q.pk_not, Q.pk_and, Q.pk_or, Q.pk_ite, Q.pk_cmp, Q.pk_chain, Q.pk_tup, Q.pk_lst, Q.pk_new, Q.pk_idx, Q.pk_slcE, Q.pk_call, Q.pk_blt, Q.pk_isa, Q.pk_comp, Q.pk_comp2, Q.add_int, Q.add_str, Q.add_tup, Q.add_lst, Q.sub_int, Q.mul_int, Q.fdiv_int, Q.mod_int, Q.pow_int, Q.cmp_eq, Q.cmp_ne, Q.cmp_lt, Q.cmp_gt, Q.cmp_le, Q.cmp_ge, Q.cmp_is, Q.cmp_isn, Q.cmp_mem, Q.cmp_nmem, Q.mem_lst, Q.mem_tup, Q.mem_str, Q.eqQ_str, Q.eqQ_int, Q.eqQ_bl, Q.eq_bl, Q.eq_int, Q.eq_str, Q.ok_int, Q.ok_bl, Q.ok_non, Q.tr_bl, Q.tr_int, Q.tr_lst, Q.tr_tup, Q.tr_non, Q.idx_tup, Q.idx_lst, Q.idx_obj, Q.slc_tup, Q.slc_lst, Q.slc_scr, Q.len_tup, Q.len_lst, Q.len_str, Q.blt_all, Q.blt_any, Q.blt_sum, Q.blt_tupL, Q.blt_tupT, Q.blt_lstL, Q.blt_lstT, Q.blt_lstS, Q.blt_int, Q.blt_min, Q.blt_max, Q.at0, Q.at1, Q.at2, Q.at3, Q.at4, Q.optP_some, Q.locE_val, Q.locE_own, Q.locP_val, Q.locP_own, Q.wEs_nil, Q.wEs_cons, Q.wPs_nil, Q.wPs_cons, Q.wAs_nil, Q.wAs_loc, Q.locA_val, Q.locA_own, Q.wAs_cst, Q.wAs_bin, Q.wAs_neg, Q.wAs_not, Q.wAs_and, Q.wAs_or, Q.wAs_ite, Q.wAs_cmp, Q.wAs_chain, Q.wAs_tup, Q.wAs_lst, Q.wAs_new, Q.wAs_idx, Q.wAs_slcE, Q.wAs_call, Q.wAs_blt, Q.wAs_isa, Q.wAs_comp, Q.wAs_comp2, Q.wAs_dct, Q.wAs_dcomp, Q.wT_not, Q.wT_and, Q.wT_or, Q.wT_cmp, Q.wT_chain, Q.wT_yes, Q.wT_v, Q.lo0, Q.flag, Q.wipeL, Q.IEs.len, List.map_cons, List.map_nil, List.length_cons, List.length_nil, List.cons_append, List.nil_append, Nat.reduceAdd, Nat.reduceSub, Nat.sub_self, List.replicate, List.getElem?_cons_zero, List.getElem?_cons_succ, List.set_cons_zero, List.set_cons_succ, List.getElem?_nil, Q.isa_non_str, Q.isa_non_int, Q.isa_non_bool, Q.isa_non_tuple, Q.isa_non_list, Q.isa_non_dict, Q.isa_bl_str, Q.isa_bl_int, Q.isa_bl_bool, Q.isa_bl_tuple, Q.isa_bl_list, Q.isa_bl_dict, Q.isa_int_str, Q.isa_int_int, Q.isa_int_bool, Q.isa_int_tuple, Q.isa_int_list, Q.isa_int_dict, Q.isa_str_str, Q.isa_str_int, Q.isa_str_bool, Q.isa_str_tuple, Q.isa_str_list, Q.isa_str_dict, Q.isa_tup_str, Q.isa_tup_int, Q.isa_tup_bool, Q.isa_tup_tuple, Q.isa_tup_list, Q.isa_tup_dict, Q.isa_lst_str, Q.isa_lst_int, Q.isa_lst_bool, Q.isa_lst_tuple, Q.isa_lst_list, Q.isa_lst_dict, if_true, if_false, Bool.false_eq_true, Bool.true_eq_false, true_and, and_true, Bool.not_true, Bool.not_false, List.not_mem_nil, false_implies, implies_true, forall_const, true_or, false_or, Option.some.injEq, Q.D.tup.injEq, exists_eq_left', exists_eq_left, Q.D.int.injEq, okStr, List.any_cons, List.any_nil, Bool.or_false, Bool.false_or, Bool.true_or, Bool.or_true]
      simp_arith only [i__law_truth_r2]
      refine w_law_worked hA hP hn hl hr hk a N _ ho.1 (by omega) ?_
      try simp_arith only [true_and]
      refine w_law_worked hA hP hn hl hr hk b N _ ho.2 (by omega) ?_
      simp_arith only [i__law_truth_r1]
      exact h
  | both c e ihc ihe =>
    intro N P ho hN h
    simp only [Cn.dep] at hN
    cases N with
    | zero => omega
    | succ N =>
      refine ⟨_, hT, rfl, ?_⟩
      simp (config := { maxSteps := 2000000 }) only [f__law_truth, i__law_truth, i__law_truth_r3, Cn.d, ↓reduceIte, Q.bindL_f, Q.wE_chain3, Q.wE_callv, Q.cloP_clo, Q.wE_callL, Q.caps_nil, Q.caps_cons, Q.pk_chain3, Q.pk_callv, Q.pk_callL, Q.wAs_chain3, Q.wAs_callv, Q.wAs_callL, Q.blt_repr, Q.blt_str, Q.wI_enm, Q.enmP_tup, Q.enmP_lst, Q.wS_ins, Q.wS_upd, Q.ownT_own, Q.dctP_dct, Q.wSs_nil, Q.wSs_cons, Q.wS_asg, Q.wS_par, Q.wS_app, Q.wS_ext, Q.wS_pop, Q.wS_aug, Q.wS_setI, Q.wS_expr, Q.wS_ret, Q.wS_ifs, Q.wS_fors, Q.wS_cont, Q.wS_brk, Q.wS_pass, Q.asg_nmT, Q.asg_nmF, Q.asg_tp, Q.tupP_tup, Q.g_nm, Q.g_tp, Q.gs_nil, Q.gs_cons, Q.setP_obj, Q.str_lit, String.reduceBEq, Q.setP_dct, Q.wS_asg2, Q.wE_dct, Q.wE_dcomp, Q.pk_dct, Q.pk_dcomp, Q.cmp_isb, Q.cmp_isnb, Q.cmp_gts, Q.cmp_lts, Q.cmp_les, Q.mem_dct, Q.isB_non, Q.isB_bl, Q.isB_tup, Q.isB_str, Q.mul_tup, Q.idx_dct, Q.idx_str, Q.blt_min2L, Q.blt_max2L,  Q.blt_dctD, Q.blt_lstD, Q.len_dct, Q.wI_wk, Q.wI_pk, Q.pkP_tup, Q.pkP_lst, Q.pkP_xt, Q.pkP_lstO, Q.wkP_tup, Q.wkP_lst, Q.wkP_lstO, Q.wkP_dct, Q.wkP_dctO, Q.setP_own, Q.hasP_val, Q.hasP_own, Q.valP_val, Q.augP_int, Q.augP_str, Q.lstP_lst, Q.ownL_own, Q.wI_seq, Q.wI_rng, Q.wI_zip, Q.wEo_no, Q.wEo_so, Q.wE_neg', Q.zipP_tup, Q.zipP_lst, Q.seqP_tup, Q.seqP_xt, Q.blt_sorted, Q.blt_sortset, Q.blt_dctL, Q.blt_dctX, Q.blt_xt, Q.len_xt, Q.idx_xt, Q.isa_xt_str, Q.isa_xt_int, Q.isa_xt_bool, Q.isa_xt_tuple, Q.isa_xt_list, Q.isa_xt_dict, Q.isa_dct_str, Q.isa_dct_int, Q.isa_dct_bool, Q.isa_dct_tuple, Q.isa_dct_list, Q.isa_dct_dict, Q.lentD_nil, Q.lentD_cons, Q.ownD_lst, Q.ownD_dct, Bool.false_and, Bool.true_and, false_and,  Q.seqP_lst, Q.seqP_scr, Q.seqP_str, Q.rngP_int, Q.intP_int, Q.sz0, Q.sz1, Q.sz2, Q.sz3, Q.sz4, Q.sz5, Q.sz6, Q.sz7, Q.sz8, Q.sz9, Q.nc0, Q.nc1, Q.nc2, Q.nc3, Q.nc4, Q.nc5, Q.nc6, Q.nc7, Q.nc8, Q.nc9, Q.isN_non, Q.isN_bl, Q.isN_int, Q.isN_str, Q.isN_tup, Q.isN_lst, Int.reduceBEq, Int.reduceBNe, Int.reduceLT, Int.reduceLE, decide_true, decide_false, Bool.or_self, Bool.and_self, eq_self, decide_eq_true_eq, Q.ix51, Q.ix52, Q.ix53,  Q.wE_loc, Q.wE_cst, Q.wE_bin, Q.wE_not, Q.wE_and, Q.wE_or, Q.wE_ite, Q.wE_cmp, Q.wE_chain, Q.wE_tup, Q.wE_lst, Q.wE_new, Q.wE_idx, Q.wE_slcE, Q.wE_rev, Q.pk_rev, Q.wAs_rev, Q.rev_tup, Q.rev_lst, Q.rev_xt, Q.wE_call, Q.wE_blt, Q.wE_isa, Q.wE_comp, Q.wE_comp2, Q.pk_loc, Q.pk_cst, Q.pk_bin, Q.pk_neg, Q.pk_not, Q.pk_and, Q.pk_or, Q.pk_ite, Q.pk_cmp, Q.pk_chain, Q.pk_tup, Q.pk_lst, Q.pk_new, Q.pk_idx, Q.pk_slcE, Q.pk_call, Q.pk_blt, Q.pk_isa, Q.pk_comp, Q.pk_comp2, Q.add_int, Q.add_str, Q.add_tup, Q.add_lst, Q.sub_int, Q.mul_int, Q.fdiv_int, Q.mod_int, Q.pow_int, Q.cmp_eq, Q.cmp_ne, Q.cmp_lt, Q.cmp_gt, Q.cmp_le, Q.cmp_ge, Q.cmp_is, Q.cmp_isn, Q.cmp_mem, Q.cmp_nmem, Q.mem_lst, Q.mem_tup, Q.mem_str, Q.eqQ_str, Q.eqQ_int, Q.eqQ_bl, Q.eq_bl, Q.eq_int, Q.eq_str, Q.ok_int, Q.ok_bl, Q.ok_non, Q.tr_bl, Q.tr_int, Q.tr_lst, Q.tr_tup, Q.tr_non, Q.idx_tup, Q.idx_lst, Q.idx_obj, Q.slc_tup, Q.slc_lst, Q.slc_scr, Q.len_tup, Q.len_lst, Q.len_str, Q.blt_all, Q.blt_any, Q.blt_sum, Q.blt_tupL, Q.blt_tupT, Q.blt_lstL, Q.blt_lstT, Q.blt_lstS, Q.blt_int, Q.blt_min, Q.blt_max, Q.at0, Q.at1, Q.at2, Q.at3, Q.at4, Q.optP_some, Q.locE_val, Q.locE_own, Q.locP_val, Q.locP_own, Q.wEs_nil, Q.wEs_cons, Q.wPs_nil, Q.wPs_cons, Q.wAs_nil, Q.wAs_loc, Q.locA_val, Q.locA_own, Q.wAs_cst, Q.wAs_bin, Q.wAs_neg, Q.wAs_not, Q.wAs_and, Q.wAs_or, Q.wAs_ite, Q.wAs_cmp, Q.wAs_chain, Q.wAs_tup, Q.wAs_lst, Q.wAs_new, Q.wAs_idx, Q.wAs_slcE, Q.wAs_call, Q.wAs_blt, Q.wAs_isa, Q.wAs_comp, Q.wAs_comp2, Q.wAs_dct, Q.wAs_dcomp, Q.wT_not, Q.wT_and, Q.wT_or, Q.wT_cmp, Q.wT_chain, Q.wT_yes, Q.wT_v, Q.lo0, Q.flag, Q.wipeL, Q.IEs.len, List.map_cons, List.map_nil, List.length_cons, List.length_nil, List.cons_append, List.nil_append, Nat.reduceAdd, Nat.reduceSub, Nat.sub_self, List.replicate, List.getElem?_cons_zero, List.getElem?_cons_succ, List.set_cons_zero, List.set_cons_succ, List.getElem?_nil, Q.isa_non_str, Q.isa_non_int, Q.isa_non_bool, Q.isa_non_tuple, Q.isa_non_list, Q.isa_non_dict, Q.isa_bl_str, Q.isa_bl_int, Q.isa_bl_bool, Q.isa_bl_tuple, Q.isa_bl_list, Q.isa_bl_dict, Q.isa_int_str, Q.isa_int_int, Q.isa_int_bool, Q.isa_int_tuple, Q.isa_int_list, Q.isa_int_dict, Q.isa_str_str, Q.isa_str_int, Q.isa_str_bool, Q.isa_str_tuple, Q.isa_str_list, Q.isa_str_dict, Q.isa_tup_str, Q.isa_tup_int, Q.isa_tup_bool, Q.isa_tup_tuple, Q.isa_tup_list, Q.isa_tup_dict, Q.isa_lst_str, Q.isa_lst_int, Q.isa_lst_bool, Q.isa_lst_tuple, Q.isa_lst_list, Q.isa_lst_dict, if_true, if_false, Bool.false_eq_true, Bool.true_eq_false, true_and, and_true, Bool.not_true, Bool.not_false, List.not_mem_nil, false_implies, implies_true, forall_const, true_or, false_or, Option.some.injEq, Q.D.tup.injEq, exists_eq_left', exists_eq_left, Q.D.int.injEq, okStr, List.any_cons, List.any_nil, Bool.or_false, Bool.false_or, Bool.true_or, Bool.or_true]
      refine ihc N _ ho.1 (by omega) ?_
      try simp_arith only [true_and]
      refine ihe N _ ho.2 (by omega) ?_
      simp_arith only [i__law_truth_r0]
      simp only [Cn.val] at h
      cases hc : c.val r kn <;> cases he : e.val r kn <;> rw [hc, he] at h <;> simpa using h
  | either c e ihc ihe =>
    intro N P ho hN h
    simp only [Cn.dep] at hN
    cases N with
    | zero => omega
    | succ N =>
      refine ⟨_, hT, rfl, ?_⟩
      simp (config := { maxSteps := 2000000 }) only [f__law_truth, i__law_truth, i__law_truth_r3, Cn.d, ↓reduceIte, Q.bindL_f, Q.wE_chain3, Q.wE_callv, Q.cloP_clo, Q.wE_callL, Q.caps_nil, Q.caps_cons, Q.pk_chain3, Q.pk_callv, Q.pk_callL, Q.wAs_chain3, Q.wAs_callv, Q.wAs_callL, Q.blt_repr, Q.blt_str, Q.wI_enm, Q.enmP_tup, Q.enmP_lst, Q.wS_ins, Q.wS_upd, Q.ownT_own, Q.dctP_dct, Q.wSs_nil, Q.wSs_cons, Q.wS_asg, Q.wS_par, Q.wS_app, Q.wS_ext, Q.wS_pop, Q.wS_aug, Q.wS_setI, Q.wS_expr, Q.wS_ret, Q.wS_ifs, Q.wS_fors, Q.wS_cont, Q.wS_brk, Q.wS_pass, Q.asg_nmT, Q.asg_nmF, Q.asg_tp, Q.tupP_tup, Q.g_nm, Q.g_tp, Q.gs_nil, Q.gs_cons, Q.setP_obj, Q.str_lit, String.reduceBEq, Q.setP_dct, Q.wS_asg2, Q.wE_dct, Q.wE_dcomp, Q.pk_dct, Q.pk_dcomp, Q.cmp_isb, Q.cmp_isnb, Q.cmp_gts, Q.cmp_lts, Q.cmp_les, Q.mem_dct, Q.isB_non, Q.isB_bl, Q.isB_tup, Q.isB_str, Q.mul_tup, Q.idx_dct, Q.idx_str, Q.blt_min2L, Q.blt_max2L,  Q.blt_dctD, Q.blt_lstD, Q.len_dct, Q.wI_wk, Q.wI_pk, Q.pkP_tup, Q.pkP_lst, Q.pkP_xt, Q.pkP_lstO, Q.wkP_tup, Q.wkP_lst, Q.wkP_lstO, Q.wkP_dct, Q.wkP_dctO, Q.setP_own, Q.hasP_val, Q.hasP_own, Q.valP_val, Q.augP_int, Q.augP_str, Q.lstP_lst, Q.ownL_own, Q.wI_seq, Q.wI_rng, Q.wI_zip, Q.wEo_no, Q.wEo_so, Q.wE_neg', Q.zipP_tup, Q.zipP_lst, Q.seqP_tup, Q.seqP_xt, Q.blt_sorted, Q.blt_sortset, Q.blt_dctL, Q.blt_dctX, Q.blt_xt, Q.len_xt, Q.idx_xt, Q.isa_xt_str, Q.isa_xt_int, Q.isa_xt_bool, Q.isa_xt_tuple, Q.isa_xt_list, Q.isa_xt_dict, Q.isa_dct_str, Q.isa_dct_int, Q.isa_dct_bool, Q.isa_dct_tuple, Q.isa_dct_list, Q.isa_dct_dict, Q.lentD_nil, Q.lentD_cons, Q.ownD_lst, Q.ownD_dct, Bool.false_and, Bool.true_and, false_and,  Q.seqP_lst, Q.seqP_scr, Q.seqP_str, Q.rngP_int, Q.intP_int, Q.sz0, Q.sz1, Q.sz2, Q.sz3, Q.sz4, Q.sz5, Q.sz6, Q.sz7, Q.sz8, Q.sz9, Q.nc0, Q.nc1, Q.nc2, Q.nc3, Q.nc4, Q.nc5, Q.nc6, Q.nc7, Q.nc8, Q.nc9, Q.isN_non, Q.isN_bl, Q.isN_int, Q.isN_str, Q.isN_tup, Q.isN_lst, Int.reduceBEq, Int.reduceBNe, Int.reduceLT, Int.reduceLE, decide_true, decide_false, Bool.or_self, Bool.and_self, eq_self, decide_eq_true_eq, Q.ix51, Q.ix52, Q.ix53,  Q.wE_loc, Q.wE_cst, Q.wE_bin, Q.wE_not, Q.wE_and, Q.wE_or, Q.wE_ite, Q.wE_cmp, Q.wE_chain, Q.wE_tup, Q.wE_lst, Q.wE_new, Q.wE_idx, Q.wE_slcE, Q.wE_rev, Q.pk_rev, Q.wAs_rev, Q.rev_tup, Q.rev_lst, Q.rev_xt, Q.wE_call, Q.wE_blt, Q.wE_isa, Q.wE_comp, Q.wE_comp2, Q.pk_loc, Q.pk_cst, Q.pk_bin, Q.pk_neg, Q.pk_not, Q.pk_and, Q.pk_or, Q.pk_ite, Q.pk_cmp, Q.pk_chain, Q.pk_tup, Q.pk_lst, Q.pk_new, Q.pk_idx, Q.pk_slcE, Q.pk_call, Q.pk_blt, Q.pk_isa, Q.pk_comp, Q.pk_comp2, Q.add_int, Q.add_str, Q.add_tup, Q.add_lst, Q.sub_int, Q.mul_int, Q.fdiv_int, Q.mod_int, Q.pow_int, Q.cmp_eq, Q.cmp_ne, Q.cmp_lt, Q.cmp_gt, Q.cmp_le, Q.cmp_ge, Q.cmp_is, Q.cmp_isn, Q.cmp_mem, Q.cmp_nmem, Q.mem_lst, Q.mem_tup, Q.mem_str, Q.eqQ_str, Q.eqQ_int, Q.eqQ_bl, Q.eq_bl, Q.eq_int, Q.eq_str, Q.ok_int, Q.ok_bl, Q.ok_non, Q.tr_bl, Q.tr_int, Q.tr_lst, Q.tr_tup, Q.tr_non, Q.idx_tup, Q.idx_lst, Q.idx_obj, Q.slc_tup, Q.slc_lst, Q.slc_scr, Q.len_tup, Q.len_lst, Q.len_str, Q.blt_all, Q.blt_any, Q.blt_sum, Q.blt_tupL, Q.blt_tupT, Q.blt_lstL, Q.blt_lstT, Q.blt_lstS, Q.blt_int, Q.blt_min, Q.blt_max, Q.at0, Q.at1, Q.at2, Q.at3, Q.at4, Q.optP_some, Q.locE_val, Q.locE_own, Q.locP_val, Q.locP_own, Q.wEs_nil, Q.wEs_cons, Q.wPs_nil, Q.wPs_cons, Q.wAs_nil, Q.wAs_loc, Q.locA_val, Q.locA_own, Q.wAs_cst, Q.wAs_bin, Q.wAs_neg, Q.wAs_not, Q.wAs_and, Q.wAs_or, Q.wAs_ite, Q.wAs_cmp, Q.wAs_chain, Q.wAs_tup, Q.wAs_lst, Q.wAs_new, Q.wAs_idx, Q.wAs_slcE, Q.wAs_call, Q.wAs_blt, Q.wAs_isa, Q.wAs_comp, Q.wAs_comp2, Q.wAs_dct, Q.wAs_dcomp, Q.wT_not, Q.wT_and, Q.wT_or, Q.wT_cmp, Q.wT_chain, Q.wT_yes, Q.wT_v, Q.lo0, Q.flag, Q.wipeL, Q.IEs.len, List.map_cons, List.map_nil, List.length_cons, List.length_nil, List.cons_append, List.nil_append, Nat.reduceAdd, Nat.reduceSub, Nat.sub_self, List.replicate, List.getElem?_cons_zero, List.getElem?_cons_succ, List.set_cons_zero, List.set_cons_succ, List.getElem?_nil, Q.isa_non_str, Q.isa_non_int, Q.isa_non_bool, Q.isa_non_tuple, Q.isa_non_list, Q.isa_non_dict, Q.isa_bl_str, Q.isa_bl_int, Q.isa_bl_bool, Q.isa_bl_tuple, Q.isa_bl_list, Q.isa_bl_dict, Q.isa_int_str, Q.isa_int_int, Q.isa_int_bool, Q.isa_int_tuple, Q.isa_int_list, Q.isa_int_dict, Q.isa_str_str, Q.isa_str_int, Q.isa_str_bool, Q.isa_str_tuple, Q.isa_str_list, Q.isa_str_dict, Q.isa_tup_str, Q.isa_tup_int, Q.isa_tup_bool, Q.isa_tup_tuple, Q.isa_tup_list, Q.isa_tup_dict, Q.isa_lst_str, Q.isa_lst_int, Q.isa_lst_bool, Q.isa_lst_tuple, Q.isa_lst_list, Q.isa_lst_dict, if_true, if_false, Bool.false_eq_true, Bool.true_eq_false, true_and, and_true, Bool.not_true, Bool.not_false, List.not_mem_nil, false_implies, implies_true, forall_const, true_or, false_or, Option.some.injEq, Q.D.tup.injEq, exists_eq_left', exists_eq_left, Q.D.int.injEq, okStr, List.any_cons, List.any_nil, Bool.or_false, Bool.false_or, Bool.true_or, Bool.or_true]
      refine ihc N _ ho.1 (by omega) ?_
      try simp_arith only [true_and]
      refine ihe N _ ho.2 (by omega) ?_
      simp_arith only [i__law_truth_r0]
      simp only [Cn.val] at h
      cases hc : c.val r kn <;> cases he : e.val r kn <;> rw [hc, he] at h <;> simpa using h
end
end Q
/-! Draws of facts, amounts, conditions. -/
namespace Q
open PySem
section
variable {T : Str → Option FD}
theorem w_law_factsN (hT : T "_law_facts" = some f__law_facts) (hD : T "_law_draw" = some f__law_draw) (hSp : T "_law_spread" = some f__law_spread) {k most : Nat} (hmost : most ≤ 4) {S : Sto} {P : D → Sto → Prop} (hS : Pool S)
  (h : ∀ (fs : List Fc) S', fs.length ≤ most → (∀ f ∈ fs, f.ok) → named fs → Pool S' → P (.tup (fs.map Fc.d)) S') : Cl T (k + 3) "_law_facts" [.obj 0, .int most] S P := by
  refine ⟨_, hT, rfl, ?_⟩
  simp_arith only [f__law_facts, i__law_facts]
  have nm : ∀ j : Nat, j < 4 → L2.atI [D.str "aa", .str "bb", .str "cc", .str "dd"] (j : Int) = some (nmD j) := fun j hj => by
    have : j = 0 ∨ j = 1 ∨ j = 2 ∨ j = 3 := by omega
    rcases this with rfl | rfl | rfl | rfl <;> rfl
  have loop : ∀ (ks : List Nat) (fs : List Fc) (s4 s5 s6 : Sl) (S : Sto), Pool S → ks = List.range' fs.length ks.length → fs.length + ks.length ≤ most → (∀ f ∈ fs, f.ok) ∧ named fs → forL (wG (.nm 4)) (wSs (Cl T (k + 2)) i__law_facts_b0) { nx := fun L1 S1 => wSs (Cl T (k + 2)) i__law_facts_r2 L1 S1 { nx := fun x S1 => P D.non S1, rt := P }, rt := P } (ks.map fun (j : Nat) => D.int (j : Int)) [.val (.obj 0), .val (.int most), .val (.tup [.str "aa", .str "bb", .str "cc", .str "dd"]), .own (.lst (fs.map Fc.d)), s4, s5, s6] S := by
    intro ks
    induction ks with
    | nil =>
      intro fs s4 s5 s6 S hS _ hl hf
      simp_arith only [List.map_nil, forL, i__law_facts_r2]
      exact h fs S (by simpa using hl) hf.1 hf.2 hS
    | cons j ks ih =>
      intro fs s4 s5 s6 S hS hj hl hf
      simp only [List.length_cons] at hl
      rw [List.length_cons, List.range'_succ, List.cons.injEq] at hj
      obtain ⟨hj1, hj2⟩ := hj
      have en := nm j (by omega)
      have next : ∀ f : Fc, f.n = nmD j → f.ok → (∀ g ∈ fs ++ [f], g.ok) ∧ named (fs ++ [f]) := fun f h1 h2 => by
        refine ⟨fun g hg => ?_, fun i g hg => ?_⟩
        · rcases List.mem_append.mp hg with h3 | h3
          · exact hf.1 g h3
          · rw [List.mem_singleton.mp h3]; exact h2
        · by_cases hi : i < fs.length
          · rw [List.getElem?_append_left hi] at hg; exact hf.2 i g hg
          · rw [List.getElem?_append_right (by omega)] at hg
            have : i = fs.length := by
              have := (List.getElem?_eq_some_iff.mp hg).1
              simp at this; omega
            subst this
            simp at hg
            rw [← hg, h1, hj1]
      have hj3 : ks = List.range' (fs.length + 1) ks.length := hj2
      simp_arith only [List.map_cons, forL, i__law_facts_b0]
      apply w_draw hD hSp hS (by decide) (pow9 (by decide) (by decide))
      intro v S1 v0 v1 hS1
      simp_arith only [true_and]
      refine iteI (fun hb => ?_) (fun hb => ?_)
      · apply w_draw hD hSp hS1 (by decide) (pow9 (by decide) (by decide))
        intro v S1 v0 v1 hS1
        have hv : v = 0 ∨ v = 1 := by omega
        have fin : ∀ (m : Int) (w : D), m = 1 ∨ m = 2 → ∀ s5 : Sl, forL (wG (.nm 4)) (wSs (Cl T (k + 2)) i__law_facts_b0) { nx := fun L1 S1 => wSs (Cl T (k + 2)) i__law_facts_r2 L1 S1 { nx := fun x S1 => P D.non S1, rt := P }, rt := P } (ks.map fun (j : Nat) => D.int (j : Int)) [.val (.obj 0), .val (.int most), .val (.tup [.str "aa", .str "bb", .str "cc", .str "dd"]), .own (.lst (fs.map Fc.d ++ [.tup [nmD j, .int 0, .int m, w]])), .val (.int j), s5, s6] S1 := fun m w hm s5 => by
          have := ih (fs ++ [⟨nmD j, 0, m, w⟩]) (.val (.int j)) s5 s6 S1 hS1 (by simpa using hj3) (by simp; omega) (next _ rfl (by unfold Fc.ok; dsimp only; omega))
          simpa [Fc.d] using this
        have hsz : (fs.map Fc.d).length < sizeLine := by simp [sizeL]; omega
        rcases hv with rfl | rfl
        · have e : cut [D.str "no", .str "so", .str "yes"] none (some (2 + 0)) = [.str "no", .str "so"] := rfl
          simp_arith only [e, i__law_facts_r0, en]
          exact ⟨hsz, fin _ _ (.inl rfl) _⟩
        · have e : cut [D.str "no", .str "so", .str "yes"] none (some (2 + 1)) = [.str "no", .str "so", .str "yes"] := rfl
          simp_arith only [e, i__law_facts_r0, en]
          exact ⟨hsz, fin _ _ (.inr rfl) _⟩
      · apply w_draw hD hSp hS1 (by decide) (pow9 (by decide) (by decide))
        intro v S1 v0 v1 hS1
        simp_arith only [i__law_facts_r1, en]
        apply w_draw hD hSp hS1 (by decide) (pow9 (by decide) (by decide))
        intro u S1 u0 u1 hS1
        simp_arith only [true_and]
        have hsz : (fs.map Fc.d).length < sizeLine := by simp [sizeL]; omega
        refine ⟨hsz, ?_⟩
        have := ih (fs ++ [⟨nmD j, v - 3, v - 3 + u, .tup []⟩]) (.val (.int j)) s5 (.val (.int (v - 3))) S1 hS1 (by simpa using hj3) (by simp; omega) (next _ rfl (by unfold Fc.ok; dsimp only; omega))
        rw [List.map_append] at this
        exact this
  apply w_draw hD hSp hS (by omega) (pow9 (by omega) (by omega))
  intro v S1 v0 v1 hS1
  obtain ⟨m, rfl⟩ := Int.eq_ofNat_of_zero_le v0
  have l2 : lim62 (m : Int) := by unfold lim62; omega
  simp_arith only [lim_0, l2]
  rw [Int.sub_zero, Int.toNat_natCast, rng0]
  exact loop (List.range m) [] .no .no .no S1 hS1 (by rw [List.length_range, List.range_eq_range']; rfl) (by simp; omega) ⟨by simp, fun i f h => by simp at h⟩

theorem amount_base (hD : T "_law_draw" = some f__law_draw) (hSp : T "_law_spread" = some f__law_spread) {fs : List Fc} (hn : named fs) (hl : fs.length ≤ 4) {ts : List Str} (hts : ts.length ≤ 100) {N : Nat} {P : D → Sto → Prop} {dp v : Int} {S1 : Sto} {x5 : Sl}
    (hS1 : Pool S1) (v0 : 0 ≤ v) (v1 : v < 6) (h : ∀ (a : Am) S', a.ok fs.length ts → a.dep ≤ 0 → Pool S' → P a.d S') :
    wSs (Cl T (N + 2)) i__law_amount_r6 [.val (.obj 0), .val (.tup (fs.map Fc.d)), .val (.lst (ts.map .str)), .val (.int dp), .val (.int v), x5] S1 { nx := fun x S1 => P D.non S1, rt := P } := by
  have num : wSs (Cl T (N + 2)) (.cons (.ret (.tup (.cons (.cst (.str "num")) (.cons (.bin .sub (.call "_law_draw" (.cons (.loc 0) (.cons (.cst (.int 13)) .nil))) (.cst (.int 4))) .nil)))) .nil) [.val (.obj 0), .val (.tup (fs.map Fc.d)), .val (.lst (ts.map .str)), .val (.int dp), .val (.int v), x5] S1 { nx := fun x S1 => P D.non S1, rt := P } := by
    simp_arith only [true_and]
    apply w_draw hD hSp hS1 (by decide) (pow9 (by decide) (by decide))
    intro u S2 u0 u1 hS2
    simp_arith only [true_and]
    exact h (.num (u - 4)) S2 ⟨by omega, by omega⟩ (Nat.le_refl _) hS2
  unfold i__law_amount_r6
  rw [wSs_cons, wS_ifs]
  by_cases h2 : v < 2
  · simp only [wT_or, wT_and, wT_cmp, pk_loc, pk_cst, wE_cst, locP_val, List.getElem?_cons_zero, List.getElem?_cons_succ, cmp_lt, eq_true h2, decide_true, if_true]
    exact num
  · by_cases h5 : v < 5
    · by_cases hf : fs = []
      · subst hf
        simp_arith only [eq_false h2, eq_true h5, List.map_nil]
        simpa [↓reduceIte, Q.bindL_f, Q.wE_chain3, Q.wE_callv, Q.cloP_clo, Q.wE_callL, Q.caps_nil, Q.caps_cons, Q.pk_chain3, Q.pk_callv, Q.pk_callL, Q.wAs_chain3, Q.wAs_callv, Q.wAs_callL, Q.blt_repr, Q.blt_str, Q.wI_enm, Q.enmP_tup, Q.enmP_lst, Q.wS_ins, Q.wS_upd, Q.ownT_own, Q.dctP_dct, Q.wSs_nil, Q.wSs_cons, Q.wS_asg, Q.wS_par, Q.wS_app, Q.wS_ext, Q.wS_pop, Q.wS_aug, Q.wS_setI, Q.wS_expr, Q.wS_ret, Q.wS_ifs, Q.wS_fors, Q.wS_cont, Q.wS_brk, Q.wS_pass, Q.asg_nmT, Q.asg_nmF, Q.asg_tp, Q.tupP_tup, Q.g_nm, Q.g_tp, Q.gs_nil, Q.gs_cons, Q.setP_obj, Q.str_lit, String.reduceBEq, Q.setP_dct, Q.wS_asg2, Q.wE_dct, Q.wE_dcomp, Q.pk_dct, Q.pk_dcomp, Q.cmp_isb, Q.cmp_isnb, Q.cmp_gts, Q.cmp_lts, Q.cmp_les, Q.mem_dct, Q.isB_non, Q.isB_bl, Q.isB_tup, Q.isB_str, Q.mul_tup, Q.idx_dct, Q.idx_str, Q.blt_min2L, Q.blt_max2L,  Q.blt_dctD, Q.blt_lstD, Q.len_dct, Q.wI_wk, Q.wI_pk, Q.pkP_tup, Q.pkP_lst, Q.pkP_xt, Q.pkP_lstO, Q.wkP_tup, Q.wkP_lst, Q.wkP_lstO, Q.wkP_dct, Q.wkP_dctO, Q.setP_own, Q.hasP_val, Q.hasP_own, Q.valP_val, Q.augP_int, Q.augP_str, Q.lstP_lst, Q.ownL_own, Q.wI_seq, Q.wI_rng, Q.wI_zip, Q.wEo_no, Q.wEo_so, Q.wE_neg', Q.zipP_tup, Q.zipP_lst, Q.seqP_tup, Q.seqP_xt, Q.blt_sorted, Q.blt_sortset, Q.blt_dctL, Q.blt_dctX, Q.blt_xt, Q.len_xt, Q.idx_xt, Q.isa_xt_str, Q.isa_xt_int, Q.isa_xt_bool, Q.isa_xt_tuple, Q.isa_xt_list, Q.isa_xt_dict, Q.isa_dct_str, Q.isa_dct_int, Q.isa_dct_bool, Q.isa_dct_tuple, Q.isa_dct_list, Q.isa_dct_dict, Q.lentD_nil, Q.lentD_cons, Q.ownD_lst, Q.ownD_dct, Bool.false_and, Bool.true_and, false_and,  Q.seqP_lst, Q.seqP_scr, Q.seqP_str, Q.rngP_int, Q.intP_int, Q.sz0, Q.sz1, Q.sz2, Q.sz3, Q.sz4, Q.sz5, Q.sz6, Q.sz7, Q.sz8, Q.sz9, Q.nc0, Q.nc1, Q.nc2, Q.nc3, Q.nc4, Q.nc5, Q.nc6, Q.nc7, Q.nc8, Q.nc9, Q.isN_non, Q.isN_bl, Q.isN_int, Q.isN_str, Q.isN_tup, Q.isN_lst, Int.reduceBEq, Int.reduceBNe, Int.reduceLT, Int.reduceLE, decide_true, decide_false, Bool.or_self, Bool.and_self, eq_self, decide_eq_true_eq, Q.ix51, Q.ix52, Q.ix53,  Q.wE_loc, Q.wE_cst, Q.wE_bin, Q.wE_not, Q.wE_and, Q.wE_or, Q.wE_ite, Q.wE_cmp, Q.wE_chain, Q.wE_tup, Q.wE_lst, Q.wE_new, Q.wE_idx, Q.wE_slcE, Q.wE_rev, Q.pk_rev, Q.wAs_rev, Q.rev_tup, Q.rev_lst, Q.rev_xt, Q.wE_call, Q.wE_blt, Q.wE_isa, Q.wE_comp, Q.wE_comp2, Q.pk_loc, Q.pk_cst, Q.pk_bin, Q.pk_neg, Q.pk_not, Q.pk_and, Q.pk_or, Q.pk_ite, Q.pk_cmp, Q.pk_chain, Q.pk_tup, Q.pk_lst, Q.pk_new, Q.pk_idx, Q.pk_slcE, Q.pk_call, Q.pk_blt, Q.pk_isa, Q.pk_comp, Q.pk_comp2, Q.add_int, Q.add_str, Q.add_tup, Q.add_lst, Q.sub_int, Q.mul_int, Q.fdiv_int, Q.mod_int, Q.pow_int, Q.cmp_eq, Q.cmp_ne, Q.cmp_lt, Q.cmp_gt, Q.cmp_le, Q.cmp_ge, Q.cmp_is, Q.cmp_isn, Q.cmp_mem, Q.cmp_nmem, Q.mem_lst, Q.mem_tup, Q.mem_str, Q.eqQ_str, Q.eqQ_int, Q.eqQ_bl, Q.eq_bl, Q.eq_int, Q.eq_str, Q.ok_int, Q.ok_bl, Q.ok_non, Q.tr_bl, Q.tr_int, Q.tr_lst, Q.tr_tup, Q.tr_non, Q.idx_tup, Q.idx_lst, Q.idx_obj, Q.slc_tup, Q.slc_lst, Q.slc_scr, Q.len_tup, Q.len_lst, Q.len_str, Q.blt_all, Q.blt_any, Q.blt_sum, Q.blt_tupL, Q.blt_tupT, Q.blt_lstL, Q.blt_lstT, Q.blt_lstS, Q.blt_int, Q.blt_min, Q.blt_max, Q.at0, Q.at1, Q.at2, Q.at3, Q.at4, Q.optP_some, Q.locE_val, Q.locE_own, Q.locP_val, Q.locP_own, Q.wEs_nil, Q.wEs_cons, Q.wPs_nil, Q.wPs_cons, Q.wAs_nil, Q.wAs_loc, Q.locA_val, Q.locA_own, Q.wAs_cst, Q.wAs_bin, Q.wAs_neg, Q.wAs_not, Q.wAs_and, Q.wAs_or, Q.wAs_ite, Q.wAs_cmp, Q.wAs_chain, Q.wAs_tup, Q.wAs_lst, Q.wAs_new, Q.wAs_idx, Q.wAs_slcE, Q.wAs_call, Q.wAs_blt, Q.wAs_isa, Q.wAs_comp, Q.wAs_comp2, Q.wAs_dct, Q.wAs_dcomp, Q.wT_not, Q.wT_and, Q.wT_or, Q.wT_cmp, Q.wT_chain, Q.wT_yes, Q.wT_v, Q.lo0, Q.flag, Q.wipeL, Q.IEs.len, List.map_cons, List.map_nil, List.length_cons, List.length_nil, List.cons_append, List.nil_append, Nat.reduceAdd, Nat.reduceSub, Nat.sub_self, List.replicate, List.getElem?_cons_zero, List.getElem?_cons_succ, List.set_cons_zero, List.set_cons_succ, List.getElem?_nil, Q.isa_non_str, Q.isa_non_int, Q.isa_non_bool, Q.isa_non_tuple, Q.isa_non_list, Q.isa_non_dict, Q.isa_bl_str, Q.isa_bl_int, Q.isa_bl_bool, Q.isa_bl_tuple, Q.isa_bl_list, Q.isa_bl_dict, Q.isa_int_str, Q.isa_int_int, Q.isa_int_bool, Q.isa_int_tuple, Q.isa_int_list, Q.isa_int_dict, Q.isa_str_str, Q.isa_str_int, Q.isa_str_bool, Q.isa_str_tuple, Q.isa_str_list, Q.isa_str_dict, Q.isa_tup_str, Q.isa_tup_int, Q.isa_tup_bool, Q.isa_tup_tuple, Q.isa_tup_list, Q.isa_tup_dict, Q.isa_lst_str, Q.isa_lst_int, Q.isa_lst_bool, Q.isa_lst_tuple, Q.isa_lst_list, Q.isa_lst_dict, if_true, if_false, Bool.false_eq_true, Bool.true_eq_false, true_and, and_true, Bool.not_true, Bool.not_false, List.not_mem_nil, false_implies, implies_true, forall_const, true_or, false_or, Option.some.injEq, Q.D.tup.injEq, exists_eq_left', exists_eq_left, Q.D.int.injEq] using num
      · have hfl : 0 < fs.length := List.length_pos_iff.mpr hf
        have hf0 : ((fs.length : Int) == 0) = false := by simp only [beq_eq_false_iff_ne, ne_eq]; omega
        have n5 : (v == 5) = false := by simp only [beq_eq_false_iff_ne, ne_eq]; omega
        simp_arith only [eq_false h2, eq_true h5, List.length_map, hf0, n5, i__law_amount_r5]
        apply w_draw hD hSp hS1 (by omega) (pow9 (by omega) (by omega))
        intro u S2 u0 u1 hS2
        obtain ⟨j, rfl⟩ := Int.eq_ofNat_of_zero_le u0
        have hj : j < fs.length := by omega
        have e1 : L2.atI (fs.map Fc.d) (j : Int) = some (.tup [nmD j, .int fs[j].lo, .int fs[j].hi, fs[j].w]) := by
          refine atN ?_
          rw [List.getElem?_map, List.getElem?_eq_getElem hj]
          show some (Fc.d fs[j]) = _
          rw [Fc.d, hn j fs[j] (List.getElem?_eq_getElem hj)]
        simp_arith only [e1]
        exact h (.fact j) S2 hj (Nat.le_refl _) hS2
    · have hv : v = 5 := by omega
      subst hv
      by_cases ht : ts = []
      · subst ht
        simp_arith only [List.map_nil]
        simpa [↓reduceIte, Q.bindL_f, Q.wE_chain3, Q.wE_callv, Q.cloP_clo, Q.wE_callL, Q.caps_nil, Q.caps_cons, Q.pk_chain3, Q.pk_callv, Q.pk_callL, Q.wAs_chain3, Q.wAs_callv, Q.wAs_callL, Q.blt_repr, Q.blt_str, Q.wI_enm, Q.enmP_tup, Q.enmP_lst, Q.wS_ins, Q.wS_upd, Q.ownT_own, Q.dctP_dct, Q.wSs_nil, Q.wSs_cons, Q.wS_asg, Q.wS_par, Q.wS_app, Q.wS_ext, Q.wS_pop, Q.wS_aug, Q.wS_setI, Q.wS_expr, Q.wS_ret, Q.wS_ifs, Q.wS_fors, Q.wS_cont, Q.wS_brk, Q.wS_pass, Q.asg_nmT, Q.asg_nmF, Q.asg_tp, Q.tupP_tup, Q.g_nm, Q.g_tp, Q.gs_nil, Q.gs_cons, Q.setP_obj, Q.str_lit, String.reduceBEq, Q.setP_dct, Q.wS_asg2, Q.wE_dct, Q.wE_dcomp, Q.pk_dct, Q.pk_dcomp, Q.cmp_isb, Q.cmp_isnb, Q.cmp_gts, Q.cmp_lts, Q.cmp_les, Q.mem_dct, Q.isB_non, Q.isB_bl, Q.isB_tup, Q.isB_str, Q.mul_tup, Q.idx_dct, Q.idx_str, Q.blt_min2L, Q.blt_max2L,  Q.blt_dctD, Q.blt_lstD, Q.len_dct, Q.wI_wk, Q.wI_pk, Q.pkP_tup, Q.pkP_lst, Q.pkP_xt, Q.pkP_lstO, Q.wkP_tup, Q.wkP_lst, Q.wkP_lstO, Q.wkP_dct, Q.wkP_dctO, Q.setP_own, Q.hasP_val, Q.hasP_own, Q.valP_val, Q.augP_int, Q.augP_str, Q.lstP_lst, Q.ownL_own, Q.wI_seq, Q.wI_rng, Q.wI_zip, Q.wEo_no, Q.wEo_so, Q.wE_neg', Q.zipP_tup, Q.zipP_lst, Q.seqP_tup, Q.seqP_xt, Q.blt_sorted, Q.blt_sortset, Q.blt_dctL, Q.blt_dctX, Q.blt_xt, Q.len_xt, Q.idx_xt, Q.isa_xt_str, Q.isa_xt_int, Q.isa_xt_bool, Q.isa_xt_tuple, Q.isa_xt_list, Q.isa_xt_dict, Q.isa_dct_str, Q.isa_dct_int, Q.isa_dct_bool, Q.isa_dct_tuple, Q.isa_dct_list, Q.isa_dct_dict, Q.lentD_nil, Q.lentD_cons, Q.ownD_lst, Q.ownD_dct, Bool.false_and, Bool.true_and, false_and,  Q.seqP_lst, Q.seqP_scr, Q.seqP_str, Q.rngP_int, Q.intP_int, Q.sz0, Q.sz1, Q.sz2, Q.sz3, Q.sz4, Q.sz5, Q.sz6, Q.sz7, Q.sz8, Q.sz9, Q.nc0, Q.nc1, Q.nc2, Q.nc3, Q.nc4, Q.nc5, Q.nc6, Q.nc7, Q.nc8, Q.nc9, Q.isN_non, Q.isN_bl, Q.isN_int, Q.isN_str, Q.isN_tup, Q.isN_lst, Int.reduceBEq, Int.reduceBNe, Int.reduceLT, Int.reduceLE, decide_true, decide_false, Bool.or_self, Bool.and_self, eq_self, decide_eq_true_eq, Q.ix51, Q.ix52, Q.ix53,  Q.wE_loc, Q.wE_cst, Q.wE_bin, Q.wE_not, Q.wE_and, Q.wE_or, Q.wE_ite, Q.wE_cmp, Q.wE_chain, Q.wE_tup, Q.wE_lst, Q.wE_new, Q.wE_idx, Q.wE_slcE, Q.wE_rev, Q.pk_rev, Q.wAs_rev, Q.rev_tup, Q.rev_lst, Q.rev_xt, Q.wE_call, Q.wE_blt, Q.wE_isa, Q.wE_comp, Q.wE_comp2, Q.pk_loc, Q.pk_cst, Q.pk_bin, Q.pk_neg, Q.pk_not, Q.pk_and, Q.pk_or, Q.pk_ite, Q.pk_cmp, Q.pk_chain, Q.pk_tup, Q.pk_lst, Q.pk_new, Q.pk_idx, Q.pk_slcE, Q.pk_call, Q.pk_blt, Q.pk_isa, Q.pk_comp, Q.pk_comp2, Q.add_int, Q.add_str, Q.add_tup, Q.add_lst, Q.sub_int, Q.mul_int, Q.fdiv_int, Q.mod_int, Q.pow_int, Q.cmp_eq, Q.cmp_ne, Q.cmp_lt, Q.cmp_gt, Q.cmp_le, Q.cmp_ge, Q.cmp_is, Q.cmp_isn, Q.cmp_mem, Q.cmp_nmem, Q.mem_lst, Q.mem_tup, Q.mem_str, Q.eqQ_str, Q.eqQ_int, Q.eqQ_bl, Q.eq_bl, Q.eq_int, Q.eq_str, Q.ok_int, Q.ok_bl, Q.ok_non, Q.tr_bl, Q.tr_int, Q.tr_lst, Q.tr_tup, Q.tr_non, Q.idx_tup, Q.idx_lst, Q.idx_obj, Q.slc_tup, Q.slc_lst, Q.slc_scr, Q.len_tup, Q.len_lst, Q.len_str, Q.blt_all, Q.blt_any, Q.blt_sum, Q.blt_tupL, Q.blt_tupT, Q.blt_lstL, Q.blt_lstT, Q.blt_lstS, Q.blt_int, Q.blt_min, Q.blt_max, Q.at0, Q.at1, Q.at2, Q.at3, Q.at4, Q.optP_some, Q.locE_val, Q.locE_own, Q.locP_val, Q.locP_own, Q.wEs_nil, Q.wEs_cons, Q.wPs_nil, Q.wPs_cons, Q.wAs_nil, Q.wAs_loc, Q.locA_val, Q.locA_own, Q.wAs_cst, Q.wAs_bin, Q.wAs_neg, Q.wAs_not, Q.wAs_and, Q.wAs_or, Q.wAs_ite, Q.wAs_cmp, Q.wAs_chain, Q.wAs_tup, Q.wAs_lst, Q.wAs_new, Q.wAs_idx, Q.wAs_slcE, Q.wAs_call, Q.wAs_blt, Q.wAs_isa, Q.wAs_comp, Q.wAs_comp2, Q.wAs_dct, Q.wAs_dcomp, Q.wT_not, Q.wT_and, Q.wT_or, Q.wT_cmp, Q.wT_chain, Q.wT_yes, Q.wT_v, Q.lo0, Q.flag, Q.wipeL, Q.IEs.len, List.map_cons, List.map_nil, List.length_cons, List.length_nil, List.cons_append, List.nil_append, Nat.reduceAdd, Nat.reduceSub, Nat.sub_self, List.replicate, List.getElem?_cons_zero, List.getElem?_cons_succ, List.set_cons_zero, List.set_cons_succ, List.getElem?_nil, Q.isa_non_str, Q.isa_non_int, Q.isa_non_bool, Q.isa_non_tuple, Q.isa_non_list, Q.isa_non_dict, Q.isa_bl_str, Q.isa_bl_int, Q.isa_bl_bool, Q.isa_bl_tuple, Q.isa_bl_list, Q.isa_bl_dict, Q.isa_int_str, Q.isa_int_int, Q.isa_int_bool, Q.isa_int_tuple, Q.isa_int_list, Q.isa_int_dict, Q.isa_str_str, Q.isa_str_int, Q.isa_str_bool, Q.isa_str_tuple, Q.isa_str_list, Q.isa_str_dict, Q.isa_tup_str, Q.isa_tup_int, Q.isa_tup_bool, Q.isa_tup_tuple, Q.isa_tup_list, Q.isa_tup_dict, Q.isa_lst_str, Q.isa_lst_int, Q.isa_lst_bool, Q.isa_lst_tuple, Q.isa_lst_list, Q.isa_lst_dict, if_true, if_false, Bool.false_eq_true, Bool.true_eq_false, true_and, and_true, Bool.not_true, Bool.not_false, List.not_mem_nil, false_implies, implies_true, forall_const, true_or, false_or, Option.some.injEq, Q.D.tup.injEq, exists_eq_left', exists_eq_left, Q.D.int.injEq] using num
      · have htl : 0 < ts.length := List.length_pos_iff.mpr ht
        have ht0 : ((ts.length : Int) == 0) = false := by simp only [beq_eq_false_iff_ne, ne_eq]; omega
        simp_arith only [List.length_map, ht0, i__law_amount_r5, i__law_amount_r4]
        apply w_draw hD hSp hS1 (by omega) (pow9 (by omega) (by omega))
        intro u S2 u0 u1 hS2
        obtain ⟨j, rfl⟩ := Int.eq_ofNat_of_zero_le u0
        have hj : j < ts.length := by omega
        have e1 : L2.atI (ts.map D.str) (j : Int) = some (.str ts[j]) := atN (by rw [List.getElem?_map, List.getElem?_eq_getElem hj]; rfl)
        simp_arith only [e1]
        exact h (.term ts[j]) S2 (List.getElem_mem _) (Nat.le_refl _) hS2
theorem w_law_amount (hT : T "_law_amount" = some f__law_amount) (hD : T "_law_draw" = some f__law_draw) (hSp : T "_law_spread" = some f__law_spread) {fs : List Fc} (hn : named fs) (hl : fs.length ≤ 4) {ts : List Str} (hts : ts.length ≤ 100) :
    ∀ (deep : Nat) (N : Nat) (S : Sto) (P : D → Sto → Prop), Pool S → deep + 4 ≤ N → (∀ (a : Am) S', a.ok fs.length ts → a.dep ≤ deep → Pool S' → P a.d S') → Cl T N "_law_amount" [.obj 0, .tup (fs.map Fc.d), .lst (ts.map .str), .int deep] S P := by
  intro deep
  induction deep with
  | zero =>
    intro N S P hS hN h
    obtain ⟨N, rfl⟩ : ∃ M, N = M + 3 := ⟨N - 3, by omega⟩
    refine ⟨_, hT, rfl, ?_⟩
    simp_arith only [f__law_amount, i__law_amount]
    apply w_draw hD hSp hS (by decide) (pow9 (by decide) (by decide))
    intro v S1 v0 v1 hS1
    exact amount_base hD hSp hn hl hts hS1 v0 v1 h
  | succ deep ih =>
    intro N S P hS hN h
    obtain ⟨N, rfl⟩ : ∃ M, N = M + 3 := ⟨N - 3, by omega⟩
    have hpos : ((0 : Int) < ((deep + 1 : Nat) : Int)) = True := eq_true (by omega)
    have ed : ((deep + 1 : Nat) : Int) - 1 = (deep : Int) := by omega
    refine ⟨_, hT, rfl, ?_⟩
    simp_arith only [f__law_amount, i__law_amount, hpos]
    apply w_draw hD hSp hS (by decide) (pow9 (by decide) (by decide))
    intro v S1 v0 v1 hS1
    by_cases h6 : v < 6
    · exact amount_base hD hSp hn hl hts hS1 v0 h6 fun a S' h1 h2 h3 => h a S' h1 (by omega) h3
    · have b2 : (v < 2) = False := eq_false (by omega)
      have b5 : (v < 5) = False := eq_false (by omega)
      have n5 : (v == 5) = false := by simp only [beq_eq_false_iff_ne, ne_eq]; omega
      simp_arith only [i__law_amount_r6, i__law_amount_r5, i__law_amount_r4, i__law_amount_r3, b2, b5, n5, ed]
      refine ih (N + 2) S1 _ hS1 (by omega) fun a S2 oa da hS2 => ?_
      simp_arith only [i__law_amount_r2]
      have hv : v = 6 ∨ v = 7 ∨ v = 8 ∨ v = 9 ∨ v = 10 ∨ v = 11 := by omega
      rcases hv with rfl | rfl | rfl | rfl | rfl | rfl
      · simp_arith only [true_and]
        apply w_draw hD hSp hS2 (by decide) (pow9 (by decide) (by decide))
        intro u S3 u0 u1 hS3
        simp_arith only [true_and]
        exact h (.times (u - 2) a) S3 ⟨⟨by omega, by omega⟩, oa⟩ (by simp only [Am.dep]; omega) hS3
      · simp_arith only [i__law_amount_r1]
        apply w_draw hD hSp hS2 (by decide) (pow9 (by decide) (by decide))
        intro u S3 u0 u1 hS3
        simp_arith only [true_and]
        exact h (.part a (1 + u)) S3 ⟨oa, by omega, by omega⟩ (by simp only [Am.dep]; omega) hS3
      · simp_arith only [i__law_amount_r1, i__law_amount_r0, Int.reduceSub, ed]
        refine ih (N + 2) S2 _ hS2 (by omega) fun b S3 ob db hS3 => ?_
        try simp_arith only [true_and]
        exact h (.plus a b) S3 ⟨oa, ob⟩ (by simp only [Am.dep]; omega) hS3
      · simp_arith only [i__law_amount_r1, i__law_amount_r0, Int.reduceSub, ed]
        refine ih (N + 2) S2 _ hS2 (by omega) fun b S3 ob db hS3 => ?_
        try simp_arith only [true_and]
        exact h (.less a b) S3 ⟨oa, ob⟩ (by simp only [Am.dep]; omega) hS3
      · simp_arith only [i__law_amount_r1, i__law_amount_r0, Int.reduceSub, ed]
        refine ih (N + 2) S2 _ hS2 (by omega) fun b S3 ob db hS3 => ?_
        try simp_arith only [true_and]
        exact h (.least a b) S3 ⟨oa, ob⟩ (by simp only [Am.dep]; omega) hS3
      · simp_arith only [i__law_amount_r1, i__law_amount_r0, Int.reduceSub, ed]
        refine ih (N + 2) S2 _ hS2 (by omega) fun b S3 ob db hS3 => ?_
        try simp_arith only [true_and]
        exact h (.most a b) S3 ⟨oa, ob⟩ (by simp only [Am.dep]; omega) hS3

theorem cond_base (hA : T "_law_amount" = some f__law_amount) (hD : T "_law_draw" = some f__law_draw) (hSp : T "_law_spread" = some f__law_spread) {fs : List Fc} (hn : named fs) (hl : fs.length ≤ 4) {ts : List Str} (hts : ts.length ≤ 100) {N : Nat} {P : D → Sto → Prop} {dp v : Int} {S1 : Sto} {x5 : Sl}
    (hS1 : Pool S1) (v0 : 0 ≤ v) (v1 : v < 5) (h : ∀ (c : Cn) S', c.ok fs.length ts → c.dep ≤ 2 → Pool S' → P c.d S') :
    wSs (Cl T (N + 5)) i__law_condition_r2 [.val (.obj 0), .val (.tup (fs.map Fc.d)), .val (.lst (ts.map .str)), .val (.int dp), .val (.int v), x5] S1 { nx := fun x S1 => P D.non S1, rt := P } := by
  unfold i__law_condition_r2
  rw [wSs_cons, wS_ifs]
  by_cases h0 : v = 0
  · subst h0
    simp only [wT_cmp, pk_loc, pk_cst, wE_cst, locP_val, List.getElem?_cons_zero, List.getElem?_cons_succ, cmp_eq, eqQ_int, eq_int, Int.reduceBEq, true_and, if_true]
    exact ⟨(by decide : 1 ≤ sizeLine), h .tru S1 True.intro (by simp [Cn.dep]) hS1⟩
  · have n0 : (v == 0) = false := by simp only [beq_eq_false_iff_ne, ne_eq]; omega
    simp only [wT_cmp, pk_loc, pk_cst, wE_cst, locP_val, List.getElem?_cons_zero, List.getElem?_cons_succ, cmp_eq, eqQ_int, eq_int, n0, true_and, Bool.false_eq_true, if_false, wSs_nil]
    rw [wSs_cons, wS_ifs]
    simp only [wT_cmp, pk_loc, pk_cst, wE_cst, locP_val, List.getElem?_cons_zero, List.getElem?_cons_succ, cmp_lt, eq_true v1, decide_true, if_true]
    rw [wSs_cons]
    simp (config := { maxSteps := 3000000 }) only [↓reduceIte, Q.bindL_f, Q.wE_chain3, Q.wE_callv, Q.cloP_clo, Q.wE_callL, Q.caps_nil, Q.caps_cons, Q.pk_chain3, Q.pk_callv, Q.pk_callL, Q.wAs_chain3, Q.wAs_callv, Q.wAs_callL, Q.blt_repr, Q.blt_str, Q.wI_enm, Q.enmP_tup, Q.enmP_lst, Q.wS_ins, Q.wS_upd, Q.ownT_own, Q.dctP_dct, Q.wSs_nil, Q.wSs_cons, Q.wS_asg, Q.wS_par, Q.wS_app, Q.wS_ext, Q.wS_pop, Q.wS_aug, Q.wS_setI, Q.wS_expr, Q.wS_ret, Q.wS_ifs, Q.wS_fors, Q.wS_cont, Q.wS_brk, Q.wS_pass, Q.asg_nmT, Q.asg_nmF, Q.asg_tp, Q.tupP_tup, Q.g_nm, Q.g_tp, Q.gs_nil, Q.gs_cons, Q.setP_obj, Q.str_lit, String.reduceBEq, Q.setP_dct, Q.wS_asg2, Q.wE_dct, Q.wE_dcomp, Q.pk_dct, Q.pk_dcomp, Q.cmp_isb, Q.cmp_isnb, Q.cmp_gts, Q.cmp_lts, Q.cmp_les, Q.mem_dct, Q.isB_non, Q.isB_bl, Q.isB_tup, Q.isB_str, Q.mul_tup, Q.idx_dct, Q.idx_str, Q.blt_min2L, Q.blt_max2L,  Q.blt_dctD, Q.blt_lstD, Q.len_dct, Q.wI_wk, Q.wI_pk, Q.pkP_tup, Q.pkP_lst, Q.pkP_xt, Q.pkP_lstO, Q.wkP_tup, Q.wkP_lst, Q.wkP_lstO, Q.wkP_dct, Q.wkP_dctO, Q.setP_own, Q.hasP_val, Q.hasP_own, Q.valP_val, Q.augP_int, Q.augP_str, Q.lstP_lst, Q.ownL_own, Q.wI_seq, Q.wI_rng, Q.wI_zip, Q.wEo_no, Q.wEo_so, Q.wE_neg', Q.zipP_tup, Q.zipP_lst, Q.seqP_tup, Q.seqP_xt, Q.blt_sorted, Q.blt_sortset, Q.blt_dctL, Q.blt_dctX, Q.blt_xt, Q.len_xt, Q.idx_xt, Q.isa_xt_str, Q.isa_xt_int, Q.isa_xt_bool, Q.isa_xt_tuple, Q.isa_xt_list, Q.isa_xt_dict, Q.isa_dct_str, Q.isa_dct_int, Q.isa_dct_bool, Q.isa_dct_tuple, Q.isa_dct_list, Q.isa_dct_dict, Q.lentD_nil, Q.lentD_cons, Q.ownD_lst, Q.ownD_dct, Bool.false_and, Bool.true_and, false_and,  Q.seqP_lst, Q.seqP_scr, Q.seqP_str, Q.rngP_int, Q.intP_int, Q.sz0, Q.sz1, Q.sz2, Q.sz3, Q.sz4, Q.sz5, Q.sz6, Q.sz7, Q.sz8, Q.sz9, Q.nc0, Q.nc1, Q.nc2, Q.nc3, Q.nc4, Q.nc5, Q.nc6, Q.nc7, Q.nc8, Q.nc9, Q.isN_non, Q.isN_bl, Q.isN_int, Q.isN_str, Q.isN_tup, Q.isN_lst, Int.reduceBEq, Int.reduceBNe, Int.reduceLT, Int.reduceLE, decide_true, decide_false, Bool.or_self, Bool.and_self, eq_self, decide_eq_true_eq, Q.ix51, Q.ix52, Q.ix53,  Q.wE_loc, Q.wE_cst, Q.wE_bin, Q.wE_not, Q.wE_and, Q.wE_or, Q.wE_ite, Q.wE_cmp, Q.wE_chain, Q.wE_tup, Q.wE_lst, Q.wE_new, Q.wE_idx, Q.wE_slcE, Q.wE_rev, Q.pk_rev, Q.wAs_rev, Q.rev_tup, Q.rev_lst, Q.rev_xt, Q.wE_call, Q.wE_blt, Q.wE_isa, Q.wE_comp, Q.wE_comp2, Q.pk_loc, Q.pk_cst, Q.pk_bin, Q.pk_neg, Q.pk_not, Q.pk_and, Q.pk_or, Q.pk_ite, Q.pk_cmp, Q.pk_chain, Q.pk_tup, Q.pk_lst, Q.pk_new, Q.pk_idx, Q.pk_slcE, Q.pk_call, Q.pk_blt, Q.pk_isa, Q.pk_comp, Q.pk_comp2, Q.add_int, Q.add_str, Q.add_tup, Q.add_lst, Q.sub_int, Q.mul_int, Q.fdiv_int, Q.mod_int, Q.pow_int, Q.cmp_eq, Q.cmp_ne, Q.cmp_lt, Q.cmp_gt, Q.cmp_le, Q.cmp_ge, Q.cmp_is, Q.cmp_isn, Q.cmp_mem, Q.cmp_nmem, Q.mem_lst, Q.mem_tup, Q.mem_str, Q.eqQ_str, Q.eqQ_int, Q.eqQ_bl, Q.eq_bl, Q.eq_int, Q.eq_str, Q.ok_int, Q.ok_bl, Q.ok_non, Q.tr_bl, Q.tr_int, Q.tr_lst, Q.tr_tup, Q.tr_non, Q.idx_tup, Q.idx_lst, Q.idx_obj, Q.slc_tup, Q.slc_lst, Q.slc_scr, Q.len_tup, Q.len_lst, Q.len_str, Q.blt_all, Q.blt_any, Q.blt_sum, Q.blt_tupL, Q.blt_tupT, Q.blt_lstL, Q.blt_lstT, Q.blt_lstS, Q.blt_int, Q.blt_min, Q.blt_max, Q.at0, Q.at1, Q.at2, Q.at3, Q.at4, Q.optP_some, Q.locE_val, Q.locE_own, Q.locP_val, Q.locP_own, Q.wEs_nil, Q.wEs_cons, Q.wPs_nil, Q.wPs_cons, Q.wAs_nil, Q.wAs_loc, Q.locA_val, Q.locA_own, Q.wAs_cst, Q.wAs_bin, Q.wAs_neg, Q.wAs_not, Q.wAs_and, Q.wAs_or, Q.wAs_ite, Q.wAs_cmp, Q.wAs_chain, Q.wAs_tup, Q.wAs_lst, Q.wAs_new, Q.wAs_idx, Q.wAs_slcE, Q.wAs_call, Q.wAs_blt, Q.wAs_isa, Q.wAs_comp, Q.wAs_comp2, Q.wAs_dct, Q.wAs_dcomp, Q.wT_not, Q.wT_and, Q.wT_or, Q.wT_cmp, Q.wT_chain, Q.wT_yes, Q.wT_v, Q.lo0, Q.flag, Q.wipeL, Q.IEs.len, List.map_cons, List.map_nil, List.length_cons, List.length_nil, List.cons_append, List.nil_append, Nat.reduceAdd, Nat.reduceSub, Nat.sub_self, List.replicate, List.getElem?_cons_zero, List.getElem?_cons_succ, List.set_cons_zero, List.set_cons_succ, List.getElem?_nil, Q.isa_non_str, Q.isa_non_int, Q.isa_non_bool, Q.isa_non_tuple, Q.isa_non_list, Q.isa_non_dict, Q.isa_bl_str, Q.isa_bl_int, Q.isa_bl_bool, Q.isa_bl_tuple, Q.isa_bl_list, Q.isa_bl_dict, Q.isa_int_str, Q.isa_int_int, Q.isa_int_bool, Q.isa_int_tuple, Q.isa_int_list, Q.isa_int_dict, Q.isa_str_str, Q.isa_str_int, Q.isa_str_bool, Q.isa_str_tuple, Q.isa_str_list, Q.isa_str_dict, Q.isa_tup_str, Q.isa_tup_int, Q.isa_tup_bool, Q.isa_tup_tuple, Q.isa_tup_list, Q.isa_tup_dict, Q.isa_lst_str, Q.isa_lst_int, Q.isa_lst_bool, Q.isa_lst_tuple, Q.isa_lst_list, Q.isa_lst_dict, if_true, if_false, Bool.false_eq_true, Bool.true_eq_false, true_and, and_true, Bool.not_true, Bool.not_false, List.not_mem_nil, false_implies, implies_true, forall_const, true_or, false_or, Option.some.injEq, Q.D.tup.injEq, exists_eq_left', exists_eq_left, Q.D.int.injEq]
    apply w_draw hD hSp hS1 (by decide) (pow9 (by decide) (by decide))
    intro u S2 u0 u1 hS2
    have hu : u = 0 ∨ u = 1 := by omega
    rcases hu with rfl | rfl
    · simp (config := { maxSteps := 3000000 }) only [↓reduceIte, Q.bindL_f, Q.wE_chain3, Q.wE_callv, Q.cloP_clo, Q.wE_callL, Q.caps_nil, Q.caps_cons, Q.pk_chain3, Q.pk_callv, Q.pk_callL, Q.wAs_chain3, Q.wAs_callv, Q.wAs_callL, Q.blt_repr, Q.blt_str, Q.wI_enm, Q.enmP_tup, Q.enmP_lst, Q.wS_ins, Q.wS_upd, Q.ownT_own, Q.dctP_dct, Q.wSs_nil, Q.wSs_cons, Q.wS_asg, Q.wS_par, Q.wS_app, Q.wS_ext, Q.wS_pop, Q.wS_aug, Q.wS_setI, Q.wS_expr, Q.wS_ret, Q.wS_ifs, Q.wS_fors, Q.wS_cont, Q.wS_brk, Q.wS_pass, Q.asg_nmT, Q.asg_nmF, Q.asg_tp, Q.tupP_tup, Q.g_nm, Q.g_tp, Q.gs_nil, Q.gs_cons, Q.setP_obj, Q.str_lit, String.reduceBEq, Q.setP_dct, Q.wS_asg2, Q.wE_dct, Q.wE_dcomp, Q.pk_dct, Q.pk_dcomp, Q.cmp_isb, Q.cmp_isnb, Q.cmp_gts, Q.cmp_lts, Q.cmp_les, Q.mem_dct, Q.isB_non, Q.isB_bl, Q.isB_tup, Q.isB_str, Q.mul_tup, Q.idx_dct, Q.idx_str, Q.blt_min2L, Q.blt_max2L,  Q.blt_dctD, Q.blt_lstD, Q.len_dct, Q.wI_wk, Q.wI_pk, Q.pkP_tup, Q.pkP_lst, Q.pkP_xt, Q.pkP_lstO, Q.wkP_tup, Q.wkP_lst, Q.wkP_lstO, Q.wkP_dct, Q.wkP_dctO, Q.setP_own, Q.hasP_val, Q.hasP_own, Q.valP_val, Q.augP_int, Q.augP_str, Q.lstP_lst, Q.ownL_own, Q.wI_seq, Q.wI_rng, Q.wI_zip, Q.wEo_no, Q.wEo_so, Q.wE_neg', Q.zipP_tup, Q.zipP_lst, Q.seqP_tup, Q.seqP_xt, Q.blt_sorted, Q.blt_sortset, Q.blt_dctL, Q.blt_dctX, Q.blt_xt, Q.len_xt, Q.idx_xt, Q.isa_xt_str, Q.isa_xt_int, Q.isa_xt_bool, Q.isa_xt_tuple, Q.isa_xt_list, Q.isa_xt_dict, Q.isa_dct_str, Q.isa_dct_int, Q.isa_dct_bool, Q.isa_dct_tuple, Q.isa_dct_list, Q.isa_dct_dict, Q.lentD_nil, Q.lentD_cons, Q.ownD_lst, Q.ownD_dct, Bool.false_and, Bool.true_and, false_and,  Q.seqP_lst, Q.seqP_scr, Q.seqP_str, Q.rngP_int, Q.intP_int, Q.sz0, Q.sz1, Q.sz2, Q.sz3, Q.sz4, Q.sz5, Q.sz6, Q.sz7, Q.sz8, Q.sz9, Q.nc0, Q.nc1, Q.nc2, Q.nc3, Q.nc4, Q.nc5, Q.nc6, Q.nc7, Q.nc8, Q.nc9, Q.isN_non, Q.isN_bl, Q.isN_int, Q.isN_str, Q.isN_tup, Q.isN_lst, Int.reduceBEq, Int.reduceBNe, Int.reduceLT, Int.reduceLE, decide_true, decide_false, Bool.or_self, Bool.and_self, eq_self, decide_eq_true_eq, Q.ix51, Q.ix52, Q.ix53,  Q.wE_loc, Q.wE_cst, Q.wE_bin, Q.wE_not, Q.wE_and, Q.wE_or, Q.wE_ite, Q.wE_cmp, Q.wE_chain, Q.wE_tup, Q.wE_lst, Q.wE_new, Q.wE_idx, Q.wE_slcE, Q.wE_rev, Q.pk_rev, Q.wAs_rev, Q.rev_tup, Q.rev_lst, Q.rev_xt, Q.wE_call, Q.wE_blt, Q.wE_isa, Q.wE_comp, Q.wE_comp2, Q.pk_loc, Q.pk_cst, Q.pk_bin, Q.pk_neg, Q.pk_not, Q.pk_and, Q.pk_or, Q.pk_ite, Q.pk_cmp, Q.pk_chain, Q.pk_tup, Q.pk_lst, Q.pk_new, Q.pk_idx, Q.pk_slcE, Q.pk_call, Q.pk_blt, Q.pk_isa, Q.pk_comp, Q.pk_comp2, Q.add_int, Q.add_str, Q.add_tup, Q.add_lst, Q.sub_int, Q.mul_int, Q.fdiv_int, Q.mod_int, Q.pow_int, Q.cmp_eq, Q.cmp_ne, Q.cmp_lt, Q.cmp_gt, Q.cmp_le, Q.cmp_ge, Q.cmp_is, Q.cmp_isn, Q.cmp_mem, Q.cmp_nmem, Q.mem_lst, Q.mem_tup, Q.mem_str, Q.eqQ_str, Q.eqQ_int, Q.eqQ_bl, Q.eq_bl, Q.eq_int, Q.eq_str, Q.ok_int, Q.ok_bl, Q.ok_non, Q.tr_bl, Q.tr_int, Q.tr_lst, Q.tr_tup, Q.tr_non, Q.idx_tup, Q.idx_lst, Q.idx_obj, Q.slc_tup, Q.slc_lst, Q.slc_scr, Q.len_tup, Q.len_lst, Q.len_str, Q.blt_all, Q.blt_any, Q.blt_sum, Q.blt_tupL, Q.blt_tupT, Q.blt_lstL, Q.blt_lstT, Q.blt_lstS, Q.blt_int, Q.blt_min, Q.blt_max, Q.at0, Q.at1, Q.at2, Q.at3, Q.at4, Q.optP_some, Q.locE_val, Q.locE_own, Q.locP_val, Q.locP_own, Q.wEs_nil, Q.wEs_cons, Q.wPs_nil, Q.wPs_cons, Q.wAs_nil, Q.wAs_loc, Q.locA_val, Q.locA_own, Q.wAs_cst, Q.wAs_bin, Q.wAs_neg, Q.wAs_not, Q.wAs_and, Q.wAs_or, Q.wAs_ite, Q.wAs_cmp, Q.wAs_chain, Q.wAs_tup, Q.wAs_lst, Q.wAs_new, Q.wAs_idx, Q.wAs_slcE, Q.wAs_call, Q.wAs_blt, Q.wAs_isa, Q.wAs_comp, Q.wAs_comp2, Q.wAs_dct, Q.wAs_dcomp, Q.wT_not, Q.wT_and, Q.wT_or, Q.wT_cmp, Q.wT_chain, Q.wT_yes, Q.wT_v, Q.lo0, Q.flag, Q.wipeL, Q.IEs.len, List.map_cons, List.map_nil, List.length_cons, List.length_nil, List.cons_append, List.nil_append, Nat.reduceAdd, Nat.reduceSub, Nat.sub_self, List.replicate, List.getElem?_cons_zero, List.getElem?_cons_succ, List.set_cons_zero, List.set_cons_succ, List.getElem?_nil, Q.isa_non_str, Q.isa_non_int, Q.isa_non_bool, Q.isa_non_tuple, Q.isa_non_list, Q.isa_non_dict, Q.isa_bl_str, Q.isa_bl_int, Q.isa_bl_bool, Q.isa_bl_tuple, Q.isa_bl_list, Q.isa_bl_dict, Q.isa_int_str, Q.isa_int_int, Q.isa_int_bool, Q.isa_int_tuple, Q.isa_int_list, Q.isa_int_dict, Q.isa_str_str, Q.isa_str_int, Q.isa_str_bool, Q.isa_str_tuple, Q.isa_str_list, Q.isa_str_dict, Q.isa_tup_str, Q.isa_tup_int, Q.isa_tup_bool, Q.isa_tup_tuple, Q.isa_tup_list, Q.isa_tup_dict, Q.isa_lst_str, Q.isa_lst_int, Q.isa_lst_bool, Q.isa_lst_tuple, Q.isa_lst_list, Q.isa_lst_dict, if_true, if_false, Bool.false_eq_true, Bool.true_eq_false, true_and, and_true, Bool.not_true, Bool.not_false, List.not_mem_nil, false_implies, implies_true, forall_const, true_or, false_or, Option.some.injEq, Q.D.tup.injEq, exists_eq_left', exists_eq_left, Q.D.int.injEq]
      refine w_law_amount hA hD hSp hn hl hts 1 (N + 5) S2 _ hS2 (by omega) fun a S3 oa da hS3 => ?_
      try simp_arith only [true_and]
      refine w_law_amount hA hD hSp hn hl hts 1 (N + 5) S3 _ hS3 (by omega) fun b S4 ob db hS4 => ?_
      try simp_arith only [true_and]
      exact h (.is a b) S4 ⟨oa, ob⟩ (by simp only [Cn.dep]; omega) hS4
    · simp (config := { maxSteps := 3000000 }) only [↓reduceIte, Q.bindL_f, Q.wE_chain3, Q.wE_callv, Q.cloP_clo, Q.wE_callL, Q.caps_nil, Q.caps_cons, Q.pk_chain3, Q.pk_callv, Q.pk_callL, Q.wAs_chain3, Q.wAs_callv, Q.wAs_callL, Q.blt_repr, Q.blt_str, Q.wI_enm, Q.enmP_tup, Q.enmP_lst, Q.wS_ins, Q.wS_upd, Q.ownT_own, Q.dctP_dct, Q.wSs_nil, Q.wSs_cons, Q.wS_asg, Q.wS_par, Q.wS_app, Q.wS_ext, Q.wS_pop, Q.wS_aug, Q.wS_setI, Q.wS_expr, Q.wS_ret, Q.wS_ifs, Q.wS_fors, Q.wS_cont, Q.wS_brk, Q.wS_pass, Q.asg_nmT, Q.asg_nmF, Q.asg_tp, Q.tupP_tup, Q.g_nm, Q.g_tp, Q.gs_nil, Q.gs_cons, Q.setP_obj, Q.str_lit, String.reduceBEq, Q.setP_dct, Q.wS_asg2, Q.wE_dct, Q.wE_dcomp, Q.pk_dct, Q.pk_dcomp, Q.cmp_isb, Q.cmp_isnb, Q.cmp_gts, Q.cmp_lts, Q.cmp_les, Q.mem_dct, Q.isB_non, Q.isB_bl, Q.isB_tup, Q.isB_str, Q.mul_tup, Q.idx_dct, Q.idx_str, Q.blt_min2L, Q.blt_max2L,  Q.blt_dctD, Q.blt_lstD, Q.len_dct, Q.wI_wk, Q.wI_pk, Q.pkP_tup, Q.pkP_lst, Q.pkP_xt, Q.pkP_lstO, Q.wkP_tup, Q.wkP_lst, Q.wkP_lstO, Q.wkP_dct, Q.wkP_dctO, Q.setP_own, Q.hasP_val, Q.hasP_own, Q.valP_val, Q.augP_int, Q.augP_str, Q.lstP_lst, Q.ownL_own, Q.wI_seq, Q.wI_rng, Q.wI_zip, Q.wEo_no, Q.wEo_so, Q.wE_neg', Q.zipP_tup, Q.zipP_lst, Q.seqP_tup, Q.seqP_xt, Q.blt_sorted, Q.blt_sortset, Q.blt_dctL, Q.blt_dctX, Q.blt_xt, Q.len_xt, Q.idx_xt, Q.isa_xt_str, Q.isa_xt_int, Q.isa_xt_bool, Q.isa_xt_tuple, Q.isa_xt_list, Q.isa_xt_dict, Q.isa_dct_str, Q.isa_dct_int, Q.isa_dct_bool, Q.isa_dct_tuple, Q.isa_dct_list, Q.isa_dct_dict, Q.lentD_nil, Q.lentD_cons, Q.ownD_lst, Q.ownD_dct, Bool.false_and, Bool.true_and, false_and,  Q.seqP_lst, Q.seqP_scr, Q.seqP_str, Q.rngP_int, Q.intP_int, Q.sz0, Q.sz1, Q.sz2, Q.sz3, Q.sz4, Q.sz5, Q.sz6, Q.sz7, Q.sz8, Q.sz9, Q.nc0, Q.nc1, Q.nc2, Q.nc3, Q.nc4, Q.nc5, Q.nc6, Q.nc7, Q.nc8, Q.nc9, Q.isN_non, Q.isN_bl, Q.isN_int, Q.isN_str, Q.isN_tup, Q.isN_lst, Int.reduceBEq, Int.reduceBNe, Int.reduceLT, Int.reduceLE, decide_true, decide_false, Bool.or_self, Bool.and_self, eq_self, decide_eq_true_eq, Q.ix51, Q.ix52, Q.ix53,  Q.wE_loc, Q.wE_cst, Q.wE_bin, Q.wE_not, Q.wE_and, Q.wE_or, Q.wE_ite, Q.wE_cmp, Q.wE_chain, Q.wE_tup, Q.wE_lst, Q.wE_new, Q.wE_idx, Q.wE_slcE, Q.wE_rev, Q.pk_rev, Q.wAs_rev, Q.rev_tup, Q.rev_lst, Q.rev_xt, Q.wE_call, Q.wE_blt, Q.wE_isa, Q.wE_comp, Q.wE_comp2, Q.pk_loc, Q.pk_cst, Q.pk_bin, Q.pk_neg, Q.pk_not, Q.pk_and, Q.pk_or, Q.pk_ite, Q.pk_cmp, Q.pk_chain, Q.pk_tup, Q.pk_lst, Q.pk_new, Q.pk_idx, Q.pk_slcE, Q.pk_call, Q.pk_blt, Q.pk_isa, Q.pk_comp, Q.pk_comp2, Q.add_int, Q.add_str, Q.add_tup, Q.add_lst, Q.sub_int, Q.mul_int, Q.fdiv_int, Q.mod_int, Q.pow_int, Q.cmp_eq, Q.cmp_ne, Q.cmp_lt, Q.cmp_gt, Q.cmp_le, Q.cmp_ge, Q.cmp_is, Q.cmp_isn, Q.cmp_mem, Q.cmp_nmem, Q.mem_lst, Q.mem_tup, Q.mem_str, Q.eqQ_str, Q.eqQ_int, Q.eqQ_bl, Q.eq_bl, Q.eq_int, Q.eq_str, Q.ok_int, Q.ok_bl, Q.ok_non, Q.tr_bl, Q.tr_int, Q.tr_lst, Q.tr_tup, Q.tr_non, Q.idx_tup, Q.idx_lst, Q.idx_obj, Q.slc_tup, Q.slc_lst, Q.slc_scr, Q.len_tup, Q.len_lst, Q.len_str, Q.blt_all, Q.blt_any, Q.blt_sum, Q.blt_tupL, Q.blt_tupT, Q.blt_lstL, Q.blt_lstT, Q.blt_lstS, Q.blt_int, Q.blt_min, Q.blt_max, Q.at0, Q.at1, Q.at2, Q.at3, Q.at4, Q.optP_some, Q.locE_val, Q.locE_own, Q.locP_val, Q.locP_own, Q.wEs_nil, Q.wEs_cons, Q.wPs_nil, Q.wPs_cons, Q.wAs_nil, Q.wAs_loc, Q.locA_val, Q.locA_own, Q.wAs_cst, Q.wAs_bin, Q.wAs_neg, Q.wAs_not, Q.wAs_and, Q.wAs_or, Q.wAs_ite, Q.wAs_cmp, Q.wAs_chain, Q.wAs_tup, Q.wAs_lst, Q.wAs_new, Q.wAs_idx, Q.wAs_slcE, Q.wAs_call, Q.wAs_blt, Q.wAs_isa, Q.wAs_comp, Q.wAs_comp2, Q.wAs_dct, Q.wAs_dcomp, Q.wT_not, Q.wT_and, Q.wT_or, Q.wT_cmp, Q.wT_chain, Q.wT_yes, Q.wT_v, Q.lo0, Q.flag, Q.wipeL, Q.IEs.len, List.map_cons, List.map_nil, List.length_cons, List.length_nil, List.cons_append, List.nil_append, Nat.reduceAdd, Nat.reduceSub, Nat.sub_self, List.replicate, List.getElem?_cons_zero, List.getElem?_cons_succ, List.set_cons_zero, List.set_cons_succ, List.getElem?_nil, Q.isa_non_str, Q.isa_non_int, Q.isa_non_bool, Q.isa_non_tuple, Q.isa_non_list, Q.isa_non_dict, Q.isa_bl_str, Q.isa_bl_int, Q.isa_bl_bool, Q.isa_bl_tuple, Q.isa_bl_list, Q.isa_bl_dict, Q.isa_int_str, Q.isa_int_int, Q.isa_int_bool, Q.isa_int_tuple, Q.isa_int_list, Q.isa_int_dict, Q.isa_str_str, Q.isa_str_int, Q.isa_str_bool, Q.isa_str_tuple, Q.isa_str_list, Q.isa_str_dict, Q.isa_tup_str, Q.isa_tup_int, Q.isa_tup_bool, Q.isa_tup_tuple, Q.isa_tup_list, Q.isa_tup_dict, Q.isa_lst_str, Q.isa_lst_int, Q.isa_lst_bool, Q.isa_lst_tuple, Q.isa_lst_list, Q.isa_lst_dict, if_true, if_false, Bool.false_eq_true, Bool.true_eq_false, true_and, and_true, Bool.not_true, Bool.not_false, List.not_mem_nil, false_implies, implies_true, forall_const, true_or, false_or, Option.some.injEq, Q.D.tup.injEq, exists_eq_left', exists_eq_left, Q.D.int.injEq]
      refine w_law_amount hA hD hSp hn hl hts 1 (N + 5) S2 _ hS2 (by omega) fun a S3 oa da hS3 => ?_
      try simp_arith only [true_and]
      refine w_law_amount hA hD hSp hn hl hts 1 (N + 5) S3 _ hS3 (by omega) fun b S4 ob db hS4 => ?_
      try simp_arith only [true_and]
      exact h (.lt a b) S4 ⟨oa, ob⟩ (by simp only [Cn.dep]; omega) hS4
theorem w_law_condition (hT : T "_law_condition" = some f__law_condition) (hA : T "_law_amount" = some f__law_amount) (hD : T "_law_draw" = some f__law_draw) (hSp : T "_law_spread" = some f__law_spread) {fs : List Fc} (hn : named fs) (hl : fs.length ≤ 4) {ts : List Str} (hts : ts.length ≤ 100) :
    ∀ (deep : Nat) (N : Nat) (S : Sto) (P : D → Sto → Prop), Pool S → deep + 7 ≤ N → (∀ (c : Cn) S', c.ok fs.length ts → c.dep ≤ deep + 2 → Pool S' → P c.d S') → Cl T N "_law_condition" [.obj 0, .tup (fs.map Fc.d), .lst (ts.map .str), .int deep] S P := by
  intro deep
  induction deep with
  | zero =>
    intro N S P hS hN h
    obtain ⟨N, rfl⟩ : ∃ M, N = M + 6 := ⟨N - 6, by omega⟩
    refine ⟨_, hT, rfl, ?_⟩
    simp_arith only [f__law_condition, i__law_condition]
    apply w_draw hD hSp hS (by decide) (pow9 (by decide) (by decide))
    intro v S1 v0 v1 hS1
    exact cond_base hA hD hSp hn hl hts hS1 v0 v1 h
  | succ deep ih =>
    intro N S P hS hN h
    obtain ⟨N, rfl⟩ : ∃ M, N = M + 6 := ⟨N - 6, by omega⟩
    have hpos : ((0 : Int) < ((deep + 1 : Nat) : Int)) = True := eq_true (by omega)
    have ed : ((deep + 1 : Nat) : Int) - 1 = (deep : Int) := by omega
    refine ⟨_, hT, rfl, ?_⟩
    simp_arith only [f__law_condition, i__law_condition, hpos]
    apply w_draw hD hSp hS (by decide) (pow9 (by decide) (by decide))
    intro v S1 v0 v1 hS1
    by_cases h5 : v < 5
    · exact cond_base hA hD hSp hn hl hts hS1 v0 h5 fun a S' h1 h2 h3 => h a S' h1 (by omega) h3
    · have b5 : (v < 5) = False := eq_false (by omega)
      have n0 : (v == 0) = false := by simp only [beq_eq_false_iff_ne, ne_eq]; omega
      simp (config := { maxSteps := 3000000 }) only [i__law_condition_r2, i__law_condition_r1, ↓reduceIte, Q.bindL_f, Q.wE_chain3, Q.wE_callv, Q.cloP_clo, Q.wE_callL, Q.caps_nil, Q.caps_cons, Q.pk_chain3, Q.pk_callv, Q.pk_callL, Q.wAs_chain3, Q.wAs_callv, Q.wAs_callL, Q.blt_repr, Q.blt_str, Q.wI_enm, Q.enmP_tup, Q.enmP_lst, Q.wS_ins, Q.wS_upd, Q.ownT_own, Q.dctP_dct, Q.wSs_nil, Q.wSs_cons, Q.wS_asg, Q.wS_par, Q.wS_app, Q.wS_ext, Q.wS_pop, Q.wS_aug, Q.wS_setI, Q.wS_expr, Q.wS_ret, Q.wS_ifs, Q.wS_fors, Q.wS_cont, Q.wS_brk, Q.wS_pass, Q.asg_nmT, Q.asg_nmF, Q.asg_tp, Q.tupP_tup, Q.g_nm, Q.g_tp, Q.gs_nil, Q.gs_cons, Q.setP_obj, Q.str_lit, String.reduceBEq, Q.setP_dct, Q.wS_asg2, Q.wE_dct, Q.wE_dcomp, Q.pk_dct, Q.pk_dcomp, Q.cmp_isb, Q.cmp_isnb, Q.cmp_gts, Q.cmp_lts, Q.cmp_les, Q.mem_dct, Q.isB_non, Q.isB_bl, Q.isB_tup, Q.isB_str, Q.mul_tup, Q.idx_dct, Q.idx_str, Q.blt_min2L, Q.blt_max2L,  Q.blt_dctD, Q.blt_lstD, Q.len_dct, Q.wI_wk, Q.wI_pk, Q.pkP_tup, Q.pkP_lst, Q.pkP_xt, Q.pkP_lstO, Q.wkP_tup, Q.wkP_lst, Q.wkP_lstO, Q.wkP_dct, Q.wkP_dctO, Q.setP_own, Q.hasP_val, Q.hasP_own, Q.valP_val, Q.augP_int, Q.augP_str, Q.lstP_lst, Q.ownL_own, Q.wI_seq, Q.wI_rng, Q.wI_zip, Q.wEo_no, Q.wEo_so, Q.wE_neg', Q.zipP_tup, Q.zipP_lst, Q.seqP_tup, Q.seqP_xt, Q.blt_sorted, Q.blt_sortset, Q.blt_dctL, Q.blt_dctX, Q.blt_xt, Q.len_xt, Q.idx_xt, Q.isa_xt_str, Q.isa_xt_int, Q.isa_xt_bool, Q.isa_xt_tuple, Q.isa_xt_list, Q.isa_xt_dict, Q.isa_dct_str, Q.isa_dct_int, Q.isa_dct_bool, Q.isa_dct_tuple, Q.isa_dct_list, Q.isa_dct_dict, Q.lentD_nil, Q.lentD_cons, Q.ownD_lst, Q.ownD_dct, Bool.false_and, Bool.true_and, false_and,  Q.seqP_lst, Q.seqP_scr, Q.seqP_str, Q.rngP_int, Q.intP_int, Q.sz0, Q.sz1, Q.sz2, Q.sz3, Q.sz4, Q.sz5, Q.sz6, Q.sz7, Q.sz8, Q.sz9, Q.nc0, Q.nc1, Q.nc2, Q.nc3, Q.nc4, Q.nc5, Q.nc6, Q.nc7, Q.nc8, Q.nc9, Q.isN_non, Q.isN_bl, Q.isN_int, Q.isN_str, Q.isN_tup, Q.isN_lst, Int.reduceBEq, Int.reduceBNe, Int.reduceLT, Int.reduceLE, decide_true, decide_false, Bool.or_self, Bool.and_self, eq_self, decide_eq_true_eq, Q.ix51, Q.ix52, Q.ix53,  Q.wE_loc, Q.wE_cst, Q.wE_bin, Q.wE_not, Q.wE_and, Q.wE_or, Q.wE_ite, Q.wE_cmp, Q.wE_chain, Q.wE_tup, Q.wE_lst, Q.wE_new, Q.wE_idx, Q.wE_slcE, Q.wE_rev, Q.pk_rev, Q.wAs_rev, Q.rev_tup, Q.rev_lst, Q.rev_xt, Q.wE_call, Q.wE_blt, Q.wE_isa, Q.wE_comp, Q.wE_comp2, Q.pk_loc, Q.pk_cst, Q.pk_bin, Q.pk_neg, Q.pk_not, Q.pk_and, Q.pk_or, Q.pk_ite, Q.pk_cmp, Q.pk_chain, Q.pk_tup, Q.pk_lst, Q.pk_new, Q.pk_idx, Q.pk_slcE, Q.pk_call, Q.pk_blt, Q.pk_isa, Q.pk_comp, Q.pk_comp2, Q.add_int, Q.add_str, Q.add_tup, Q.add_lst, Q.sub_int, Q.mul_int, Q.fdiv_int, Q.mod_int, Q.pow_int, Q.cmp_eq, Q.cmp_ne, Q.cmp_lt, Q.cmp_gt, Q.cmp_le, Q.cmp_ge, Q.cmp_is, Q.cmp_isn, Q.cmp_mem, Q.cmp_nmem, Q.mem_lst, Q.mem_tup, Q.mem_str, Q.eqQ_str, Q.eqQ_int, Q.eqQ_bl, Q.eq_bl, Q.eq_int, Q.eq_str, Q.ok_int, Q.ok_bl, Q.ok_non, Q.tr_bl, Q.tr_int, Q.tr_lst, Q.tr_tup, Q.tr_non, Q.idx_tup, Q.idx_lst, Q.idx_obj, Q.slc_tup, Q.slc_lst, Q.slc_scr, Q.len_tup, Q.len_lst, Q.len_str, Q.blt_all, Q.blt_any, Q.blt_sum, Q.blt_tupL, Q.blt_tupT, Q.blt_lstL, Q.blt_lstT, Q.blt_lstS, Q.blt_int, Q.blt_min, Q.blt_max, Q.at0, Q.at1, Q.at2, Q.at3, Q.at4, Q.optP_some, Q.locE_val, Q.locE_own, Q.locP_val, Q.locP_own, Q.wEs_nil, Q.wEs_cons, Q.wPs_nil, Q.wPs_cons, Q.wAs_nil, Q.wAs_loc, Q.locA_val, Q.locA_own, Q.wAs_cst, Q.wAs_bin, Q.wAs_neg, Q.wAs_not, Q.wAs_and, Q.wAs_or, Q.wAs_ite, Q.wAs_cmp, Q.wAs_chain, Q.wAs_tup, Q.wAs_lst, Q.wAs_new, Q.wAs_idx, Q.wAs_slcE, Q.wAs_call, Q.wAs_blt, Q.wAs_isa, Q.wAs_comp, Q.wAs_comp2, Q.wAs_dct, Q.wAs_dcomp, Q.wT_not, Q.wT_and, Q.wT_or, Q.wT_cmp, Q.wT_chain, Q.wT_yes, Q.wT_v, Q.lo0, Q.flag, Q.wipeL, Q.IEs.len, List.map_cons, List.map_nil, List.length_cons, List.length_nil, List.cons_append, List.nil_append, Nat.reduceAdd, Nat.reduceSub, Nat.sub_self, List.replicate, List.getElem?_cons_zero, List.getElem?_cons_succ, List.set_cons_zero, List.set_cons_succ, List.getElem?_nil, Q.isa_non_str, Q.isa_non_int, Q.isa_non_bool, Q.isa_non_tuple, Q.isa_non_list, Q.isa_non_dict, Q.isa_bl_str, Q.isa_bl_int, Q.isa_bl_bool, Q.isa_bl_tuple, Q.isa_bl_list, Q.isa_bl_dict, Q.isa_int_str, Q.isa_int_int, Q.isa_int_bool, Q.isa_int_tuple, Q.isa_int_list, Q.isa_int_dict, Q.isa_str_str, Q.isa_str_int, Q.isa_str_bool, Q.isa_str_tuple, Q.isa_str_list, Q.isa_str_dict, Q.isa_tup_str, Q.isa_tup_int, Q.isa_tup_bool, Q.isa_tup_tuple, Q.isa_tup_list, Q.isa_tup_dict, Q.isa_lst_str, Q.isa_lst_int, Q.isa_lst_bool, Q.isa_lst_tuple, Q.isa_lst_list, Q.isa_lst_dict, if_true, if_false, Bool.false_eq_true, Bool.true_eq_false, true_and, and_true, Bool.not_true, Bool.not_false, List.not_mem_nil, false_implies, implies_true, forall_const, true_or, false_or, Option.some.injEq, Q.D.tup.injEq, exists_eq_left', exists_eq_left, Q.D.int.injEq, b5, n0, ed]
      refine ih (N + 5) S1 _ hS1 (by omega) fun c S2 oc dc hS2 => ?_
      simp_arith only [i__law_condition_r0]
      have hv : v = 5 ∨ v = 6 ∨ v = 7 ∨ v = 8 := by omega
      rcases hv with rfl | rfl | rfl | rfl
      · simp_arith only [true_and]
        exact h (.not c) S2 oc (by simp only [Cn.dep]; omega) hS2
      · simp_arith only [true_and]
        exact h (.not c) S2 oc (by simp only [Cn.dep]; omega) hS2
      · simp_arith only [Int.reduceSub, ed]
        refine ih (N + 5) S2 _ hS2 (by omega) fun e S3 oe de hS3 => ?_
        try simp_arith only [true_and]
        exact h (.both c e) S3 ⟨oc, oe⟩ (by simp only [Cn.dep]; omega) hS3
      · simp_arith only [Int.reduceSub, ed]
        refine ih (N + 5) S2 _ hS2 (by omega) fun e S3 oe de hS3 => ?_
        try simp_arith only [true_and]
        exact h (.either c e) S3 ⟨oc, oe⟩ (by simp only [Cn.dep]; omega) hS3
theorem w_law_number (hT : T "_law_number" = some f__law_number) (hD : T "_law_draw" = some f__law_draw) (hSp : T "_law_spread" = some f__law_spread) {k : Nat} {n : Int} (hn : 0 ≤ n) (hn2 : n ≤ 10 ^ 100) {S : Sto} {P : D → Sto → Prop} (hS : Pool S) (h : ∀ (v : Int) S', Pool S' → P (.int v) S') : Cl T (k + 3) "_law_number" [.obj 0, .int n] S P := by
  refine ⟨_, hT, rfl, ?_⟩
  have s2 : small64 2 := by unfold small64; decide
  simp_arith only [f__law_number, i__law_number, s2]
  have hb : (2 * n + 1).natAbs < 2 ^ 9000 := by
    have h1 : (10 : Int) ^ 100 < 2 ^ 400 := by decide
    have h2 : (2 * n + 1).natAbs < 2 ^ 402 := by omega
    exact Nat.lt_of_lt_of_le h2 (Nat.pow_le_pow_right (by decide) (by decide))
  apply w_draw hD hSp hS (by omega) hb
  intro v S1 v0 v1 hS1
  simp_arith only [true_and]
  exact h _ S1 hS1
theorem compL_pool {t : D → Lo → (Lo → Prop) → Prop} {c : Lo → Sto → KT → Prop} {e : Lo → Sto → KE → Prop} {Lw : Lo} {R : D → Prop} : ∀ (ds : List D) (S : Sto) (acc : List D) (P : List D → Sto → Prop), Pool S → acc.length + ds.length ≤ sizeLine → (∀ d ∈ acc, R d) →
    (∀ d ∈ ds, ∀ (S : Sto) (K : List D → Sto → Prop) (acc : List D), Pool S → acc.length < sizeLine → (∀ r S', R r → Pool S' → K (acc ++ [r]) S') → t d Lw fun L1 => c L1 S fun b L2 S2 => L2 = L1 ∧ if b = true then e L1 S2 fun r _ L3 S3 => L3 = L1 ∧ acc.length < sizeLine ∧ K (acc ++ [r]) S3 else K acc S2) →
    (∀ l S', l.length = acc.length + ds.length → (∀ d ∈ l, R d) → Pool S' → P l S') → compL t c e Lw ds S acc P := by
  intro ds
  induction ds with
  | nil => intro S acc P hS _ hR _ h; exact h acc S rfl hR hS
  | cons d ds ih =>
    intro S acc P hS hn hR hs h
    simp only [List.length_cons] at hn
    unfold compL
    refine hs d (by simp) S (fun a S => compL t c e Lw ds S a P) acc hS (by omega) fun r S' hr hS' => ?_
    refine ih S' _ P hS' (by simp; omega) (fun x hx => ?_) (fun x hx => hs x (by simp [hx])) (fun l S2 hl => h l S2 (by simp at hl ⊢; omega))
    rcases List.mem_append.mp hx with h1 | h1
    · exact hR x h1
    · rw [List.mem_singleton.mp h1]; exact hr
theorem w_law_some (hT : T "_law_some_cases" = some f__law_some_cases) (hC : T "_law_cases" = some f__law_cases) (hP : T "_law_pick" = some f__law_pick) (hD : T "_law_draw" = some f__law_draw) (hSp : T "_law_spread" = some f__law_spread) {k m : Nat} (hm : m ≤ 1000) {S : Sto} {P : D → Sto → Prop} {fs : List Fc} (hS : Pool S) (hc : fs.length ≤ 3) (hf : ∀ f ∈ fs, f.ok)
    (h : ∀ (rs : List (List Int)) S', (∀ r ∈ rs, r.length = fs.length) → Pool S' → P (.lst (rs.map rowD)) S') : Cl T (k + 4) "_law_some_cases" [.obj 0, .tup (fs.map Fc.d), .int m] S P := by
  refine ⟨_, hT, rfl, ?_⟩
  have hb : ∀ f ∈ fs, -100 ≤ f.lo ∧ f.lo ≤ 100 ∧ f.hi + 1 - f.lo ≤ 5 ∧ -100 ≤ f.hi := fun f hf1 => by
    have := hf f hf1
    unfold Fc.ok at this
    omega
  have hrow : ∀ r ∈ cases (fs.map Fc.iv), r.length = fs.length := fun r hr => by have := cases_row r hr; simpa using this
  have hcl : (cases (fs.map Fc.iv)).length ≤ 125 := cases_small (by simpa using hc) fun p hp => by
    obtain ⟨f, hf1, rfl⟩ := List.mem_map.mp hp
    exact (hb f hf1).2.2.1
  simp_arith only [f__law_some_cases, i__law_some_cases]
  refine w_law_cases hC (.inl rfl) hc hb ?_
  simp_arith only [i__law_some_cases_r0, List.length_map]
  refine iteI (fun hle => ?_) (fun hle => ?_)
  · exact h _ S hrow hS
  · have hne : cases (fs.map Fc.iv) ≠ [] := by
      intro e; rw [e] at hle; exact hle (by simp)
    have l1 : lim62 (m : Int) := by unfold lim62; omega
    simp_arith only [lim_0, l1, Int.sub_zero, Int.toNat_natCast]
    refine ⟨by simp, ?_⟩
    rw [rng0]
    refine compL_pool (R := fun d => ∃ r, r.length = fs.length ∧ d = rowD r) _ S [] _ hS (by rw [sizeL]; simp; omega) (by simp) ?_ ?_
    · intro d hd S K acc hS hac hK
      obtain ⟨i, _, rfl⟩ := List.mem_map.mp hd
      simp_arith only [true_and]
      refine w_pickL hP hD hSp hS (by simpa using hne) (by simp; omega) fun v S' hv hS' => ?_
      obtain ⟨r, hr, rfl⟩ := List.mem_map.mp hv
      try simp_arith only [true_and]
      exact ⟨hac, hK _ S' ⟨r, hrow r hr, rfl⟩ hS'⟩
    · intro l S' _ hR hS'
      have : ∃ rs : List (List Int), (∀ r ∈ rs, r.length = fs.length) ∧ l = rs.map rowD := by
        have key : ∀ l : List D, (∀ d ∈ l, ∃ r : List Int, r.length = fs.length ∧ d = rowD r) → ∃ rs : List (List Int), (∀ r ∈ rs, r.length = fs.length) ∧ l = rs.map rowD := by
          intro l
          induction l with
          | nil => intro _; exact ⟨[], by simp, rfl⟩
          | cons d l ih =>
            intro hR
            obtain ⟨r, hr, rfl⟩ := hR d (by simp)
            obtain ⟨rs, h1, rfl⟩ := ih (fun d hd => hR d (by simp [hd]))
            refine ⟨r :: rs, fun q hq => ?_, rfl⟩
            rcases List.mem_cons.mp hq with rfl | hq
            · exact hr
            · exact h1 q hq
        exact key l hR
      obtain ⟨rs, h1, rfl⟩ := this
      exact h rs S' h1 hS'
end
end Q
/-! Names within amounts and conditions. -/
namespace Q
open PySem
def i_names_in_b0 : ISs := (.cons (.pop (.nm 4) 3)
  (.cons (.ifs (.cmp .eq (.idx (.loc 4) (.cst (.int 0))) (.loc 1)) (.cons (.app 2 (.idx (.loc 4) (.cst (.int 1))))
  .nil) (.cons (.ifs (.cmp .nmem (.idx (.loc 4) (.cst (.int 0))) (.tup (.cons (.cst (.str "num")) (.cons (.cst (.str "fact")) (.cons (.cst (.str "term")) (.cons (.cst (.str "true")) .nil)))))) (.cons (.ext 3 (.comp (.loc 5) (.nm 5) (.seq (.slcE (.loc 4) (.so (.cst (.int 1))) .no)) (.v (.isa (.loc 5) "tuple")) [5]))
  .nil) .nil)
  .nil))
  .nil))
def i_names_in_r0 : ISs := (.cons (.ret (.blt "sortset" (.cons (.loc 2) .nil)))
  .nil)
def i_names_in : ISs := (.cons (.par 2 3 (.lst .nil) (.lst (.cons (.loc 0) .nil)))
  (.cons (.whl (.cmp .gt (.blt "len" (.cons (.loc 3) .nil)) (.cst (.int 0))) i_names_in_b0)
  i_names_in_r0))
def f_names_in : FD := ⟨2, 6, i_names_in, false⟩
def i__law_names_b0 : ISs := (.cons (.asg (.nm 2) (.bin .add (.loc 2) (.ite (.and (.v (.isa (.loc 3) "tuple")) (.cmp .nmem (.idx (.loc 0) (.cst (.int 0))) (.tup (.cons (.cst (.str "num")) (.cons (.cst (.str "fact")) (.cons (.cst (.str "term")) .nil)))))) (.call "_law_names" (.cons (.loc 3) (.cons (.loc 1) .nil))) (.lst .nil))))
  .nil)
def i__law_names_r0 : ISs := (.cons (.ret (.loc 2))
  .nil)
def i__law_names : ISs := (.cons (.ifs (.cmp .eq (.idx (.loc 0) (.cst (.int 0))) (.loc 1)) (.cons (.ret (.lst (.cons (.idx (.loc 0) (.cst (.int 1))) .nil)))
  .nil) .nil)
  (.cons (.asg (.nm 2) (.lst .nil))
  (.cons (.fors (.nm 3) (.seq (.slcE (.loc 0) (.so (.cst (.int 1))) .no)) i__law_names_b0)
  i__law_names_r0)))
def f__law_names : FD := ⟨2, 4, i__law_names, false⟩
/-! terms within amounts and conditions -/
def Am.tms : Am → List Str
  | .num _ => [] | .fact _ => [] | .term t => [t]
  | .times _ a => a.tms | .part a _ => a.tms
  | .plus a b => a.tms ++ b.tms | .less a b => a.tms ++ b.tms | .least a b => a.tms ++ b.tms | .most a b => a.tms ++ b.tms
def Am.sz : Am → Nat
  | .num _ => 1 | .fact _ => 1 | .term _ => 1
  | .times _ a => a.sz + 1 | .part a _ => a.sz + 1
  | .plus a b => a.sz + b.sz + 1 | .less a b => a.sz + b.sz + 1 | .least a b => a.sz + b.sz + 1 | .most a b => a.sz + b.sz + 1
def Cn.tms : Cn → List Str
  | .tru => [] | .is a b => a.tms ++ b.tms | .lt a b => a.tms ++ b.tms | .not c => c.tms
  | .both c e => c.tms ++ e.tms | .either c e => c.tms ++ e.tms
def Cn.sz : Cn → Nat
  | .tru => 1 | .is a b => a.sz + b.sz + 1 | .lt a b => a.sz + b.sz + 1 | .not c => c.sz + 1
  | .both c e => c.sz + e.sz + 1 | .either c e => c.sz + e.sz + 1
theorem Am.sz_le : ∀ a : Am, a.sz + 1 ≤ 2 ^ (a.dep + 1)
  | .num _ => Nat.le_refl _
  | .fact _ => Nat.le_refl _
  | .term _ => Nat.le_refl _
  | .times _ a => by have := a.sz_le; simp only [Am.sz, Am.dep]; rw [Nat.pow_succ]; omega
  | .part a _ => by have := a.sz_le; simp only [Am.sz, Am.dep]; rw [Nat.pow_succ]; omega
  | .plus a b => by
    have h1 := a.sz_le; have h2 := b.sz_le
    have h3 : 2 ^ (a.dep + 1) ≤ 2 ^ (max a.dep b.dep + 1) := Nat.pow_le_pow_right (by decide) (by omega)
    have h4 : 2 ^ (b.dep + 1) ≤ 2 ^ (max a.dep b.dep + 1) := Nat.pow_le_pow_right (by decide) (by omega)
    simp only [Am.sz, Am.dep]; rw [Nat.pow_succ]; omega
  | .less a b => by
    have h1 := a.sz_le; have h2 := b.sz_le
    have h3 : 2 ^ (a.dep + 1) ≤ 2 ^ (max a.dep b.dep + 1) := Nat.pow_le_pow_right (by decide) (by omega)
    have h4 : 2 ^ (b.dep + 1) ≤ 2 ^ (max a.dep b.dep + 1) := Nat.pow_le_pow_right (by decide) (by omega)
    simp only [Am.sz, Am.dep]; rw [Nat.pow_succ]; omega
  | .least a b => by
    have h1 := a.sz_le; have h2 := b.sz_le
    have h3 : 2 ^ (a.dep + 1) ≤ 2 ^ (max a.dep b.dep + 1) := Nat.pow_le_pow_right (by decide) (by omega)
    have h4 : 2 ^ (b.dep + 1) ≤ 2 ^ (max a.dep b.dep + 1) := Nat.pow_le_pow_right (by decide) (by omega)
    simp only [Am.sz, Am.dep]; rw [Nat.pow_succ]; omega
  | .most a b => by
    have h1 := a.sz_le; have h2 := b.sz_le
    have h3 : 2 ^ (a.dep + 1) ≤ 2 ^ (max a.dep b.dep + 1) := Nat.pow_le_pow_right (by decide) (by omega)
    have h4 : 2 ^ (b.dep + 1) ≤ 2 ^ (max a.dep b.dep + 1) := Nat.pow_le_pow_right (by decide) (by omega)
    simp only [Am.sz, Am.dep]; rw [Nat.pow_succ]; omega
theorem Cn.sz_le : ∀ a : Cn, a.sz + 1 ≤ 2 ^ (a.dep + 1)
  | .tru => by decide
  | .is a b => by
    have h1 := a.sz_le; have h2 := b.sz_le
    have h3 : 2 ^ (a.dep + 1) ≤ 2 ^ (max a.dep b.dep + 1) := Nat.pow_le_pow_right (by decide) (by omega)
    have h4 : 2 ^ (b.dep + 1) ≤ 2 ^ (max a.dep b.dep + 1) := Nat.pow_le_pow_right (by decide) (by omega)
    simp only [Cn.sz, Cn.dep]; rw [Nat.pow_succ]; omega
  | .lt a b => by
    have h1 := a.sz_le; have h2 := b.sz_le
    have h3 : 2 ^ (a.dep + 1) ≤ 2 ^ (max a.dep b.dep + 1) := Nat.pow_le_pow_right (by decide) (by omega)
    have h4 : 2 ^ (b.dep + 1) ≤ 2 ^ (max a.dep b.dep + 1) := Nat.pow_le_pow_right (by decide) (by omega)
    simp only [Cn.sz, Cn.dep]; rw [Nat.pow_succ]; omega
  | .not c => by have := c.sz_le; simp only [Cn.sz, Cn.dep]; rw [Nat.pow_succ]; omega
  | .both a b => by
    have h1 := a.sz_le; have h2 := b.sz_le
    have h3 : 2 ^ (a.dep + 1) ≤ 2 ^ (max a.dep b.dep + 1) := Nat.pow_le_pow_right (by decide) (by omega)
    have h4 : 2 ^ (b.dep + 1) ≤ 2 ^ (max a.dep b.dep + 1) := Nat.pow_le_pow_right (by decide) (by omega)
    simp only [Cn.sz, Cn.dep]; rw [Nat.pow_succ]; omega
  | .either a b => by
    have h1 := a.sz_le; have h2 := b.sz_le
    have h3 : 2 ^ (a.dep + 1) ≤ 2 ^ (max a.dep b.dep + 1) := Nat.pow_le_pow_right (by decide) (by omega)
    have h4 : 2 ^ (b.dep + 1) ≤ 2 ^ (max a.dep b.dep + 1) := Nat.pow_le_pow_right (by decide) (by omega)
    simp only [Cn.sz, Cn.dep]; rw [Nat.pow_succ]; omega
/-- an amount or a condition -/
inductive Pt where
  | a (x : Am) | c (x : Cn)
namespace Pt
def d : Pt → D | a x => x.d | c x => x.d
theorem d_a (y : Am) : (Pt.a y).d = y.d := rfl
theorem d_c (y : Cn) : (Pt.c y).d = y.d := rfl
def tms : Pt → List Str | a x => x.tms | c x => x.tms
def sz : Pt → Nat | a x => x.sz | c x => x.sz
end Pt
def szs (l : List Pt) : Nat := (l.map Pt.sz).sum
theorem szs_app (l m : List Pt) : szs (l ++ m) = szs l + szs m := by simp [szs]
theorem isA_am (x : Am) : D.isA x.d "tuple" = some true := by cases x <;> rfl
theorem isA_cn (x : Cn) : D.isA x.d "tuple" = some true := by cases x <;> rfl
theorem cut1 (a b : D) : cut [a, b] (some 1) none = [b] := rfl
theorem cut2 (a b c : D) : cut [a, b, c] (some 1) none = [b, c] := rfl
theorem cut0 (a : D) : cut [a] (some 1) none = [] := rfl
theorem allS_strs (l : List Str) : allS (l.map .str) = some l := by
  induction l with
  | nil => rfl
  | cons a l ih => simp only [List.map_cons, allS, ih, Option.map_some]
theorem okPLn : ((D.str "plus").eqOk = true) = True ∧ ((D.str "less").eqOk = true) = True ∧ ((D.str "least").eqOk = true) = True ∧ ((D.str "most").eqOk = true) = True ∧ ((D.tup [.str "plus", .str "less"]).eqOk = true) = True := by
  refine ⟨eq_true ?_, eq_true ?_, eq_true ?_, eq_true ?_, eq_true ?_⟩ <;> decide +kernel
theorem okBEn : ((D.str "both").eqOk = true) = True ∧ ((D.str "either").eqOk = true) = True ∧ ((D.str "is").eqOk = true) = True ∧ ((D.str "below").eqOk = true) = True ∧ ((D.tup [.str "both", .str "either"]).eqOk = true) = True := by
  refine ⟨eq_true ?_, eq_true ?_, eq_true ?_, eq_true ?_, eq_true ?_⟩ <;> decide +kernel
theorem okW : ((D.str "num").eqOk = true) = True ∧ ((D.str "fact").eqOk = true) = True ∧ ((D.str "term").eqOk = true) = True ∧ ((D.str "times").eqOk = true) = True ∧ ((D.str "part").eqOk = true) = True ∧ ((D.str "not").eqOk = true) = True ∧ ((D.str "true").eqOk = true) = True ∧
    ((D.tup [.str "num", .str "fact", .str "term", .str "true"]).eqOk = true) = True ∧ ((D.tup [.str "num", .str "fact", .str "term"]).eqOk = true) = True := by
  refine ⟨eq_true ?_, eq_true ?_, eq_true ?_, eq_true ?_, eq_true ?_, eq_true ?_, eq_true ?_, eq_true ?_, eq_true ?_⟩ <;> decide +kernel
theorem sw0 : ((0 : Nat) < sizeLine) = True := eq_true (by decide)
theorem sw1 : ((1 : Nat) < sizeLine) = True := eq_true (by decide)
section
variable {T : Str → Option FD}
theorem nodup_len {α : Type} [DecidableEq α] : ∀ {l m : List α}, l.Nodup → (∀ x ∈ l, x ∈ m) → l.length ≤ m.length
  | [], _, _, _ => Nat.zero_le _
  | a :: l, m, hd, hs => by
    obtain ⟨h1, h2⟩ := List.nodup_cons.mp hd
    have h3 : ∀ x ∈ l, x ∈ m.erase a := fun x hx => (List.mem_erase_of_ne (fun e => h1 (by rw [← e]; exact hx))).mpr (hs x (by simp [hx]))
    have := nodup_len h2 h3
    have h4 := List.length_erase_of_mem (hs a (by simp))
    have h5 : 0 < m.length := List.length_pos_of_mem (hs a (by simp))
    simp only [List.length_cons]; omega
theorem Am.pos (x : Am) : 1 ≤ x.sz := by cases x <;> simp [Am.sz]
theorem Cn.pos (x : Cn) : 1 ≤ x.sz := by cases x <;> simp [Cn.sz]
/-- how the walk stands -/
def nmW (x : Pt) (S : Sto) (m : Nat) (L : Lo) (S1 : Sto) : Prop := S1 = S ∧ ∃ (st : List Pt) (fnd : List Str) (s4 : Sl), L = [.val x.d, .val (.str "term"), .own (.lst (fnd.map .str)), .own (.lst (st.map Pt.d)), s4, .no] ∧ m = szs st ∧ fnd.length + szs st ≤ x.sz ∧ ∀ t, (t ∈ fnd ∨ ∃ p ∈ st, t ∈ p.tms) ↔ t ∈ x.tms
theorem sz_big {n : Nat} (h : n < 4000) : n < sizeLine := by rw [sizeL]; omega
theorem sz_bigL {n : Nat} (h : n < 4000) : n ≤ sizeLine := by rw [sizeL]; omega
theorem w_names_in (hT : T "names_in" = some f_names_in) {k : Nat} {S : Sto} {P : D → Sto → Prop} {x : Pt} (hx : x.sz < 4000)
    (h : ∀ ys : List Str, ys.Nodup → (∀ t, t ∈ ys ↔ t ∈ x.tms) → ys.length < 4000 → P (.lst (ys.map .str)) S) : Cl T (k + 1) "names_in" [x.d, .str "term"] S P := by
  refine ⟨_, hT, rfl, ?_⟩
  simp_arith only [f_names_in, i_names_in]
  rw [wS_whl]
  refine ⟨nmW x S, ⟨szs [x], rfl, [x], [], .no, rfl, rfl, by simp [szs], by simp⟩, ?_⟩
  rintro m L S1 ⟨rfl, st, fnd, s4, rfl, rfl, hl, ht⟩
  rcases List.eq_nil_or_concat st with rfl | ⟨st, p, rfl⟩
  · simp_arith only [List.map_nil, List.length_nil]
    simp_arith only [i_names_in_r0, sortsetP, allS_strs]
    refine ⟨by simp only [szs, List.map_nil, List.sum_nil] at hl; omega, fun ys y1 y2 y3 => ?_⟩
    have hm : ∀ t, t ∈ ys ↔ t ∈ x.tms := fun t => by rw [y3 t, ← ht t]; simp
    have hlen : ys.length ≤ fnd.length := nodup_len y2 fun t h => (y3 t).mp h
    exact h ys y2 hm (by omega)
  · rw [List.concat_eq_append] at hl ht ⊢
    have e0 : ((st ++ [p]).map Pt.d).length = (st.map Pt.d).length + 1 := by simp
    have e1 : ((st ++ [p]).map Pt.d)[((st ++ [p]).map Pt.d).length - 1]? = some p.d := by simp
    have e2 : ((st ++ [p]).map Pt.d).dropLast = st.map Pt.d := by simp
    have e3 : (0 : Int) < (((st ++ [p]).map Pt.d).length : Nat) := by rw [e0]; omega
    have hsz : szs (st ++ [p]) = szs st + p.sz := by rw [szs_app]; simp [szs]
    rw [hsz] at hl
    have ht : ∀ t, (t ∈ fnd ∨ (∃ q ∈ st, t ∈ q.tms) ∨ t ∈ p.tms) ↔ t ∈ x.tms := fun t => by
      rw [← ht t]
      constructor
      · rintro (h | ⟨q, h1, h2⟩ | h)
        · exact .inl h
        · exact .inr ⟨q, by simp [h1], h2⟩
        · exact .inr ⟨p, by simp, h⟩
      · rintro (h | ⟨q, h1, h2⟩)
        · exact .inl h
        · rcases List.mem_append.mp h1 with h1 | h1
          · exact .inr (.inl ⟨q, h1, h2⟩)
          · rw [List.mem_singleton.mp h1] at h2; exact .inr (.inr h2)
    have lst_le : (st.map Pt.d).length ≤ szs st := by
      rw [List.length_map]
      have : ∀ l : List Pt, l.length ≤ szs l := by
        intro l
        induction l with
        | nil => exact Nat.zero_le _
        | cons q l ih =>
          have h1 : 1 ≤ q.sz := by cases q with
            | a y => cases y <;> simp [Pt.sz, Am.sz]
            | c y => cases y <;> simp [Pt.sz, Cn.sz]
          have h2 : szs (q :: l) = q.sz + szs l := by simp [szs]
          rw [h2, List.length_cons]; omega
      exact this st
    -- nothing more of p
    have drop : p.tms = [] → 1 ≤ p.sz → ∀ s4', ∃ m', m' < szs (st ++ [p]) ∧ nmW x S1 m' [.val x.d, .val (.str "term"), .own (.lst (fnd.map .str)), .own (.lst (st.map Pt.d)), s4', .no] S1 := fun h0 h1 s4' =>
      ⟨szs st, by omega, rfl, st, fnd, s4', rfl, rfl, by omega, fun t => by rw [← ht t, h0]; simp⟩
    -- the parts of p
    have kids : ∀ (ks : List Pt), (∀ t, t ∈ p.tms ↔ ∃ q ∈ ks, t ∈ q.tms) → szs ks < p.sz → ∀ s4', ∃ m', m' < szs (st ++ [p]) ∧ nmW x S1 m' [.val x.d, .val (.str "term"), .own (.lst (fnd.map .str)), .own (.lst (st.map Pt.d ++ ks.map Pt.d)), s4', .no] S1 := fun ks h0 h1 s4' => by
      refine ⟨szs (st ++ ks), by rw [szs_app]; omega, rfl, st ++ ks, fnd, s4', by simp, rfl, by rw [szs_app]; omega, fun t => ?_⟩
      rw [← ht t, h0 t]
      simp only [List.mem_append, or_and_right, exists_or]
    have room : ∀ n : Nat, n ≤ 2 → 2 ≤ p.sz → (st.map Pt.d).length + n ≤ sizeLine := fun n hn h2 => by rw [sizeL]; omega
    simp_arith only [eq_true e3]
    simp_arith only [e1, e2, i_names_in_b0]
    cases p with
    | a y =>
      cases y with
      | num i =>
        simp_arith only [Pt.d_a, Pt.d_c, Am.d, okW, List.any_cons, List.any_nil, Bool.or_false, Bool.false_or, Bool.true_or, Bool.or_true]
        exact drop rfl (Nat.le_refl _) _
      | fact i =>
        simp_arith only [Pt.d_a, Pt.d_c, Am.d, okW, List.any_cons, List.any_nil, Bool.or_false, Bool.false_or, Bool.true_or, Bool.or_true]
        exact drop rfl (Nat.le_refl _) _
      | term t =>
        simp_arith only [Pt.d_a, Pt.d_c, Am.d, okW, List.any_cons, List.any_nil, Bool.or_false, Bool.false_or, Bool.true_or, Bool.or_true]
        have h1 : (Pt.a (.term t)).sz = 1 := rfl
        refine ⟨by rw [List.length_map]; exact sz_big (by omega), szs st, by omega, rfl, st, fnd ++ [t], .val (.tup [.str "term", .str t]), by simp, rfl, by simp; omega, fun u => ?_⟩
        rw [← ht u]
        simp only [List.mem_append, Pt.tms, Am.tms]
        constructor
        · rintro ((h | h) | h)
          · exact .inl h
          · exact .inr (.inr h)
          · exact .inr (.inl h)
        · rintro (h | h | h)
          · exact .inl (.inl h)
          · exact .inr h
          · exact .inl (.inr h)
      | times i b =>
        simp_arith only [Pt.d_a, Pt.d_c, Am.d, okW, okPLn, okBEn, List.any_cons, List.any_nil, Bool.or_false, Bool.false_or, Bool.true_or, Bool.or_true, cut1, cut2]
        refine ⟨by simp, ?_⟩
        simp_arith only [compL, isA_am, isA_cn, sw0, sw1]
        refine ⟨room _ (by decide) (by simp only [Pt.sz, Am.sz]; first | (have := b.pos; omega) | omega), ?_⟩
        exact kids [.a b] (by simp [Pt.tms, Am.tms]) (by simp [szs, Pt.sz, Am.sz]) _
      | part b i =>
        simp_arith only [Pt.d_a, Pt.d_c, Am.d, okW, okPLn, okBEn, List.any_cons, List.any_nil, Bool.or_false, Bool.false_or, Bool.true_or, Bool.or_true, cut1, cut2]
        refine ⟨by simp, ?_⟩
        simp_arith only [compL, isA_am, isA_cn, sw0, sw1]
        refine ⟨room _ (by decide) (by simp only [Pt.sz, Am.sz]; first | (have := b.pos; omega) | omega), ?_⟩
        exact kids [.a b] (by simp [Pt.tms, Am.tms]) (by simp [szs, Pt.sz, Am.sz]) _
      | plus b e =>
        simp_arith only [Pt.d_a, Pt.d_c, Am.d, okW, okPLn, okBEn, List.any_cons, List.any_nil, Bool.or_false, Bool.false_or, Bool.true_or, Bool.or_true, cut1, cut2]
        refine ⟨by simp, ?_⟩
        simp_arith only [compL, isA_am, isA_cn, sw0, sw1]
        refine ⟨room _ (by decide) (by simp only [Pt.sz, Am.sz]; first | (have := b.pos; omega) | omega), ?_⟩
        exact kids [.a b, .a e] (by simp [Pt.tms, Am.tms]) (by simp [szs, Pt.sz, Am.sz]) _
      | less b e =>
        simp_arith only [Pt.d_a, Pt.d_c, Am.d, okW, okPLn, okBEn, List.any_cons, List.any_nil, Bool.or_false, Bool.false_or, Bool.true_or, Bool.or_true, cut1, cut2]
        refine ⟨by simp, ?_⟩
        simp_arith only [compL, isA_am, isA_cn, sw0, sw1]
        refine ⟨room _ (by decide) (by simp only [Pt.sz, Am.sz]; first | (have := b.pos; omega) | omega), ?_⟩
        exact kids [.a b, .a e] (by simp [Pt.tms, Am.tms]) (by simp [szs, Pt.sz, Am.sz]) _
      | least b e =>
        simp_arith only [Pt.d_a, Pt.d_c, Am.d, okW, okPLn, okBEn, List.any_cons, List.any_nil, Bool.or_false, Bool.false_or, Bool.true_or, Bool.or_true, cut1, cut2]
        refine ⟨by simp, ?_⟩
        simp_arith only [compL, isA_am, isA_cn, sw0, sw1]
        refine ⟨room _ (by decide) (by simp only [Pt.sz, Am.sz]; first | (have := b.pos; omega) | omega), ?_⟩
        exact kids [.a b, .a e] (by simp [Pt.tms, Am.tms]) (by simp [szs, Pt.sz, Am.sz]) _
      | most b e =>
        simp_arith only [Pt.d_a, Pt.d_c, Am.d, okW, okPLn, okBEn, List.any_cons, List.any_nil, Bool.or_false, Bool.false_or, Bool.true_or, Bool.or_true, cut1, cut2]
        refine ⟨by simp, ?_⟩
        simp_arith only [compL, isA_am, isA_cn, sw0, sw1]
        refine ⟨room _ (by decide) (by simp only [Pt.sz, Am.sz]; first | (have := b.pos; omega) | omega), ?_⟩
        exact kids [.a b, .a e] (by simp [Pt.tms, Am.tms]) (by simp [szs, Pt.sz, Am.sz]) _
    | c y =>
      cases y with
      | tru =>
        simp_arith only [Pt.d_a, Pt.d_c, Cn.d, okW, List.any_cons, List.any_nil, Bool.or_false, Bool.false_or, Bool.true_or, Bool.or_true]
        exact drop rfl (Nat.le_refl _) _
      | not b =>
        simp_arith only [Pt.d_a, Pt.d_c, Cn.d, okW, okPLn, okBEn, List.any_cons, List.any_nil, Bool.or_false, Bool.false_or, Bool.true_or, Bool.or_true, cut1, cut2]
        refine ⟨by simp, ?_⟩
        simp_arith only [compL, isA_am, isA_cn, sw0, sw1]
        refine ⟨room _ (by decide) (by simp only [Pt.sz, Cn.sz]; first | (have := b.pos; omega) | omega), ?_⟩
        exact kids [.c b] (by simp [Pt.tms, Cn.tms]) (by simp [szs, Pt.sz, Cn.sz]) _
      | is b e =>
        simp_arith only [Pt.d_a, Pt.d_c, Cn.d, okW, okPLn, okBEn, List.any_cons, List.any_nil, Bool.or_false, Bool.false_or, Bool.true_or, Bool.or_true, cut1, cut2]
        refine ⟨by simp, ?_⟩
        simp_arith only [compL, isA_am, isA_cn, sw0, sw1]
        refine ⟨room _ (by decide) (by simp only [Pt.sz, Cn.sz]; first | (have := b.pos; omega) | omega), ?_⟩
        exact kids [.a b, .a e] (by simp [Pt.tms, Cn.tms]) (by simp [szs, Pt.sz, Cn.sz]) _
      | lt b e =>
        simp_arith only [Pt.d_a, Pt.d_c, Cn.d, okW, okPLn, okBEn, List.any_cons, List.any_nil, Bool.or_false, Bool.false_or, Bool.true_or, Bool.or_true, cut1, cut2]
        refine ⟨by simp, ?_⟩
        simp_arith only [compL, isA_am, isA_cn, sw0, sw1]
        refine ⟨room _ (by decide) (by simp only [Pt.sz, Cn.sz]; first | (have := b.pos; omega) | omega), ?_⟩
        exact kids [.a b, .a e] (by simp [Pt.tms, Cn.tms]) (by simp [szs, Pt.sz, Cn.sz]) _
      | both b e =>
        simp_arith only [Pt.d_a, Pt.d_c, Cn.d, okW, okPLn, okBEn, List.any_cons, List.any_nil, Bool.or_false, Bool.false_or, Bool.true_or, Bool.or_true, cut1, cut2]
        refine ⟨by simp, ?_⟩
        simp_arith only [compL, isA_am, isA_cn, sw0, sw1]
        refine ⟨room _ (by decide) (by simp only [Pt.sz, Cn.sz]; first | (have := b.pos; omega) | omega), ?_⟩
        exact kids [.c b, .c e] (by simp [Pt.tms, Cn.tms]) (by simp [szs, Pt.sz, Cn.sz]) _
      | either b e =>
        simp_arith only [Pt.d_a, Pt.d_c, Cn.d, okW, okPLn, okBEn, List.any_cons, List.any_nil, Bool.or_false, Bool.false_or, Bool.true_or, Bool.or_true, cut1, cut2]
        refine ⟨by simp, ?_⟩
        simp_arith only [compL, isA_am, isA_cn, sw0, sw1]
        refine ⟨room _ (by decide) (by simp only [Pt.sz, Cn.sz]; first | (have := b.pos; omega) | omega), ?_⟩
        exact kids [.c b, .c e] (by simp [Pt.tms, Cn.tms]) (by simp [szs, Pt.sz, Cn.sz]) _
end
theorem isA_nm (k : Nat) : D.isA (nmD k) "tuple" = some false := rfl
section
variable {T : Str → Option FD}
/-- the law's own names of terms -/
theorem w_law_namesA (hT : T "_law_names" = some f__law_names) {S : Sto} :
    ∀ (a : Am) (N : Nat) (P : D → Sto → Prop), a.dep + 1 ≤ N → a.sz < 4000 → (∀ l : List Str, l.length ≤ a.sz → (∀ t, t ∈ l ↔ t ∈ a.tms) → P (.lst (l.map .str)) S) → Cl T N "_law_names" [a.d, .str "term"] S P := by
  intro a
  induction a with
  | num i =>
    intro N P hN hs h
    obtain ⟨N, rfl⟩ : ∃ M, N = M + 1 := ⟨N - 1, by omega⟩
    refine ⟨_, hT, rfl, ?_⟩
    simp_arith only [f__law_names, i__law_names, Am.d, cut0, cut1, forL, i__law_names_b0, okW, okPLn, okBEn, List.any_cons, List.any_nil, Bool.or_false, Bool.false_or, Bool.true_or, Bool.or_true, isA_am, isA_cn, isA_nm, List.length_map, Nat.zero_add, Nat.add_zero, List.nil_append, List.append_nil]
    simp_arith only [i__law_names_r0]
    exact h [] (Nat.zero_le _) (by simp [Am.tms])
  | fact k =>
    intro N P hN hs h
    obtain ⟨N, rfl⟩ : ∃ M, N = M + 1 := ⟨N - 1, by omega⟩
    refine ⟨_, hT, rfl, ?_⟩
    simp_arith only [f__law_names, i__law_names, Am.d, cut0, cut1, forL, i__law_names_b0, okW, okPLn, okBEn, List.any_cons, List.any_nil, Bool.or_false, Bool.false_or, Bool.true_or, Bool.or_true, isA_am, isA_cn, isA_nm, List.length_map, Nat.zero_add, Nat.add_zero, List.nil_append, List.append_nil]
    simp_arith only [i__law_names_r0]
    exact h [] (Nat.zero_le _) (by simp [Am.tms])
  | term t =>
    intro N P hN hs h
    obtain ⟨N, rfl⟩ : ∃ M, N = M + 1 := ⟨N - 1, by omega⟩
    refine ⟨_, hT, rfl, ?_⟩
    simp_arith only [f__law_names, i__law_names, Am.d]
    exact h [t] (Nat.le_refl _) (by simp [Am.tms])
  | times i b ih =>
    intro N P hN hs h
    simp only [Am.dep] at hN
    simp only [Am.sz] at hs h
    obtain ⟨N, rfl⟩ : ∃ M, N = M + 1 := ⟨N - 1, by omega⟩
    refine ⟨_, hT, rfl, ?_⟩
    simp_arith only [f__law_names, i__law_names, Am.d, cut1, cut2, forL, i__law_names_b0, okW, okPLn, okBEn, List.any_cons, List.any_nil, Bool.or_false, Bool.false_or, Bool.true_or, Bool.or_true, isA_am, isA_cn, isA_nm, List.length_map, Nat.zero_add, Nat.add_zero, List.nil_append, List.append_nil]
    refine ih N _ (by omega) (by omega) fun l hl hm => ?_
    simp_arith only [i__law_names_r0, forL, okW, okPLn, okBEn, List.any_cons, List.any_nil, Bool.or_false, Bool.false_or, Bool.true_or, Bool.or_true, isA_am, isA_cn, isA_nm, List.length_map, Nat.zero_add, Nat.add_zero, List.nil_append, List.append_nil]
    have big : l.length ≤ sizeLine := sz_bigL (by omega)
    first | exact ⟨big, h l (by omega) (by simpa [Am.tms] using hm)⟩ | exact ⟨big, big, h l (by omega) (by simpa [Am.tms] using hm)⟩
  | part b i ih =>
    intro N P hN hs h
    simp only [Am.dep] at hN
    simp only [Am.sz] at hs h
    obtain ⟨N, rfl⟩ : ∃ M, N = M + 1 := ⟨N - 1, by omega⟩
    refine ⟨_, hT, rfl, ?_⟩
    simp_arith only [f__law_names, i__law_names, Am.d, cut1, cut2, forL, i__law_names_b0, okW, okPLn, okBEn, List.any_cons, List.any_nil, Bool.or_false, Bool.false_or, Bool.true_or, Bool.or_true, isA_am, isA_cn, isA_nm, List.length_map, Nat.zero_add, Nat.add_zero, List.nil_append, List.append_nil]
    refine ih N _ (by omega) (by omega) fun l hl hm => ?_
    simp_arith only [i__law_names_r0, forL, okW, okPLn, okBEn, List.any_cons, List.any_nil, Bool.or_false, Bool.false_or, Bool.true_or, Bool.or_true, isA_am, isA_cn, isA_nm, List.length_map, Nat.zero_add, Nat.add_zero, List.nil_append, List.append_nil]
    have big : l.length ≤ sizeLine := sz_bigL (by omega)
    first | exact ⟨big, h l (by omega) (by simpa [Am.tms] using hm)⟩ | exact ⟨big, big, h l (by omega) (by simpa [Am.tms] using hm)⟩
  | plus b e ihb ihe =>
    intro N P hN hs h
    simp only [Am.dep] at hN
    simp only [Am.sz] at hs h
    obtain ⟨N, rfl⟩ : ∃ M, N = M + 1 := ⟨N - 1, by omega⟩
    refine ⟨_, hT, rfl, ?_⟩
    simp_arith only [f__law_names, i__law_names, Am.d, cut1, cut2, forL, i__law_names_b0, okW, okPLn, okBEn, List.any_cons, List.any_nil, Bool.or_false, Bool.false_or, Bool.true_or, Bool.or_true, isA_am, isA_cn, isA_nm, List.length_map, Nat.zero_add, Nat.add_zero, List.nil_append, List.append_nil]
    refine ihb N _ (by omega) (by omega) fun l hl hm => ?_
    simp_arith only [i__law_names_r0, forL, okW, okPLn, okBEn, List.any_cons, List.any_nil, Bool.or_false, Bool.false_or, Bool.true_or, Bool.or_true, isA_am, isA_cn, isA_nm, List.length_map, Nat.zero_add, Nat.add_zero, List.nil_append, List.append_nil]
    refine ⟨sz_bigL (by omega), ?_⟩
    refine ihe N _ (by omega) (by omega) fun l2 hl2 hm2 => ?_
    simp_arith only [i__law_names_r0, forL, okW, okPLn, okBEn, List.any_cons, List.any_nil, Bool.or_false, Bool.false_or, Bool.true_or, Bool.or_true, isA_am, isA_cn, isA_nm, List.length_map, Nat.zero_add, Nat.add_zero, List.nil_append, List.append_nil]
    refine ⟨sz_bigL (by omega), ?_⟩
    rw [← List.map_append]
    exact h (l ++ l2) (by rw [List.length_append]; omega) (fun t => by rw [List.mem_append, hm t, hm2 t]; simp [Am.tms])
  | less b e ihb ihe =>
    intro N P hN hs h
    simp only [Am.dep] at hN
    simp only [Am.sz] at hs h
    obtain ⟨N, rfl⟩ : ∃ M, N = M + 1 := ⟨N - 1, by omega⟩
    refine ⟨_, hT, rfl, ?_⟩
    simp_arith only [f__law_names, i__law_names, Am.d, cut1, cut2, forL, i__law_names_b0, okW, okPLn, okBEn, List.any_cons, List.any_nil, Bool.or_false, Bool.false_or, Bool.true_or, Bool.or_true, isA_am, isA_cn, isA_nm, List.length_map, Nat.zero_add, Nat.add_zero, List.nil_append, List.append_nil]
    refine ihb N _ (by omega) (by omega) fun l hl hm => ?_
    simp_arith only [i__law_names_r0, forL, okW, okPLn, okBEn, List.any_cons, List.any_nil, Bool.or_false, Bool.false_or, Bool.true_or, Bool.or_true, isA_am, isA_cn, isA_nm, List.length_map, Nat.zero_add, Nat.add_zero, List.nil_append, List.append_nil]
    refine ⟨sz_bigL (by omega), ?_⟩
    refine ihe N _ (by omega) (by omega) fun l2 hl2 hm2 => ?_
    simp_arith only [i__law_names_r0, forL, okW, okPLn, okBEn, List.any_cons, List.any_nil, Bool.or_false, Bool.false_or, Bool.true_or, Bool.or_true, isA_am, isA_cn, isA_nm, List.length_map, Nat.zero_add, Nat.add_zero, List.nil_append, List.append_nil]
    refine ⟨sz_bigL (by omega), ?_⟩
    rw [← List.map_append]
    exact h (l ++ l2) (by rw [List.length_append]; omega) (fun t => by rw [List.mem_append, hm t, hm2 t]; simp [Am.tms])
  | least b e ihb ihe =>
    intro N P hN hs h
    simp only [Am.dep] at hN
    simp only [Am.sz] at hs h
    obtain ⟨N, rfl⟩ : ∃ M, N = M + 1 := ⟨N - 1, by omega⟩
    refine ⟨_, hT, rfl, ?_⟩
    simp_arith only [f__law_names, i__law_names, Am.d, cut1, cut2, forL, i__law_names_b0, okW, okPLn, okBEn, List.any_cons, List.any_nil, Bool.or_false, Bool.false_or, Bool.true_or, Bool.or_true, isA_am, isA_cn, isA_nm, List.length_map, Nat.zero_add, Nat.add_zero, List.nil_append, List.append_nil]
    refine ihb N _ (by omega) (by omega) fun l hl hm => ?_
    simp_arith only [i__law_names_r0, forL, okW, okPLn, okBEn, List.any_cons, List.any_nil, Bool.or_false, Bool.false_or, Bool.true_or, Bool.or_true, isA_am, isA_cn, isA_nm, List.length_map, Nat.zero_add, Nat.add_zero, List.nil_append, List.append_nil]
    refine ⟨sz_bigL (by omega), ?_⟩
    refine ihe N _ (by omega) (by omega) fun l2 hl2 hm2 => ?_
    simp_arith only [i__law_names_r0, forL, okW, okPLn, okBEn, List.any_cons, List.any_nil, Bool.or_false, Bool.false_or, Bool.true_or, Bool.or_true, isA_am, isA_cn, isA_nm, List.length_map, Nat.zero_add, Nat.add_zero, List.nil_append, List.append_nil]
    refine ⟨sz_bigL (by omega), ?_⟩
    rw [← List.map_append]
    exact h (l ++ l2) (by rw [List.length_append]; omega) (fun t => by rw [List.mem_append, hm t, hm2 t]; simp [Am.tms])
  | most b e ihb ihe =>
    intro N P hN hs h
    simp only [Am.dep] at hN
    simp only [Am.sz] at hs h
    obtain ⟨N, rfl⟩ : ∃ M, N = M + 1 := ⟨N - 1, by omega⟩
    refine ⟨_, hT, rfl, ?_⟩
    simp_arith only [f__law_names, i__law_names, Am.d, cut1, cut2, forL, i__law_names_b0, okW, okPLn, okBEn, List.any_cons, List.any_nil, Bool.or_false, Bool.false_or, Bool.true_or, Bool.or_true, isA_am, isA_cn, isA_nm, List.length_map, Nat.zero_add, Nat.add_zero, List.nil_append, List.append_nil]
    refine ihb N _ (by omega) (by omega) fun l hl hm => ?_
    simp_arith only [i__law_names_r0, forL, okW, okPLn, okBEn, List.any_cons, List.any_nil, Bool.or_false, Bool.false_or, Bool.true_or, Bool.or_true, isA_am, isA_cn, isA_nm, List.length_map, Nat.zero_add, Nat.add_zero, List.nil_append, List.append_nil]
    refine ⟨sz_bigL (by omega), ?_⟩
    refine ihe N _ (by omega) (by omega) fun l2 hl2 hm2 => ?_
    simp_arith only [i__law_names_r0, forL, okW, okPLn, okBEn, List.any_cons, List.any_nil, Bool.or_false, Bool.false_or, Bool.true_or, Bool.or_true, isA_am, isA_cn, isA_nm, List.length_map, Nat.zero_add, Nat.add_zero, List.nil_append, List.append_nil]
    refine ⟨sz_bigL (by omega), ?_⟩
    rw [← List.map_append]
    exact h (l ++ l2) (by rw [List.length_append]; omega) (fun t => by rw [List.mem_append, hm t, hm2 t]; simp [Am.tms])
theorem w_law_namesC (hT : T "_law_names" = some f__law_names) {S : Sto} :
    ∀ (a : Cn) (N : Nat) (P : D → Sto → Prop), a.dep + 1 ≤ N → a.sz < 4000 → (∀ l : List Str, l.length ≤ a.sz → (∀ t, t ∈ l ↔ t ∈ a.tms) → P (.lst (l.map .str)) S) → Cl T N "_law_names" [a.d, .str "term"] S P := by
  intro a
  induction a with
  | tru =>
    intro N P hN hs h
    obtain ⟨N, rfl⟩ : ∃ M, N = M + 1 := ⟨N - 1, by omega⟩
    refine ⟨_, hT, rfl, ?_⟩
    simp_arith only [f__law_names, i__law_names, Cn.d, cut0, cut1, forL, i__law_names_b0, okW, okPLn, okBEn, List.any_cons, List.any_nil, Bool.or_false, Bool.false_or, Bool.true_or, Bool.or_true, isA_am, isA_cn, isA_nm, List.length_map, Nat.zero_add, Nat.add_zero, List.nil_append, List.append_nil]
    simp_arith only [i__law_names_r0]
    exact h [] (Nat.zero_le _) (by simp [Cn.tms])
  | not b ih =>
    intro N P hN hs h
    simp only [Cn.dep] at hN
    simp only [Cn.sz] at hs h
    obtain ⟨N, rfl⟩ : ∃ M, N = M + 1 := ⟨N - 1, by omega⟩
    refine ⟨_, hT, rfl, ?_⟩
    simp_arith only [f__law_names, i__law_names, Cn.d, cut1, cut2, forL, i__law_names_b0, okW, okPLn, okBEn, List.any_cons, List.any_nil, Bool.or_false, Bool.false_or, Bool.true_or, Bool.or_true, isA_am, isA_cn, isA_nm, List.length_map, Nat.zero_add, Nat.add_zero, List.nil_append, List.append_nil]
    refine ih N _ (by omega) (by omega) fun l hl hm => ?_
    simp_arith only [i__law_names_r0, forL, okW, okPLn, okBEn, List.any_cons, List.any_nil, Bool.or_false, Bool.false_or, Bool.true_or, Bool.or_true, isA_am, isA_cn, isA_nm, List.length_map, Nat.zero_add, Nat.add_zero, List.nil_append, List.append_nil]
    have big : l.length ≤ sizeLine := sz_bigL (by omega)
    first | exact ⟨big, h l (by omega) (by simpa [Cn.tms] using hm)⟩ | exact ⟨big, big, h l (by omega) (by simpa [Cn.tms] using hm)⟩
  | is b e =>
    intro N P hN hs h
    simp only [Cn.dep] at hN
    simp only [Cn.sz] at hs h
    obtain ⟨N, rfl⟩ : ∃ M, N = M + 1 := ⟨N - 1, by omega⟩
    refine ⟨_, hT, rfl, ?_⟩
    simp_arith only [f__law_names, i__law_names, Cn.d, cut1, cut2, forL, i__law_names_b0, okW, okPLn, okBEn, List.any_cons, List.any_nil, Bool.or_false, Bool.false_or, Bool.true_or, Bool.or_true, isA_am, isA_cn, isA_nm, List.length_map, Nat.zero_add, Nat.add_zero, List.nil_append, List.append_nil]
    refine w_law_namesA hT b N _ (by omega) (by omega) fun l hl hm => ?_
    simp_arith only [i__law_names_r0, forL, okW, okPLn, okBEn, List.any_cons, List.any_nil, Bool.or_false, Bool.false_or, Bool.true_or, Bool.or_true, isA_am, isA_cn, isA_nm, List.length_map, Nat.zero_add, Nat.add_zero, List.nil_append, List.append_nil]
    refine ⟨sz_bigL (by omega), ?_⟩
    refine w_law_namesA hT e N _ (by omega) (by omega) fun l2 hl2 hm2 => ?_
    simp_arith only [i__law_names_r0, forL, okW, okPLn, okBEn, List.any_cons, List.any_nil, Bool.or_false, Bool.false_or, Bool.true_or, Bool.or_true, isA_am, isA_cn, isA_nm, List.length_map, Nat.zero_add, Nat.add_zero, List.nil_append, List.append_nil]
    refine ⟨sz_bigL (by omega), ?_⟩
    rw [← List.map_append]
    exact h (l ++ l2) (by rw [List.length_append]; omega) (fun t => by rw [List.mem_append, hm t, hm2 t]; simp [Cn.tms])
  | lt b e =>
    intro N P hN hs h
    simp only [Cn.dep] at hN
    simp only [Cn.sz] at hs h
    obtain ⟨N, rfl⟩ : ∃ M, N = M + 1 := ⟨N - 1, by omega⟩
    refine ⟨_, hT, rfl, ?_⟩
    simp_arith only [f__law_names, i__law_names, Cn.d, cut1, cut2, forL, i__law_names_b0, okW, okPLn, okBEn, List.any_cons, List.any_nil, Bool.or_false, Bool.false_or, Bool.true_or, Bool.or_true, isA_am, isA_cn, isA_nm, List.length_map, Nat.zero_add, Nat.add_zero, List.nil_append, List.append_nil]
    refine w_law_namesA hT b N _ (by omega) (by omega) fun l hl hm => ?_
    simp_arith only [i__law_names_r0, forL, okW, okPLn, okBEn, List.any_cons, List.any_nil, Bool.or_false, Bool.false_or, Bool.true_or, Bool.or_true, isA_am, isA_cn, isA_nm, List.length_map, Nat.zero_add, Nat.add_zero, List.nil_append, List.append_nil]
    refine ⟨sz_bigL (by omega), ?_⟩
    refine w_law_namesA hT e N _ (by omega) (by omega) fun l2 hl2 hm2 => ?_
    simp_arith only [i__law_names_r0, forL, okW, okPLn, okBEn, List.any_cons, List.any_nil, Bool.or_false, Bool.false_or, Bool.true_or, Bool.or_true, isA_am, isA_cn, isA_nm, List.length_map, Nat.zero_add, Nat.add_zero, List.nil_append, List.append_nil]
    refine ⟨sz_bigL (by omega), ?_⟩
    rw [← List.map_append]
    exact h (l ++ l2) (by rw [List.length_append]; omega) (fun t => by rw [List.mem_append, hm t, hm2 t]; simp [Cn.tms])
  | both b e ihb ihe =>
    intro N P hN hs h
    simp only [Cn.dep] at hN
    simp only [Cn.sz] at hs h
    obtain ⟨N, rfl⟩ : ∃ M, N = M + 1 := ⟨N - 1, by omega⟩
    refine ⟨_, hT, rfl, ?_⟩
    simp_arith only [f__law_names, i__law_names, Cn.d, cut1, cut2, forL, i__law_names_b0, okW, okPLn, okBEn, List.any_cons, List.any_nil, Bool.or_false, Bool.false_or, Bool.true_or, Bool.or_true, isA_am, isA_cn, isA_nm, List.length_map, Nat.zero_add, Nat.add_zero, List.nil_append, List.append_nil]
    refine ihb N _ (by omega) (by omega) fun l hl hm => ?_
    simp_arith only [i__law_names_r0, forL, okW, okPLn, okBEn, List.any_cons, List.any_nil, Bool.or_false, Bool.false_or, Bool.true_or, Bool.or_true, isA_am, isA_cn, isA_nm, List.length_map, Nat.zero_add, Nat.add_zero, List.nil_append, List.append_nil]
    refine ⟨sz_bigL (by omega), ?_⟩
    refine ihe N _ (by omega) (by omega) fun l2 hl2 hm2 => ?_
    simp_arith only [i__law_names_r0, forL, okW, okPLn, okBEn, List.any_cons, List.any_nil, Bool.or_false, Bool.false_or, Bool.true_or, Bool.or_true, isA_am, isA_cn, isA_nm, List.length_map, Nat.zero_add, Nat.add_zero, List.nil_append, List.append_nil]
    refine ⟨sz_bigL (by omega), ?_⟩
    rw [← List.map_append]
    exact h (l ++ l2) (by rw [List.length_append]; omega) (fun t => by rw [List.mem_append, hm t, hm2 t]; simp [Cn.tms])
  | either b e ihb ihe =>
    intro N P hN hs h
    simp only [Cn.dep] at hN
    simp only [Cn.sz] at hs h
    obtain ⟨N, rfl⟩ : ∃ M, N = M + 1 := ⟨N - 1, by omega⟩
    refine ⟨_, hT, rfl, ?_⟩
    simp_arith only [f__law_names, i__law_names, Cn.d, cut1, cut2, forL, i__law_names_b0, okW, okPLn, okBEn, List.any_cons, List.any_nil, Bool.or_false, Bool.false_or, Bool.true_or, Bool.or_true, isA_am, isA_cn, isA_nm, List.length_map, Nat.zero_add, Nat.add_zero, List.nil_append, List.append_nil]
    refine ihb N _ (by omega) (by omega) fun l hl hm => ?_
    simp_arith only [i__law_names_r0, forL, okW, okPLn, okBEn, List.any_cons, List.any_nil, Bool.or_false, Bool.false_or, Bool.true_or, Bool.or_true, isA_am, isA_cn, isA_nm, List.length_map, Nat.zero_add, Nat.add_zero, List.nil_append, List.append_nil]
    refine ⟨sz_bigL (by omega), ?_⟩
    refine ihe N _ (by omega) (by omega) fun l2 hl2 hm2 => ?_
    simp_arith only [i__law_names_r0, forL, okW, okPLn, okBEn, List.any_cons, List.any_nil, Bool.or_false, Bool.false_or, Bool.true_or, Bool.or_true, isA_am, isA_cn, isA_nm, List.length_map, Nat.zero_add, Nat.add_zero, List.nil_append, List.append_nil]
    refine ⟨sz_bigL (by omega), ?_⟩
    rw [← List.map_append]
    exact h (l ++ l2) (by rw [List.length_append]; omega) (fun t => by rw [List.mem_append, hm t, hm2 t]; simp [Cn.tms])
end
end Q
/-! Names of facts within amounts and conditions; sorted words. -/
namespace Q
open PySem
def Am.fms : Am → List Str
  | .num _ => [] | .fact k => [Str.ofString (nmS k)] | .term _ => []
  | .times _ a => a.fms | .part a _ => a.fms
  | .plus a b => a.fms ++ b.fms | .less a b => a.fms ++ b.fms | .least a b => a.fms ++ b.fms | .most a b => a.fms ++ b.fms
def Cn.fms : Cn → List Str
  | .tru => [] | .is a b => a.fms ++ b.fms | .lt a b => a.fms ++ b.fms | .not c => c.fms
  | .both c e => c.fms ++ e.fms | .either c e => c.fms ++ e.fms
def Pt.fms : Pt → List Str | .a x => x.fms | .c x => x.fms
theorem lt_part {a b c : List Nat} (h1 : ¬ b < a) (h2 : ¬ c < b) : ¬ c < a := by
  have e1 : a ≤ b := h1
  have e2 : b ≤ c := h2
  exact (List.le_trans e1 e2 : a ≤ c)
theorem rising_le : ∀ (r : List Str) (x : Str), PyProof.Rows.risingS x r = true → ∀ y ∈ r, ¬ y.cps.toList < x.cps.toList := by
  intro r
  induction r with
  | nil => intro x _ y hy; exact absurd hy (by simp)
  | cons z r ih =>
    intro x h y hy
    simp only [PyProof.Rows.risingS, Bool.and_eq_true, Bool.not_eq_true', PyProof.Rows.ltCps_eq, decide_eq_false_iff_not] at h
    rcases List.mem_cons.mp hy with rfl | hy
    · exact h.1
    · exact lt_part h.1 (ih z h.2 y hy)
theorem sorted_uniq : ∀ (a b : List Str), PyProof.Rows.sortedS a = true → PyProof.Rows.sortedS b = true → a.Nodup → b.Nodup → (∀ t, t ∈ a ↔ t ∈ b) → a = b := by
  intro a
  induction a with
  | nil =>
    intro b _ _ _ _ h
    cases b with
    | nil => rfl
    | cons y b => exact absurd ((h y).mpr (by simp)) (by simp)
  | cons x a ih =>
    intro b ha hb na nb h
    cases b with
    | nil => exact absurd ((h x).mp (by simp)) (by simp)
    | cons y b =>
      have hx : PyProof.Rows.risingS x a = true := ha
      have hy : PyProof.Rows.risingS y b = true := hb
      have e : x = y := by
        rcases List.mem_cons.mp ((h x).mp (by simp)) with e | h1
        · exact e
        · rcases List.mem_cons.mp ((h y).mpr (by simp)) with e | h2
          · exact e.symm
          · have l1 := rising_le b y hy x h1
            have l2 := rising_le a x hx y h2
            have : x.cps.toList = y.cps.toList := List.le_antisymm (show x.cps.toList ≤ y.cps.toList from l2) (show y.cps.toList ≤ x.cps.toList from l1)
            cases x; cases y
            simp only at this
            rw [Array.toList_inj.mp this]
      subst e
      obtain ⟨n1, n2⟩ := List.nodup_cons.mp na
      obtain ⟨m1, m2⟩ := List.nodup_cons.mp nb
      have st : ∀ (c : List Str), PyProof.Rows.risingS x c = true → PyProof.Rows.sortedS c = true := fun c hc => by
        cases c with
        | nil => rfl
        | cons z c => simp only [PyProof.Rows.risingS, Bool.and_eq_true] at hc; exact hc.2
      rw [ih b (st a hx) (st b hy) n2 m2 fun t => ⟨fun ht => ?_, fun ht => ?_⟩]
      · rcases List.mem_cons.mp ((h t).mp (by simp [ht])) with e | h1
        · subst e; exact absurd ht n1
        · exact h1
      · rcases List.mem_cons.mp ((h t).mpr (by simp [ht])) with e | h1
        · subst e; exact absurd ht m1
        · exact h1
section
variable {T : Str → Option FD}
/-- how the walk stands -/
def nsW (x : Pt) (S : Sto) (m : Nat) (L : Lo) (S1 : Sto) : Prop := S1 = S ∧ ∃ (st : List Pt) (fnd : List Str) (s4 : Sl), L = [.val x.d, .val (.str "term"), .own (.lst (fnd.map .str)), .own (.lst (st.map Pt.d)), s4, .no] ∧ m = szs st ∧ fnd.length + szs st ≤ x.sz ∧ ∀ t, (t ∈ fnd ∨ ∃ p ∈ st, t ∈ p.tms) ↔ t ∈ x.tms
theorem w_names_inS (hT : T "names_in" = some f_names_in) {k : Nat} {S : Sto} {P : D → Sto → Prop} {x : Pt} (hx : x.sz < 4000)
    (h : ∀ ys : List Str, PyProof.Rows.sortedS ys = true → ys.Nodup → (∀ t, t ∈ ys ↔ t ∈ x.tms) → ys.length < 4000 → P (.lst (ys.map .str)) S) : Cl T (k + 1) "names_in" [x.d, .str "term"] S P := by
  refine ⟨_, hT, rfl, ?_⟩
  simp_arith only [f_names_in, i_names_in]
  rw [wS_whl]
  refine ⟨nsW x S, ⟨szs [x], rfl, [x], [], .no, rfl, rfl, by simp [szs], by simp⟩, ?_⟩
  rintro m L S1 ⟨rfl, st, fnd, s4, rfl, rfl, hl, ht⟩
  rcases List.eq_nil_or_concat st with rfl | ⟨st, p, rfl⟩
  · simp_arith only [List.map_nil, List.length_nil]
    simp_arith only [i_names_in_r0, sortsetP, allS_strs]
    refine ⟨by simp only [szs, List.map_nil, List.sum_nil] at hl; omega, fun ys y1 y2 y3 => ?_⟩
    have hm : ∀ t, t ∈ ys ↔ t ∈ x.tms := fun t => by rw [y3 t, ← ht t]; simp
    have hlen : ys.length ≤ fnd.length := nodup_len y2 fun t h => (y3 t).mp h
    exact h ys y1 y2 hm (by omega)
  · rw [List.concat_eq_append] at hl ht ⊢
    have e0 : ((st ++ [p]).map Pt.d).length = (st.map Pt.d).length + 1 := by simp
    have e1 : ((st ++ [p]).map Pt.d)[((st ++ [p]).map Pt.d).length - 1]? = some p.d := by simp
    have e2 : ((st ++ [p]).map Pt.d).dropLast = st.map Pt.d := by simp
    have e3 : (0 : Int) < (((st ++ [p]).map Pt.d).length : Nat) := by rw [e0]; omega
    have hsz : szs (st ++ [p]) = szs st + p.sz := by rw [szs_app]; simp [szs]
    rw [hsz] at hl
    have ht : ∀ t, (t ∈ fnd ∨ (∃ q ∈ st, t ∈ q.tms) ∨ t ∈ p.tms) ↔ t ∈ x.tms := fun t => by
      rw [← ht t]
      constructor
      · rintro (h | ⟨q, h1, h2⟩ | h)
        · exact .inl h
        · exact .inr ⟨q, by simp [h1], h2⟩
        · exact .inr ⟨p, by simp, h⟩
      · rintro (h | ⟨q, h1, h2⟩)
        · exact .inl h
        · rcases List.mem_append.mp h1 with h1 | h1
          · exact .inr (.inl ⟨q, h1, h2⟩)
          · rw [List.mem_singleton.mp h1] at h2; exact .inr (.inr h2)
    have lst_le : (st.map Pt.d).length ≤ szs st := by
      rw [List.length_map]
      have : ∀ l : List Pt, l.length ≤ szs l := by
        intro l
        induction l with
        | nil => exact Nat.zero_le _
        | cons q l ih =>
          have h1 : 1 ≤ q.sz := by cases q with
            | a y => cases y <;> simp [Pt.sz, Am.sz]
            | c y => cases y <;> simp [Pt.sz, Cn.sz]
          have h2 : szs (q :: l) = q.sz + szs l := by simp [szs]
          rw [h2, List.length_cons]; omega
      exact this st
    -- nothing more of p
    have drop : p.tms = [] → 1 ≤ p.sz → ∀ s4', ∃ m', m' < szs (st ++ [p]) ∧ nsW x S1 m' [.val x.d, .val (.str "term"), .own (.lst (fnd.map .str)), .own (.lst (st.map Pt.d)), s4', .no] S1 := fun h0 h1 s4' =>
      ⟨szs st, by omega, rfl, st, fnd, s4', rfl, rfl, by omega, fun t => by rw [← ht t, h0]; simp⟩
    -- the parts of p
    have kids : ∀ (ks : List Pt), (∀ t, t ∈ p.tms ↔ ∃ q ∈ ks, t ∈ q.tms) → szs ks < p.sz → ∀ s4', ∃ m', m' < szs (st ++ [p]) ∧ nsW x S1 m' [.val x.d, .val (.str "term"), .own (.lst (fnd.map .str)), .own (.lst (st.map Pt.d ++ ks.map Pt.d)), s4', .no] S1 := fun ks h0 h1 s4' => by
      refine ⟨szs (st ++ ks), by rw [szs_app]; omega, rfl, st ++ ks, fnd, s4', by simp, rfl, by rw [szs_app]; omega, fun t => ?_⟩
      rw [← ht t, h0 t]
      simp only [List.mem_append, or_and_right, exists_or]
    have room : ∀ n : Nat, n ≤ 2 → 2 ≤ p.sz → (st.map Pt.d).length + n ≤ sizeLine := fun n hn h2 => by rw [sizeL]; omega
    simp_arith only [eq_true e3]
    simp_arith only [e1, e2, i_names_in_b0]
    cases p with
    | a y =>
      cases y with
      | num i =>
        simp_arith only [Pt.d_a, Pt.d_c, Am.d, okW, List.any_cons, List.any_nil, Bool.or_false, Bool.false_or, Bool.true_or, Bool.or_true]
        exact drop rfl (Nat.le_refl _) _
      | fact i =>
        simp_arith only [Pt.d_a, Pt.d_c, Am.d, okW, List.any_cons, List.any_nil, Bool.or_false, Bool.false_or, Bool.true_or, Bool.or_true]
        exact drop rfl (Nat.le_refl _) _
      | term t =>
        simp_arith only [Pt.d_a, Pt.d_c, Am.d, okW, List.any_cons, List.any_nil, Bool.or_false, Bool.false_or, Bool.true_or, Bool.or_true]
        have h1 : (Pt.a (.term t)).sz = 1 := rfl
        refine ⟨by rw [List.length_map]; exact sz_big (by omega), szs st, by omega, rfl, st, fnd ++ [t], .val (.tup [.str "term", .str t]), by simp, rfl, by simp; omega, fun u => ?_⟩
        rw [← ht u]
        simp only [List.mem_append, Pt.tms, Am.tms]
        constructor
        · rintro ((h | h) | h)
          · exact .inl h
          · exact .inr (.inr h)
          · exact .inr (.inl h)
        · rintro (h | h | h)
          · exact .inl (.inl h)
          · exact .inr h
          · exact .inl (.inr h)
      | times i b =>
        simp_arith only [Pt.d_a, Pt.d_c, Am.d, okW, okPLn, okBEn, List.any_cons, List.any_nil, Bool.or_false, Bool.false_or, Bool.true_or, Bool.or_true, cut1, cut2]
        refine ⟨by simp, ?_⟩
        simp_arith only [compL, isA_am, isA_cn, sw0, sw1]
        refine ⟨room _ (by decide) (by simp only [Pt.sz, Am.sz]; first | (have := b.pos; omega) | omega), ?_⟩
        exact kids [.a b] (by simp [Pt.tms, Am.tms]) (by simp [szs, Pt.sz, Am.sz]) _
      | part b i =>
        simp_arith only [Pt.d_a, Pt.d_c, Am.d, okW, okPLn, okBEn, List.any_cons, List.any_nil, Bool.or_false, Bool.false_or, Bool.true_or, Bool.or_true, cut1, cut2]
        refine ⟨by simp, ?_⟩
        simp_arith only [compL, isA_am, isA_cn, sw0, sw1]
        refine ⟨room _ (by decide) (by simp only [Pt.sz, Am.sz]; first | (have := b.pos; omega) | omega), ?_⟩
        exact kids [.a b] (by simp [Pt.tms, Am.tms]) (by simp [szs, Pt.sz, Am.sz]) _
      | plus b e =>
        simp_arith only [Pt.d_a, Pt.d_c, Am.d, okW, okPLn, okBEn, List.any_cons, List.any_nil, Bool.or_false, Bool.false_or, Bool.true_or, Bool.or_true, cut1, cut2]
        refine ⟨by simp, ?_⟩
        simp_arith only [compL, isA_am, isA_cn, sw0, sw1]
        refine ⟨room _ (by decide) (by simp only [Pt.sz, Am.sz]; first | (have := b.pos; omega) | omega), ?_⟩
        exact kids [.a b, .a e] (by simp [Pt.tms, Am.tms]) (by simp [szs, Pt.sz, Am.sz]) _
      | less b e =>
        simp_arith only [Pt.d_a, Pt.d_c, Am.d, okW, okPLn, okBEn, List.any_cons, List.any_nil, Bool.or_false, Bool.false_or, Bool.true_or, Bool.or_true, cut1, cut2]
        refine ⟨by simp, ?_⟩
        simp_arith only [compL, isA_am, isA_cn, sw0, sw1]
        refine ⟨room _ (by decide) (by simp only [Pt.sz, Am.sz]; first | (have := b.pos; omega) | omega), ?_⟩
        exact kids [.a b, .a e] (by simp [Pt.tms, Am.tms]) (by simp [szs, Pt.sz, Am.sz]) _
      | least b e =>
        simp_arith only [Pt.d_a, Pt.d_c, Am.d, okW, okPLn, okBEn, List.any_cons, List.any_nil, Bool.or_false, Bool.false_or, Bool.true_or, Bool.or_true, cut1, cut2]
        refine ⟨by simp, ?_⟩
        simp_arith only [compL, isA_am, isA_cn, sw0, sw1]
        refine ⟨room _ (by decide) (by simp only [Pt.sz, Am.sz]; first | (have := b.pos; omega) | omega), ?_⟩
        exact kids [.a b, .a e] (by simp [Pt.tms, Am.tms]) (by simp [szs, Pt.sz, Am.sz]) _
      | most b e =>
        simp_arith only [Pt.d_a, Pt.d_c, Am.d, okW, okPLn, okBEn, List.any_cons, List.any_nil, Bool.or_false, Bool.false_or, Bool.true_or, Bool.or_true, cut1, cut2]
        refine ⟨by simp, ?_⟩
        simp_arith only [compL, isA_am, isA_cn, sw0, sw1]
        refine ⟨room _ (by decide) (by simp only [Pt.sz, Am.sz]; first | (have := b.pos; omega) | omega), ?_⟩
        exact kids [.a b, .a e] (by simp [Pt.tms, Am.tms]) (by simp [szs, Pt.sz, Am.sz]) _
    | c y =>
      cases y with
      | tru =>
        simp_arith only [Pt.d_a, Pt.d_c, Cn.d, okW, List.any_cons, List.any_nil, Bool.or_false, Bool.false_or, Bool.true_or, Bool.or_true]
        exact drop rfl (Nat.le_refl _) _
      | not b =>
        simp_arith only [Pt.d_a, Pt.d_c, Cn.d, okW, okPLn, okBEn, List.any_cons, List.any_nil, Bool.or_false, Bool.false_or, Bool.true_or, Bool.or_true, cut1, cut2]
        refine ⟨by simp, ?_⟩
        simp_arith only [compL, isA_am, isA_cn, sw0, sw1]
        refine ⟨room _ (by decide) (by simp only [Pt.sz, Cn.sz]; first | (have := b.pos; omega) | omega), ?_⟩
        exact kids [.c b] (by simp [Pt.tms, Cn.tms]) (by simp [szs, Pt.sz, Cn.sz]) _
      | is b e =>
        simp_arith only [Pt.d_a, Pt.d_c, Cn.d, okW, okPLn, okBEn, List.any_cons, List.any_nil, Bool.or_false, Bool.false_or, Bool.true_or, Bool.or_true, cut1, cut2]
        refine ⟨by simp, ?_⟩
        simp_arith only [compL, isA_am, isA_cn, sw0, sw1]
        refine ⟨room _ (by decide) (by simp only [Pt.sz, Cn.sz]; first | (have := b.pos; omega) | omega), ?_⟩
        exact kids [.a b, .a e] (by simp [Pt.tms, Cn.tms]) (by simp [szs, Pt.sz, Cn.sz]) _
      | lt b e =>
        simp_arith only [Pt.d_a, Pt.d_c, Cn.d, okW, okPLn, okBEn, List.any_cons, List.any_nil, Bool.or_false, Bool.false_or, Bool.true_or, Bool.or_true, cut1, cut2]
        refine ⟨by simp, ?_⟩
        simp_arith only [compL, isA_am, isA_cn, sw0, sw1]
        refine ⟨room _ (by decide) (by simp only [Pt.sz, Cn.sz]; first | (have := b.pos; omega) | omega), ?_⟩
        exact kids [.a b, .a e] (by simp [Pt.tms, Cn.tms]) (by simp [szs, Pt.sz, Cn.sz]) _
      | both b e =>
        simp_arith only [Pt.d_a, Pt.d_c, Cn.d, okW, okPLn, okBEn, List.any_cons, List.any_nil, Bool.or_false, Bool.false_or, Bool.true_or, Bool.or_true, cut1, cut2]
        refine ⟨by simp, ?_⟩
        simp_arith only [compL, isA_am, isA_cn, sw0, sw1]
        refine ⟨room _ (by decide) (by simp only [Pt.sz, Cn.sz]; first | (have := b.pos; omega) | omega), ?_⟩
        exact kids [.c b, .c e] (by simp [Pt.tms, Cn.tms]) (by simp [szs, Pt.sz, Cn.sz]) _
      | either b e =>
        simp_arith only [Pt.d_a, Pt.d_c, Cn.d, okW, okPLn, okBEn, List.any_cons, List.any_nil, Bool.or_false, Bool.false_or, Bool.true_or, Bool.or_true, cut1, cut2]
        refine ⟨by simp, ?_⟩
        simp_arith only [compL, isA_am, isA_cn, sw0, sw1]
        refine ⟨room _ (by decide) (by simp only [Pt.sz, Cn.sz]; first | (have := b.pos; omega) | omega), ?_⟩
        exact kids [.c b, .c e] (by simp [Pt.tms, Cn.tms]) (by simp [szs, Pt.sz, Cn.sz]) _
/-- how the walk stands -/
def nfW (x : Pt) (S : Sto) (m : Nat) (L : Lo) (S1 : Sto) : Prop := S1 = S ∧ ∃ (st : List Pt) (fnd : List Str) (s4 : Sl), L = [.val x.d, .val (.str "fact"), .own (.lst (fnd.map .str)), .own (.lst (st.map Pt.d)), s4, .no] ∧ m = szs st ∧ fnd.length + szs st ≤ x.sz ∧ ∀ t, (t ∈ fnd ∨ ∃ p ∈ st, t ∈ p.fms) ↔ t ∈ x.fms
theorem w_names_inF (hT : T "names_in" = some f_names_in) {k : Nat} {S : Sto} {P : D → Sto → Prop} {x : Pt} (hx : x.sz < 4000)
    (h : ∀ ys : List Str, PyProof.Rows.sortedS ys = true → ys.Nodup → (∀ t, t ∈ ys ↔ t ∈ x.fms) → ys.length < 4000 → P (.lst (ys.map .str)) S) : Cl T (k + 1) "names_in" [x.d, .str "fact"] S P := by
  refine ⟨_, hT, rfl, ?_⟩
  simp_arith only [f_names_in, i_names_in]
  rw [wS_whl]
  refine ⟨nfW x S, ⟨szs [x], rfl, [x], [], .no, rfl, rfl, by simp [szs], by simp⟩, ?_⟩
  rintro m L S1 ⟨rfl, st, fnd, s4, rfl, rfl, hl, ht⟩
  rcases List.eq_nil_or_concat st with rfl | ⟨st, p, rfl⟩
  · simp_arith only [List.map_nil, List.length_nil]
    simp_arith only [i_names_in_r0, sortsetP, allS_strs]
    refine ⟨by simp only [szs, List.map_nil, List.sum_nil] at hl; omega, fun ys y1 y2 y3 => ?_⟩
    have hm : ∀ t, t ∈ ys ↔ t ∈ x.fms := fun t => by rw [y3 t, ← ht t]; simp
    have hlen : ys.length ≤ fnd.length := nodup_len y2 fun t h => (y3 t).mp h
    exact h ys y1 y2 hm (by omega)
  · rw [List.concat_eq_append] at hl ht ⊢
    have e0 : ((st ++ [p]).map Pt.d).length = (st.map Pt.d).length + 1 := by simp
    have e1 : ((st ++ [p]).map Pt.d)[((st ++ [p]).map Pt.d).length - 1]? = some p.d := by simp
    have e2 : ((st ++ [p]).map Pt.d).dropLast = st.map Pt.d := by simp
    have e3 : (0 : Int) < (((st ++ [p]).map Pt.d).length : Nat) := by rw [e0]; omega
    have hsz : szs (st ++ [p]) = szs st + p.sz := by rw [szs_app]; simp [szs]
    rw [hsz] at hl
    have ht : ∀ t, (t ∈ fnd ∨ (∃ q ∈ st, t ∈ q.fms) ∨ t ∈ p.fms) ↔ t ∈ x.fms := fun t => by
      rw [← ht t]
      constructor
      · rintro (h | ⟨q, h1, h2⟩ | h)
        · exact .inl h
        · exact .inr ⟨q, by simp [h1], h2⟩
        · exact .inr ⟨p, by simp, h⟩
      · rintro (h | ⟨q, h1, h2⟩)
        · exact .inl h
        · rcases List.mem_append.mp h1 with h1 | h1
          · exact .inr (.inl ⟨q, h1, h2⟩)
          · rw [List.mem_singleton.mp h1] at h2; exact .inr (.inr h2)
    have lst_le : (st.map Pt.d).length ≤ szs st := by
      rw [List.length_map]
      have : ∀ l : List Pt, l.length ≤ szs l := by
        intro l
        induction l with
        | nil => exact Nat.zero_le _
        | cons q l ih =>
          have h1 : 1 ≤ q.sz := by cases q with
            | a y => cases y <;> simp [Pt.sz, Am.sz]
            | c y => cases y <;> simp [Pt.sz, Cn.sz]
          have h2 : szs (q :: l) = q.sz + szs l := by simp [szs]
          rw [h2, List.length_cons]; omega
      exact this st
    -- nothing more of p
    have drop : p.fms = [] → 1 ≤ p.sz → ∀ s4', ∃ m', m' < szs (st ++ [p]) ∧ nfW x S1 m' [.val x.d, .val (.str "fact"), .own (.lst (fnd.map .str)), .own (.lst (st.map Pt.d)), s4', .no] S1 := fun h0 h1 s4' =>
      ⟨szs st, by omega, rfl, st, fnd, s4', rfl, rfl, by omega, fun t => by rw [← ht t, h0]; simp⟩
    -- the parts of p
    have kids : ∀ (ks : List Pt), (∀ t, t ∈ p.fms ↔ ∃ q ∈ ks, t ∈ q.fms) → szs ks < p.sz → ∀ s4', ∃ m', m' < szs (st ++ [p]) ∧ nfW x S1 m' [.val x.d, .val (.str "fact"), .own (.lst (fnd.map .str)), .own (.lst (st.map Pt.d ++ ks.map Pt.d)), s4', .no] S1 := fun ks h0 h1 s4' => by
      refine ⟨szs (st ++ ks), by rw [szs_app]; omega, rfl, st ++ ks, fnd, s4', by simp, rfl, by rw [szs_app]; omega, fun t => ?_⟩
      rw [← ht t, h0 t]
      simp only [List.mem_append, or_and_right, exists_or]
    have room : ∀ n : Nat, n ≤ 2 → 2 ≤ p.sz → (st.map Pt.d).length + n ≤ sizeLine := fun n hn h2 => by rw [sizeL]; omega
    simp_arith only [eq_true e3]
    simp_arith only [e1, e2, i_names_in_b0]
    cases p with
    | a y =>
      cases y with
      | num i =>
        simp_arith only [Pt.d_a, Pt.d_c, Am.d, okW, List.any_cons, List.any_nil, Bool.or_false, Bool.false_or, Bool.true_or, Bool.or_true]
        exact drop rfl (Nat.le_refl _) _
      | fact i =>
        simp_arith only [Pt.d_a, Pt.d_c, Am.d, nmD, okW, List.any_cons, List.any_nil, Bool.or_false, Bool.false_or, Bool.true_or, Bool.or_true]
        have h1 : (Pt.a (.fact i)).sz = 1 := rfl
        refine ⟨by rw [List.length_map]; exact sz_big (by omega), szs st, by omega, rfl, st, fnd ++ [Str.ofString (nmS i)], .val (.tup [.str "fact", nmD i]), by simp [nmD], rfl, by simp; omega, fun u => ?_⟩
        rw [← ht u]
        simp only [List.mem_append, Pt.fms, Am.fms]
        constructor
        · rintro ((h | h) | h)
          · exact .inl h
          · exact .inr (.inr h)
          · exact .inr (.inl h)
        · rintro (h | h | h)
          · exact .inl (.inl h)
          · exact .inr h
          · exact .inl (.inr h)
      | term t =>
        simp_arith only [Pt.d_a, Pt.d_c, Am.d, okW, List.any_cons, List.any_nil, Bool.or_false, Bool.false_or, Bool.true_or, Bool.or_true]
        exact drop rfl (Nat.le_refl _) _
      | times i b =>
        simp_arith only [Pt.d_a, Pt.d_c, Am.d, okW, okPLn, okBEn, List.any_cons, List.any_nil, Bool.or_false, Bool.false_or, Bool.true_or, Bool.or_true, cut1, cut2]
        refine ⟨by simp, ?_⟩
        simp_arith only [compL, isA_am, isA_cn, sw0, sw1]
        refine ⟨room _ (by decide) (by simp only [Pt.sz, Am.sz]; first | (have := b.pos; omega) | omega), ?_⟩
        exact kids [.a b] (by simp [Pt.fms, Am.fms]) (by simp [szs, Pt.sz, Am.sz]) _
      | part b i =>
        simp_arith only [Pt.d_a, Pt.d_c, Am.d, okW, okPLn, okBEn, List.any_cons, List.any_nil, Bool.or_false, Bool.false_or, Bool.true_or, Bool.or_true, cut1, cut2]
        refine ⟨by simp, ?_⟩
        simp_arith only [compL, isA_am, isA_cn, sw0, sw1]
        refine ⟨room _ (by decide) (by simp only [Pt.sz, Am.sz]; first | (have := b.pos; omega) | omega), ?_⟩
        exact kids [.a b] (by simp [Pt.fms, Am.fms]) (by simp [szs, Pt.sz, Am.sz]) _
      | plus b e =>
        simp_arith only [Pt.d_a, Pt.d_c, Am.d, okW, okPLn, okBEn, List.any_cons, List.any_nil, Bool.or_false, Bool.false_or, Bool.true_or, Bool.or_true, cut1, cut2]
        refine ⟨by simp, ?_⟩
        simp_arith only [compL, isA_am, isA_cn, sw0, sw1]
        refine ⟨room _ (by decide) (by simp only [Pt.sz, Am.sz]; first | (have := b.pos; omega) | omega), ?_⟩
        exact kids [.a b, .a e] (by simp [Pt.fms, Am.fms]) (by simp [szs, Pt.sz, Am.sz]) _
      | less b e =>
        simp_arith only [Pt.d_a, Pt.d_c, Am.d, okW, okPLn, okBEn, List.any_cons, List.any_nil, Bool.or_false, Bool.false_or, Bool.true_or, Bool.or_true, cut1, cut2]
        refine ⟨by simp, ?_⟩
        simp_arith only [compL, isA_am, isA_cn, sw0, sw1]
        refine ⟨room _ (by decide) (by simp only [Pt.sz, Am.sz]; first | (have := b.pos; omega) | omega), ?_⟩
        exact kids [.a b, .a e] (by simp [Pt.fms, Am.fms]) (by simp [szs, Pt.sz, Am.sz]) _
      | least b e =>
        simp_arith only [Pt.d_a, Pt.d_c, Am.d, okW, okPLn, okBEn, List.any_cons, List.any_nil, Bool.or_false, Bool.false_or, Bool.true_or, Bool.or_true, cut1, cut2]
        refine ⟨by simp, ?_⟩
        simp_arith only [compL, isA_am, isA_cn, sw0, sw1]
        refine ⟨room _ (by decide) (by simp only [Pt.sz, Am.sz]; first | (have := b.pos; omega) | omega), ?_⟩
        exact kids [.a b, .a e] (by simp [Pt.fms, Am.fms]) (by simp [szs, Pt.sz, Am.sz]) _
      | most b e =>
        simp_arith only [Pt.d_a, Pt.d_c, Am.d, okW, okPLn, okBEn, List.any_cons, List.any_nil, Bool.or_false, Bool.false_or, Bool.true_or, Bool.or_true, cut1, cut2]
        refine ⟨by simp, ?_⟩
        simp_arith only [compL, isA_am, isA_cn, sw0, sw1]
        refine ⟨room _ (by decide) (by simp only [Pt.sz, Am.sz]; first | (have := b.pos; omega) | omega), ?_⟩
        exact kids [.a b, .a e] (by simp [Pt.fms, Am.fms]) (by simp [szs, Pt.sz, Am.sz]) _
    | c y =>
      cases y with
      | tru =>
        simp_arith only [Pt.d_a, Pt.d_c, Cn.d, okW, List.any_cons, List.any_nil, Bool.or_false, Bool.false_or, Bool.true_or, Bool.or_true]
        exact drop rfl (Nat.le_refl _) _
      | not b =>
        simp_arith only [Pt.d_a, Pt.d_c, Cn.d, okW, okPLn, okBEn, List.any_cons, List.any_nil, Bool.or_false, Bool.false_or, Bool.true_or, Bool.or_true, cut1, cut2]
        refine ⟨by simp, ?_⟩
        simp_arith only [compL, isA_am, isA_cn, sw0, sw1]
        refine ⟨room _ (by decide) (by simp only [Pt.sz, Cn.sz]; first | (have := b.pos; omega) | omega), ?_⟩
        exact kids [.c b] (by simp [Pt.fms, Cn.fms]) (by simp [szs, Pt.sz, Cn.sz]) _
      | is b e =>
        simp_arith only [Pt.d_a, Pt.d_c, Cn.d, okW, okPLn, okBEn, List.any_cons, List.any_nil, Bool.or_false, Bool.false_or, Bool.true_or, Bool.or_true, cut1, cut2]
        refine ⟨by simp, ?_⟩
        simp_arith only [compL, isA_am, isA_cn, sw0, sw1]
        refine ⟨room _ (by decide) (by simp only [Pt.sz, Cn.sz]; first | (have := b.pos; omega) | omega), ?_⟩
        exact kids [.a b, .a e] (by simp [Pt.fms, Cn.fms]) (by simp [szs, Pt.sz, Cn.sz]) _
      | lt b e =>
        simp_arith only [Pt.d_a, Pt.d_c, Cn.d, okW, okPLn, okBEn, List.any_cons, List.any_nil, Bool.or_false, Bool.false_or, Bool.true_or, Bool.or_true, cut1, cut2]
        refine ⟨by simp, ?_⟩
        simp_arith only [compL, isA_am, isA_cn, sw0, sw1]
        refine ⟨room _ (by decide) (by simp only [Pt.sz, Cn.sz]; first | (have := b.pos; omega) | omega), ?_⟩
        exact kids [.a b, .a e] (by simp [Pt.fms, Cn.fms]) (by simp [szs, Pt.sz, Cn.sz]) _
      | both b e =>
        simp_arith only [Pt.d_a, Pt.d_c, Cn.d, okW, okPLn, okBEn, List.any_cons, List.any_nil, Bool.or_false, Bool.false_or, Bool.true_or, Bool.or_true, cut1, cut2]
        refine ⟨by simp, ?_⟩
        simp_arith only [compL, isA_am, isA_cn, sw0, sw1]
        refine ⟨room _ (by decide) (by simp only [Pt.sz, Cn.sz]; first | (have := b.pos; omega) | omega), ?_⟩
        exact kids [.c b, .c e] (by simp [Pt.fms, Cn.fms]) (by simp [szs, Pt.sz, Cn.sz]) _
      | either b e =>
        simp_arith only [Pt.d_a, Pt.d_c, Cn.d, okW, okPLn, okBEn, List.any_cons, List.any_nil, Bool.or_false, Bool.false_or, Bool.true_or, Bool.or_true, cut1, cut2]
        refine ⟨by simp, ?_⟩
        simp_arith only [compL, isA_am, isA_cn, sw0, sw1]
        refine ⟨room _ (by decide) (by simp only [Pt.sz, Cn.sz]; first | (have := b.pos; omega) | omega), ?_⟩
        exact kids [.c b, .c e] (by simp [Pt.fms, Cn.fms]) (by simp [szs, Pt.sz, Cn.sz]) _
end
section
variable {T : Str → Option FD}
/-- the law's own names of terms -/
theorem w_law_fnamesA (hT : T "_law_names" = some f__law_names) {S : Sto} :
    ∀ (a : Am) (N : Nat) (P : D → Sto → Prop), a.dep + 1 ≤ N → a.sz < 4000 → (∀ l : List Str, l.length ≤ a.sz → (∀ t, t ∈ l ↔ t ∈ a.fms) → P (.lst (l.map .str)) S) → Cl T N "_law_names" [a.d, .str "fact"] S P := by
  intro a
  induction a with
  | num i =>
    intro N P hN hs h
    obtain ⟨N, rfl⟩ : ∃ M, N = M + 1 := ⟨N - 1, by omega⟩
    refine ⟨_, hT, rfl, ?_⟩
    simp_arith only [f__law_names, i__law_names, Am.d, cut0, cut1, forL, i__law_names_b0, okW, okPLn, okBEn, List.any_cons, List.any_nil, Bool.or_false, Bool.false_or, Bool.true_or, Bool.or_true, isA_am, isA_cn, isA_nm, List.length_map, Nat.zero_add, Nat.add_zero, List.nil_append, List.append_nil]
    simp_arith only [i__law_names_r0]
    exact h [] (Nat.zero_le _) (by simp [Am.fms])
  | fact k =>
    intro N P hN hs h
    obtain ⟨N, rfl⟩ : ∃ M, N = M + 1 := ⟨N - 1, by omega⟩
    refine ⟨_, hT, rfl, ?_⟩
    simp_arith only [f__law_names, i__law_names, Am.d]
    exact h [Str.ofString (nmS k)] (Nat.le_refl _) (by simp [Am.fms])
  | term t =>
    intro N P hN hs h
    obtain ⟨N, rfl⟩ : ∃ M, N = M + 1 := ⟨N - 1, by omega⟩
    refine ⟨_, hT, rfl, ?_⟩
    simp_arith only [f__law_names, i__law_names, Am.d, cut0, cut1, forL, i__law_names_b0, okW, okPLn, okBEn, List.any_cons, List.any_nil, Bool.or_false, Bool.false_or, Bool.true_or, Bool.or_true, isA_am, isA_cn, isA_nm, List.length_map, Nat.zero_add, Nat.add_zero, List.nil_append, List.append_nil]
    simp_arith only [i__law_names_r0]
    exact h [] (Nat.zero_le _) (by simp [Am.fms])
  | times i b ih =>
    intro N P hN hs h
    simp only [Am.dep] at hN
    simp only [Am.sz] at hs h
    obtain ⟨N, rfl⟩ : ∃ M, N = M + 1 := ⟨N - 1, by omega⟩
    refine ⟨_, hT, rfl, ?_⟩
    simp_arith only [f__law_names, i__law_names, Am.d, cut1, cut2, forL, i__law_names_b0, okW, okPLn, okBEn, List.any_cons, List.any_nil, Bool.or_false, Bool.false_or, Bool.true_or, Bool.or_true, isA_am, isA_cn, isA_nm, List.length_map, Nat.zero_add, Nat.add_zero, List.nil_append, List.append_nil]
    refine ih N _ (by omega) (by omega) fun l hl hm => ?_
    simp_arith only [i__law_names_r0, forL, okW, okPLn, okBEn, List.any_cons, List.any_nil, Bool.or_false, Bool.false_or, Bool.true_or, Bool.or_true, isA_am, isA_cn, isA_nm, List.length_map, Nat.zero_add, Nat.add_zero, List.nil_append, List.append_nil]
    have big : l.length ≤ sizeLine := sz_bigL (by omega)
    first | exact ⟨big, h l (by omega) (by simpa [Am.fms] using hm)⟩ | exact ⟨big, big, h l (by omega) (by simpa [Am.fms] using hm)⟩
  | part b i ih =>
    intro N P hN hs h
    simp only [Am.dep] at hN
    simp only [Am.sz] at hs h
    obtain ⟨N, rfl⟩ : ∃ M, N = M + 1 := ⟨N - 1, by omega⟩
    refine ⟨_, hT, rfl, ?_⟩
    simp_arith only [f__law_names, i__law_names, Am.d, cut1, cut2, forL, i__law_names_b0, okW, okPLn, okBEn, List.any_cons, List.any_nil, Bool.or_false, Bool.false_or, Bool.true_or, Bool.or_true, isA_am, isA_cn, isA_nm, List.length_map, Nat.zero_add, Nat.add_zero, List.nil_append, List.append_nil]
    refine ih N _ (by omega) (by omega) fun l hl hm => ?_
    simp_arith only [i__law_names_r0, forL, okW, okPLn, okBEn, List.any_cons, List.any_nil, Bool.or_false, Bool.false_or, Bool.true_or, Bool.or_true, isA_am, isA_cn, isA_nm, List.length_map, Nat.zero_add, Nat.add_zero, List.nil_append, List.append_nil]
    have big : l.length ≤ sizeLine := sz_bigL (by omega)
    first | exact ⟨big, h l (by omega) (by simpa [Am.fms] using hm)⟩ | exact ⟨big, big, h l (by omega) (by simpa [Am.fms] using hm)⟩
  | plus b e ihb ihe =>
    intro N P hN hs h
    simp only [Am.dep] at hN
    simp only [Am.sz] at hs h
    obtain ⟨N, rfl⟩ : ∃ M, N = M + 1 := ⟨N - 1, by omega⟩
    refine ⟨_, hT, rfl, ?_⟩
    simp_arith only [f__law_names, i__law_names, Am.d, cut1, cut2, forL, i__law_names_b0, okW, okPLn, okBEn, List.any_cons, List.any_nil, Bool.or_false, Bool.false_or, Bool.true_or, Bool.or_true, isA_am, isA_cn, isA_nm, List.length_map, Nat.zero_add, Nat.add_zero, List.nil_append, List.append_nil]
    refine ihb N _ (by omega) (by omega) fun l hl hm => ?_
    simp_arith only [i__law_names_r0, forL, okW, okPLn, okBEn, List.any_cons, List.any_nil, Bool.or_false, Bool.false_or, Bool.true_or, Bool.or_true, isA_am, isA_cn, isA_nm, List.length_map, Nat.zero_add, Nat.add_zero, List.nil_append, List.append_nil]
    refine ⟨sz_bigL (by omega), ?_⟩
    refine ihe N _ (by omega) (by omega) fun l2 hl2 hm2 => ?_
    simp_arith only [i__law_names_r0, forL, okW, okPLn, okBEn, List.any_cons, List.any_nil, Bool.or_false, Bool.false_or, Bool.true_or, Bool.or_true, isA_am, isA_cn, isA_nm, List.length_map, Nat.zero_add, Nat.add_zero, List.nil_append, List.append_nil]
    refine ⟨sz_bigL (by omega), ?_⟩
    rw [← List.map_append]
    exact h (l ++ l2) (by rw [List.length_append]; omega) (fun t => by rw [List.mem_append, hm t, hm2 t]; simp [Am.fms])
  | less b e ihb ihe =>
    intro N P hN hs h
    simp only [Am.dep] at hN
    simp only [Am.sz] at hs h
    obtain ⟨N, rfl⟩ : ∃ M, N = M + 1 := ⟨N - 1, by omega⟩
    refine ⟨_, hT, rfl, ?_⟩
    simp_arith only [f__law_names, i__law_names, Am.d, cut1, cut2, forL, i__law_names_b0, okW, okPLn, okBEn, List.any_cons, List.any_nil, Bool.or_false, Bool.false_or, Bool.true_or, Bool.or_true, isA_am, isA_cn, isA_nm, List.length_map, Nat.zero_add, Nat.add_zero, List.nil_append, List.append_nil]
    refine ihb N _ (by omega) (by omega) fun l hl hm => ?_
    simp_arith only [i__law_names_r0, forL, okW, okPLn, okBEn, List.any_cons, List.any_nil, Bool.or_false, Bool.false_or, Bool.true_or, Bool.or_true, isA_am, isA_cn, isA_nm, List.length_map, Nat.zero_add, Nat.add_zero, List.nil_append, List.append_nil]
    refine ⟨sz_bigL (by omega), ?_⟩
    refine ihe N _ (by omega) (by omega) fun l2 hl2 hm2 => ?_
    simp_arith only [i__law_names_r0, forL, okW, okPLn, okBEn, List.any_cons, List.any_nil, Bool.or_false, Bool.false_or, Bool.true_or, Bool.or_true, isA_am, isA_cn, isA_nm, List.length_map, Nat.zero_add, Nat.add_zero, List.nil_append, List.append_nil]
    refine ⟨sz_bigL (by omega), ?_⟩
    rw [← List.map_append]
    exact h (l ++ l2) (by rw [List.length_append]; omega) (fun t => by rw [List.mem_append, hm t, hm2 t]; simp [Am.fms])
  | least b e ihb ihe =>
    intro N P hN hs h
    simp only [Am.dep] at hN
    simp only [Am.sz] at hs h
    obtain ⟨N, rfl⟩ : ∃ M, N = M + 1 := ⟨N - 1, by omega⟩
    refine ⟨_, hT, rfl, ?_⟩
    simp_arith only [f__law_names, i__law_names, Am.d, cut1, cut2, forL, i__law_names_b0, okW, okPLn, okBEn, List.any_cons, List.any_nil, Bool.or_false, Bool.false_or, Bool.true_or, Bool.or_true, isA_am, isA_cn, isA_nm, List.length_map, Nat.zero_add, Nat.add_zero, List.nil_append, List.append_nil]
    refine ihb N _ (by omega) (by omega) fun l hl hm => ?_
    simp_arith only [i__law_names_r0, forL, okW, okPLn, okBEn, List.any_cons, List.any_nil, Bool.or_false, Bool.false_or, Bool.true_or, Bool.or_true, isA_am, isA_cn, isA_nm, List.length_map, Nat.zero_add, Nat.add_zero, List.nil_append, List.append_nil]
    refine ⟨sz_bigL (by omega), ?_⟩
    refine ihe N _ (by omega) (by omega) fun l2 hl2 hm2 => ?_
    simp_arith only [i__law_names_r0, forL, okW, okPLn, okBEn, List.any_cons, List.any_nil, Bool.or_false, Bool.false_or, Bool.true_or, Bool.or_true, isA_am, isA_cn, isA_nm, List.length_map, Nat.zero_add, Nat.add_zero, List.nil_append, List.append_nil]
    refine ⟨sz_bigL (by omega), ?_⟩
    rw [← List.map_append]
    exact h (l ++ l2) (by rw [List.length_append]; omega) (fun t => by rw [List.mem_append, hm t, hm2 t]; simp [Am.fms])
  | most b e ihb ihe =>
    intro N P hN hs h
    simp only [Am.dep] at hN
    simp only [Am.sz] at hs h
    obtain ⟨N, rfl⟩ : ∃ M, N = M + 1 := ⟨N - 1, by omega⟩
    refine ⟨_, hT, rfl, ?_⟩
    simp_arith only [f__law_names, i__law_names, Am.d, cut1, cut2, forL, i__law_names_b0, okW, okPLn, okBEn, List.any_cons, List.any_nil, Bool.or_false, Bool.false_or, Bool.true_or, Bool.or_true, isA_am, isA_cn, isA_nm, List.length_map, Nat.zero_add, Nat.add_zero, List.nil_append, List.append_nil]
    refine ihb N _ (by omega) (by omega) fun l hl hm => ?_
    simp_arith only [i__law_names_r0, forL, okW, okPLn, okBEn, List.any_cons, List.any_nil, Bool.or_false, Bool.false_or, Bool.true_or, Bool.or_true, isA_am, isA_cn, isA_nm, List.length_map, Nat.zero_add, Nat.add_zero, List.nil_append, List.append_nil]
    refine ⟨sz_bigL (by omega), ?_⟩
    refine ihe N _ (by omega) (by omega) fun l2 hl2 hm2 => ?_
    simp_arith only [i__law_names_r0, forL, okW, okPLn, okBEn, List.any_cons, List.any_nil, Bool.or_false, Bool.false_or, Bool.true_or, Bool.or_true, isA_am, isA_cn, isA_nm, List.length_map, Nat.zero_add, Nat.add_zero, List.nil_append, List.append_nil]
    refine ⟨sz_bigL (by omega), ?_⟩
    rw [← List.map_append]
    exact h (l ++ l2) (by rw [List.length_append]; omega) (fun t => by rw [List.mem_append, hm t, hm2 t]; simp [Am.fms])
theorem w_law_fnamesC (hT : T "_law_names" = some f__law_names) {S : Sto} :
    ∀ (a : Cn) (N : Nat) (P : D → Sto → Prop), a.dep + 1 ≤ N → a.sz < 4000 → (∀ l : List Str, l.length ≤ a.sz → (∀ t, t ∈ l ↔ t ∈ a.fms) → P (.lst (l.map .str)) S) → Cl T N "_law_names" [a.d, .str "fact"] S P := by
  intro a
  induction a with
  | tru =>
    intro N P hN hs h
    obtain ⟨N, rfl⟩ : ∃ M, N = M + 1 := ⟨N - 1, by omega⟩
    refine ⟨_, hT, rfl, ?_⟩
    simp_arith only [f__law_names, i__law_names, Cn.d, cut0, cut1, forL, i__law_names_b0, okW, okPLn, okBEn, List.any_cons, List.any_nil, Bool.or_false, Bool.false_or, Bool.true_or, Bool.or_true, isA_am, isA_cn, isA_nm, List.length_map, Nat.zero_add, Nat.add_zero, List.nil_append, List.append_nil]
    simp_arith only [i__law_names_r0]
    exact h [] (Nat.zero_le _) (by simp [Cn.fms])
  | not b ih =>
    intro N P hN hs h
    simp only [Cn.dep] at hN
    simp only [Cn.sz] at hs h
    obtain ⟨N, rfl⟩ : ∃ M, N = M + 1 := ⟨N - 1, by omega⟩
    refine ⟨_, hT, rfl, ?_⟩
    simp_arith only [f__law_names, i__law_names, Cn.d, cut1, cut2, forL, i__law_names_b0, okW, okPLn, okBEn, List.any_cons, List.any_nil, Bool.or_false, Bool.false_or, Bool.true_or, Bool.or_true, isA_am, isA_cn, isA_nm, List.length_map, Nat.zero_add, Nat.add_zero, List.nil_append, List.append_nil]
    refine ih N _ (by omega) (by omega) fun l hl hm => ?_
    simp_arith only [i__law_names_r0, forL, okW, okPLn, okBEn, List.any_cons, List.any_nil, Bool.or_false, Bool.false_or, Bool.true_or, Bool.or_true, isA_am, isA_cn, isA_nm, List.length_map, Nat.zero_add, Nat.add_zero, List.nil_append, List.append_nil]
    have big : l.length ≤ sizeLine := sz_bigL (by omega)
    first | exact ⟨big, h l (by omega) (by simpa [Cn.fms] using hm)⟩ | exact ⟨big, big, h l (by omega) (by simpa [Cn.fms] using hm)⟩
  | is b e =>
    intro N P hN hs h
    simp only [Cn.dep] at hN
    simp only [Cn.sz] at hs h
    obtain ⟨N, rfl⟩ : ∃ M, N = M + 1 := ⟨N - 1, by omega⟩
    refine ⟨_, hT, rfl, ?_⟩
    simp_arith only [f__law_names, i__law_names, Cn.d, cut1, cut2, forL, i__law_names_b0, okW, okPLn, okBEn, List.any_cons, List.any_nil, Bool.or_false, Bool.false_or, Bool.true_or, Bool.or_true, isA_am, isA_cn, isA_nm, List.length_map, Nat.zero_add, Nat.add_zero, List.nil_append, List.append_nil]
    refine w_law_fnamesA hT b N _ (by omega) (by omega) fun l hl hm => ?_
    simp_arith only [i__law_names_r0, forL, okW, okPLn, okBEn, List.any_cons, List.any_nil, Bool.or_false, Bool.false_or, Bool.true_or, Bool.or_true, isA_am, isA_cn, isA_nm, List.length_map, Nat.zero_add, Nat.add_zero, List.nil_append, List.append_nil]
    refine ⟨sz_bigL (by omega), ?_⟩
    refine w_law_fnamesA hT e N _ (by omega) (by omega) fun l2 hl2 hm2 => ?_
    simp_arith only [i__law_names_r0, forL, okW, okPLn, okBEn, List.any_cons, List.any_nil, Bool.or_false, Bool.false_or, Bool.true_or, Bool.or_true, isA_am, isA_cn, isA_nm, List.length_map, Nat.zero_add, Nat.add_zero, List.nil_append, List.append_nil]
    refine ⟨sz_bigL (by omega), ?_⟩
    rw [← List.map_append]
    exact h (l ++ l2) (by rw [List.length_append]; omega) (fun t => by rw [List.mem_append, hm t, hm2 t]; simp [Cn.fms])
  | lt b e =>
    intro N P hN hs h
    simp only [Cn.dep] at hN
    simp only [Cn.sz] at hs h
    obtain ⟨N, rfl⟩ : ∃ M, N = M + 1 := ⟨N - 1, by omega⟩
    refine ⟨_, hT, rfl, ?_⟩
    simp_arith only [f__law_names, i__law_names, Cn.d, cut1, cut2, forL, i__law_names_b0, okW, okPLn, okBEn, List.any_cons, List.any_nil, Bool.or_false, Bool.false_or, Bool.true_or, Bool.or_true, isA_am, isA_cn, isA_nm, List.length_map, Nat.zero_add, Nat.add_zero, List.nil_append, List.append_nil]
    refine w_law_fnamesA hT b N _ (by omega) (by omega) fun l hl hm => ?_
    simp_arith only [i__law_names_r0, forL, okW, okPLn, okBEn, List.any_cons, List.any_nil, Bool.or_false, Bool.false_or, Bool.true_or, Bool.or_true, isA_am, isA_cn, isA_nm, List.length_map, Nat.zero_add, Nat.add_zero, List.nil_append, List.append_nil]
    refine ⟨sz_bigL (by omega), ?_⟩
    refine w_law_fnamesA hT e N _ (by omega) (by omega) fun l2 hl2 hm2 => ?_
    simp_arith only [i__law_names_r0, forL, okW, okPLn, okBEn, List.any_cons, List.any_nil, Bool.or_false, Bool.false_or, Bool.true_or, Bool.or_true, isA_am, isA_cn, isA_nm, List.length_map, Nat.zero_add, Nat.add_zero, List.nil_append, List.append_nil]
    refine ⟨sz_bigL (by omega), ?_⟩
    rw [← List.map_append]
    exact h (l ++ l2) (by rw [List.length_append]; omega) (fun t => by rw [List.mem_append, hm t, hm2 t]; simp [Cn.fms])
  | both b e ihb ihe =>
    intro N P hN hs h
    simp only [Cn.dep] at hN
    simp only [Cn.sz] at hs h
    obtain ⟨N, rfl⟩ : ∃ M, N = M + 1 := ⟨N - 1, by omega⟩
    refine ⟨_, hT, rfl, ?_⟩
    simp_arith only [f__law_names, i__law_names, Cn.d, cut1, cut2, forL, i__law_names_b0, okW, okPLn, okBEn, List.any_cons, List.any_nil, Bool.or_false, Bool.false_or, Bool.true_or, Bool.or_true, isA_am, isA_cn, isA_nm, List.length_map, Nat.zero_add, Nat.add_zero, List.nil_append, List.append_nil]
    refine ihb N _ (by omega) (by omega) fun l hl hm => ?_
    simp_arith only [i__law_names_r0, forL, okW, okPLn, okBEn, List.any_cons, List.any_nil, Bool.or_false, Bool.false_or, Bool.true_or, Bool.or_true, isA_am, isA_cn, isA_nm, List.length_map, Nat.zero_add, Nat.add_zero, List.nil_append, List.append_nil]
    refine ⟨sz_bigL (by omega), ?_⟩
    refine ihe N _ (by omega) (by omega) fun l2 hl2 hm2 => ?_
    simp_arith only [i__law_names_r0, forL, okW, okPLn, okBEn, List.any_cons, List.any_nil, Bool.or_false, Bool.false_or, Bool.true_or, Bool.or_true, isA_am, isA_cn, isA_nm, List.length_map, Nat.zero_add, Nat.add_zero, List.nil_append, List.append_nil]
    refine ⟨sz_bigL (by omega), ?_⟩
    rw [← List.map_append]
    exact h (l ++ l2) (by rw [List.length_append]; omega) (fun t => by rw [List.mem_append, hm t, hm2 t]; simp [Cn.fms])
  | either b e ihb ihe =>
    intro N P hN hs h
    simp only [Cn.dep] at hN
    simp only [Cn.sz] at hs h
    obtain ⟨N, rfl⟩ : ∃ M, N = M + 1 := ⟨N - 1, by omega⟩
    refine ⟨_, hT, rfl, ?_⟩
    simp_arith only [f__law_names, i__law_names, Cn.d, cut1, cut2, forL, i__law_names_b0, okW, okPLn, okBEn, List.any_cons, List.any_nil, Bool.or_false, Bool.false_or, Bool.true_or, Bool.or_true, isA_am, isA_cn, isA_nm, List.length_map, Nat.zero_add, Nat.add_zero, List.nil_append, List.append_nil]
    refine ihb N _ (by omega) (by omega) fun l hl hm => ?_
    simp_arith only [i__law_names_r0, forL, okW, okPLn, okBEn, List.any_cons, List.any_nil, Bool.or_false, Bool.false_or, Bool.true_or, Bool.or_true, isA_am, isA_cn, isA_nm, List.length_map, Nat.zero_add, Nat.add_zero, List.nil_append, List.append_nil]
    refine ⟨sz_bigL (by omega), ?_⟩
    refine ihe N _ (by omega) (by omega) fun l2 hl2 hm2 => ?_
    simp_arith only [i__law_names_r0, forL, okW, okPLn, okBEn, List.any_cons, List.any_nil, Bool.or_false, Bool.false_or, Bool.true_or, Bool.or_true, isA_am, isA_cn, isA_nm, List.length_map, Nat.zero_add, Nat.add_zero, List.nil_append, List.append_nil]
    refine ⟨sz_bigL (by omega), ?_⟩
    rw [← List.map_append]
    exact h (l ++ l2) (by rw [List.length_append]; omega) (fun t => by rw [List.mem_append, hm t, hm2 t]; simp [Cn.fms])
end

end Q
namespace K03
open PySem PySem.Spec PyProof.Rows L2 Q
def top (i : Nat) : Stmt := PySem.Challenge.pw_casesruled_k03_amounts_told.main.body.getD i (.Pass ⟨0, 0, 0, 0⟩)
def e_is_integer : FE := ⟨"is_integer", top 5, ["value"], ["value"], [], false, false, false⟩
def e_is_word : FE := ⟨"is_word", top 6, ["value", "letter"], ["value"], [], false, false, false⟩
def e_is_tuple : FE := ⟨"is_tuple", top 10, ["value", "word", "length"], ["value", "word", "length"], [], false, false, false⟩
def e_is_small : FE := ⟨"is_small", top 11, ["value"], ["value"], [], false, false, false⟩
def e_is_amount : FE := ⟨"is_amount", top 12, ["value", "facts", "terms", "depth", "one"], ["value", "facts", "terms", "depth"], [D.int 0], false, false, false⟩
def e_is_condition : FE := ⟨"is_condition", top 13, ["value", "facts", "terms", "depth", "one"], ["value", "facts", "terms", "depth"], [D.int 0], false, false, false⟩
def e_names_in : FE := ⟨"names_in", top 14, ["value", "word", "found", "left", "part", "one"], ["value", "word"], [], false, false, false⟩
def e__law_same : FE := ⟨"_law_same", top 16, ["actual", "due", "k"], ["actual", "due"], [], false, false, false⟩
def e__law_is_integer : FE := ⟨"_law_is_integer", top 17, ["actual"], ["actual"], [], false, false, false⟩
def e__law_pool : FE := ⟨"_law_pool", top 18, ["script", "salt", "cell"], ["script"], [], true, false, false⟩
def e__law_spread : FE := ⟨"_law_spread", top 19, ["cell", "blended", "whole_sum", "k"], ["cell"], [], false, false, false⟩
def e__law_draw : FE := ⟨"_law_draw", top 20, ["pool", "many", "value", "cell", "blended"], ["pool", "many"], [], false, false, false⟩
def e__law_pick : FE := ⟨"_law_pick", top 21, ["pool", "items"], ["pool", "items"], [], false, false, false⟩
def e__law_odd_values : FE := ⟨"_law_odd_values", top 22, [], [], [], false, false, false⟩
def e__law_spots : FE := ⟨"_law_spots", top 23, ["value", "path", "found", "k"], ["value", "path"], [], false, false, false⟩
def e__law_spot_put : FE := ⟨"_law_spot_put", top 24, ["value", "path", "item"], ["value", "path", "item"], [], false, false, false⟩
def e__law_spot : FE := ⟨"_law_spot", top 25, ["value", "path", "step"], ["value", "path"], [], false, false, false⟩
def e__law_bent_spot : FE := ⟨"_law_bent_spot", top 26, ["pool", "value", "items"], ["pool", "value"], [], false, false, false⟩
def e__law_bent : FE := ⟨"_law_bent", top 27, ["pool", "paper", "many", "found", "spots", "k", "path"], ["pool", "paper", "many"], [], false, false, false⟩
def e__law_facts : FE := ⟨"_law_facts", top 28, ["pool", "most", "names", "found", "k", "words", "low"], ["pool", "most"], [], false, false, false⟩
def e__law_amount : FE := ⟨"_law_amount", top 29, ["pool", "facts", "terms", "deep", "turn", "one"], ["pool", "facts", "terms", "deep"], [], false, false, false⟩
def e__law_condition : FE := ⟨"_law_condition", top 30, ["pool", "facts", "terms", "deep", "turn", "one"], ["pool", "facts", "terms", "deep"], [], false, false, false⟩
def e__law_names : FE := ⟨"_law_names", top 31, ["part", "word", "found", "one"], ["part", "word"], [], false, false, false⟩
def e__law_fine : FE := ⟨"_law_fine", top 32, ["value", "kind", "facts", "terms", "deep", "word", "n", "inner"], ["value", "kind", "facts", "terms", "deep"], [], false, false, false⟩
def e_law : FE := ⟨"law", top 33, ["script", "pool", "facts", "terms", "names", "a", "c", "part", "tried", "deep", "low", "k", "value", "seen", "fact"], ["script"], [], false, false, false⟩
def les : List LE := []
def g : PG_ := ⟨[("LETTERS", D.str "abcdefghijklmnopqrstuvwxyz"), ("MOST_LETTERS", D.int 12), ("MOST_SIZE", D.int 1000000), ("KEPT", D.tup [D.str "and", D.str "at", D.str "both", D.str "clause", D.str "else", D.str "fact", D.str "if", D.str "is", D.str "least", D.str "most", D.str "not", D.str "or", D.str "over", D.str "part", D.str "term", D.str "true"]), ("MOST_DEPTH", D.int 20), ("TWO", D.tup [D.str "plus", D.str "less", D.str "least", D.str "most"])], [e_is_integer, e_is_word, e_is_tuple, e_is_small, e_is_amount, e_is_condition, e_names_in, e__law_same, e__law_is_integer, e__law_pool, e__law_spread, e__law_draw, e__law_pick, e__law_odd_values, e__law_spots, e__law_spot_put, e__law_spot, e__law_bent_spot, e__law_bent, e__law_facts, e__law_amount, e__law_condition, e__law_names, e__law_fine, e_law], les⟩
theorem g_ok : g.ok = true := by decide +kernel
theorem b_is_integer : BindsFor e_is_integer := fun K dvs a fd hl F n hn => by
  cases List.length_eq_zero_iff.mp hl
  exact ⟨[], by cases n <;> exact .nil, F.bindsN fun _ _ _ _ _ _ us hl => match us, hl with | [_], _ => rfl⟩
theorem b_is_word : BindsFor e_is_word := fun K dvs a fd hl F n hn => by
  cases List.length_eq_zero_iff.mp hl
  exact ⟨[], by cases n <;> exact .nil, F.bindsN fun _ _ _ _ _ _ us hl => match us, hl with | [_], _ => rfl⟩
theorem b_is_tuple : BindsFor e_is_tuple := fun K dvs a fd hl F n hn => by
  cases List.length_eq_zero_iff.mp hl
  exact ⟨[], by cases n <;> exact .nil, F.bindsN fun _ _ _ _ _ _ us hl => match us, hl with | [_, _, _], _ => rfl⟩
theorem b_is_small : BindsFor e_is_small := fun K dvs a fd hl F n hn => by
  cases List.length_eq_zero_iff.mp hl
  exact ⟨[], by cases n <;> exact .nil, F.bindsN fun _ _ _ _ _ _ us hl => match us, hl with | [_], _ => rfl⟩
theorem b_is_amount : BindsFor e_is_amount := fun K dvs a fd hl F n hn => by
  obtain ⟨v, rfl⟩ := List.length_eq_one_iff.mp hl
  match n, hn with
  | 0, _ => exact F.binds1 3 0 (by simp) rfl fun T kV doc pm an cdv ct us its h1 h2 => match us, its, h1, h2 with | [_, _, _], [_], _, _ => ⟨_, rfl, rfl⟩
  | 1, _ => exact F.binds1 4 1 (by simp) rfl fun T kV doc pm an cdv ct us its h1 h2 => match us, its, h1, h2 with | [_, _, _, _], [_], _, _ => ⟨_, rfl, rfl⟩
  | n + 2, hn => exact absurd hn (by simp)
theorem b_is_condition : BindsFor e_is_condition := fun K dvs a fd hl F n hn => by
  obtain ⟨v, rfl⟩ := List.length_eq_one_iff.mp hl
  match n, hn with
  | 0, _ => exact F.binds1 3 0 (by simp) rfl fun T kV doc pm an cdv ct us its h1 h2 => match us, its, h1, h2 with | [_, _, _], [_], _, _ => ⟨_, rfl, rfl⟩
  | 1, _ => exact F.binds1 4 1 (by simp) rfl fun T kV doc pm an cdv ct us its h1 h2 => match us, its, h1, h2 with | [_, _, _, _], [_], _, _ => ⟨_, rfl, rfl⟩
  | n + 2, hn => exact absurd hn (by simp)
theorem b_names_in : BindsFor e_names_in := fun K dvs a fd hl F n hn => by
  cases List.length_eq_zero_iff.mp hl
  exact ⟨[], by cases n <;> exact .nil, F.bindsN fun _ _ _ _ _ _ us hl => match us, hl with | [_, _], _ => rfl⟩
theorem b__law_same : BindsFor e__law_same := fun K dvs a fd hl F n hn => by
  cases List.length_eq_zero_iff.mp hl
  exact ⟨[], by cases n <;> exact .nil, F.bindsN fun _ _ _ _ _ _ us hl => match us, hl with | [_, _], _ => rfl⟩
theorem b__law_is_integer : BindsFor e__law_is_integer := fun K dvs a fd hl F n hn => by
  cases List.length_eq_zero_iff.mp hl
  exact ⟨[], by cases n <;> exact .nil, F.bindsN fun _ _ _ _ _ _ us hl => match us, hl with | [_], _ => rfl⟩
theorem b__law_pool : BindsFor e__law_pool := fun K dvs a fd hl F n hn => by
  cases List.length_eq_zero_iff.mp hl
  exact ⟨[], by cases n <;> exact .nil, F.bindsN fun _ _ _ _ _ _ us hl => match us, hl with | [_], _ => rfl⟩
theorem b__law_spread : BindsFor e__law_spread := fun K dvs a fd hl F n hn => by
  cases List.length_eq_zero_iff.mp hl
  exact ⟨[], by cases n <;> exact .nil, F.bindsN fun _ _ _ _ _ _ us hl => match us, hl with | [_], _ => rfl⟩
theorem b__law_draw : BindsFor e__law_draw := fun K dvs a fd hl F n hn => by
  cases List.length_eq_zero_iff.mp hl
  exact ⟨[], by cases n <;> exact .nil, F.bindsN fun _ _ _ _ _ _ us hl => match us, hl with | [_, _], _ => rfl⟩
theorem b__law_pick : BindsFor e__law_pick := fun K dvs a fd hl F n hn => by
  cases List.length_eq_zero_iff.mp hl
  exact ⟨[], by cases n <;> exact .nil, F.bindsN fun _ _ _ _ _ _ us hl => match us, hl with | [_, _], _ => rfl⟩
theorem b__law_odd_values : BindsFor e__law_odd_values := fun K dvs a fd hl F n hn => by
  cases List.length_eq_zero_iff.mp hl
  exact ⟨[], by cases n <;> exact .nil, F.bindsN fun _ _ _ _ _ _ us hl => match us, hl with | [], _ => rfl⟩
theorem b__law_spots : BindsFor e__law_spots := fun K dvs a fd hl F n hn => by
  cases List.length_eq_zero_iff.mp hl
  exact ⟨[], by cases n <;> exact .nil, F.bindsN fun _ _ _ _ _ _ us hl => match us, hl with | [_, _], _ => rfl⟩
theorem b__law_spot_put : BindsFor e__law_spot_put := fun K dvs a fd hl F n hn => by
  cases List.length_eq_zero_iff.mp hl
  exact ⟨[], by cases n <;> exact .nil, F.bindsN fun _ _ _ _ _ _ us hl => match us, hl with | [_, _, _], _ => rfl⟩
theorem b__law_spot : BindsFor e__law_spot := fun K dvs a fd hl F n hn => by
  cases List.length_eq_zero_iff.mp hl
  exact ⟨[], by cases n <;> exact .nil, F.bindsN fun _ _ _ _ _ _ us hl => match us, hl with | [_, _], _ => rfl⟩
theorem b__law_bent_spot : BindsFor e__law_bent_spot := fun K dvs a fd hl F n hn => by
  cases List.length_eq_zero_iff.mp hl
  exact ⟨[], by cases n <;> exact .nil, F.bindsN fun _ _ _ _ _ _ us hl => match us, hl with | [_, _], _ => rfl⟩
theorem b__law_bent : BindsFor e__law_bent := fun K dvs a fd hl F n hn => by
  cases List.length_eq_zero_iff.mp hl
  exact ⟨[], by cases n <;> exact .nil, F.bindsN fun _ _ _ _ _ _ us hl => match us, hl with | [_, _, _], _ => rfl⟩
theorem b__law_facts : BindsFor e__law_facts := fun K dvs a fd hl F n hn => by
  cases List.length_eq_zero_iff.mp hl
  exact ⟨[], by cases n <;> exact .nil, F.bindsN fun _ _ _ _ _ _ us hl => match us, hl with | [_, _], _ => rfl⟩
theorem b__law_amount : BindsFor e__law_amount := fun K dvs a fd hl F n hn => by
  cases List.length_eq_zero_iff.mp hl
  exact ⟨[], by cases n <;> exact .nil, F.bindsN fun _ _ _ _ _ _ us hl => match us, hl with | [_, _, _, _], _ => rfl⟩
theorem b__law_condition : BindsFor e__law_condition := fun K dvs a fd hl F n hn => by
  cases List.length_eq_zero_iff.mp hl
  exact ⟨[], by cases n <;> exact .nil, F.bindsN fun _ _ _ _ _ _ us hl => match us, hl with | [_, _, _, _], _ => rfl⟩
theorem b__law_names : BindsFor e__law_names := fun K dvs a fd hl F n hn => by
  cases List.length_eq_zero_iff.mp hl
  exact ⟨[], by cases n <;> exact .nil, F.bindsN fun _ _ _ _ _ _ us hl => match us, hl with | [_, _], _ => rfl⟩
theorem b__law_fine : BindsFor e__law_fine := fun K dvs a fd hl F n hn => by
  cases List.length_eq_zero_iff.mp hl
  exact ⟨[], by cases n <;> exact .nil, F.bindsN fun _ _ _ _ _ _ us hl => match us, hl with | [_, _, _, _, _], _ => rfl⟩
theorem b_law : BindsFor e_law := fun K dvs a fd hl F n hn => by
  cases List.length_eq_zero_iff.mp hl
  exact ⟨[], by cases n <;> exact .nil, F.bindsN fun _ _ _ _ _ _ us hl => match us, hl with | [_], _ => rfl⟩
theorem binds : ∀ e ∈ g.fes, BindsFor e := by
  intro e he
  simp only [g, List.mem_cons, List.not_mem_nil, or_false] at he
  rcases he with rfl | rfl | rfl | rfl | rfl | rfl | rfl | rfl | rfl | rfl | rfl | rfl | rfl | rfl | rfl | rfl | rfl | rfl | rfl | rfl | rfl | rfl | rfl | rfl | rfl
  · exact b_is_integer
  · exact b_is_word
  · exact b_is_tuple
  · exact b_is_small
  · exact b_is_amount
  · exact b_is_condition
  · exact b_names_in
  · exact b__law_same
  · exact b__law_is_integer
  · exact b__law_pool
  · exact b__law_spread
  · exact b__law_draw
  · exact b__law_pick
  · exact b__law_odd_values
  · exact b__law_spots
  · exact b__law_spot_put
  · exact b__law_spot
  · exact b__law_bent_spot
  · exact b__law_bent
  · exact b__law_facts
  · exact b__law_amount
  · exact b__law_condition
  · exact b__law_names
  · exact b__law_fine
  · exact b_law
theorem flats : ∀ e ∈ g.fes, ∀ d ∈ e.dv, flat0 d = true := by decide +kernel
abbrev R : PySem.W.OpenRow := PySem.W.OpenLaw.row PySem.Challenge.rw_casesruled_k03_amounts_told
abbrev hk : PySem.W.Hook := He.hookX 4 g.fa g.fn [] g.tf g.exL
def ob (s : PySem.W.SharedT) : He.AlX := He.obsX 4 g.fa g.fn [] g.tf g.exL (HandSHeadRun.getT s)
theorem ob_eq (s : PySem.W.SharedT) : ob s = hk.obs s.abs := He.obsX_eq (HandSHeadRun.getT_eq s)
def loose : List PySem.Str := (["LETTERS", "MOST_LETTERS", "MOST_SIZE", "KEPT", "is_integer", "is_word", "MOST_DEPTH", "TWO", "is_tuple", "is_small", "is_amount", "is_condition", "names_in", "_law_same", "_law_is_integer", "_law_pool", "_law_spread", "_law_draw", "_law_pick", "_law_odd_values", "_law_spots", "_law_spot_put", "_law_spot", "_law_bent_spot", "_law_bent", "_law_facts", "_law_amount", "_law_condition", "_law_names", "_law_fine"] : List PySem.Str)
set_option maxHeartbeats 0 in
theorem run (w : World) : HandSHeadRun.RunEq R (PySem.W.view R.prog [33]) hk ob 20000 loose w := by
  intro os
  kernel_rfl
theorem T_is_integer : g.T "is_integer" = some Q.f_is_integer := by kernel_rfl
theorem T_is_word : g.T "is_word" = some Q.f_is_word := by kernel_rfl
theorem T_is_tuple : g.T "is_tuple" = some Q.f_is_tuple := by kernel_rfl
theorem T_is_small : g.T "is_small" = some Q.f_is_small := by kernel_rfl
theorem T_is_amount : g.T "is_amount" = some Q.f_is_amount := by kernel_rfl
theorem T_is_condition : g.T "is_condition" = some Q.f_is_condition := by kernel_rfl
theorem T_names_in : g.T "names_in" = some Q.f_names_in := by kernel_rfl
theorem T__law_same : g.T "_law_same" = some Q.f__law_same := by kernel_rfl
theorem T__law_is_integer : g.T "_law_is_integer" = some Q.f__law_is_integer := by kernel_rfl
theorem T__law_pool : g.T "_law_pool" = some Q.f__law_pool := by kernel_rfl
theorem T__law_spread : g.T "_law_spread" = some Q.f__law_spread := by kernel_rfl
theorem T__law_draw : g.T "_law_draw" = some Q.f__law_draw := by kernel_rfl
theorem T__law_pick : g.T "_law_pick" = some Q.f__law_pick := by kernel_rfl
theorem T__law_odd_values : g.T "_law_odd_values" = some Q.f__law_odd_values := by kernel_rfl
theorem T__law_spots : g.T "_law_spots" = some Q.f__law_spots := by kernel_rfl
theorem T__law_spot_put : g.T "_law_spot_put" = some Q.f__law_spot_put := by kernel_rfl
theorem T__law_spot : g.T "_law_spot" = some Q.f__law_spot := by kernel_rfl
theorem T__law_bent_spot : g.T "_law_bent_spot" = some Q.f__law_bent_spot := by kernel_rfl
theorem T__law_bent : g.T "_law_bent" = some Q.f__law_bent := by kernel_rfl
theorem T__law_facts : g.T "_law_facts" = some Q.f__law_facts := by kernel_rfl
theorem T__law_amount : g.T "_law_amount" = some Q.f__law_amount := by kernel_rfl
theorem T__law_condition : g.T "_law_condition" = some Q.f__law_condition := by kernel_rfl
theorem T__law_names : g.T "_law_names" = some Q.f__law_names := by kernel_rfl
def i__law_fine_r0 : ISs := (.cons (.ifs (.or (.cmp .ne (.loc 6) (.cst (.int 3))) (.cmp .nmem (.loc 5) (.tup (.cons (.cst (.str "is")) (.cons (.cst (.str "below")) (.cons (.cst (.str "both")) (.cons (.cst (.str "either")) .nil))))))) (.cons (.ret (.cst (.bl false)))
  .nil) .nil)
  (.cons (.asg (.nm 7) (.ite (.cmp .mem (.loc 5) (.tup (.cons (.cst (.str "is")) (.cons (.cst (.str "below")) .nil)))) (.cst (.str "a")) (.cst (.str "c"))))
  (.cons (.ret (.and (.call "_law_fine" (.cons (.idx (.loc 0) (.cst (.int 1))) (.cons (.loc 7) (.cons (.loc 2) (.cons (.loc 3) (.cons (.bin .add (.loc 4) (.cst (.int 1))) .nil)))))) (.call "_law_fine" (.cons (.idx (.loc 0) (.cst (.int 2))) (.cons (.loc 7) (.cons (.loc 2) (.cons (.loc 3) (.cons (.bin .add (.loc 4) (.cst (.int 1))) .nil))))))))
  .nil)))
def i__law_fine_r1 : ISs := (.cons (.ret (.and (.cmp .mem (.loc 5) (.tup (.cons (.cst (.str "plus")) (.cons (.cst (.str "less")) (.cons (.cst (.str "least")) (.cons (.cst (.str "most")) .nil)))))) (.and (.call "_law_fine" (.cons (.idx (.loc 0) (.cst (.int 1))) (.cons (.cst (.str "a")) (.cons (.loc 2) (.cons (.loc 3) (.cons (.bin .add (.loc 4) (.cst (.int 1))) .nil)))))) (.call "_law_fine" (.cons (.idx (.loc 0) (.cst (.int 2))) (.cons (.cst (.str "a")) (.cons (.loc 2) (.cons (.loc 3) (.cons (.bin .add (.loc 4) (.cst (.int 1))) .nil)))))))))
  .nil)
def i__law_fine_r2 : ISs := (.cons (.ifs (.cmp .eq (.loc 5) (.cst (.str "part"))) (.cons (.ret (.and (.call "_law_is_integer" (.cons (.idx (.loc 0) (.cst (.int 2))) .nil)) (.and (.cmp .le (.cst (.int 1)) (.idx (.loc 0) (.cst (.int 2)))) (.and (.cmp .le (.idx (.loc 0) (.cst (.int 2))) (.cst (.int 1000000))) (.call "_law_fine" (.cons (.idx (.loc 0) (.cst (.int 1))) (.cons (.cst (.str "a")) (.cons (.loc 2) (.cons (.loc 3) (.cons (.bin .add (.loc 4) (.cst (.int 1))) .nil))))))))))
  .nil) .nil)
  i__law_fine_r1)
def i__law_fine_r3 : ISs := (.cons (.ifs (.cmp .mem (.loc 5) (.tup (.cons (.cst (.str "fact")) (.cons (.cst (.str "term")) .nil)))) (.cons (.ret (.and (.cmp .eq (.loc 6) (.cst (.int 2))) (.and (.isa (.idx (.loc 0) (.cst (.int 1))) "str") (.cmp .mem (.idx (.loc 0) (.cst (.int 1))) (.ite (.cmp .eq (.loc 5) (.cst (.str "fact"))) (.loc 2) (.loc 3))))))
  .nil) .nil)
  (.cons (.ifs (.cmp .ne (.loc 6) (.cst (.int 3))) (.cons (.ret (.cst (.bl false)))
  .nil) .nil)
  (.cons (.ifs (.cmp .eq (.loc 5) (.cst (.str "times"))) (.cons (.ret (.and (.call "_law_is_integer" (.cons (.idx (.loc 0) (.cst (.int 1))) .nil)) (.and (.cmp .le (.neg (.cst (.int 1000000))) (.idx (.loc 0) (.cst (.int 1)))) (.and (.cmp .le (.idx (.loc 0) (.cst (.int 1))) (.cst (.int 1000000))) (.call "_law_fine" (.cons (.idx (.loc 0) (.cst (.int 2))) (.cons (.cst (.str "a")) (.cons (.loc 2) (.cons (.loc 3) (.cons (.bin .add (.loc 4) (.cst (.int 1))) .nil))))))))))
  .nil) .nil)
  i__law_fine_r2)))
def i__law_fine_r4 : ISs := (.cons (.ifs (.cmp .eq (.loc 5) (.cst (.str "num"))) (.cons (.ret (.and (.cmp .eq (.loc 6) (.cst (.int 2))) (.and (.call "_law_is_integer" (.cons (.idx (.loc 0) (.cst (.int 1))) .nil)) (.and (.cmp .le (.neg (.cst (.int 1000000))) (.idx (.loc 0) (.cst (.int 1)))) (.cmp .le (.idx (.loc 0) (.cst (.int 1))) (.cst (.int 1000000)))))))
  .nil) .nil)
  i__law_fine_r3)
def i__law_fine : ISs := (.cons (.ifs (.or (.cmp .gt (.loc 4) (.cst (.int 20))) (.or (.not (.v (.isa (.loc 0) "tuple"))) (.or (.cmp .eq (.blt "len" (.cons (.loc 0) .nil)) (.cst (.int 0))) (.not (.v (.isa (.idx (.loc 0) (.cst (.int 0))) "str")))))) (.cons (.ret (.cst (.bl false)))
  .nil) .nil)
  (.cons (.par 5 6 (.idx (.loc 0) (.cst (.int 0))) (.blt "len" (.cons (.loc 0) .nil)))
  (.cons (.ifs (.cmp .eq (.loc 1) (.cst (.str "c"))) (.cons (.ifs (.cmp .eq (.loc 5) (.cst (.str "true"))) (.cons (.ret (.cmp .eq (.loc 6) (.cst (.int 1))))
  .nil) .nil)
  (.cons (.ifs (.cmp .eq (.loc 5) (.cst (.str "not"))) (.cons (.ret (.and (.cmp .eq (.loc 6) (.cst (.int 2))) (.call "_law_fine" (.cons (.idx (.loc 0) (.cst (.int 1))) (.cons (.cst (.str "c")) (.cons (.loc 2) (.cons (.loc 3) (.cons (.bin .add (.loc 4) (.cst (.int 1))) .nil))))))))
  .nil) .nil)
  i__law_fine_r0)) .nil)
  i__law_fine_r4)))
def f__law_fine : FD := ⟨5, 8, i__law_fine, false⟩
theorem T__law_fine : g.T "_law_fine" = some f__law_fine := by kernel_rfl
def i_law_b0 : ISs := (.cons (.ifs (.not (.v (.call "_law_same" (.cons (.lst (.cons (.call "names_in" (.cons (.loc 7) (.cons (.cst (.str "fact")) .nil))) (.cons (.call "names_in" (.cons (.loc 7) (.cons (.cst (.str "term")) .nil))) .nil))) (.cons (.lst (.cons (.blt "sortset" (.cons (.call "_law_names" (.cons (.loc 7) (.cons (.cst (.str "fact")) .nil))) .nil)) (.cons (.blt "sortset" (.cons (.call "_law_names" (.cons (.loc 7) (.cons (.cst (.str "term")) .nil))) .nil)) .nil))) .nil))))) (.cons (.ret (.cst (.bl false)))
  .nil) .nil)
  .nil)
def i_law_b1 : ISs := (.cons (.par 9 10 (.tup (.cons (.cst (.str "times")) (.cons (.cst (.int 1)) (.cons (.loc 9) .nil)))) (.tup (.cons (.cst (.str "not")) (.cons (.loc 10) .nil))))
  .nil)
def i_law_b2 : ISs := (.cons (.asg (.nm 8) (.bin .add (.loc 8) (.lst (.cons (.loc 9) (.cons (.loc 10) (.cons (.tup (.cons (.cst (.str "is")) (.cons (.loc 9) (.cons (.tup (.cons (.cst (.str "num")) (.cons (.cst (.int 0)) .nil))) .nil)))) (.cons (.tup (.cons (.cst (.str "plus")) (.cons (.tup (.cons (.cst (.str "num")) (.cons (.cst (.int 0)) .nil))) (.cons (.loc 9) .nil)))) .nil)))))))
  (.cons (.par 9 10 (.tup (.cons (.cst (.str "times")) (.cons (.cst (.int 1)) (.cons (.loc 9) .nil)))) (.tup (.cons (.cst (.str "not")) (.cons (.loc 10) .nil))))
  .nil))
def i_law_b3 : ISs := (.cons (.asg (.nm 13) (.blt "repr" (.cons (.loc 12) .nil)))
  (.cons (.ifs (.or (.not (.v (.call "_law_same" (.cons (.lst (.cons (.call "is_amount" (.cons (.loc 12) (.cons (.loc 4) (.cons (.loc 3) (.cons (.cst (D.int 0)) .nil))))) (.cons (.call "is_condition" (.cons (.loc 12) (.cons (.loc 4) (.cons (.loc 3) (.cons (.cst (D.int 0)) .nil))))) .nil))) (.cons (.lst (.cons (.call "_law_fine" (.cons (.loc 12) (.cons (.cst (.str "a")) (.cons (.loc 4) (.cons (.loc 3) (.cons (.cst (.int 0)) .nil)))))) (.cons (.call "_law_fine" (.cons (.loc 12) (.cons (.cst (.str "c")) (.cons (.loc 4) (.cons (.loc 3) (.cons (.cst (.int 0)) .nil)))))) .nil))) .nil))))) (.cmp .ne (.blt "repr" (.cons (.loc 12) .nil)) (.loc 13))) (.cons (.ret (.cst (.bl false)))
  .nil) .nil)
  .nil))
def i_law_r0 : ISs := (.cons (.ret (.cst (.bl true)))
  .nil)
def i_law_r1 : ISs := (.cons (.fors (.nm 12) (.seq (.bin .add (.bin .add (.bin .add (.loc 8) (.call "_law_bent" (.cons (.loc 1) (.cons (.loc 5) (.cons (.cst (.int 6)) .nil))))) (.call "_law_bent" (.cons (.loc 1) (.cons (.loc 6) (.cons (.cst (.int 6)) .nil))))) (.call "_law_odd_values" .nil))) i_law_b3)
  i_law_r0)
def i_law_r2 : ISs := (.cons (.fors (.nm 11) (.rng (.cst (.int 0)) (.cst (.int 3))) i_law_b2)
  i_law_r1)
def i_law_r3 : ISs := (.cons (.asg (.nm 8) (.lst (.cons (.loc 5) (.cons (.loc 6) (.cons (.blt "list" (.cons (.loc 5) .nil)) (.cons (.blt "list" (.cons (.loc 6) .nil)) (.cons (.bin .add (.loc 5) (.tup (.cons (.cst (.int 0)) .nil))) (.cons (.slcE (.loc 6) .no (.so (.neg (.cst (.int 1))))) (.cons (.tup (.cons (.cst (.str "num")) (.cons (.cst (.int 1000000)) .nil))) (.cons (.tup (.cons (.cst (.str "num")) (.cons (.cst (.int 1000001)) .nil))) (.cons (.tup (.cons (.cst (.str "num")) (.cons (.neg (.cst (.int 1000001))) .nil))) (.cons (.tup (.cons (.cst (.str "num")) (.cons (.cst (.bl true)) .nil))) (.cons (.tup (.cons (.cst (.str "fact")) (.cons (.cst (.str "zz")) .nil))) (.cons (.tup (.cons (.cst (.str "term")) (.cons (.cst (.str "zz")) .nil))) (.cons (.tup (.cons (.cst (.str "fact")) (.cons (.cst (.str "pp")) .nil))) (.cons (.tup (.cons (.cst (.str "part")) (.cons (.loc 5) (.cons (.cst (.int 0)) .nil)))) (.cons (.tup (.cons (.cst (.str "part")) (.cons (.loc 5) (.cons (.cst (.int 1)) .nil)))) (.cons (.tup (.cons (.cst (.str "part")) (.cons (.loc 5) (.cons (.cst (.bl true)) .nil)))) (.cons (.tup (.cons (.cst (.str "times")) (.cons (.loc 5) (.cons (.cst (.int 2)) .nil)))) (.cons (.tup (.cons (.cst (.str "times")) (.cons (.cst (.int 2)) (.cons (.loc 5) .nil)))) (.cons (.tup (.cons (.cst (.str "times")) (.cons (.cst (.int 1000001)) (.cons (.loc 5) .nil)))) (.cons (.tup (.cons (.cst (.str "plus")) (.cons (.loc 5) .nil))) (.cons (.tup (.cons (.cst (.str "plus")) (.cons (.loc 5) (.cons (.loc 6) .nil)))) (.cons (.tup (.cons (.cst (.str "is")) (.cons (.loc 5) (.cons (.loc 6) .nil)))) (.cons (.tup (.cons (.cst (.str "not")) (.cons (.loc 5) .nil))) (.cons (.tup (.cons (.cst (.str "both")) (.cons (.loc 5) (.cons (.loc 5) .nil)))) (.cons (.tup (.cons (.cst (.str "true")) (.cons (.cst (.int 1)) .nil))) (.cons (.tup (.cons (.cst (.str "either")) (.cons (.loc 6) (.cons (.loc 6) .nil)))) (.cons (.tup (.cons (.cst (.str "below")) (.cons (.loc 5) (.cons (.loc 5) .nil)))) .nil)))))))))))))))))))))))))))))
  (.cons (.par 9 10 (.tup (.cons (.cst (.str "num")) (.cons (.cst (.int 1)) .nil))) (.tup (.cons (.cst (.str "true")) .nil)))
  (.cons (.fors (.nm 11) (.rng (.cst (.int 0)) (.cst (.int 19))) i_law_b1)
  i_law_r2)))
def i_law_r4 : ISs := (.cons (.fors (.nm 7) (.seq (.tup (.cons (.loc 5) (.cons (.loc 6) .nil)))) i_law_b0)
  i_law_r3)
def i_law_r5 : ISs := (.cons (.par 5 6 (.call "_law_amount" (.cons (.loc 1) (.cons (.loc 2) (.cons (.loc 3) (.cons (.cst (.int 3)) .nil))))) (.call "_law_condition" (.cons (.loc 1) (.cons (.loc 2) (.cons (.loc 3) (.cons (.cst (.int 3)) .nil))))))
  i_law_r4)
def i_law_r6 : ISs := (.cons (.asg (.nm 4) (.comp (.idx (.loc 14) (.cst (.int 0))) (.nm 14) (.seq (.loc 2)) .yes [14]))
  i_law_r5)
def i_law_r7 : ISs := (.cons (.par 2 3 (.call "_law_facts" (.cons (.loc 1) (.cons (.cst (.int 3)) .nil))) (.lst (.cons (.cst (.str "pp")) (.cons (.cst (.str "qq")) .nil))))
  i_law_r6)
def i_law : ISs := (.cons (.asg (.nm 1) (.call "_law_pool" (.cons (.loc 0) .nil)))
  i_law_r7)
def f_law : FD := ⟨1, 15, i_law, false⟩
theorem T_law : g.T "law" = some f_law := by kernel_rfl
end K03
namespace K03
open PySem Q
def fineB (c : Bool) (fs ts : List Str) (m : Nat) (d : D) : Bool := if c = true then cnB fs ts m d else amB fs ts m d
def kindD (c : Bool) : D := if c = true then .str "c" else .str "a"
theorem any_w (a b w : Str) : ([D.str a, .str b].any fun z => z.eq (.str w)) = (w == a || w == b) := by
  have e : ∀ a : Str, (D.str a).eq (.str w) = (w == a) := fun a => by
    rw [eq_str]; exact Bool.eq_iff_iff.mpr ⟨fun h => by simpa using (show w = a from (by simpa using h : a = w).symm), fun h => by simpa using (show a = w from (by simpa using h : w = a).symm)⟩
  simp only [List.any_cons, List.any_nil, e, Bool.or_false]
def inInt (lo : Int) (d : D) : Bool := match d with
  | .int i => decide (lo ≤ i) && decide (i ≤ 1000000)
  | _ => false
theorem part_int (y : D) : (smallD y && posD y) = inInt 1 y := by
  cases y with
  | int i =>
    simp only [smallD, posD, inInt]
    rw [Bool.eq_iff_iff]
    simp only [Bool.and_eq_true, decide_eq_true_eq]
    omega
  | _ => rfl
theorem w_fine (hL : g.T "_law_fine" = some f__law_fine) {fs ts : List Str} (hf : fineW fs) (ht : fineW ts) {S : Sto} :
    ∀ (m k : Nat) (c : Bool) (d : D) (P : D → Sto → Prop) (dep : Int), dep + m = 21 → Vl d → P (.bl (fineB c fs ts m d)) S → Cl g.T (k + m + 3) "_law_fine" [d, kindD c, strsD fs, strsD ts, .int dep] S P := by
  intro m
  induction m with
  | zero =>
    intro k c d P dep hm hd h
    refine ⟨_, hL, rfl, ?_⟩
    have c1 : (20 < dep) = True := eq_true (by omega)
    have h' : P (.bl false) S := by
      have e : fineB c fs ts 0 d = false := by cases c <;> rfl
      rwa [e] at h
    simp_arith only [f__law_fine, i__law_fine, c1]
    exact h'
  | succ m ih =>
    intro k c d P dep hm hd h
    have c1 : (20 < dep) = False := eq_false (by omega)
    have ok1 : (D.tup [.str "fact", .str "term"]).eqOk = true := by decide +kernel
    have ok2 : (D.tup [.str "is", .str "below"]).eqOk = true := by decide +kernel
    have ok3 : (D.tup [.str "is", .str "below", .str "both", .str "either"]).eqOk = true := by decide +kernel
    have ok4 : (D.tup [.str "plus", .str "less", .str "least", .str "most"]).eqOk = true := by decide +kernel
    have cc : ("c" == ("c" : Str)) = true := by decide +kernel
    have ca : ("a" == ("c" : Str)) = false := by decide +kernel
    have ih' : ∀ (c : Bool) (d : D) (P : D → Sto → Prop), Vl d → P (.bl (fineB c fs ts m d)) S → Cl g.T (k + m + 3) "_law_fine" [d, kindD c, strsD fs, strsD ts, .int (dep + 1)] S P := fun c d P hd h => ih k c d P (dep + 1) (by omega) hd h
    have ihc : ∀ (d : D) (P : D → Sto → Prop), Vl d → P (.bl (cnB fs ts m d)) S → Cl g.T (k + m + 3) "_law_fine" [d, .str "c", strsD fs, strsD ts, .int (dep + 1)] S P := ih' true
    have iha : ∀ (d : D) (P : D → Sto → Prop), Vl d → P (.bl (amB fs ts m d)) S → Cl g.T (k + m + 3) "_law_fine" [d, .str "a", strsD fs, strsD ts, .int (dep + 1)] S P := ih' false
    rw [show k + (m + 1) + 3 = k + m + 4 by omega]
    rcases hd.shape with rfl | ⟨b, rfl⟩ | ⟨b, rfl⟩ | ⟨s, rfl, hs⟩ | ⟨l, rfl, hl⟩ | ⟨l, rfl⟩ | rfl
    case inr.inr.inr.inr.inl =>
      cases l with
      | nil =>
        refine ⟨_, hL, rfl, ?_⟩
        have h' : P (.bl false) S := by cases c <;> exact h
        simp_arith only [f__law_fine, i__law_fine, c1]
        exact h'
      | cons a l =>
        have ha := hl a (by simp)
        by_cases hstr : ∃ w, a = .str w ∧ strN w
        case neg =>
          have ns : ∀ w, a ≠ .str w := fun w e => by
            subst e
            obtain ⟨n, _, hn⟩ := ha
            exact hstr ⟨w, rfl, by cases n <;> exact hn⟩
          have am : fineB c fs ts (m + 1) (.tup (a :: l)) = false := by
            cases c <;> cases a <;> first | exact absurd rfl (ns _) | (cases l with
              | nil => rfl
              | cons _ l => cases l with
                | nil => rfl
                | cons _ l => cases l <;> rfl)
          rw [am] at h
          refine ⟨_, hL, rfl, ?_⟩
          have n0 : ((((l.length : Nat) : Int) + 1) == 0) = false := by simp; omega
          simp_arith only [f__law_fine, i__law_fine, c1]
          refine iteI (fun _ => h) (fun h1 => ?_)
          rcases ha.vl.shape with rfl | ⟨b, rfl⟩ | ⟨b, rfl⟩ | ⟨s, rfl, hs⟩ | ⟨l, rfl, hl⟩ | ⟨l, rfl⟩ | rfl
          case inr.inr.inr.inl => exact absurd rfl (ns s)
          all_goals (simp_arith only [true_and]; exact h)
        obtain ⟨w, rfl, hw⟩ := hstr
        have okw := hw.nv.ok
        have n0 : ∀ n : Nat, ¬ (((((n + 1 : Nat)) : Int)) == 0) = true := fun n => by simp; omega
        cases c with
        | true =>
          have h : P (.bl (cnB fs ts (m + 1) (.tup (.str w :: l)))) S := h
          cases l with
          | nil =>
            refine ⟨_, hL, rfl, ?_⟩
            simp only [cnB] at h
            simp_arith only [f__law_fine, i__law_fine, i__law_fine_r0, kindD, cc, c1]
            refine iteI (fun h1 => ?_) (fun h1 => ?_)
            · rw [h1] at h; exact h
            · rw [Bool.eq_false_iff.mpr h1] at h
              exact iteI (fun _ => h) (fun _ => h)
          | cons x l =>
            have hx := (hl x (by simp)).vl
            cases l with
            | nil =>
              refine ⟨_, hL, rfl, ?_⟩
              simp only [cnB] at h
              simp_arith only [f__law_fine, i__law_fine, i__law_fine_r0, kindD, cc, c1]
              refine iteI (fun h1 => ?_) (fun h1 => ?_)
              · have e : w = "true" := by simpa using h1
                subst e
                rw [if_neg (by decide +kernel)] at h
                exact h
              · refine iteI (fun h2 => ?_) (fun h2 => ?_)
                · rw [if_pos h2] at h
                  exact ihc x _ hx h
                · rw [if_neg h2] at h; exact h
            | cons y l =>
              have hy := (hl y (by simp)).vl
              cases l with
              | nil =>
                refine ⟨_, hL, rfl, ?_⟩
                simp only [cnB] at h
                simp_arith only [f__law_fine, i__law_fine, i__law_fine_r0, kindD, cc, c1, okw, ok2, ok3, any_w]
                refine iteI (fun h1 => ?_) (fun h1 => ?_)
                · have e : w = "true" := by simpa using h1
                  subst e
                  rw [if_neg (by decide +kernel), if_neg (by decide +kernel)] at h
                  exact h
                · refine iteI (fun h2 => ?_) (fun h2 => ?_)
                  · have e : w = "not" := by simpa using h2
                    subst e
                    rw [if_neg (by decide +kernel), if_neg (by decide +kernel)] at h
                    exact h
                  · have e4 : ([D.str "is", .str "below", .str "both", .str "either"].any fun z => z.eq (.str w)) = ((w == "is" || w == "below") || (w == "both" || w == "either")) := by
                      have := any_w "is" "below" w
                      have := any_w "both" "either" w
                      rw [← any_w, ← any_w]
                      simp only [List.any_cons, List.any_nil, Bool.or_false, Bool.or_assoc]
                    rw [e4]
                    cases h3 : (w == "is" || w == "below") with
                    | true =>
                      rw [if_pos h3] at h
                      simp_arith only [Bool.true_or, Bool.or_true, Bool.false_or]
                      refine iha x _ hx ?_
                      simp_arith only [true_and]
                      refine iteI (fun h4 => ?_) (fun h4 => ?_)
                      · rw [h4, Bool.true_and] at h
                        exact iha y _ hy h
                      · rw [Bool.eq_false_iff.mpr h4, Bool.false_and] at h
                        rw [Bool.eq_false_iff.mpr h4]; exact h
                    | false =>
                      rw [if_neg (by rw [h3]; decide)] at h
                      cases h5 : (w == "both" || w == "either") with
                      | true =>
                        rw [if_pos h5] at h
                        simp_arith only [Bool.true_or, Bool.or_true, Bool.false_or]
                        refine ihc x _ hx ?_
                        simp_arith only [true_and]
                        refine iteI (fun h4 => ?_) (fun h4 => ?_)
                        · rw [h4, Bool.true_and] at h
                          exact ihc y _ hy h
                        · rw [Bool.eq_false_iff.mpr h4, Bool.false_and] at h
                          rw [Bool.eq_false_iff.mpr h4]; exact h
                      | false =>
                        rw [if_neg (by rw [h5]; decide)] at h
                        simp_arith only [true_and]
                        exact h
              | cons z l =>
                have h : P (.bl false) S := h
                refine ⟨_, hL, rfl, ?_⟩
                simp_arith only [f__law_fine, i__law_fine, i__law_fine_r0, kindD, cc, c1, okw, ok2, ok3, any_w]
                have q : ∀ j : Int, j ≤ 3 → (((l.length + 1 + 1 + 1 + 1 : Nat) : Int) == j) = false := by intro j hj; simp; omega
                simp_arith only [q 0 (by omega), q 1 (by omega), q 2 (by omega), q 3 (by omega)]
                exact iteI (fun _ => h) (fun _ => iteI (fun _ => h) (fun _ => h))
        | false =>
          have h : P (.bl (amB fs ts (m + 1) (.tup (.str w :: l)))) S := h
          have inF : ∀ (x : D) (gs : List Str), Vl x → fineW gs → P (.bl (memD gs x)) S → optP (x.isA "str") fun b => if b = true then dMem x (strsD gs) fun k => P (.bl k) S else P (.bl b) S := by
            intro x gs hx hg hP
            rcases hx.shape with rfl | ⟨b, rfl⟩ | ⟨b, rfl⟩ | ⟨s, rfl, hs⟩ | ⟨l, rfl, hl⟩ | ⟨l, rfl⟩ | rfl
            case inr.inr.inr.inl =>
              have o1 := hs.nv.ok
              have o2 := strsD_ok hg
              unfold strsD at o2 ⊢
              simp_arith only [true_and]
              rw [any_strs]
              exact ⟨o1, o2, hP⟩
            all_goals (simp_arith only [true_and]; exact hP)
          have btw : ∀ (lo : Int) (x : D) (F : Bool → Sto → Prop), Vl x → (inInt lo x = false → F false S ∧ P (.bl false) S) → (inInt lo x = true → F true S) → Cl g.T (k + m + 3) "_law_is_integer" [x] S fun r S2 => r.truth fun b => if b = true then dCmp .le (.int lo) x fun b => if b = true then dCmp .le x (.int 1000000) fun b => F b S2 else P (.bl b) S2 else P r S2 := by
            intro lo x F hx h0 h1
            refine w_lisint T__law_is_integer (k := k + m + 2) hx.val ?_
            rcases hx.shape with rfl | ⟨b, rfl⟩ | ⟨b, rfl⟩ | ⟨s, rfl, hs⟩ | ⟨l, rfl, hl⟩ | ⟨l, rfl⟩ | rfl
            case inr.inr.inl =>
              simp_arith only [true_and]
              simp only [inInt] at h0 h1
              refine iteI (fun h2 => ?_) (fun h2 => ?_)
              · cases h3 : decide (b ≤ 1000000) with
                | true => exact h1 (by rw [h3]; simpa using h2)
                | false => exact (h0 (by rw [h3]; simp)).1
              · have := h0 (by simp; omega)
                rw [show decide (lo ≤ b) = false by simpa using h2]
                exact this.2
            all_goals (simp_arith only [true_and]; exact (h0 rfl).2)
          cases l with
          | nil =>
            refine ⟨_, hL, rfl, ?_⟩
            simp only [amB] at h
            simp_arith only [f__law_fine, i__law_fine, i__law_fine_r4, i__law_fine_r3, i__law_fine_r2, i__law_fine_r1, kindD, ca, c1, okw, ok1, ok4, any_w]
            exact iteI (fun _ => h) (fun _ => iteI (fun _ => h) (fun _ => h))
          | cons x l =>
            have hx := (hl x (by simp)).vl
            cases l with
            | nil =>
              refine ⟨_, hL, rfl, ?_⟩
              simp only [amB] at h
              simp_arith only [f__law_fine, i__law_fine, i__law_fine_r4, i__law_fine_r3, i__law_fine_r2, i__law_fine_r1, kindD, ca, c1, okw, ok1, ok4, any_w]
              refine iteI (fun h1 => ?_) (fun h1 => ?_)
              · rw [if_pos h1] at h
                refine btw (-1000000) x (fun b S => P (.bl b) S) hx (fun e => ?_) (fun e => ?_)
                · rw [show smallD x = false from e] at h; exact ⟨h, h⟩
                · rw [show smallD x = true from e] at h; exact h
              · rw [if_neg h1] at h
                refine iteI (fun h2 => ?_) (fun h2 => ?_)
                · by_cases h3 : (w == "fact") = true
                  · rw [if_pos h3] at h
                    simp_arith only [h3]
                    exact inF x fs hx hf h
                  · rw [if_neg h3] at h
                    have h4 : (w == "term") = true := by rw [Bool.eq_false_iff.mpr h3] at h2; simpa using h2
                    rw [if_pos h4] at h
                    simp_arith only [Bool.eq_false_iff.mpr h3]
                    exact inF x ts hx ht h
                · have h2' := Bool.eq_false_iff.mpr h2
                  rw [Bool.or_eq_false_iff] at h2'
                  rw [h2'.1, h2'.2] at h
                  exact h
            | cons y l =>
              have hy := (hl y (by simp)).vl
              cases l with
              | nil =>
                refine ⟨_, hL, rfl, ?_⟩
                simp only [amB] at h
                simp_arith only [f__law_fine, i__law_fine, i__law_fine_r4, i__law_fine_r3, i__law_fine_r2, i__law_fine_r1, kindD, ca, c1, okw, ok1, ok4, any_w]
                refine iteI (fun h1 => ?_) (fun h1 => ?_)
                · have e : w = "num" := by simpa using h1
                  subst e
                  rw [if_neg (by decide +kernel), if_neg (by decide +kernel), if_neg (by decide +kernel)] at h
                  exact h
                refine iteI (fun h2 => ?_) (fun h2 => ?_)
                · rcases (Bool.or_eq_true _ _).mp h2 with e | e
                  · have e : w = "fact" := by simpa using e
                    subst e
                    rw [if_neg (by decide +kernel), if_neg (by decide +kernel), if_neg (by decide +kernel)] at h
                    exact h
                  · have e : w = "term" := by simpa using e
                    subst e
                    rw [if_neg (by decide +kernel), if_neg (by decide +kernel), if_neg (by decide +kernel)] at h
                    exact h
                refine iteI (fun h3 => ?_) (fun h3 => ?_)
                · rw [if_pos h3] at h
                  refine btw (-1000000) x (fun b S2 => if b = true then Cl g.T (k + m + 3) "_law_fine" [y, .str "a", strsD fs, strsD ts, .int (dep + 1)] S2 fun r S2 => P r S2 else P (.bl b) S2) hx (fun e => ?_) (fun e => ?_)
                  · rw [show smallD x = false from e, Bool.false_and] at h; exact ⟨h, h⟩
                  · rw [show smallD x = true from e, Bool.true_and] at h; exact iha y _ hy h
                rw [if_neg h3] at h
                refine iteI (fun h4 => ?_) (fun h4 => ?_)
                · rw [if_pos h4, part_int] at h
                  refine btw 1 y (fun b S2 => if b = true then Cl g.T (k + m + 3) "_law_fine" [x, .str "a", strsD fs, strsD ts, .int (dep + 1)] S2 fun r S2 => P r S2 else P (.bl b) S2) hy (fun e => ?_) (fun e => ?_)
                  · rw [e, Bool.and_false] at h; exact ⟨h, h⟩
                  · rw [e, Bool.and_true] at h; exact iha x _ hx h
                rw [if_neg h4] at h
                refine iteI (fun h5 => ?_) (fun h5 => ?_)
                · have h5' : (twoW.any fun z => z == w) = true := h5
                  rw [if_pos h5'] at h
                  refine iha x _ hx ?_
                  simp_arith only [true_and]
                  refine iteI (fun h6 => ?_) (fun h6 => ?_)
                  · rw [h6, Bool.true_and] at h
                    exact iha y _ hy h
                  · rw [Bool.eq_false_iff.mpr h6, Bool.false_and] at h
                    rw [Bool.eq_false_iff.mpr h6]; exact h
                · have h5' : ¬ (twoW.any fun z => z == w) = true := h5
                  rw [if_neg h5'] at h
                  rw [Bool.eq_false_iff.mpr h5]; exact h
              | cons z l =>
                have h : P (.bl false) S := h
                refine ⟨_, hL, rfl, ?_⟩
                simp_arith only [f__law_fine, i__law_fine, i__law_fine_r4, i__law_fine_r3, i__law_fine_r2, i__law_fine_r1, kindD, ca, c1, okw, ok1, ok4, any_w]
                have q : ∀ j : Int, j ≤ 3 → (((l.length + 1 + 1 + 1 + 1 : Nat) : Int) == j) = false := by intro j hj; simp; omega
                simp_arith only [q 0 (by omega), q 1 (by omega), q 2 (by omega), q 3 (by omega)]
                exact iteI (fun _ => h) (fun _ => iteI (fun _ => h) (fun _ => h))
    all_goals
      refine ⟨_, hL, rfl, ?_⟩
      have h' : P (.bl false) S := by cases c <;> exact h
      simp_arith only [f__law_fine, i__law_fine, c1]
      exact h'
/-! the drawn amounts and conditions as values -/
theorem strN_nm (k : Nat) : strN (Str.ofString (nmS k)) := by
  refine ⟨strOk_of _, ?_⟩
  match k with
  | 0 => decide
  | 1 => decide
  | 2 => decide
  | _ + 3 => show (Str.ofString "dd").length ≤ 60; decide
theorem pv_up : ∀ (n m : Nat) (y : D), n ≤ m → y.pv n → y.pv m := by
  intro n
  induction n with
  | zero => intro m y _ h; cases y <;> first | exact h.elim | (cases m <;> exact h)
  | succ n ih =>
    intro m y hm h
    obtain ⟨m, rfl⟩ : ∃ k, m = k + 1 := ⟨m - 1, by omega⟩
    cases y with
    | tup l => exact fun d hd => ih m d (by omega) (h d hd)
    | _ => exact h
theorem pv_str {n : Nat} {s : Str} (h : strN s) : (D.str s).pv n := by cases n <;> exact h
theorem pv_int {n : Nat} {i : Int} (h : i.natAbs < 10 ^ 15) : (D.int i).pv n := by cases n <;> exact h
theorem lit {s : String} (h : (Str.ofString s).length ≤ 60 := by decide) : strN (Str.ofString s) := ⟨strOk_of s, h⟩
theorem pv2 {n : Nat} {a b : D} (h1 : a.pv n) (h2 : b.pv n) : (D.tup [a, b]).pv (n + 1) := fun d hd => by
  simp only [List.mem_cons, List.not_mem_nil, or_false] at hd
  rcases hd with rfl | rfl
  · exact h1
  · exact h2
theorem pv3 {n : Nat} {a b c : D} (h1 : a.pv n) (h2 : b.pv n) (h3 : c.pv n) : (D.tup [a, b, c]).pv (n + 1) := fun d hd => by
  simp only [List.mem_cons, List.not_mem_nil, or_false] at hd
  rcases hd with rfl | rfl | rfl
  · exact h1
  · exact h2
  · exact h3
theorem wd2 (a b : D) : wd (.tup [a, b]) ≤ wd a + wd b + 6 := by
  rw [wd_tup, wl_cons, wl_cons, wl_nil]; have := mk_le [a, b].length; omega
theorem wd3 (a b c : D) : wd (.tup [a, b, c]) ≤ wd a + wd b + wd c + 8 := by
  rw [wd_tup, wl_cons, wl_cons, wl_cons, wl_nil]; have := mk_le [a, b, c].length; omega
theorem wd_i {i : Int} (h : i.natAbs < 10 ^ 15) : wd (.int i) ≤ 21 := wd_int (Nat.lt_trans h (by decide))
theorem Am.val {n : Nat} {ts : List Str} (ht : ∀ t ∈ ts, strN t) : ∀ a : Am, a.ok n ts → a.d.pv (a.dep + 1) ∧ wd a.d ≤ 2000 * a.sz := by
  intro a
  induction a with
  | num i => intro h; simp only [Am.ok] at h; exact ⟨pv2 (pv_str lit) (pv_int (by omega)), by have := wd2 (.str "num") (.int i); have := wd_str (s := "num") lit; have := wd_i (i := i) (by omega); simp only [Am.d, Am.sz]; omega⟩
  | fact k => intro h; exact ⟨pv2 (pv_str lit) (pv_str (strN_nm k)), by have := wd2 (.str "fact") (nmD k); have := wd_str (s := "fact") lit; have h3 := wd_str (strN_nm k); simp only [Am.d, Am.sz, nmD] at *; omega⟩
  | term t => intro h; simp only [Am.ok] at h; exact ⟨pv2 (pv_str lit) (pv_str (ht t h)), by have := wd2 (.str "term") (.str t); have := wd_str (s := "term") lit; have h3 := wd_str (ht t h); simp only [Am.d, Am.sz] at *; omega⟩
  | times i a ih => intro h; simp only [Am.ok] at h; obtain ⟨h1, h2⟩ := ih h.2; exact ⟨pv3 (pv_str lit) (pv_int (by omega)) h1, by have := wd3 (.str "times") (.int i) a.d; have := wd_str (s := "times") lit; have := wd_i (i := i) (by omega); simp only [Am.d, Am.sz]; omega⟩
  | part a i ih => intro h; simp only [Am.ok] at h; obtain ⟨h1, h2⟩ := ih h.1; exact ⟨pv3 (pv_str lit) h1 (pv_int (by omega)), by have := wd3 (.str "part") a.d (.int i); have := wd_str (s := "part") lit; have := wd_i (i := i) (by omega); simp only [Am.d, Am.sz]; omega⟩
  | plus a b iha ihb => intro h; simp only [Am.ok] at h; obtain ⟨h1, h2⟩ := iha h.1; obtain ⟨h3, h4⟩ := ihb h.2; exact ⟨pv3 (pv_str lit) (pv_up _ _ _ (by simp only [Am.dep]; omega) h1) (pv_up _ _ _ (by simp only [Am.dep]; omega) h3), by have := wd3 (.str "plus") a.d b.d; have := wd_str (s := "plus") lit; simp only [Am.d, Am.sz]; omega⟩
  | less a b iha ihb => intro h; simp only [Am.ok] at h; obtain ⟨h1, h2⟩ := iha h.1; obtain ⟨h3, h4⟩ := ihb h.2; exact ⟨pv3 (pv_str lit) (pv_up _ _ _ (by simp only [Am.dep]; omega) h1) (pv_up _ _ _ (by simp only [Am.dep]; omega) h3), by have := wd3 (.str "less") a.d b.d; have := wd_str (s := "less") lit; simp only [Am.d, Am.sz]; omega⟩
  | least a b iha ihb => intro h; simp only [Am.ok] at h; obtain ⟨h1, h2⟩ := iha h.1; obtain ⟨h3, h4⟩ := ihb h.2; exact ⟨pv3 (pv_str lit) (pv_up _ _ _ (by simp only [Am.dep]; omega) h1) (pv_up _ _ _ (by simp only [Am.dep]; omega) h3), by have := wd3 (.str "least") a.d b.d; have := wd_str (s := "least") lit; simp only [Am.d, Am.sz]; omega⟩
  | most a b iha ihb => intro h; simp only [Am.ok] at h; obtain ⟨h1, h2⟩ := iha h.1; obtain ⟨h3, h4⟩ := ihb h.2; exact ⟨pv3 (pv_str lit) (pv_up _ _ _ (by simp only [Am.dep]; omega) h1) (pv_up _ _ _ (by simp only [Am.dep]; omega) h3), by have := wd3 (.str "most") a.d b.d; have := wd_str (s := "most") lit; simp only [Am.d, Am.sz]; omega⟩
theorem Cn.val {n : Nat} {ts : List Str} (ht : ∀ t ∈ ts, strN t) : ∀ c : Cn, c.ok n ts → c.d.pv (c.dep + 1) ∧ wd c.d ≤ 2000 * c.sz := by
  intro c
  induction c with
  | tru => intro h; exact ⟨fun d hd => by rw [List.mem_singleton.mp hd]; exact pv_str lit, by decide +kernel⟩
  | is a b => intro h; simp only [Cn.ok] at h; obtain ⟨h1, h2⟩ := Am.val ht a h.1; obtain ⟨h3, h4⟩ := Am.val ht b h.2; exact ⟨pv3 (pv_str lit) (pv_up _ _ _ (by simp only [Cn.dep]; omega) h1) (pv_up _ _ _ (by simp only [Cn.dep]; omega) h3), by have := wd3 (.str "is") a.d b.d; have := wd_str (s := "is") lit; simp only [Cn.d, Cn.sz]; omega⟩
  | lt a b => intro h; simp only [Cn.ok] at h; obtain ⟨h1, h2⟩ := Am.val ht a h.1; obtain ⟨h3, h4⟩ := Am.val ht b h.2; exact ⟨pv3 (pv_str lit) (pv_up _ _ _ (by simp only [Cn.dep]; omega) h1) (pv_up _ _ _ (by simp only [Cn.dep]; omega) h3), by have := wd3 (.str "below") a.d b.d; have := wd_str (s := "below") lit; simp only [Cn.d, Cn.sz]; omega⟩
  | not c ih => intro h; simp only [Cn.ok] at h; obtain ⟨h1, h2⟩ := ih h; exact ⟨pv2 (pv_str lit) h1, by have := wd2 (.str "not") c.d; have := wd_str (s := "not") lit; simp only [Cn.d, Cn.sz]; omega⟩
  | both a b iha ihb => intro h; simp only [Cn.ok] at h; obtain ⟨h1, h2⟩ := iha h.1; obtain ⟨h3, h4⟩ := ihb h.2; exact ⟨pv3 (pv_str lit) (pv_up _ _ _ (by simp only [Cn.dep]; omega) h1) (pv_up _ _ _ (by simp only [Cn.dep]; omega) h3), by have := wd3 (.str "both") a.d b.d; have := wd_str (s := "both") lit; simp only [Cn.d, Cn.sz]; omega⟩
  | either a b iha ihb => intro h; simp only [Cn.ok] at h; obtain ⟨h1, h2⟩ := iha h.1; obtain ⟨h3, h4⟩ := ihb h.2; exact ⟨pv3 (pv_str lit) (pv_up _ _ _ (by simp only [Cn.dep]; omega) h1) (pv_up _ _ _ (by simp only [Cn.dep]; omega) h3), by have := wd3 (.str "either") a.d b.d; have := wd_str (s := "either") lit; simp only [Cn.d, Cn.sz]; omega⟩
theorem Am.isTup (a : Am) : ∃ l, a.d = .tup l ∧ l ≠ [] := by cases a <;> exact ⟨_, rfl, by simp⟩
theorem Cn.isTup (a : Cn) : ∃ l, a.d = .tup l ∧ l ≠ [] := by cases a <;> exact ⟨_, rfl, by simp⟩
/-- the facts' names -/
def fnS (n : Nat) : List Str := (List.range n).map fun k => Str.ofString (nmS k)
theorem fnS_d {fs : List Fc} (hn : named fs) : fs.map (fun f => f.n) = (fnS fs.length).map .str := by
  apply List.ext_getElem?
  intro i
  rw [List.getElem?_map, List.getElem?_map]
  unfold fnS
  rw [List.getElem?_map]
  cases h : fs[i]? with
  | none =>
    have : fs.length ≤ i := List.getElem?_eq_none_iff.mp h
    rw [List.getElem?_eq_none (by simpa using this)]; rfl
  | some f =>
    have hi : i < fs.length := (List.getElem?_eq_some_iff.mp h).1
    rw [List.getElem?_range hi]
    simp only [Option.map_some]
    rw [hn i f h]; rfl
theorem fine_fn {n : Nat} (h : n ≤ 3) : fineW (fnS n) := by
  have w : ∀ k < 3, wordB (Str.ofString (nmS k)) = true := by decide +kernel
  refine ⟨by simp [fnS]; omega, fun s hs => ?_⟩
  obtain ⟨k, hk, rfl⟩ := List.mem_map.mp hs
  exact ⟨w k (by have := List.mem_range.mp hk; omega), strN_nm k⟩
theorem fine_pq : fineW ["pp", "qq"] := by
  have w : ∀ s ∈ (["pp", "qq"] : List Str), wordB s = true := by decide +kernel
  refine ⟨by decide, fun s hs => ⟨w s hs, ?_⟩⟩
  simp only [List.mem_cons, List.not_mem_nil, or_false] at hs
  rcases hs with rfl | rfl
  · exact lit
  · exact lit
def dp : Nat → D
  | 0 => .tup [.str "num", .int 1]
  | n + 1 => .tup [.str "times", .int 1, dp n]
def lw : Nat → D
  | 0 => .tup [.str "true"]
  | n + 1 => .tup [.str "not", lw n]
theorem dp_ok : ∀ n, (dp n).pv (n + 1) ∧ wd (dp n) ≤ 1000 * (n + 1)
  | 0 => ⟨pv2 (pv_str lit) (pv_int (by decide)), by decide +kernel⟩
  | n + 1 => ⟨pv3 (pv_str lit) (pv_int (by decide)) (dp_ok n).1, by
      have := (dp_ok n).2
      have := wd3 (.str "times") (.int 1) (dp n)
      have := wd_str (s := "times") lit
      have := wd_i (i := 1) (by decide)
      simp only [dp]; omega⟩
theorem lw_ok : ∀ n, (lw n).pv (n + 1) ∧ wd (lw n) ≤ 1000 * (n + 1)
  | 0 => ⟨fun d hd => by rw [List.mem_singleton.mp hd]; exact pv_str lit, by decide +kernel⟩
  | n + 1 => ⟨pv2 (pv_str lit) (lw_ok n).1, by
      have := (lw_ok n).2
      have := wd2 (.str "not") (lw n)
      have := wd_str (s := "not") lit
      simp only [lw]; omega⟩
/-- parts of the values tried -/
def Bv (d : D) : Prop := d.nv 30 ∧ wd d ≤ 150000
theorem Bv.of {n : Nat} {d : D} (h : d.pv n ∧ wd d ≤ 150000) (hn : n ≤ 30) : Bv d := ⟨nv_mono n 30 d hn (pv_nv n d h.1), h.2⟩
def VV (d : D) : Prop := Val 31 600000 d
theorem vv_of {d : D} (h : Bv d) : VV d := .inl ⟨nv_mono 30 31 d (by omega) h.1, by have := h.2; omega⟩
theorem bv_s {s : Str} (h : strN s) : Bv (.str s) := ⟨h, by have := wd_str h; omega⟩
theorem bv_i {i : Int} (h : i.natAbs < 10 ^ 20) : Bv (.int i) := ⟨h, by have := wd_int h; omega⟩
theorem bv_b (b : Bool) : Bv (.bl b) := ⟨True.intro, by have := wd_bl b; omega⟩
theorem vv2 {a b : D} (h1 : Bv a) (h2 : Bv b) : VV (.tup [a, b]) := .inl ⟨fun d hd => by
  simp only [List.mem_cons, List.not_mem_nil, or_false] at hd
  rcases hd with rfl | rfl
  · exact h1.1
  · exact h2.1, by have := wd2 a b; have := h1.2; have := h2.2; omega⟩
theorem vv3 {a b c : D} (h1 : Bv a) (h2 : Bv b) (h3 : Bv c) : VV (.tup [a, b, c]) := .inl ⟨fun d hd => by
  simp only [List.mem_cons, List.not_mem_nil, or_false] at hd
  rcases hd with rfl | rfl | rfl
  · exact h1.1
  · exact h2.1
  · exact h3.1, by have := wd3 a b c; have := h1.2; have := h2.2; have := h3.2; omega⟩
theorem vv_lst {l : List D} (h : Bv (.tup l)) : VV (.lst l) := .inl ⟨fun d hd => nv_mono 29 30 d (by omega) (h.1 d hd), by have := wd_lst l; have := wd_tup l; have := h.2; omega⟩
theorem vv_add {l : List D} (h : Bv (.tup l)) : VV (.tup (l ++ [.int 0])) := by
  refine .inl ⟨fun d hd => ?_, ?_⟩
  · rcases List.mem_append.mp hd with hd | hd
    · exact nv_mono 29 30 d (by omega) (h.1 d hd)
    · rw [List.mem_singleton.mp hd]; show (0 : Int).natAbs < 10 ^ 20; decide
  · have h1 := wd_tup l
    have h2 := h.2
    have h3 := mk_le (l ++ [D.int 0]).length
    have h4 := wd_int (i := 0) (by decide)
    rw [wd_tup, wl_app, wl_cons, wl_nil]; omega
theorem vv_sub {l m : List D} (h : Bv (.tup l)) (hs : m.Sublist l) : VV (.tup m) := by
  refine .inl ⟨fun d hd => nv_mono 29 30 d (by omega) (h.1 d (hs.mem hd)), ?_⟩
  have h1 := wd_tup l
  have h2 := h.2
  have h3 := mk_le m.length
  have h4 := wl_sub hs
  rw [wd_tup]; omega
theorem VV.vl {d : D} (h : VV d) : Vl d := by
  rcases h with ⟨h, _⟩ | rfl
  · exact .inl ⟨31, by omega, h⟩
  · exact .inr rfl
end K03
namespace K03
open PySem Q
theorem okS_bb (x y : Bool) : (D.lst [.bl x, .bl y]).okS 2 := ⟨by simp, fun d hd => by
  simp only [List.mem_cons, List.not_mem_nil, or_false] at hd
  rcases hd with rfl | rfl <;> exact True.intro⟩
theorem own_strs (fn : List Str) : isOwnD (some (.own (strsD fn))) = false := rfl
theorem w_b3 {fn ts : List Str} (hf : fineW fn) (ht : fineW ts) {v : D} (hv : VV v) {S : Sto} (hS : Pool S) {x0 x1 x2 x5 x6 x7 x8 x9 x10 x11 x13 x14 : Sl} {Z : Ends} {x4 : Sl} (h4 : x4 = .val (strsD fn) ∨ x4 = .own (strsD fn))
    (hZ : ∀ x4 x13, (x4 = .val (strsD fn) ∨ x4 = .own (strsD fn)) → Z.nx [x0, x1, x2, .val (strsD ts), x4, x5, x6, x7, x8, x9, x10, x11, .val v, x13, x14] S) :
    wSs (Cl g.T 59) i_law_b3 [x0, x1, x2, .val (strsD ts), x4, x5, x6, x7, x8, x9, x10, x11, .val v, x13, x14] S Z := by
  have hvl := hv.vl
  rcases h4 with rfl | rfl
  · simp_arith only [i_law_b3]
    refine repr_val hv (by omega) (by rw [sizeL]; omega) ?_
    try simp_arith only [true_and]
    refine w_is_amount T_is_amount T_is_tuple T_is_word T_is_small T_is_integer hf ht 21 35 v _ 0 (by omega) hvl ?_
    try simp_arith only [true_and]
    refine w_is_condition T_is_condition T_is_amount T_is_tuple T_is_word T_is_small T_is_integer hf ht 21 35 v _ 0 (by omega) hvl ?_
    try simp_arith only [true_and]
    refine w_fine T__law_fine hf ht 21 35 false v _ 0 (by omega) hvl ?_
    try simp_arith only [true_and]
    refine w_fine T__law_fine hf ht 21 35 true v _ 0 (by omega) hvl ?_
    try simp_arith only [true_and]
    refine w_same T__law_same 2 (k := 57) (okS_bb _ _) ?_
    try simp_arith only [true_and]
    refine repr_val hv (by omega) (by rw [sizeL]; omega) ?_
    simp_arith only [beq_self_eq_true]
    exact hZ _ _ (.inl rfl)
  · simp_arith only [i_law_b3]
    refine repr_val hv (by omega) (by rw [sizeL]; omega) ?_
    try simp_arith only [true_and]
    have own4 : ∀ (i : Nat), i ∈ [4] → ∃ d, [x0, x1, x2, Sl.val (strsD ts), .own (strsD fn), x5, x6, x7, x8, x9, x10, x11, .val v, .val (.str v.py.shown), x14][i]? = some (.own d) := fun i hi => by
      rw [List.mem_singleton.mp hi]; exact ⟨_, rfl⟩
    refine ⟨own4, ?_⟩
    refine w_is_amount T_is_amount T_is_tuple T_is_word T_is_small T_is_integer hf ht 21 35 v _ 0 (by omega) hvl ?_
    simp_arith only [pool_flat hS, own_strs, reduceCtorEq, and_false, or_self, freezeAll, freezeAt, List.foldl_cons, List.foldl_nil]
    refine w_is_condition T_is_condition T_is_amount T_is_tuple T_is_word T_is_small T_is_integer hf ht 21 35 v _ 0 (by omega) hvl ?_
    try simp_arith only [true_and]
    refine w_fine T__law_fine hf ht 21 35 false v _ 0 (by omega) hvl ?_
    try simp_arith only [true_and]
    refine w_fine T__law_fine hf ht 21 35 true v _ 0 (by omega) hvl ?_
    try simp_arith only [true_and]
    refine w_same T__law_same 2 (k := 57) (okS_bb _ _) ?_
    try simp_arith only [true_and]
    refine repr_val hv (by omega) (by rw [sizeL]; omega) ?_
    simp_arith only [beq_self_eq_true]
    exact hZ _ _ (.inl rfl)
end K03
namespace K03
open PySem Q
def tried : IEs := (.cons (.loc 5) (.cons (.loc 6) (.cons (.blt "list" (.cons (.loc 5) .nil)) (.cons (.blt "list" (.cons (.loc 6) .nil)) (.cons (.bin .add (.loc 5) (.tup (.cons (.cst (.int 0)) .nil))) (.cons (.slcE (.loc 6) .no (.so (.neg (.cst (.int 1))))) (.cons (.tup (.cons (.cst (.str "num")) (.cons (.cst (.int 1000000)) .nil))) (.cons (.tup (.cons (.cst (.str "num")) (.cons (.cst (.int 1000001)) .nil))) (.cons (.tup (.cons (.cst (.str "num")) (.cons (.neg (.cst (.int 1000001))) .nil))) (.cons (.tup (.cons (.cst (.str "num")) (.cons (.cst (.bl true)) .nil))) (.cons (.tup (.cons (.cst (.str "fact")) (.cons (.cst (.str "zz")) .nil))) (.cons (.tup (.cons (.cst (.str "term")) (.cons (.cst (.str "zz")) .nil))) (.cons (.tup (.cons (.cst (.str "fact")) (.cons (.cst (.str "pp")) .nil))) (.cons (.tup (.cons (.cst (.str "part")) (.cons (.loc 5) (.cons (.cst (.int 0)) .nil)))) (.cons (.tup (.cons (.cst (.str "part")) (.cons (.loc 5) (.cons (.cst (.int 1)) .nil)))) (.cons (.tup (.cons (.cst (.str "part")) (.cons (.loc 5) (.cons (.cst (.bl true)) .nil)))) (.cons (.tup (.cons (.cst (.str "times")) (.cons (.loc 5) (.cons (.cst (.int 2)) .nil)))) (.cons (.tup (.cons (.cst (.str "times")) (.cons (.cst (.int 2)) (.cons (.loc 5) .nil)))) (.cons (.tup (.cons (.cst (.str "times")) (.cons (.cst (.int 1000001)) (.cons (.loc 5) .nil)))) (.cons (.tup (.cons (.cst (.str "plus")) (.cons (.loc 5) .nil))) (.cons (.tup (.cons (.cst (.str "plus")) (.cons (.loc 5) (.cons (.loc 6) .nil)))) (.cons (.tup (.cons (.cst (.str "is")) (.cons (.loc 5) (.cons (.loc 6) .nil)))) (.cons (.tup (.cons (.cst (.str "not")) (.cons (.loc 5) .nil))) (.cons (.tup (.cons (.cst (.str "both")) (.cons (.loc 5) (.cons (.loc 5) .nil)))) (.cons (.tup (.cons (.cst (.str "true")) (.cons (.cst (.int 1)) .nil))) (.cons (.tup (.cons (.cst (.str "either")) (.cons (.loc 6) (.cons (.loc 6) .nil)))) (.cons (.tup (.cons (.cst (.str "below")) (.cons (.loc 5) (.cons (.loc 5) .nil)))) .nil)))))))))))))))))))))))))))
theorem r3_eq : i_law_r3 = (.cons (.asg (.nm 8) (.lst tried))
  (.cons (.par 9 10 (.tup (.cons (.cst (.str "num")) (.cons (.cst (.int 1)) .nil))) (.tup (.cons (.cst (.str "true")) .nil)))
  (.cons (.fors (.nm 11) (.rng (.cst (.int 0)) (.cst (.int 19))) i_law_b1)
  i_law_r2))) := rfl
section
variable {L : Lo} {S : Sto}
def EvB (L : Lo) (S : Sto) (e : IE) : Prop := ∃ d, Bv d ∧ ∀ K : KE, (∀ f, K d f L S) → wE (Cl g.T 59) e L S K
def EvV (L : Lo) (S : Sto) (e : IE) : Prop := ∃ d, VV d ∧ ∀ K : KE, (∀ f, K d f L S) → wE (Cl g.T 59) e L S K
def TrV (L : Lo) (S : Sto) (l : IEs) (n : Nat) : Prop := ∀ P : List D → Lo → Sto → Prop, (∀ ds : List D, (∀ d ∈ ds, VV d) → ds.length = n → P ds L S) → wEs (Cl g.T 59) l L S P
theorem eb_c {d : D} (h : Bv d) : EvB L S (.cst d) := ⟨d, h, fun K hK => hK _⟩
theorem eb_neg {i : Int} (h : Bv (.int (-i))) : EvB L S (.neg (.cst (.int i))) := ⟨_, h, fun K hK => by simp_arith only [true_and]; exact hK _⟩
theorem eb_l {i : Nat} {d : D} (e : L[i]? = some (.val d)) (h : Bv d) : EvB L S (.loc i) := ⟨d, h, fun K hK => by rw [wE_loc, e]; exact hK _⟩
theorem ev_l {i : Nat} {d : D} (e : L[i]? = some (.val d)) (h : VV d) : EvV L S (.loc i) := ⟨d, h, fun K hK => by rw [wE_loc, e]; exact hK _⟩
theorem ev2 {a b : IE} (ha : EvB L S a) (hb : EvB L S b) : EvV L S (.tup (.cons a (.cons b .nil))) := by
  obtain ⟨x, x1, x2⟩ := ha
  obtain ⟨y, y1, y2⟩ := hb
  refine ⟨.tup [x, y], vv2 x1 y1, fun K hK => ?_⟩
  rw [wE_tup, wEs_cons]
  refine x2 _ fun _ => ?_
  rw [wEs_cons]
  refine y2 _ fun _ => ?_
  rw [wEs_nil]
  exact ⟨by simp [sizeL], hK _⟩
theorem ev3 {a b c : IE} (ha : EvB L S a) (hb : EvB L S b) (hc : EvB L S c) : EvV L S (.tup (.cons a (.cons b (.cons c .nil)))) := by
  obtain ⟨x, x1, x2⟩ := ha
  obtain ⟨y, y1, y2⟩ := hb
  obtain ⟨z, z1, z2⟩ := hc
  refine ⟨.tup [x, y, z], vv3 x1 y1 z1, fun K hK => ?_⟩
  rw [wE_tup, wEs_cons]
  refine x2 _ fun _ => ?_
  rw [wEs_cons]
  refine y2 _ fun _ => ?_
  rw [wEs_cons]
  refine z2 _ fun _ => ?_
  rw [wEs_nil]
  exact ⟨by simp [sizeL], hK _⟩
theorem tv_nil : TrV L S .nil 0 := fun P h => by rw [wEs_nil]; exact h [] (by simp) rfl
theorem tv_cons {e : IE} {l : IEs} {n : Nat} (he : EvV L S e) (hl : TrV L S l n) : TrV L S (.cons e l) (n + 1) := fun P h => by
  obtain ⟨d, d1, d2⟩ := he
  rw [wEs_cons]
  refine d2 _ fun _ => ?_
  refine hl _ fun ds v1 v2 => h (d :: ds) (fun x hx => (List.mem_cons.mp hx).elim (fun e => by rw [e]; exact d1) (v1 x)) (by rw [List.length_cons, v2])
theorem tried_ok {la lc : List D} (h5 : L[5]? = some (.val (.tup la))) (h6 : L[6]? = some (.val (.tup lc))) (ba : Bv (.tup la)) (bc : Bv (.tup lc)) : TrV L S tried 27 := by
  have A : EvB L S (.loc 5) := eb_l h5 ba
  have Cc : EvB L S (.loc 6) := eb_l h6 bc
  have st : ∀ s : String, (Str.ofString s).length ≤ 60 → EvB L S (.cst (.str s)) := fun s hs => eb_c (bv_s (lit hs))
  have it : ∀ i : Int, i.natAbs < 10 ^ 20 → EvB L S (.cst (.int i)) := fun i hi => eb_c (bv_i hi)
  have bt : EvB L S (.cst (.bl true)) := eb_c (bv_b _)
  have len : la.length ≤ 100000 := by have h1 := ba.2; have h2 := wd_tup la; have h3 := len_wl la; omega
  unfold tried
  refine tv_cons (ev_l h5 (vv_of ba)) (tv_cons (ev_l h6 (vv_of bc)) ?_)
  refine tv_cons ⟨.lst la, vv_lst ba, fun K hK => ?_⟩ (tv_cons ⟨.lst lc, vv_lst bc, fun K hK => ?_⟩ ?_)
  · simp_arith only [h5]; exact hK _
  · simp_arith only [h6]; exact hK _
  refine tv_cons ⟨.tup (la ++ [.int 0]), vv_add ba, fun K hK => ?_⟩ (tv_cons ⟨.tup (cut lc none (some (-1))), vv_sub bc (by unfold cut; exact (List.take_sublist _ _).trans (List.drop_sublist _ _)), fun K hK => ?_⟩ ?_)
  · simp_arith only [h5]; exact ⟨by rw [sizeL]; omega, hK _⟩
  · simp_arith only [h6]; exact hK _
  refine tv_cons (ev2 (st _ (by decide)) (it _ (by decide))) (tv_cons (ev2 (st _ (by decide)) (it _ (by decide))) ?_)
  refine tv_cons (ev2 (st _ (by decide)) (eb_neg (bv_i (by decide)))) (tv_cons (ev2 (st _ (by decide)) bt) ?_)
  refine tv_cons (ev2 (st _ (by decide)) (st _ (by decide))) (tv_cons (ev2 (st _ (by decide)) (st _ (by decide))) (tv_cons (ev2 (st _ (by decide)) (st _ (by decide))) ?_))
  refine tv_cons (ev3 (st _ (by decide)) A (it _ (by decide))) (tv_cons (ev3 (st _ (by decide)) A (it _ (by decide))) (tv_cons (ev3 (st _ (by decide)) A bt) ?_))
  refine tv_cons (ev3 (st _ (by decide)) A (it _ (by decide))) (tv_cons (ev3 (st _ (by decide)) (it _ (by decide)) A) (tv_cons (ev3 (st _ (by decide)) (it _ (by decide)) A) ?_))
  refine tv_cons (ev2 (st _ (by decide)) A) (tv_cons (ev3 (st _ (by decide)) A Cc) (tv_cons (ev3 (st _ (by decide)) A Cc) ?_))
  refine tv_cons (ev2 (st _ (by decide)) A) (tv_cons (ev3 (st _ (by decide)) A A) (tv_cons (ev2 (st _ (by decide)) (it _ (by decide))) ?_))
  exact tv_cons (ev3 (st _ (by decide)) Cc Cc) (tv_cons (ev3 (st _ (by decide)) A A) tv_nil)
end
theorem loop1 {S : Sto} {x0 x1 x2 x3 x4 x5 x6 x7 x8 x12 x13 x14 : Sl} {Z : Ends} : ∀ (ds : List D) (j : Nat) (x11 : Sl), (∀ x11, Z.nx [x0, x1, x2, x3, x4, x5, x6, x7, x8, .val (dp (j + ds.length)), .val (lw (j + ds.length)), x11, x12, x13, x14] S) →
    forL (wG (.nm 11)) (wSs (Cl g.T 59) i_law_b1) Z ds [x0, x1, x2, x3, x4, x5, x6, x7, x8, .val (dp j), .val (lw j), x11, x12, x13, x14] S := by
  intro ds
  induction ds with
  | nil => intro j x11 h; simp only [forL]; exact h x11
  | cons d ds ih =>
    intro j x11 h
    simp_arith only [forL, i_law_b1]
    refine ih (j + 1) _ fun x11 => ?_
    have := h x11
    rw [List.length_cons, show j + (ds.length + 1) = j + 1 + ds.length by omega] at this
    exact this
theorem loop2 {S : Sto} {x0 x1 x2 x3 x4 x5 x6 x7 x12 x13 x14 : Sl} {Z : Ends} : ∀ (ds : List D) (j : Nat) (vs : List D) (x11 : Sl), j + ds.length ≤ 25 → vs.length + 4 * ds.length ≤ 1000 → (∀ d ∈ vs, VV d) → (∀ vs x9 x10 x11, (∀ d ∈ vs, VV d) → vs.length ≤ 1000 → Z.nx [x0, x1, x2, x3, x4, x5, x6, x7, .own (.lst vs), x9, x10, x11, x12, x13, x14] S) →
    forL (wG (.nm 11)) (wSs (Cl g.T 59) i_law_b2) Z ds [x0, x1, x2, x3, x4, x5, x6, x7, .own (.lst vs), .val (dp j), .val (lw j), x11, x12, x13, x14] S := by
  intro ds
  induction ds with
  | nil => intro j vs x11 _ hl hv h; simp only [forL]; exact h vs _ _ x11 hv (by simpa using hl)
  | cons d ds ih =>
    intro j vs x11 hj hl hv h
    simp only [List.length_cons] at hj hl
    have d1 : Bv (dp j) := .of ⟨(dp_ok j).1, by have := (dp_ok j).2; omega⟩ (by omega)
    have d2 : Bv (lw j) := .of ⟨(lw_ok j).1, by have := (lw_ok j).2; omega⟩ (by omega)
    have z : Bv (.tup [.str "num", .int 0]) := .of (n := 1) ⟨pv2 (pv_str lit) (pv_int (by decide)), by decide +kernel⟩ (by omega)
    simp_arith only [forL, i_law_b2]
    refine ⟨by simp [sizeL]; omega, ?_⟩
    refine ih (j + 1) _ _ (by omega) (by simp; omega) (fun x hx => ?_) h
    rcases List.mem_append.mp hx with hx | hx
    · exact hv x hx
    · simp only [List.mem_cons, List.not_mem_nil, or_false] at hx
      rcases hx with rfl | rfl | rfl | rfl
      · exact vv_of d1
      · exact vv_of d2
      · exact vv3 (bv_s lit) d1 z
      · exact vv3 (bv_s lit) z d1
theorem loop3 {fn ts : List Str} (hf : fineW fn) (ht : fineW ts) {S : Sto} (hS : Pool S) {x0 x1 x2 x5 x6 x7 x8 x9 x10 x11 x14 : Sl} {Z : Ends} (hZ : ∀ x4 x12 x13, Z.nx [x0, x1, x2, .val (strsD ts), x4, x5, x6, x7, x8, x9, x10, x11, x12, x13, x14] S) :
    ∀ (ds : List D) (x4 x12 x13 : Sl), (x4 = .val (strsD fn) ∨ x4 = .own (strsD fn)) → (∀ d ∈ ds, VV d) → forL (wG (.nm 12)) (wSs (Cl g.T 59) i_law_b3) Z ds [x0, x1, x2, .val (strsD ts), x4, x5, x6, x7, x8, x9, x10, x11, x12, x13, x14] S := by
  intro ds
  induction ds with
  | nil => intro x4 x12 x13 _ _; simp only [forL]; exact hZ _ _ _
  | cons d ds ih =>
    intro x4 x12 x13 h4 hd
    unfold forL
    show wSs (Cl g.T 59) i_law_b3 [x0, x1, x2, .val (strsD ts), x4, x5, x6, x7, x8, x9, x10, x11, .val d, x13, x14] S _
    exact w_b3 hf ht (hd d (by simp)) hS h4 fun x4 x13 h4 => ih x4 _ x13 h4 fun x hx => hd x (by simp [hx])
end K03
namespace K03
open PySem Q
theorem okS_ss (ys zs : List Str) (h1 : ys.length < 4000) (h2 : zs.length < 4000) : (D.lst [.lst (ys.map .str), .lst (zs.map .str)]).okS 3 := by
  have one : ∀ (l : List Str), l.length < 4000 → (D.lst (l.map .str)).okS 2 := fun l hl => ⟨by simp; omega, fun d hd => by
    obtain ⟨x, _, rfl⟩ := List.mem_map.mp hd; exact True.intro⟩
  refine ⟨by simp, fun d hd => ?_⟩
  simp only [List.mem_cons, List.not_mem_nil, or_false] at hd
  rcases hd with rfl | rfl
  · exact one _ h1
  · exact one _ h2
theorem w_b0 {p : Pt} (hp : p.sz < 4000) (hN : ∀ P : D → Sto → Prop, ∀ S : Sto, (∀ l : List Str, l.length ≤ p.sz → (∀ t, t ∈ l ↔ t ∈ p.tms) → P (.lst (l.map .str)) S) → Cl g.T 59 "_law_names" [p.d, .str "term"] S P)
    (hF : ∀ P : D → Sto → Prop, ∀ S : Sto, (∀ l : List Str, l.length ≤ p.sz → (∀ t, t ∈ l ↔ t ∈ p.fms) → P (.lst (l.map .str)) S) → Cl g.T 59 "_law_names" [p.d, .str "fact"] S P)
    {S : Sto} {x0 x1 x2 x3 x4 x5 x6 x8 x9 x10 x11 x12 x13 x14 : Sl} {Z : Ends} (hZ : Z.nx [x0, x1, x2, x3, x4, x5, x6, .val p.d, x8, x9, x10, x11, x12, x13, x14] S) :
    wSs (Cl g.T 59) i_law_b0 [x0, x1, x2, x3, x4, x5, x6, .val p.d, x8, x9, x10, x11, x12, x13, x14] S Z := by
  simp_arith only [i_law_b0]
  refine w_names_inF T_names_in (k := 58) hp fun ys y0 y1 y2 y3 => ?_
  try simp_arith only [true_and]
  refine w_names_inS T_names_in (k := 58) hp fun zs z0 z1 z2 z3 => ?_
  try simp_arith only [true_and]
  refine hF _ S fun l hl hm => ?_
  simp_arith only [sortsetP, allS_strs]
  refine ⟨by omega, fun ws w0 w1 w2 => ?_⟩
  try simp_arith only [true_and]
  refine hN _ S fun l2 hl2 hm2 => ?_
  simp_arith only [sortsetP, allS_strs]
  refine ⟨by omega, fun us u0 u1 u2 => ?_⟩
  have e1 : ws = ys := sorted_uniq ws ys w0 y0 w1 y1 fun t => by rw [w2 t, hm t, y2 t]
  have e2 : us = zs := sorted_uniq us zs u0 z0 u1 z1 fun t => by rw [u2 t, hm2 t, z2 t]
  subst e1; subst e2
  try simp_arith only [true_and]
  refine w_same T__law_same 3 (k := 56) (okS_ss _ _ y3 z3) ?_
  simp_arith only [true_and]
  exact hZ
theorem law_60 (ns : List Int) : Cl g.T 60 "law" [.scr ns] [] (fun r _ => r = .bl true) := by
  refine ⟨_, T_law, rfl, ?_⟩
  simp_arith only [f_law, i_law]
  apply w_pool T__law_pool
  intro S1 hS1
  simp_arith only [i_law_r7]
  refine w_law_factsN T__law_facts T__law_draw T__law_spread (most := 3) (by decide) hS1 ?_
  intro fs S2 hl hff hn hS2
  simp_arith only [i_law_r6]
  refine ⟨by simp, compL_m Fc.d (fun f => f.n) fs (by rw [sizeL]; omega) ?_ ?_⟩
  · intro x hx K acc ha hK
    simp_arith only [Fc.d]
    exact ⟨ha, hK⟩
  rw [fnS_d hn]
  simp_arith only [i_law_r5]
  have own3 : ∀ (N : D) (i : Nat), i ∈ [3] → ∃ d, [Sl.val (.scr ns), .val (.obj 0), .val (.tup (fs.map Fc.d)), .own (.lst [.str "pp", .str "qq"]), .own N, .no, .no, .no, .no, .no, .no, .no, .no, .no, .no][i]? = some (.own d) := fun N i hi => by
    rw [List.mem_singleton.mp hi]; exact ⟨_, rfl⟩
  refine ⟨own3 _, ?_⟩
  refine w_law_amount T__law_amount T__law_draw T__law_spread hn (by omega) (ts := ["pp", "qq"]) (by decide) 3 59 S2 _ hS2 (by decide) fun a S3 oa da hS3 => ?_
  simp_arith only [pool_flat hS3, isOwnD, reduceCtorEq, and_false, or_self, freezeAll, freezeAt, List.foldl_cons, List.foldl_nil]
  refine w_law_condition T__law_condition T__law_amount T__law_draw T__law_spread hn (by omega) (ts := ["pp", "qq"]) (by decide) 3 59 S3 _ hS3 (by decide) fun c S4 oc dc hS4 => ?_
  simp_arith only [i_law_r4, forL]
  have sa : a.sz ≤ 15 := by have := Am.sz_le a; have h2 : 2 ^ (a.dep + 1) ≤ 2 ^ 4 := Nat.pow_le_pow_right (by decide) (by omega); omega
  have sc : c.sz ≤ 63 := by have := Cn.sz_le c; have h2 : 2 ^ (c.dep + 1) ≤ 2 ^ 6 := Nat.pow_le_pow_right (by decide) (by omega); omega
  refine w_b0 (p := .a a) (by simp only [Pt.sz]; omega) (fun P S h => w_law_namesA T__law_names a 59 P (by omega) (by omega) h) (fun P S h => w_law_fnamesA T__law_names a 59 P (by omega) (by omega) h) ?_
  simp_arith only [true_and]
  refine w_b0 (p := .c c) (by simp only [Pt.sz]; omega) (fun P S h => w_law_namesC T__law_names c 59 P (by omega) (by omega) h) (fun P S h => w_law_fnamesC T__law_names c 59 P (by omega) (by omega) h) ?_
  have tpq : ∀ t ∈ (["pp", "qq"] : List Str), strN t := fun t ht => (fine_pq.2 t ht).2
  obtain ⟨pa, wa⟩ := Am.val tpq a oa
  obtain ⟨pc, wc⟩ := Cn.val tpq c oc
  obtain ⟨la, ea, na⟩ := Am.isTup a
  obtain ⟨lc, ec, nc⟩ := Cn.isTup c
  rw [ea] at pa wa
  rw [ec] at pc wc
  rw [Pt.d_c, ea, ec]
  have ba : Bv (.tup la) := .of ⟨pa, by omega⟩ (by omega)
  have bc : Bv (.tup lc) := .of ⟨pc, by omega⟩ (by omega)
  have pa7 : (D.tup la).pv 7 := pv_up _ _ _ (by omega) pa
  have pc7 : (D.tup lc).pv 7 := pv_up _ _ _ (by omega) pc
  have hfn := fine_fn hl
  dsimp only
  rw [r3_eq, wSs_cons, wS_asg, wE_lst]
  refine tried_ok rfl rfl ba bc _ fun vs v1 v2 => ⟨by rw [sizeL]; omega, ?_⟩
  have l0 : lim62 0 := lim_0
  have l19 : lim62 19 := by unfold lim62; decide
  have l3 : lim62 3 := by unfold lim62; decide
  simp_arith only [l0, l19]
  refine loop1 (rngList 0 (19 - 0 : Int).toNat) 0 .no fun x11 => ?_
  simp_arith only [i_law_r2, l0, l3]
  have r19 : (rngList 0 (19 - 0 : Int).toNat).length = 19 := by decide
  have r3 : (rngList 0 (3 - 0 : Int).toNat).length = 3 := by decide
  rw [r19]
  refine loop2 (rngList 0 (3 - 0 : Int).toNat) (0 + 19) vs x11 (by rw [r3]; omega) (by rw [r3]; omega) v1 fun us x9 x10 x11 u1 u2 => ?_
  simp_arith only [i_law_r1]
  refine w_bent T__law_bent T__law_spots T__law_spot T__law_spot_put T__law_bent_spot T__law_odd_values T__law_pick T__law_draw T__law_spread (n := 6) (k := 44) (m := 6) hS4 (by omega) (by omega) na pa7 (by omega) fun b1 S5 b1v b1l hS5 => ?_
  try simp_arith only [true_and]
  refine ⟨by rw [sizeL]; omega, ?_⟩
  refine w_bent T__law_bent T__law_spots T__law_spot T__law_spot_put T__law_bent_spot T__law_odd_values T__law_pick T__law_draw T__law_spread (n := 6) (k := 44) (m := 6) hS5 (by omega) (by omega) nc pc7 (by omega) fun b2 S6 b2v b2l hS6 => ?_
  simp_arith only [true_and]
  refine ⟨by rw [sizeL, List.length_append]; omega, ?_⟩
  refine w_odd T__law_odd_values (k := 58) ?_
  have lo : oddV.length = 21 := rfl
  simp_arith only [true_and]
  refine ⟨by rw [sizeL, List.length_append, List.length_append, lo]; omega, ?_⟩
  refine loop3 (fn := fnS fs.length) (ts := ["pp", "qq"]) hfn fine_pq hS6 (fun x4 x12 x13 => ?_) _ _ _ _ (.inr rfl) fun d hd => ?_
  · simp_arith only [i_law_r0]
  · rcases List.mem_append.mp hd with hd | hd
    · rcases List.mem_append.mp hd with hd | hd
      · rcases List.mem_append.mp hd with hd | hd
        · exact u1 d hd
        · exact (b1v d hd).mono (by omega) (by omega)
      · exact (b2v d hd).mono (by omega) (by omega)
    · exact (odd_val d hd).mono (by omega) (by omega)
def lev : Nat := 60
theorem law_pure : ∀ ns : List Int, ns.length ≤ 63 → Cl g.T lev "law" [.scr ns] [] (fun r _ => r = .bl true) := fun ns _ => law_60 ns
end K03
open PySem PySem.W PySem.Calls PyProof.Rows
set_option maxHeartbeats 0 in
theorem PySem.Challenge.cw_casesruled_k03_amounts_told_holds : PySem.Challenge.rw_casesruled_k03_amounts_told.Holds := by
  w_on; o_law
  refine HandSHeadRun.head_any (r := OpenLaw.row PySem.Challenge.rw_casesruled_k03_amounts_told) (q := view (OpenLaw.row PySem.Challenge.rw_casesruled_k03_amounts_told).prog [33]) (H := K03.hk) (ob := K03.ob) (M := 20000) (loose := K03.loose) (d := HandSHeadRun.topDef (OpenLaw.row PySem.Challenge.rw_casesruled_k03_amounts_told).prog 33) (kwd := []) K03.ob_eq
    (by kernel_rfl) (fun s => by kernel_rfl) K03.run (by kernel_rfl) (by kernel_rfl) (by kernel_rfl) (by rfl) (by first | assumption | decide +kernel) (by decide +kernel) ⟨rfl, rfl, rfl, rfl, rfl, by decide +kernel⟩ ?hw ?hc
  case hw => w_witness2
  case hc =>
    exact Q.walk_Q (g := K03.g) (l := PySem.Challenge.rw_casesruled_k03_amounts_told) (e := K03.e_law) (k := K03.lev) (n := 63) K03.g_ok (by simp [K03.g]) rfl rfl rfl rfl rfl (by decide) (by kernel_rfl) (by kernel_rfl) ⟨rfl, by decide, by decide⟩ K03.flats K03.binds K03.law_pure
