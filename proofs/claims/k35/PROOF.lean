import PyProof.Rows.All
import HandS.ForMost
import HandS.Gcd
import HandS.Wide
import HandS.NoneIn
import HandS.Zip
import HandS.Deep
import HandS.TupAny
import HandS.Style
import KE.KMinKey
import HandS.SortKw
import HandS.IsInst
import PySem.Challenge.RW_threecorners_k35_whole_ford_chains
set_option Elab.async false
set_option linter.all false
set_option maxRecDepth 100000
set_option maxHeartbeats 4000000
/-! Gx, part A: plain data, the small language, its predicate transformers. -/
namespace Gx
open PySem

/-- plain data -/
inductive D where
  | non | bl (b : Bool) | int (i : Int) | str (s : Str) | tup (xs : List D) | lst (xs : List D) | hd (n : Nat)
/-- a value: shared data, or a list that nothing else holds -/
inductive Val where
  | sh (d : D) | ow (ds : List D)
def Val.d : Val → D
  | .sh d => d
  | .ow ds => .lst ds
abbrev Ev := List (Option Val)
def Ev.data (ρ : Ev) (i : Nat) : Option D := match ρ[i]? with
  | some (some v) => some v.d
  | _ => none
def Ev.shr (ρ : Ev) (i : Nat) : Option D := match ρ[i]? with
  | some (some (.sh d)) => some d
  | _ => none
def Ev.own (ρ : Ev) (i : Nat) : Option (List D) := match ρ[i]? with
  | some (some (.ow ds)) => some ds
  | _ => none

/- python's equality on plain data -/
mutual
def D.py : D → PyData
  | .non => .none
  | .bl b => .bool b
  | .int i => .int i
  | .str s => .str s
  | .tup xs => .tuple (D.pys xs)
  | .lst xs => .list (D.pys xs)
  | .hd _ => .none
def D.pys : List D → List PyData
  | [] => []
  | d :: ds => d.py :: D.pys ds
end
/- no handle within -/
mutual
def D.clean : D → Bool
  | .hd _ => false
  | .tup xs => D.cleans xs
  | .lst xs => D.cleans xs
  | _ => true
def D.cleans : List D → Bool
  | [] => true
  | d :: ds => d.clean && D.cleans ds
end

/-- two-place operators -/
inductive BO where
  | add | sub | mul | fdiv | mod | pow | shr | band
/-- comparisons -/
inductive CO where
  | eq | ne | lt | le | gt | ge | is | isnot | isin | notin
/-- what a loop walks -/
inductive IK where
  | seq | range | zip | enum | rev
/-- built-in calls -/
inductive PK where
  | len | abs | int | list | tuple | min | max | sum | gcd | isqrt | sorted | set | isinst
/-- the classes of isinstance -/
inductive TK where
  | list | tuple | str | bool | int
/-- targets -/
inductive CT where
  | var (i : Nat) | tup (ts : List CT) | bad
/-- expressions -/
inductive CE where
  | var (i : Nat)
  | cst (d : D)
  | glc (n : Nat)
  | bin (o : BO) (a b : CE)
  | neg (a : CE)
  | not (a : CE)
  | cmp (o : CO) (a b : CE)
  | chain (o1 o2 : CO) (a b c : CE)
  | and (a b : CE)
  | or (a b : CE)
  | ife (c a b : CE)
  | tup (es : List CE)
  | lst (es : List CE)
  | idx (a i : CE)
  | sl (a : CE) (lo hi : Option CE)
  | rev (a : CE)
  | call (f : Nat) (es : List CE)
  | prim (p : PK) (es : List CE)
  | comp (own : List Nat) (elt : CE) (tg : CT) (k : IK) (its : List CE) (ifs : List CE)
  | comp2 (own : List Nat) (elt : CE) (tg : CT) (k : IK) (its : List CE) (ifs : List CE) (tg2 : CT) (k2 : IK) (its2 : List CE) (ifs2 : List CE)
  | isi (t : TK) (a : CE)
  | maxK (f : Nat) (a : CE)
  | bad
/-- statements -/
inductive CS where
  | asg (t : CT) (e : CE)
  | ext (i : Nat) (e : CE)
  | pop (t i : Nat)
  | appPop (i j : Nat) (e : CE)
  | seti (i : Nat) (x e : CE)
  | app (i : Nat) (e : CE)
  | aug (i : Nat) (o : BO) (e : CE)
  | drop (i : Nat)
  | ret (e : CE)
  | retN
  | ife (c : CE) (a b : List CS)
  | fr (t : CT) (k : IK) (its : List CE) (b : List CS)
  | whl (c : CE) (b : List CS)
  | brk | cont | pass | bad

/-- a contract: what is asked of the arguments, for a wish about the answer -/
abbrev Con := List D → (Val → Prop) → Prop

/-! ### operators on data -/
/-- a product's room -/
def MulOk (i j : Int) : Prop := i.natAbs.log2 + j.natAbs.log2 < 1000000
/-- a quotient's room -/
def DivOk (j : Int) : Prop := j ≠ 0 ∧ j.natAbs.log2 < 9000
def binD (o : BO) (x y : D) (Q : Val → Prop) : Prop :=
  match o, x, y with
  | .add, .int i, .int j => Q (.sh (.int (i + j)))
  | .sub, .int i, .int j => Q (.sh (.int (i - j)))
  | .mul, .int i, .int j => MulOk i j ∧ Q (.sh (.int (i * j)))
  | .fdiv, .int i, .int j => DivOk j ∧ Q (.sh (.int (i.fdiv j)))
  | .mod, .int i, .int j => j ≠ 0 ∧ Q (.sh (.int (i.fmod j)))
  | .pow, .int i, .int j => (0 ≤ j ∧ j ≤ 1000000 ∧ i.natAbs < 2 ^ 64) ∧ Q (.sh (.int (i ^ j.toNat)))
  | .shr, .int i, .int j => 0 ≤ j ∧ Q (.sh (.int (i / 2 ^ j.toNat)))
  | .band, .int i, .int j => Q (.sh (.int (Builtin.bitAnd i j)))
  | .add, .lst xs, .lst ys => xs.length + ys.length ≤ 16777216 ∧ Q (.ow (xs ++ ys))
  | .mul, .lst xs, .int k => (0 ≤ k ∧ k ≤ 1000000 ∧ xs.length * k.toNat ≤ 16777216) ∧ Q (.ow (List.replicate k.toNat xs).flatten)
  | .add, .tup xs, .tup ys => xs.length + ys.length ≤ 16777216 ∧ Q (.sh (.tup (xs ++ ys)))
  | _, _, _ => False
def cmpI (o : CO) (i j : Int) : Bool :=
  match o with
  | .lt => decide (i < j)
  | .le => decide (i ≤ j)
  | .gt => decide (j < i)
  | .ge => decide (j ≤ i)
  | _ => false
/-- depth and cleanness for == -/
def Fine (x : D) : Prop := x.clean = true ∧ SeqAt.shaped x.py = true
def isNon : D → Option Bool
  | .non => some true
  | .hd _ => none
  | _ => some false
def cmpD (o : CO) (x y : D) (Q : Bool → Prop) : Prop :=
  match o with
  | .eq => Fine x ∧ Fine y ∧ Q (PyData.eqv x.py y.py)
  | .ne => Fine x ∧ Fine y ∧ Q (!PyData.eqv x.py y.py)
  | .is => y = .non ∧ ∃ k, isNon x = some k ∧ Q k
  | .isnot => y = .non ∧ ∃ k, isNon x = some k ∧ Q (!k)
  | .isin => False
  | .notin => False
  | o => match x, y with
    | .int i, .int j => Q (cmpI o i j)
    | _, _ => False
def truD : D → Option Bool
  | .non => some false
  | .bl b => some b
  | .int i => some (i != 0)
  | .tup xs => some (!xs.isEmpty)
  | .lst xs => some (!xs.isEmpty)
  | _ => none
def idxD (x y : D) (Q : Val → Prop) : Prop :=
  match x, y with
  | .tup xs, .int i => ∃ v, L2.atI xs i = some v ∧ Q (.sh v)
  | .lst xs, .int i => ∃ v, L2.atI xs i = some v ∧ Q (.sh v)
  | _, _ => False
def cutD (xs : List D) (lo hi : Option Int) : List D := (xs.drop (HT.sIx xs.length 0 lo)).take (HT.sIx xs.length xs.length hi - HT.sIx xs.length 0 lo)
def slD (x : D) (lo hi : Option Int) (Q : Val → Prop) : Prop :=
  match x with
  | .lst xs => Q (.ow (cutD xs lo hi))
  | .tup xs => Q (.sh (.tup (cutD xs lo hi)))
  | _ => False
def intsD : List D → Option (List Int)
  | [] => some []
  | .int i :: ds => (intsD ds).map (i :: ·)
  | _ :: _ => none
def primD (p : PK) (xs : List D) (Q : Val → Prop) : Prop :=
  match p, xs with
  | .len, [.tup ys] => Q (.sh (.int ys.length))
  | .len, [.lst ys] => Q (.sh (.int ys.length))
  | .abs, [.int i] => Q (.sh (.int (if i < 0 then -i else i)))
  | .int, [.int i] => Q (.sh (.int i))
  | .int, [.bl b] => Q (.sh (.int (if b then 1 else 0)))
  | .list, [.tup ys] => Q (.ow ys)
  | .list, [.lst ys] => Q (.ow ys)
  | .tuple, [.tup ys] => Q (.sh (.tup ys))
  | .tuple, [.lst ys] => Q (.sh (.tup ys))
  | .gcd, [.int i, .int j] => Q (.sh (.int ((Nat.gcd i.natAbs j.natAbs : Nat) : Int)))
  | .min, [.int i, .int j] => Q (.sh (.int (if j < i then j else i)))
  | .max, [.int i, .int j] => Q (.sh (.int (if j > i then j else i)))
  | .sum, [.lst ys] => ∃ ns, intsD ys = some ns ∧ Q (.sh (.int ns.sum))
  | _, _ => False
/-- what is walked -/
def itsD (k : IK) (xs : List D) (Q : List D → Prop) : Prop :=
  match k, xs with
  | .seq, [.tup ys] => Q ys
  | .seq, [.lst ys] => Q ys
  | .range, [.int j] => (j ≤ 2 ^ 62 - 1 ∧ -(2 ^ 62) ≤ j) ∧ Q ((List.range j.toNat).map fun i => .int (i : Nat))
  | .range, [.int i, .int j] => (-(2 ^ 62) ≤ i ∧ i < 2 ^ 62 ∧ -(2 ^ 62) ≤ j ∧ j < 2 ^ 62) ∧ Q ((List.range (j - i).toNat).map fun n => .int (i + (n : Nat)))
  | .zip, [.tup xs, .tup ys] => Q (List.zipWith (fun a b => .tup [a, b]) xs ys)
  | .zip, [.lst xs, .lst ys] => Q (List.zipWith (fun a b => .tup [a, b]) xs ys)
  | _, _ => False

/-! ### targets -/
mutual
def tgD : CT → D → Ev → (Ev → Prop) → Prop
  | .var i, d, ρ, Q => Q (ρ.set i (some (.sh d)))
  | .tup ts, .tup ds, ρ, Q => ts.length = ds.length ∧ tgsD ts ds ρ Q
  | .tup ts, .lst ds, ρ, Q => ts.length = ds.length ∧ tgsD ts ds ρ Q
  | _, _, _, _ => False
def tgsD : List CT → List D → Ev → (Ev → Prop) → Prop
  | [], [], ρ, Q => Q ρ
  | t :: ts, d :: ds, ρ, Q => tgD t d ρ fun ρ' => tgsD ts ds ρ' Q
  | _, _, _, _ => False
end
/-- a value stored: a list that nothing else holds stays so at a name -/
def stD : CT → Val → Ev → (Ev → Prop) → Prop
  | .var i, v, ρ, Q => Q (ρ.set i (some v))
  | t, v, ρ, Q => tgD t v.d ρ Q
def wipeE (ρ : Ev) : List Nat → Ev
  | [] => ρ
  | v :: vs => (wipeE ρ vs).set v none

/-! ### expressions -/
/-- an operand: a name may be looked at though its list is owned -/
def pk (a : CE) (ρ : Ev) (w : (Val → Prop) → Prop) (Q : D → Prop) : Prop :=
  match a with
  | .var i => ∃ d, ρ.data i = some d ∧ Q d
  | _ => w fun r => Q r.d
def revD (x : D) (Q : Val → Prop) : Prop := match x with
  | .lst xs => Q (.ow xs.reverse)
  | .tup xs => Q (.sh (.tup xs.reverse))
  | _ => False
def isD : TK → D → Option Bool
  | _, .hd _ => none
  | .list, .lst _ => some true
  | .tuple, .tup _ => some true
  | .str, .str _ => some true
  | .bool, .bl _ => some true
  | .int, .bl _ => some true
  | .int, .int _ => some true
  | _, _ => some false
def isiD (t : TK) (x : D) (Q : Bool → Prop) : Prop := ∃ k, isD t x = some k ∧ Q k
/-- max(x, key=g): the first of the greatest -/
def maxD (g : Con) (x : D) (Q : Val → Prop) : Prop := ∃ (ds : List D) (kf : Nat → Int), x = .lst ds ∧ 0 < ds.length ∧ (∀ (i : Nat) d, ds[i]? = some d → g [d] fun r => r = .sh (.int (kf i))) ∧
  ∀ (i : Nat) d, ds[i]? = some d → (∀ j, j < ds.length → kf j ≤ kf i ∧ (j < i → kf j < kf i)) → Q (.sh d)
def negD (r : Val) (Q : Val → Prop) : Prop := match r with
  | .sh (.int i) => Q (.sh (.int (-i)))
  | _ => False
def boolD (r : Val) (Q : Bool → Prop) : Prop := match r with
  | .sh (.bl b) => Q b
  | _ => False
def intD (r : Val) (Q : Int → Prop) : Prop := match r with
  | .sh (.int b) => Q b
  | _ => False
def truQ (Q : Bool → Prop) (r : Val) : Prop := ∃ k, truD r.d = some k ∧ Q k
section
variable (Γ : Nat → Con) (G : Nat → D)
mutual
def wpE : CE → Ev → (Val → Prop) → Prop
  | .var i, ρ, Q => ∃ d, ρ.shr i = some d ∧ Q (.sh d)
  | .cst d, _, Q => Q (.sh d)
  | .glc n, _, Q => Q (.sh (G n))
  | .bin o a b, ρ, Q => pk a ρ (wpE a ρ) fun x => pk b ρ (wpE b ρ) fun y => binD o x y Q
  | .neg a, ρ, Q => wpE a ρ fun r => negD r Q
  | .not a, ρ, Q => wpE a ρ fun r => boolD r fun b => Q (.sh (.bl (!b)))
  | .cmp o a b, ρ, Q => pk a ρ (wpE a ρ) fun x => pk b ρ (wpE b ρ) fun y => cmpD o x y fun k => Q (.sh (.bl k))
  | .chain o1 o2 a b c, ρ, Q => wpE a ρ fun x => wpE b ρ fun y => cmpD o1 x.d y.d fun k => if k = true then wpE c ρ fun z => cmpD o2 y.d z.d fun k => Q (.sh (.bl k)) else Q (.sh (.bl false))
  | .and a b, ρ, Q => wpE a ρ fun r => boolD r fun k => if k = true then wpE b ρ Q else Q (.sh (.bl false))
  | .or a b, ρ, Q => wpE a ρ fun r => boolD r fun k => if k = true then Q (.sh (.bl true)) else wpE b ρ Q
  | .ife c a b, ρ, Q => wpT c ρ fun k => if k = true then wpE a ρ Q else wpE b ρ Q
  | .tup es, ρ, Q => es.length ≤ 1000 ∧ wpEs es ρ fun ds => Q (.sh (.tup ds))
  | .lst es, ρ, Q => es.length ≤ 1000 ∧ wpEs es ρ fun ds => Q (.ow ds)
  | .idx a i, ρ, Q => pk a ρ (wpE a ρ) fun x => wpE i ρ fun s => idxD x s.d Q
  | .sl a lo hi, ρ, Q => pk a ρ (wpE a ρ) fun x => wpO lo ρ fun l => wpO hi ρ fun h => slD x l h Q
  | .rev a, ρ, Q => pk a ρ (wpE a ρ) fun x => revD x Q
  | .isi t a, ρ, Q => pk a ρ (wpE a ρ) fun x => isiD t x fun k => Q (.sh (.bl k))
  | .maxK f a, ρ, Q => pk a ρ (wpE a ρ) fun x => maxD (Γ f) x Q
  | .call f es, ρ, Q => wpEs es ρ fun ds => Γ f ds Q
  | .prim p es, ρ, Q => wpPs es ρ fun ds => primD p ds Q
  | .comp own elt tg k its ifs, ρ, Q => wpEs its ρ fun xs => itsD k xs fun items => items.length ≤ 16777215 ∧ ∃ Iv : Nat → List D → Prop, Iv 0 [] ∧
      (∀ i d acc, items[i]? = some d → Iv i acc → tgD tg d (wipeE ρ own) fun ρ1 => wpIfs ifs ρ1 fun b => if b = true then wpE elt ρ1 fun r => Iv (i + 1) (acc ++ [r.d]) else Iv (i + 1) acc) ∧
      ∀ acc, Iv items.length acc → Q (.ow acc)
  | .comp2 _ _ _ _ _ _ _ _ _ _, _, _ => False
  | .bad, _, _ => False
def wpEs : List CE → Ev → (List D → Prop) → Prop
  | [], _, Q => Q []
  | e :: es, ρ, Q => wpE e ρ fun r => wpEs es ρ fun ds => Q (r.d :: ds)
/-- operands -/
def wpPs : List CE → Ev → (List D → Prop) → Prop
  | [], _, Q => Q []
  | e :: es, ρ, Q => pk e ρ (wpE e ρ) fun x => wpPs es ρ fun ds => Q (x :: ds)
def wpO : Option CE → Ev → (Option Int → Prop) → Prop
  | none, _, Q => Q none
  | some e, ρ, Q => wpE e ρ fun r => intD r fun i => Q (some i)
/-- tests -/
def wpT : CE → Ev → (Bool → Prop) → Prop
  | .not a, ρ, Q => wpT a ρ fun k => Q (!k)
  | .and a b, ρ, Q => wpT a ρ fun k => if k = true then wpT b ρ Q else Q false
  | .or a b, ρ, Q => wpT a ρ fun k => if k = true then Q true else wpT b ρ Q
  | .ife _ _ _, _, _ => False
  | .cmp o a b, ρ, Q => pk a ρ (wpE a ρ) fun x => pk b ρ (wpE b ρ) fun y => cmpD o x y Q
  | .chain o1 o2 a b c, ρ, Q => wpE a ρ fun x => wpE b ρ fun y => cmpD o1 x.d y.d fun k => if k = true then wpE c ρ fun z => cmpD o2 y.d z.d Q else Q false
  | .var i, ρ, Q => ∃ d, ρ.data i = some d ∧ ∃ k, truD d = some k ∧ Q k
  | .call f es, ρ, Q => wpEs es ρ fun ds => Γ f ds (truQ Q)
  | .cst d, _, Q => ∃ k, truD d = some k ∧ Q k
  | .idx a i, ρ, Q => pk a ρ (wpE a ρ) fun x => wpE i ρ fun s => idxD x s.d (truQ Q)
  | .prim p es, ρ, Q => wpPs es ρ fun ds => primD p ds (truQ Q)
  | .bin o a b, ρ, Q => pk a ρ (wpE a ρ) fun x => pk b ρ (wpE b ρ) fun y => binD o x y (truQ Q)
  | .isi t a, ρ, Q => pk a ρ (wpE a ρ) fun x => isiD t x fun k => truQ Q (.sh (.bl k))
  | _, _, _ => False
def wpIfs : List CE → Ev → (Bool → Prop) → Prop
  | [], _, Q => Q true
  | [c], ρ, Q => wpT c ρ Q
  | _, _, _ => False
end

/-! ### which names' lists are given away by an expression -/
mutual
def bare : CE → List Nat
  | .var i => [i]
  | .bin _ a b => bareP a ++ bareP b
  | .neg a => bare a
  | .not a => bare a
  | .cmp _ a b => bareP a ++ bareP b
  | .chain _ _ a b c => bare a ++ bare b ++ bare c
  | .and a b => bare a ++ bare b
  | .or a b => bare a ++ bare b
  | .ife c a b => bare c ++ bare a ++ bare b
  | .tup es => bares es
  | .lst es => bares es
  | .idx a i => bareP a ++ bare i
  | .sl a lo hi => bareP a ++ bareO lo ++ bareO hi
  | .rev a => bareP a
  | .isi _ a => bareP a
  | .maxK _ a => bareP a
  | .call _ es => bares es
  | .prim _ es => barePs es
  | .comp _ elt _ _ its ifs => bare elt ++ bares its ++ bares ifs
  | _ => []
def bareP : CE → List Nat
  | .var _ => []
  | .bin _ a b => bareP a ++ bareP b
  | .neg a => bare a
  | .not a => bare a
  | .cmp _ a b => bareP a ++ bareP b
  | .chain _ _ a b c => bare a ++ bare b ++ bare c
  | .and a b => bare a ++ bare b
  | .or a b => bare a ++ bare b
  | .ife c a b => bare c ++ bare a ++ bare b
  | .tup es => bares es
  | .lst es => bares es
  | .idx a i => bareP a ++ bare i
  | .sl a lo hi => bareP a ++ bareO lo ++ bareO hi
  | .rev a => bareP a
  | .isi _ a => bareP a
  | .maxK _ a => bareP a
  | .call _ es => bares es
  | .prim _ es => barePs es
  | .comp _ elt _ _ its ifs => bare elt ++ bares its ++ bares ifs
  | _ => []
def bares : List CE → List Nat
  | [] => []
  | e :: es => bare e ++ bares es
def barePs : List CE → List Nat
  | [] => []
  | e :: es => bareP e ++ barePs es
def bareO : Option CE → List Nat
  | none => []
  | some e => bare e
end
/-- a name's list is given away -/
def giveV : Val → Val
  | .sh d => .sh d
  | .ow ds => .sh (.lst ds)
def give (ρ : Ev) : List Nat → Ev
  | [] => ρ
  | i :: is => match (give ρ is)[i]? with
    | some (some v) => (give ρ is).set i (some (giveV v))
    | _ => give ρ is

/-! ### statements -/
def augD (o : BO) (x y : D) (Q : D → Prop) : Prop := match o, x, y with
  | .add, .int i, .int j => Q (.int (i + j))
  | .sub, .int i, .int j => Q (.int (i - j))
  | _, _, _ => False
/-- a name's value is handed back as it is -/
def rtD (e : CE) (ρ : Ev) (w : (Val → Prop) → Prop) (Q : Val → Prop) : Prop := match e with
  | .var i => ∃ v, ρ[i]? = some (some v) ∧ Q v
  | _ => w Q
structure Fin where
  nx : Ev → Prop
  rt : Val → Prop
  bk : Ev → Prop := fun _ => False
  ct : Ev → Prop := fun _ => False
mutual
def wpS : CS → Fin → Ev → Prop
  | .asg t e, k, ρ => wpE Γ G e (give ρ (bare e)) fun r => stD t r (give ρ (bare e)) k.nx
  | .ext i e, k, ρ => ∃ ds, (give ρ (bare e)).own i = some ds ∧ wpE Γ G e (give ρ (bare e)) fun r => ∃ es, r.d = .lst es ∧ ds.length + es.length ≤ 16777216 ∧ k.nx ((give ρ (bare e)).set i (some (.ow (ds ++ es))))
  | .pop t i, k, ρ => ∃ ds y, ρ.own i = some ds ∧ ds[ds.length - 1]? = some y ∧ k.nx ((ρ.set i (some (.ow ds.dropLast))).set t (some (.sh y)))
  | .appPop i j e, k, ρ => i ≠ j ∧ ∃ ds es, (give ρ (bare e)).own i = some ds ∧ (give ρ (bare e)).own j = some es ∧ wpE Γ G e (give ρ (bare e)) fun r => intD r fun n => ∃ m y, L2.ixN es.length n = some m ∧ es[m]? = some y ∧ ds.length < 16777216 ∧ es.length ≤ 16777216 ∧
      k.nx (((give ρ (bare e)).set j (some (.ow (es.eraseIdx m)))).set i (some (.ow (ds ++ [y]))))
  | .seti i x e, k, ρ => ∃ ds, (give ρ (bare e ++ bare x)).own i = some ds ∧ wpE Γ G e (give ρ (bare e ++ bare x)) fun r => wpE Γ G x (give ρ (bare e ++ bare x)) fun s => intD s fun n => ∃ m, L2.ixN ds.length n = some m ∧ k.nx ((give ρ (bare e ++ bare x)).set i (some (.ow (ds.set m r.d))))
  | .app i e, k, ρ => ∃ ds, (give ρ (bare e)).own i = some ds ∧ wpE Γ G e (give ρ (bare e)) fun r => ds.length < 16777216 ∧ k.nx ((give ρ (bare e)).set i (some (.ow (ds ++ [r.d]))))
  | .aug i o e, k, ρ => ∃ x, ρ.shr i = some x ∧ wpE Γ G e (give ρ (bare e)) fun r => augD o x r.d fun d => k.nx ((give ρ (bare e)).set i (some (.sh d)))
  | .drop i, k, ρ => ∃ ds y, ρ.own i = some ds ∧ ds[ds.length - 1]? = some y ∧ k.nx (ρ.set i (some (.ow ds.dropLast)))
  | .ret e, k, ρ => rtD e ρ (wpE Γ G e (give ρ (bare e))) k.rt
  | .retN, k, _ => k.rt (.sh .non)
  | .ife c a b, k, ρ => wpT Γ G c (give ρ (bare c)) fun x => if x = true then wpB a k (give ρ (bare c)) else wpB b k (give ρ (bare c))
  | .fr t kd its b, k, ρ => wpEs Γ G its (give ρ (bares its)) fun xs => itsD kd xs fun items => ∃ Iv : Nat → Ev → Prop, Iv 0 (give ρ (bares its)) ∧
      (∀ i d ρ1, items[i]? = some d → Iv i ρ1 → tgD t d ρ1 fun ρ2 => wpB b { k with nx := Iv (i + 1), ct := Iv (i + 1), bk := k.nx } ρ2) ∧ ∀ ρ1, Iv items.length ρ1 → k.nx ρ1
  | .whl c b, k, ρ => ∃ Iv : Nat → Ev → Prop, (∃ m, Iv m (give ρ (bare c))) ∧ ∀ m ρ1, Iv m ρ1 → wpT Γ G c ρ1 fun x => if x = true then
      wpB b { k with nx := fun ρ2 => ∃ m', m' < m ∧ Iv m' (give ρ2 (bare c)), ct := fun ρ2 => ∃ m', m' < m ∧ Iv m' (give ρ2 (bare c)), bk := k.nx } ρ1 else k.nx ρ1
  | .brk, k, ρ => k.bk ρ
  | .cont, k, ρ => k.ct ρ
  | .pass, k, ρ => k.nx ρ
  | .bad, _, _ => False
def wpB : List CS → Fin → Ev → Prop
  | [], k, ρ => k.nx ρ
  | s :: ss, k, ρ => wpS s { k with nx := wpB ss k } ρ
end
end
end Gx
set_option maxHeartbeats 4000000
/-! Gx, part B: how data lies in the heap. -/
namespace Gx
open PySem PySem.Spec PyProof.Rows L2

/-- things that are no data (the draws' state): told by numbers, kept by an invariant of their own -/
structure Hd where
  v : Nat → Option V
  M : Addr → Prop
  HI : Hp → Prop
  track : ∀ H a, HI H → M a → H a ≠ none
  stay : ∀ H p o, HI H → ¬ M p → HI (upd H p o)

mutual
inductive Rp (K : PySem.W.Frag) (Z : Hd) (W : Hp) : V → D → Prop
  | non : Rp K Z W .non .non
  | bl (b : Bool) : Rp K Z W (.bl b) (.bl b)
  | int (i : Int) : Rp K Z W (.int i) (.int i)
  | str (x : Str) : Rp K Z W (.str x) (.str x)
  | lst {a : Addr} {xs : List V} {ds : List D} : W a = some (.lst xs) → RpA K Z W xs ds → Rp K Z W (.ref a) (.lst ds)
  | tup {a : Addr} {xs : List V} {ds : List D} : SqT K W a xs → RpA K Z W xs ds → Rp K Z W (.ref a) (.tup ds)
  | hd {n : Nat} {v : V} : Z.v n = some v → Rp K Z W v (.hd n)
inductive RpA (K : PySem.W.Frag) (Z : Hd) (W : Hp) : List V → List D → Prop
  | nil : RpA K Z W [] []
  | cons {v : V} {vs : List V} {d : D} {ds : List D} : Rp K Z W v d → RpA K Z W vs ds → RpA K Z W (v :: vs) (d :: ds)
end

theorem seqT {K : PySem.W.Frag} {H H' : Hp} {a : Addr} {xs : List V} (e : Same H H') (h : SqT K H a xs) : SqT K H' a xs := by
  rcases h with (h | ⟨o, h⟩) | h
  · exact .inl (.inl (e _ _ h))
  · exact .inl (.inr ⟨o, e _ _ h⟩)
  · exact .inr h
section
variable {K : PySem.W.Frag} {Z : Hd} {W W' H H' : Hp}
mutual
theorem Rp.mono (s : Same W W') : ∀ (d : D) (v : V), Rp K Z W v d → Rp K Z W' v d
  | .non, _, h => by cases h; exact .non
  | .bl b, _, h => by cases h; exact .bl b
  | .int i, _, h => by cases h; exact .int i
  | .str x, _, h => by cases h; exact .str x
  | .lst ds, _, h => by cases h with | lst a b => exact .lst (s _ _ a) (RpA.mono s ds _ b)
  | .tup ds, _, h => by cases h with | tup a b => exact .tup (seqT s a) (RpA.mono s ds _ b)
  | .hd n, _, h => by cases h with | hd a => exact .hd a
theorem RpA.mono (s : Same W W') : ∀ (ds : List D) (vs : List V), RpA K Z W vs ds → RpA K Z W' vs ds
  | [], _, h => by cases h; exact .nil
  | d :: ds, _, h => by cases h with | cons a b => exact .cons (Rp.mono s d _ a) (RpA.mono s ds _ b)
end
mutual
theorem Rp.dp (s : Same W H) : ∀ (d : D) (v : V), d.clean = true → Rp K Z W v d → Dp K H v d.py
  | .non, _, _, h => by cases h; exact .non
  | .bl b, _, _, h => by cases h; exact .bl b
  | .int i, _, _, h => by cases h; exact .int i
  | .str x, _, _, h => by cases h; exact .str x
  | .lst ds, _, c, h => by
    cases h with
    | lst a b =>
      have c : D.cleans ds = true := by rw [D.clean] at c; exact c
      rw [D.py]; exact .lst (SqL.of (s _ _ a)) (RpA.dp s ds _ c b)
  | .tup ds, _, c, h => by
    cases h with
    | tup a b =>
      have c : D.cleans ds = true := by rw [D.clean] at c; exact c
      rw [D.py]; exact .tup (seqT s a) (RpA.dp s ds _ c b)
  | .hd n, _, c, _ => by simp [D.clean] at c
theorem RpA.dp (s : Same W H) : ∀ (ds : List D) (vs : List V), D.cleans ds = true → RpA K Z W vs ds → DpAll K H vs (D.pys ds)
  | [], _, _, h => by cases h; rw [D.pys]; exact .nil
  | d :: ds, _, c, h => by
    cases h with
    | cons a b =>
      have c : (d.clean && D.cleans ds) = true := by rw [D.cleans] at c; exact c
      rw [Bool.and_eq_true] at c
      rw [D.pys]; exact .cons (Rp.dp s d _ c.1 a) (RpA.dp s ds _ c.2 b)
end
theorem RpA.length : ∀ {ds : List D} {vs : List V}, RpA K Z W vs ds → vs.length = ds.length
  | [], _, h => by cases h; rfl
  | d :: ds, _, h => by cases h with | cons a b => rw [List.length_cons, List.length_cons, RpA.length b]
theorem RpA.get : ∀ {ds : List D} {vs : List V} {i : Nat} {d : D}, RpA K Z W vs ds → ds[i]? = some d → ∃ v, vs[i]? = some v ∧ Rp K Z W v d
  | [], _, _, _, _, e => by simp at e
  | x :: ds, _, 0, d, h, e => by cases h with | cons a b => simp at e; subst e; exact ⟨_, rfl, a⟩
  | x :: ds, _, i + 1, d, h, e => by
    cases h with
    | cons a b =>
      obtain ⟨v, h1, h2⟩ := RpA.get (i := i) b (by simpa using e)
      exact ⟨v, by simpa using h1, h2⟩
theorem RpA.getV : ∀ {ds : List D} {vs : List V} {i : Nat} {v : V}, RpA K Z W vs ds → vs[i]? = some v → ∃ d, ds[i]? = some d ∧ Rp K Z W v d
  | [], _, _, _, h, e => by cases h; simp at e
  | x :: ds, _, 0, d, h, e => by cases h with | cons a b => simp at e; subst e; exact ⟨_, rfl, a⟩
  | x :: ds, _, i + 1, d, h, e => by
    cases h with
    | cons a b =>
      obtain ⟨v, h1, h2⟩ := RpA.getV (i := i) b (by simpa using e)
      exact ⟨v, by simpa using h1, h2⟩
theorem RpA.append : ∀ {ds es : List D} {vs ws : List V}, RpA K Z W vs ds → RpA K Z W ws es → RpA K Z W (vs ++ ws) (ds ++ es)
  | [], _, _, _, h, g => by cases h; exact g
  | d :: ds, _, _, _, h, g => by cases h with | cons a b => exact .cons a (RpA.append b g)
theorem RpA.take : ∀ {ds : List D} {vs : List V} (n : Nat), RpA K Z W vs ds → RpA K Z W (vs.take n) (ds.take n)
  | _, _, 0, _ => .nil
  | [], _, n + 1, h => by cases h; exact .nil
  | d :: ds, _, n + 1, h => by cases h with | cons a b => exact .cons a (RpA.take n b)
theorem RpA.drop : ∀ {ds : List D} {vs : List V} (n : Nat), RpA K Z W vs ds → RpA K Z W (vs.drop n) (ds.drop n)
  | _, _, 0, h => h
  | [], _, n + 1, h => by cases h; exact .nil
  | d :: ds, _, n + 1, h => by cases h with | cons a b => exact RpA.drop n b
theorem RpA.set : ∀ {ds : List D} {vs : List V} {v : V} {d : D} (i : Nat), RpA K Z W vs ds → Rp K Z W v d → RpA K Z W (vs.set i v) (ds.set i d)
  | [], _, _, _, _, h, _ => by cases h; exact .nil
  | x :: ds, _, _, _, 0, h, r => by cases h with | cons a b => exact .cons r b
  | x :: ds, _, _, _, i + 1, h, r => by cases h with | cons a b => exact .cons a (RpA.set i b r)
theorem RpA.rep {ds : List D} {vs : List V} (h : RpA K Z W vs ds) : ∀ n : Nat, RpA K Z W (List.replicate n vs).flatten (List.replicate n ds).flatten
  | 0 => .nil
  | n + 1 => by
    rw [List.replicate_succ, List.replicate_succ, List.flatten_cons, List.flatten_cons]
    exact h.append (RpA.rep h n)
theorem RpA.reverse : ∀ {ds : List D} {vs : List V}, RpA K Z W vs ds → RpA K Z W vs.reverse ds.reverse
  | [], _, h => by cases h; exact .nil
  | d :: ds, _, h => by
    cases h with
    | cons a b =>
      rw [List.reverse_cons, List.reverse_cons]
      exact (RpA.reverse b).append (.cons a .nil)
theorem RpA.cut {ds : List D} {vs : List V} (h : RpA K Z W vs ds) (lo hi : Option Int) : RpA K Z W (cutV vs lo hi) (cutD ds lo hi) := by
  unfold cutV cutD
  rw [h.length]
  exact (h.drop _).take _
theorem RpA.dropLast {ds : List D} {vs : List V} (h : RpA K Z W vs ds) : RpA K Z W vs.dropLast ds.dropLast := by
  rw [List.dropLast_eq_take, List.dropLast_eq_take, h.length]
  exact h.take _
theorem RpA.ints : ∀ {ns : List Int} {ds : List D} {vs : List V}, RpA K Z W vs ds → intsD ds = some ns → vs = ns.map V.int
  | ns, [], vs, h, e => by cases h; simp [intsD] at e; subst e; rfl
  | ns, .int i :: ds, vs, h, e => by
    cases h with
    | cons a b =>
      cases a
      rw [intsD] at e
      cases q : intsD ds with
      | none => rw [q] at e; simp at e
      | some ms =>
        rw [q] at e
        simp at e
        subst e
        rw [List.map_cons, RpA.ints b q]
  | _, .non :: _, _, _, e => by simp [intsD] at e
  | _, .bl _ :: _, _, _, e => by simp [intsD] at e
  | _, .str _ :: _, _, _, e => by simp [intsD] at e
  | _, .tup _ :: _, _, _, e => by simp [intsD] at e
  | _, .lst _ :: _, _, _, e => by simp [intsD] at e
  | _, .hd _ :: _, _, _, e => by simp [intsD] at e
end

/-! ### the names and the heap -/
structure EnvR (K : PySem.W.Frag) (Z : Hd) (He W0 : Hp) (P : Nat → Addr) (ρ : Ev) (σ : L2.St) (W H : Hp) : Prop where
  len : ρ.length = σ.length
  sub : Same W H
  w0 : Same W0 W
  new : ∀ a, W a ≠ none → W0 a ≠ none ∨ He a = none
  old : ∀ a o, He a = some o → ¬ Z.M a → H a = some o
  hi : Z.HI H
  wm : ∀ a, Z.M a → W a = none
  slot : ∀ (i : Nat) (d : D), ρ[i]? = some (some (Val.sh d)) → ∃ v, σ[i]? = some (some v) ∧ Rp K Z W v d
  own : ∀ (i : Nat) (ds : List D), ρ[i]? = some (some (Val.ow ds)) → σ[i]? = some (some (.ref (P i))) ∧ W (P i) = none ∧ He (P i) = none ∧ ¬ Z.M (P i) ∧ ∃ vs, H (P i) = some (.lst vs) ∧ RpA K Z W vs ds
  inj : ∀ (i j : Nat) (ds es : List D), ρ[i]? = some (some (Val.ow ds)) → ρ[j]? = some (some (Val.ow es)) → P i = P j → i = j

/-- an expression's step: what was there stays (but for the handles' own), data only grows by what is new -/
structure Go (Z : Hd) (W H W' H' : Hp) : Prop where
  w : Same W W'
  h : ∀ a o, H a = some o → ¬ Z.M a → H' a = some o
  nw : ∀ a, W' a ≠ none → W a ≠ none ∨ H a = none
  sub : Same W' H'
  hi : Z.HI H'
  wm : ∀ a, Z.M a → W' a = none
/-- what a value is, behind a step from H -/
def VR (K : PySem.W.Frag) (Z : Hd) (H W' H' : Hp) (v : V) (r : Val) : Prop :=
  match r with
  | .sh d => Rp K Z W' v d
  | .ow ds => ∃ p vs, v = .ref p ∧ H p = none ∧ W' p = none ∧ ¬ Z.M p ∧ H' p = some (.lst vs) ∧ RpA K Z W' vs ds
/-- an operand -/
def PR (K : PySem.W.Frag) (Z : Hd) (W' H' : Hp) (v : V) (d : D) : Prop :=
  Rp K Z W' v d ∨ ∃ p vs ds, v = .ref p ∧ d = .lst ds ∧ ¬ Z.M p ∧ H' p = some (.lst vs) ∧ RpA K Z W' vs ds
section
variable {K : PySem.W.Frag} {Z : Hd} {He W0 W H W1 H1 W2 H2 : Hp} {P : Nat → Addr} {ρ : Ev} {σ : L2.St} {v : V} {d : D} {r : Val}
theorem EnvR.refl (E : EnvR K Z He W0 P ρ σ W H) : Go Z W H W H := ⟨fun _ _ h => h, fun _ _ h _ => h, fun _ h => .inl h, E.sub, E.hi, E.wm⟩
theorem Go.refl' (s : Same W H) (hi : Z.HI H) (wm : ∀ a, Z.M a → W a = none) : Go Z W H W H := ⟨fun _ _ h => h, fun _ _ h _ => h, fun _ h => .inl h, s, hi, wm⟩
theorem Go.trans (a : Go Z W H W1 H1) (b : Go Z W1 H1 W2 H2) : Go Z W H W2 H2 := by
  refine ⟨a.w.trans b.w, fun c o h m => b.h c o (a.h c o h m) m, fun c h => ?_, b.sub, b.hi, b.wm⟩
  rcases b.nw c h with h1 | h1
  · exact a.nw c h1
  · right
    cases q : H c with
    | none => rfl
    | some o =>
      have hm : ¬ Z.M c := fun m => h (b.wm c m)
      rw [a.h c o q hm] at h1
      cases h1
theorem Go.back (a : Go Z W H W1 H1) {p : Addr} (n : H1 p = none) : H p = none := by
  cases q : H p with
  | none => rfl
  | some o =>
    have hm : ¬ Z.M p := fun m => Z.track H1 p a.hi m n
    rw [a.h p o q hm] at n
    cases n
theorem Go.fresh (a : Go Z W H W1 H1) {p : Addr} (n : H1 p = none) : ¬ Z.M p := fun m => Z.track H1 p a.hi m n
theorem EnvR.go (E : EnvR K Z He W0 P ρ σ W H) (g : Go Z W H W1 H1) : EnvR K Z He W0 P ρ σ W1 H1 := by
  refine ⟨E.len, g.sub, E.w0.trans g.w, fun a h => ?_, fun a o h m => g.h a o (E.old a o h m) m, g.hi, g.wm, fun i d e => ?_, fun i ds e => ?_, E.inj⟩
  · rcases g.nw a h with h1 | h1
    · exact E.new a h1
    · right
      cases q : He a with
      | none => rfl
      | some o =>
        have hm : ¬ Z.M a := fun m => h (g.wm a m)
        rw [E.old a o q hm] at h1
        cases h1
  · obtain ⟨v, h1, h2⟩ := E.slot i d e
    exact ⟨v, h1, h2.mono g.w⟩
  · obtain ⟨h1, h2, h3, h4, vs, h5, h6⟩ := E.own i ds e
    refine ⟨h1, ?_, h3, h4, vs, g.h _ _ h5 h4, RpA.mono g.w _ _ h6⟩
    cases q : W1 (P i) with
    | none => rfl
    | some o =>
      rcases g.nw (P i) (by rw [q]; simp) with z | z
      · exact absurd h2 z
      · rw [h5] at z; cases z
/-- a fresh tuple -/
theorem Go.tup (g : Go Z W H W1 H1) {p : Addr} {xs : List V} (n : H1 p = none) : Go Z W H (upd W1 p (.tup xs)) (upd H1 p (.tup xs)) := by
  have wn : W1 p = none := by
    cases q : W1 p with
    | none => rfl
    | some o => rw [g.sub p o q] at n; cases n
  refine ⟨g.w.trans fun b o e => ?_, fun a o h m => ?_, fun a h => ?_, fun a o h => ?_, Z.stay _ _ _ g.hi (g.fresh n), fun a m => ?_⟩
  · rw [upd_ne (ne_of_none e wn)]; exact e
  · rw [upd_ne (ne_of_none (g.h a o h m) n)]; exact g.h a o h m
  · by_cases e : a = p
    · subst e; exact .inr (g.back n)
    · rw [upd_ne e] at h; exact g.nw a h
  · by_cases e : a = p
    · subst e; rw [upd_same] at h ⊢; exact h
    · rw [upd_ne e] at h ⊢; exact g.sub a o h
  · have : a ≠ p := fun e => g.fresh n (e ▸ m)
    rw [upd_ne this]; exact g.wm a m
/-- a fresh list -/
theorem Go.list (g : Go Z W H W1 H1) {p : Addr} {xs : List V} (n : H1 p = none) : Go Z W H W1 (upd H1 p (.lst xs)) := by
  refine ⟨g.w, fun a o h m => ?_, g.nw, fun a o h => ?_, Z.stay _ _ _ g.hi (g.fresh n), g.wm⟩
  · rw [upd_ne (ne_of_none (g.h a o h m) n)]; exact g.h a o h m
  · rw [upd_ne (ne_of_none (g.sub a o h) n)]; exact g.sub a o h
theorem Go.wnone (g : Go Z W H W1 H1) {p : Addr} (n : H1 p = none) : W1 p = none := by
  cases q : W1 p with
  | none => rfl
  | some o => rw [g.sub p o q] at n; cases n
/-- a value is shared from now on -/
theorem VR.share (g : Go Z W H W1 H1) (h : VR K Z H W1 H1 v r) : ∃ W2, Go Z W H W2 H1 ∧ Same W1 W2 ∧ Rp K Z W2 v r.d := by
  cases r with
  | sh d => exact ⟨W1, g, fun _ _ h => h, h⟩
  | ow ds =>
    obtain ⟨p, vs, rfl, h1, h2, h3, h4, h5⟩ := h
    have s : Same W1 (upd W1 p (.lst vs)) := fun b o e => by rw [upd_ne (ne_of_none e h2)]; exact e
    refine ⟨upd W1 p (.lst vs), ⟨g.w.trans s, g.h, fun a h => ?_, fun a o h => ?_, g.hi, fun a m => ?_⟩, s, .lst upd_same (RpA.mono s _ _ h5)⟩
    · by_cases e : a = p
      · subst e; exact .inr h1
      · rw [upd_ne e] at h; exact g.nw a h
    · by_cases e : a = p
      · subst e; rw [upd_same] at h; rw [h4]; exact h
      · rw [upd_ne e] at h; exact g.sub a o h
    · have : a ≠ p := fun e => h3 (e ▸ m)
      rw [upd_ne this]; exact g.wm a m
theorem PR.go (h : PR K Z W1 H1 v d) (g : Go Z W1 H1 W2 H2) : PR K Z W2 H2 v d := by
  rcases h with h | ⟨p, vs, ds, rfl, rfl, m, h1, h2⟩
  · exact .inl (h.mono g.w)
  · exact .inr ⟨p, vs, ds, rfl, rfl, m, g.h _ _ h1 m, RpA.mono g.w _ _ h2⟩
/-- an operand that is a list -/
theorem PR.lst {ds : List D} (s : Same W1 H1) (h : PR K Z W1 H1 v (.lst ds)) : ∃ p vs, v = .ref p ∧ H1 p = some (.lst vs) ∧ RpA K Z W1 vs ds := by
  rcases h with h | ⟨p, vs, es, rfl, e, m, h1, h2⟩
  · cases h with | lst a b => exact ⟨_, _, rfl, s _ _ a, b⟩
  · injection e with e; subst e; exact ⟨p, vs, rfl, h1, h2⟩
theorem PR.tup {ds : List D} (s : Same W1 H1) (h : PR K Z W1 H1 v (.tup ds)) : ∃ p vs, v = .ref p ∧ SqT K H1 p vs ∧ SqT K W1 p vs ∧ RpA K Z W1 vs ds := by
  rcases h with h | ⟨p, vs, es, rfl, e, m, h1, h2⟩
  · cases h with | tup a b => exact ⟨_, _, rfl, seqT s a, a, b⟩
  · cases e
theorem PR.flat (h : PR K Z W1 H1 v d) : (∀ i, d = .int i → v = .int i) ∧ (∀ b, d = .bl b → v = .bl b) ∧ (d = .non → v = .non) ∧ (∀ x, d = .str x → v = .str x) := by
  rcases h with h | ⟨p, vs, es, rfl, e, m, h1, h2⟩
  · cases h <;> refine ⟨?_, ?_, ?_, ?_⟩ <;> intros <;> simp_all
  · subst e; refine ⟨?_, ?_, ?_, ?_⟩ <;> intros <;> simp_all
theorem PR.dp (s : Same W1 H1) (h : PR K Z W1 H1 v d) (c : d.clean = true) : Dp K H1 v d.py := by
  rcases h with h | ⟨p, vs, es, rfl, e, m, h1, h2⟩
  · exact h.dp s d v c
  · subst e
    have c : D.cleans es = true := by rw [D.clean] at c; exact c
    rw [D.py]; exact .lst (SqL.of h1) (RpA.dp s es _ c h2)
end
end Gx
set_option maxHeartbeats 4000000
/-! Gx, part C: the translation; what stands around; expressions. -/
namespace Gx
open PySem PySem.Spec PyProof.Rows L2

/-! ### the translation -/
structure SC where
  N : List Str
  sc : Scope
  fnb : Str → Bool
  fns : List Str
  blt : List Str
  gcd : Bool
  gl : List Str
def ixOf (x : Str) : List Str → Option Nat
  | [] => none
  | y :: ys => if x = y then some 0 else (ixOf x ys).map (· + 1)
def lastIx (x : Str) : List Str → Option Nat
  | [] => none
  | y :: ys => match lastIx x ys with
    | some i => some (i + 1)
    | none => if x = y then some 0 else none
theorem ixOf_get {x : Str} : ∀ {l : List Str} {i : Nat}, ixOf x l = some i → l[i]? = some x
  | [], i, h => by simp [ixOf] at h
  | y :: ys, i, h => by
    unfold ixOf at h
    split at h
    · rename_i e; cases h; rw [e]; rfl
    · cases q : ixOf x ys with
      | none => rw [q] at h; cases h
      | some j =>
        rw [q] at h; cases h
        rw [List.getElem?_cons_succ]; exact ixOf_get q
theorem lastIx_get {x : Str} : ∀ {l : List Str} {i : Nat}, lastIx x l = some i → l[i]? = some x
  | [], i, h => by simp [lastIx] at h
  | y :: ys, i, h => by
    unfold lastIx at h
    cases q : lastIx x ys with
    | none =>
      rw [q] at h
      simp only at h
      split at h
      · rename_i e; cases h; rw [e]; rfl
      · cases h
    | some j =>
      rw [q] at h; cases h
      rw [List.getElem?_cons_succ]; exact lastIx_get q
def boOf : Operator → Option BO
  | .Add => some .add | .Sub => some .sub | .Mult => some .mul | .FloorDiv => some .fdiv | .Mod => some .mod | .Pow => some .pow | .RShift => some .shr | .BitAnd => some .band
  | _ => none
def coOf : CmpOp → CO
  | .Eq => .eq | .NotEq => .ne | .Lt => .lt | .LtE => .le | .Gt => .gt | .GtE => .ge | .Is => .is | .IsNot => .isnot | .In => .isin | .NotIn => .notin
/-- the built-ins that are served -/
def pkOf (x : Str) : Option PK :=
  if x = "len" then some .len else if x = "abs" then some .abs else if x = "int" then some .int else if x = "list" then some .list else if x = "tuple" then some .tuple
  else if x = "min" then some .min else if x = "max" then some .max else if x = "sum" then some .sum else none
def isBlt (S : SC) (x : Str) : Bool := decide (S.sc.names.lookup x = some .globalImplicit) && decide (x ∈ S.blt)
def isLoc (S : SC) (x : Str) : Bool := decide (S.sc.names.lookup x = some .local) || (decide (S.sc.names.lookup x = some .cell) && S.fnb x)
def plainE : Expr → Bool
  | .Starred _ _ => false
  | .Set _ _ _ => false
  | .Slice _ _ _ _ => false
  | _ => true
def cT (S : SC) : Nat → Expr → CT
  | 0, _ => .bad
  | n + 1, e => match e with
    | .Name x _ => match ixOf x S.N with
      | some i => if isLoc S x then .var i else .bad
      | none => .bad
    | .Tuple es _ _ => if es.all plainE then .tup (es.map (cT S n)) else .bad
    | _ => .bad
def ownOf : CT → List Nat
  | .var i => [i]
  | .tup ts => ts.flatMap fun t => match t with | .var i => [i] | .tup us => us.flatMap (fun u => match u with | .var i => [i] | _ => []) | .bad => []
  | .bad => []
def namesOf (N : List Str) (own : List Nat) : List (Str × Nat) := own.filterMap fun i => (N[i]?).map fun x => (x, i)
/-- within a comprehension's block -/
def SC.blk (S : SC) (scope : Scope) : SC := { S with sc := relS scope S.sc, fnb := fun x => scope.names.lookup x == some .cell }
def tkOf (x : Str) : Option TK :=
  if x = "list" then some .list else if x = "tuple" then some .tuple else if x = "str" then some .str else if x = "bool" then some .bool else if x = "int" then some .int else none
/-- isinstance(.., t) -/
def isiE (S : SC) (x : Str) (r : List Expr) : Option TK := if x = "isinstance" ∧ x ∈ S.blt then (match r with
  | [.Name t _] => if S.sc.names.lookup t = some .globalImplicit ∧ t ∈ S.blt ∧ t ≠ "__debug__" then tkOf t else none
  | _ => none) else none
/-- max(.., key=f) -/
def maxE (S : SC) (x y f : Str) : Option Nat := if x = "max" ∧ y = "key" ∧ x ∈ S.blt ∧ S.sc.names.lookup x = some .globalImplicit ∧ S.sc.names.lookup f = some .globalImplicit ∧ f ≠ "__debug__" then (match lastIx f S.fns with
  | some j => if j + 1 < S.fns.length then some j else none
  | none => none) else none
mutual
def subT : List Nat → CT → Bool
  | own, .var i => decide (i ∈ own)
  | own, .tup ts => subTs own ts
  | _, .bad => false
def subTs : List Nat → List CT → Bool
  | _, [] => true
  | own, t :: ts => subT own t && subTs own ts
end
def isTup : Expr → Bool
  | .Tuple _ _ _ => true
  | _ => false
def cIt (S : SC) (f : Expr → CE) (tg : Expr) : Expr → IK × List CE
  | .Call (.Name x p) args kws pos =>
    if x = "range" ∧ isBlt S x ∧ kws.isEmpty ∧ args.all plainE ∧ (args.length = 1 ∨ args.length = 2) then (.range, args.map f)
    else if x = "zip" ∧ isBlt S x ∧ kws.isEmpty ∧ args.all plainE ∧ args.length = 2 ∧ isTup tg = true then (.zip, args.map f)
    else (.seq, [f (.Call (.Name x p) args kws pos)])
  | e => if plainE e then (.seq, [f e]) else (.seq, [.bad])
def cAnds (f : Expr → CE) : List Expr → CE
  | [] => .bad
  | [a] => f a
  | a :: r => .and (f a) (cAnds f r)
def cOrs (f : Expr → CE) : List Expr → CE
  | [] => .bad
  | [a] => f a
  | a :: r => .or (f a) (cOrs f r)
def cE : Nat → SC → Expr → CE
  | 0, _, _ => .bad
  | n + 1, S, e => match e with
    | .Name x _ => match S.sc.names.lookup x with
      | some .globalImplicit => match ixOf x S.gl with
        | some i => if x = "__debug__" then .bad else .glc i
        | none => .bad
      | some .globalExplicit => .bad
      | some _ => match ixOf x S.N with
        | some i => if x = "__debug__" ∨ x = "__classdict__" then .bad else .var i
        | none => .bad
      | none => .bad
    | .Constant (.int i) _ _ => .cst (.int i)
    | .Constant (.bool b) _ _ => .cst (.bl b)
    | .Constant .none _ _ => .cst .non
    | .Constant (.str x) _ _ => .cst (.str x)
    | .BinOp a op b _ => match boOf op with
      | some o => .bin o (cE n S a) (cE n S b)
      | none => .bad
    | .UnaryOp .USub a _ => .neg (cE n S a)
    | .UnaryOp .Not a _ => .not (cE n S a)
    | .BoolOp .And (a :: b :: r) _ => .and (cE n S a) (cAnds (cE n S) (b :: r))
    | .BoolOp .Or (a :: b :: r) _ => .or (cE n S a) (cOrs (cE n S) (b :: r))
    | .IfExp c a b _ => .ife (cE n S c) (cE n S a) (cE n S b)
    | .Compare a [op] [b] _ => if plainE b then .cmp (coOf op) (cE n S a) (cE n S b) else .bad
    | .Compare a [o1, o2] [b, c] _ => if plainE c then .chain (coOf o1) (coOf o2) (cE n S a) (cE n S b) (cE n S c) else .bad
    | .Tuple es _ _ => if es.all plainE then .tup (es.map (cE n S)) else .bad
    | .List es _ => if es.all plainE then .lst (es.map (cE n S)) else .bad
    | .Subscript a (.Slice lo hi none _) _ => .sl (cE n S a) (lo.map (cE n S)) (hi.map (cE n S))
    | .Subscript a i _ => if plainE i then .idx (cE n S a) (cE n S i) else .bad
    | .Call (.Name x _) (a :: r) [] _ => if (a :: r).all plainE ∧ S.sc.names.lookup x = some .globalImplicit ∧ x ≠ "__debug__" then
        match lastIx x S.fns with
        | some j => .call j (cE n S a :: r.map (cE n S))
        | none => if x = "gcd" ∧ S.gcd = true then .prim .gcd (cE n S a :: r.map (cE n S))
          else match pkOf x with
            | some p => if x ∈ S.blt then .prim p (cE n S a :: r.map (cE n S)) else .bad
            | none => match isiE S x r with
              | some t => .isi t (cE n S a)
              | none => .bad
        else .bad
    | .Call (.Name x _) [a] [⟨some y, .Name f _, _⟩] _ => match maxE S x y f with
      | some j => if plainE a then .maxK j (cE n S a) else .bad
      | none => .bad
    | .ListComp elt [⟨tg, iter, ifs, 0⟩] scope _ =>
      let t := cT (S.blk scope) n tg
      let own := ownOf t
      if blkC S.N S.sc scope (namesOf S.N own) ∧ (namesOf S.N own).map (·.2) = own ∧ subT own t ∧ ifs.length ≤ 1 then
        .comp own (cE n (S.blk scope) elt) t (cIt S (cE n S) tg iter).1 (cIt S (cE n S) tg iter).2 (ifs.map (cE n (S.blk scope)))
      else .bad
    | _ => .bad

/-! ### what stands around -/
def spG (K : PySem.W.Frag) (Z : Hd) (g : Con) (n : Nat) : Sp := fun vs H Q _ => vs.length = n ∧ ∃ W ds, Same W H ∧ Z.HI H ∧ (∀ a, Z.M a → W a = none) ∧ RpA K Z W vs ds ∧
  g ds fun r => ∀ v W' H', Go Z W H W' H' → VR K Z H W' H' v r → Q v H'
structure Good (X : Cx) (S : SC) (Z : Hd) (Γ : Nat → Con) (G : Nat → D) : Prop where
  hN : X.N = S.N
  nd : X.N.Nodup
  sc : X.env.scope = S.sc
  kind : S.sc.kind = .function
  calm : X.calm = true
  po : PassesOwn (model X.prog X.w) X.A X.env X.xe
  fn : ∀ x, S.fnb x = true → X.fn x = true
  blt : ∀ x, x ∈ S.blt → X.mg x = none
  gcd : S.gcd = true → X.mg "gcd" = some (.builtin "math.gcd")
  gl : ∀ (i : Nat) x, S.gl[i]? = some x → ∃ v u, X.mg x = some u ∧ RelV v u ∧ ∀ W, Rp X.K Z W v (G i)
  fns : ∀ (j : Nat) x, S.fns[j]? = some x → ∃ f fd ps n, X.mg x = some (.ref f) ∧ PySem.W.keepIn X.K (.ref f) = true ∧ Binds X.K fd ps [] ∧ FnOk X.prog X.w X.K X.mg X.base CX0 (j + 1) f fd ps (spG X.K Z (Γ j) n) ∧ ∀ ds Q, Γ j ds Q → ds.length = n
  room : Room S.fns.length X.A
end Gx
set_option maxHeartbeats 4000000
/-! Gx, part D: what is wished may be widened. -/
namespace Gx
open PySem PySem.Spec PyProof.Rows L2
section
variable {Γ : Nat → Con} {G : Nat → D}
theorem binD_mono {o : BO} {x y : D} {Q Q' : Val → Prop} (h : ∀ r, Q r → Q' r) (w : binD o x y Q) : binD o x y Q' := by
  unfold binD at w ⊢
  split at w <;> first
    | exact h _ w
    | exact ⟨w.1, h _ w.2⟩
    | exact w.elim
theorem cmpD_mono {o : CO} {x y : D} {Q Q' : Bool → Prop} (h : ∀ r, Q r → Q' r) (w : cmpD o x y Q) : cmpD o x y Q' := by
  cases o
  case eq => exact ⟨w.1, w.2.1, h _ w.2.2⟩
  case ne => exact ⟨w.1, w.2.1, h _ w.2.2⟩
  case is => obtain ⟨a, k, e, q⟩ := w; exact ⟨a, k, e, h _ q⟩
  case isnot => obtain ⟨a, k, e, q⟩ := w; exact ⟨a, k, e, h _ q⟩
  case isin => exact w
  case notin => exact w
  all_goals
    unfold cmpD at w ⊢
    simp only at w ⊢
    split at w
    · exact h _ w
    · exact w.elim
theorem idxD_mono {x y : D} {Q Q' : Val → Prop} (h : ∀ r, Q r → Q' r) (w : idxD x y Q) : idxD x y Q' := by
  unfold idxD at w ⊢
  split at w
  · obtain ⟨v, e, q⟩ := w; exact ⟨v, e, h _ q⟩
  · obtain ⟨v, e, q⟩ := w; exact ⟨v, e, h _ q⟩
  · exact w.elim
theorem slD_mono {x : D} {l u : Option Int} {Q Q' : Val → Prop} (h : ∀ r, Q r → Q' r) (w : slD x l u Q) : slD x l u Q' := by
  unfold slD at w ⊢
  split at w
  · exact h _ w
  · exact h _ w
  · exact w.elim
theorem revD_mono {x : D} {Q Q' : Val → Prop} (h : ∀ r, Q r → Q' r) (w : revD x Q) : revD x Q' := by
  unfold revD at w ⊢
  split at w
  · exact h _ w
  · exact h _ w
  · exact w.elim
theorem negD_mono {x : Val} {Q Q' : Val → Prop} (h : ∀ r, Q r → Q' r) (w : negD x Q) : negD x Q' := by
  unfold negD at w ⊢
  split at w
  · exact h _ w
  · exact w.elim
theorem boolD_mono {x : Val} {Q Q' : Bool → Prop} (h : ∀ r, Q r → Q' r) (w : boolD x Q) : boolD x Q' := by
  unfold boolD at w ⊢
  split at w
  · exact h _ w
  · exact w.elim
theorem intD_mono {x : Val} {Q Q' : Int → Prop} (h : ∀ r, Q r → Q' r) (w : intD x Q) : intD x Q' := by
  unfold intD at w ⊢
  split at w
  · exact h _ w
  · exact w.elim
theorem truQ_mono {Q Q' : Bool → Prop} (h : ∀ r, Q r → Q' r) (r : Val) (w : truQ Q r) : truQ Q' r := by
  obtain ⟨k, e, q⟩ := w; exact ⟨k, e, h _ q⟩
theorem primD_mono {p : PK} {xs : List D} {Q Q' : Val → Prop} (h : ∀ r, Q r → Q' r) (w : primD p xs Q) : primD p xs Q' := by
  unfold primD at w ⊢
  split at w <;> first
    | exact h _ w
    | (obtain ⟨ns, e, q⟩ := w; exact ⟨ns, e, h _ q⟩)
    | exact w.elim
theorem itsD_mono {k : IK} {xs : List D} {Q Q' : List D → Prop} (h : ∀ r, Q r → Q' r) (w : itsD k xs Q) : itsD k xs Q' := by
  unfold itsD at w ⊢
  split at w <;> first
    | exact h _ w
    | exact ⟨w.1, h _ w.2⟩
    | exact w.elim
theorem isiD_mono {t : TK} {x : D} {Q Q' : Bool → Prop} (h : ∀ k, Q k → Q' k) (w : isiD t x Q) : isiD t x Q' := by
  obtain ⟨k, e, q⟩ := w; exact ⟨k, e, h _ q⟩
theorem maxD_mono {g : Con} {x : D} {Q Q' : Val → Prop} (h : ∀ r, Q r → Q' r) (w : maxD g x Q) : maxD g x Q' := by
  obtain ⟨ds, kf, e, l, s, q⟩ := w; exact ⟨ds, kf, e, l, s, fun i d e b => h _ (q i d e b)⟩
theorem pk_mono {a : CE} {ρ : Ev} {w : (Val → Prop) → Prop} {Q Q' : D → Prop} (h : ∀ d, Q d → Q' d) (hw : ∀ Q Q' : Val → Prop, (∀ r, Q r → Q' r) → w Q → w Q') (q : pk a ρ w Q) : pk a ρ w Q' := by
  unfold pk at q ⊢
  split at q
  · obtain ⟨d, e, q⟩ := q; exact ⟨d, e, h _ q⟩
  · exact hw _ _ (fun r => h _) q
abbrev ConMono (Γ : Nat → Con) : Prop := ∀ f ds (Q Q' : Val → Prop), (∀ r, Q r → Q' r) → Γ f ds Q → Γ f ds Q'
variable (Γm : ConMono Γ)
include Γm
mutual
theorem wpE_mono : (c : CE) → ∀ (ρ : Ev) (Q Q' : Val → Prop), (∀ r, Q r → Q' r) → wpE Γ G c ρ Q → wpE Γ G c ρ Q'
  | .var i, ρ, Q, Q', h, w => by rw [wpE] at w ⊢; obtain ⟨d, e, q⟩ := w; exact ⟨d, e, h _ q⟩
  | .cst d, ρ, Q, Q', h, w => by rw [wpE] at w ⊢; exact h _ w
  | .glc d, ρ, Q, Q', h, w => by rw [wpE] at w ⊢; exact h _ w
  | .bin o a b, ρ, Q, Q', h, w => by
    rw [wpE] at w ⊢
    exact pk_mono (fun x => pk_mono (fun y => binD_mono h) (fun Q Q' => wpE_mono b ρ Q Q')) (fun Q Q' => wpE_mono a ρ Q Q') w
  | .neg a, ρ, Q, Q', h, w => by rw [wpE] at w ⊢; exact wpE_mono a ρ _ _ (fun r => negD_mono h) w
  | .not a, ρ, Q, Q', h, w => by rw [wpE] at w ⊢; exact wpE_mono a ρ _ _ (fun r => boolD_mono fun b => h _) w
  | .cmp o a b, ρ, Q, Q', h, w => by
    rw [wpE] at w ⊢
    exact pk_mono (fun x => pk_mono (fun y => cmpD_mono fun k => h _) (fun Q Q' => wpE_mono b ρ Q Q')) (fun Q Q' => wpE_mono a ρ Q Q') w
  | .chain o1 o2 a b c, ρ, Q, Q', h, w => by
    rw [wpE] at w ⊢
    refine wpE_mono a ρ _ _ (fun x => wpE_mono b ρ _ _ fun y => cmpD_mono fun k q => ?_) w
    split
    · rename_i e; rw [if_pos e] at q; exact wpE_mono c ρ _ _ (fun z => cmpD_mono fun k => h _) q
    · rename_i e; rw [if_neg e] at q; exact h _ q
  | .and a b, ρ, Q, Q', h, w => by
    rw [wpE] at w ⊢
    refine wpE_mono a ρ _ _ (fun x => boolD_mono fun k q => ?_) w
    split
    · rename_i e; rw [if_pos e] at q; exact wpE_mono b ρ _ _ h q
    · rename_i e; rw [if_neg e] at q; exact h _ q
  | .or a b, ρ, Q, Q', h, w => by
    rw [wpE] at w ⊢
    refine wpE_mono a ρ _ _ (fun x => boolD_mono fun k q => ?_) w
    split
    · rename_i e; rw [if_pos e] at q; exact h _ q
    · rename_i e; rw [if_neg e] at q; exact wpE_mono b ρ _ _ h q
  | .ife c a b, ρ, Q, Q', h, w => by
    rw [wpE] at w ⊢
    refine wpT_mono c ρ _ _ (fun k q => ?_) w
    split
    · rename_i e; rw [if_pos e] at q; exact wpE_mono a ρ _ _ h q
    · rename_i e; rw [if_neg e] at q; exact wpE_mono b ρ _ _ h q
  | .tup es, ρ, Q, Q', h, w => by rw [wpE] at w ⊢; exact ⟨w.1, wpEs_mono es ρ _ _ (fun ds => h _) w.2⟩
  | .lst es, ρ, Q, Q', h, w => by rw [wpE] at w ⊢; exact ⟨w.1, wpEs_mono es ρ _ _ (fun ds => h _) w.2⟩
  | .idx a i, ρ, Q, Q', h, w => by
    rw [wpE] at w ⊢
    exact pk_mono (fun x => wpE_mono i ρ _ _ fun y => idxD_mono h) (fun Q Q' => wpE_mono a ρ Q Q') w
  | .sl a lo hi, ρ, Q, Q', h, w => by
    rw [wpE] at w ⊢
    exact pk_mono (fun x => wpO_mono lo ρ _ _ fun l => wpO_mono hi ρ _ _ fun u => slD_mono h) (fun Q Q' => wpE_mono a ρ Q Q') w
  | .rev a, ρ, Q, Q', h, w => by rw [wpE] at w ⊢; exact pk_mono (fun x => revD_mono h) (fun Q Q' => wpE_mono a ρ Q Q') w
  | .isi t a, ρ, Q, Q', h, w => by rw [wpE] at w ⊢; exact pk_mono (fun x => isiD_mono fun k => h _) (fun Q Q' => wpE_mono a ρ Q Q') w
  | .maxK f a, ρ, Q, Q', h, w => by rw [wpE] at w ⊢; exact pk_mono (fun x => maxD_mono h) (fun Q Q' => wpE_mono a ρ Q Q') w
  | .call f es, ρ, Q, Q', h, w => by rw [wpE] at w ⊢; exact wpEs_mono es ρ _ _ (fun ds => Γm f ds _ _ h) w
  | .prim p es, ρ, Q, Q', h, w => by rw [wpE] at w ⊢; exact wpPs_mono es ρ _ _ (fun ds => primD_mono h) w
  | .comp own elt tg k its ifs, ρ, Q, Q', h, w => by
    rw [wpE] at w ⊢
    refine wpEs_mono its ρ _ _ (fun xs => itsD_mono fun items q => ?_) w
    obtain ⟨hl, Iv, h0, hs, hd⟩ := q
    exact ⟨hl, Iv, h0, hs, fun acc ha => h _ (hd acc ha)⟩
  | .comp2 _ _ _ _ _ _ _ _ _ _, ρ, Q, Q', h, w => by rw [wpE] at w; exact w.elim
  | .bad, ρ, Q, Q', h, w => by rw [wpE] at w; exact w.elim
theorem wpEs_mono : (cs : List CE) → ∀ (ρ : Ev) (Q Q' : List D → Prop), (∀ r, Q r → Q' r) → wpEs Γ G cs ρ Q → wpEs Γ G cs ρ Q'
  | [], ρ, Q, Q', h, w => by rw [wpEs] at w ⊢; exact h _ w
  | e :: es, ρ, Q, Q', h, w => by rw [wpEs] at w ⊢; exact wpE_mono e ρ _ _ (fun r => wpEs_mono es ρ _ _ fun ds => h _) w
theorem wpPs_mono : (cs : List CE) → ∀ (ρ : Ev) (Q Q' : List D → Prop), (∀ r, Q r → Q' r) → wpPs Γ G cs ρ Q → wpPs Γ G cs ρ Q'
  | [], ρ, Q, Q', h, w => by rw [wpPs] at w ⊢; exact h _ w
  | e :: es, ρ, Q, Q', h, w => by rw [wpPs] at w ⊢; exact pk_mono (fun r => wpPs_mono es ρ _ _ fun ds => h _) (fun Q Q' => wpE_mono e ρ Q Q') w
theorem wpO_mono : (c : Option CE) → ∀ (ρ : Ev) (Q Q' : Option Int → Prop), (∀ r, Q r → Q' r) → wpO Γ G c ρ Q → wpO Γ G c ρ Q'
  | none, ρ, Q, Q', h, w => by rw [wpO] at w ⊢; exact h _ w
  | some e, ρ, Q, Q', h, w => by rw [wpO] at w ⊢; exact wpE_mono e ρ _ _ (fun r => intD_mono fun i => h _) w
theorem wpT_mono : (c : CE) → ∀ (ρ : Ev) (Q Q' : Bool → Prop), (∀ r, Q r → Q' r) → wpT Γ G c ρ Q → wpT Γ G c ρ Q'
  | .var i, ρ, Q, Q', h, w => by rw [wpT] at w ⊢; obtain ⟨d, e, k, e2, q⟩ := w; exact ⟨d, e, k, e2, h _ q⟩
  | .cst d, ρ, Q, Q', h, w => by rw [wpT] at w ⊢; obtain ⟨k, e2, q⟩ := w; exact ⟨k, e2, h _ q⟩
  | .glc d, ρ, Q, Q', h, w => by rw [wpT] at w; exact w.elim; all_goals (intros; contradiction)
  | .bin o a b, ρ, Q, Q', h, w => by
    rw [wpT] at w ⊢
    exact pk_mono (fun x => pk_mono (fun y => binD_mono (truQ_mono h)) (fun Q Q' => wpE_mono b ρ Q Q')) (fun Q Q' => wpE_mono a ρ Q Q') w
  | .neg a, ρ, Q, Q', h, w => by rw [wpT] at w; exact w.elim; all_goals (intros; contradiction)
  | .not a, ρ, Q, Q', h, w => by rw [wpT] at w ⊢; exact wpT_mono a ρ _ _ (fun b => h _) w
  | .cmp o a b, ρ, Q, Q', h, w => by
    rw [wpT] at w ⊢
    exact pk_mono (fun x => pk_mono (fun y => cmpD_mono h) (fun Q Q' => wpE_mono b ρ Q Q')) (fun Q Q' => wpE_mono a ρ Q Q') w
  | .chain o1 o2 a b c, ρ, Q, Q', h, w => by
    rw [wpT] at w ⊢
    refine wpE_mono a ρ _ _ (fun x => wpE_mono b ρ _ _ fun y => cmpD_mono fun k q => ?_) w
    split
    · rename_i e; rw [if_pos e] at q; exact wpE_mono c ρ _ _ (fun z => cmpD_mono h) q
    · rename_i e; rw [if_neg e] at q; exact h _ q
  | .and a b, ρ, Q, Q', h, w => by
    rw [wpT] at w ⊢
    refine wpT_mono a ρ _ _ (fun k q => ?_) w
    split
    · rename_i e; rw [if_pos e] at q; exact wpT_mono b ρ _ _ h q
    · rename_i e; rw [if_neg e] at q; exact h _ q
  | .or a b, ρ, Q, Q', h, w => by
    rw [wpT] at w ⊢
    refine wpT_mono a ρ _ _ (fun k q => ?_) w
    split
    · rename_i e; rw [if_pos e] at q; exact h _ q
    · rename_i e; rw [if_neg e] at q; exact wpT_mono b ρ _ _ h q
  | .ife c a b, ρ, Q, Q', h, w => by rw [wpT] at w; exact w.elim
  | .tup es, ρ, Q, Q', h, w => by rw [wpT] at w; exact w.elim; all_goals (intros; contradiction)
  | .lst es, ρ, Q, Q', h, w => by rw [wpT] at w; exact w.elim; all_goals (intros; contradiction)
  | .idx a i, ρ, Q, Q', h, w => by
    rw [wpT] at w ⊢
    exact pk_mono (fun x => wpE_mono i ρ _ _ fun y => idxD_mono (truQ_mono h)) (fun Q Q' => wpE_mono a ρ Q Q') w
  | .sl a lo hi, ρ, Q, Q', h, w => by rw [wpT] at w; exact w.elim; all_goals (intros; contradiction)
  | .rev a, ρ, Q, Q', h, w => by rw [wpT] at w; exact w.elim; all_goals (intros; contradiction)
  | .maxK f a, ρ, Q, Q', h, w => by rw [wpT] at w; exact w.elim; all_goals (intros; contradiction)
  | .isi t a, ρ, Q, Q', h, w => by rw [wpT] at w ⊢; exact pk_mono (fun x => isiD_mono fun k => truQ_mono h _) (fun Q Q' => wpE_mono a ρ Q Q') w
  | .call f es, ρ, Q, Q', h, w => by rw [wpT] at w ⊢; exact wpEs_mono es ρ _ _ (fun ds => Γm f ds _ _ (truQ_mono h)) w
  | .prim p es, ρ, Q, Q', h, w => by rw [wpT] at w ⊢; exact wpPs_mono es ρ _ _ (fun ds => primD_mono (truQ_mono h)) w
  | .comp own elt tg k its ifs, ρ, Q, Q', h, w => by rw [wpT] at w; exact w.elim; all_goals (intros; contradiction)
  | .comp2 _ _ _ _ _ _ _ _ _ _, ρ, Q, Q', h, w => by rw [wpT] at w; exact w.elim; all_goals (intros; contradiction)
  | .bad, ρ, Q, Q', h, w => by rw [wpT] at w; exact w.elim; all_goals (intros; contradiction)
end
end
end Gx
set_option maxHeartbeats 4000000
/-! Gx, part E: the readings, the operators. -/
namespace Gx
open PySem PySem.Spec PyProof.Rows L2

theorem PE.weak {X : Cx} {e : Expr} {t t' : TE} (h : PE X e t) (w : ∀ σ H Q, t' σ H Q → t σ H Q) : PE X e t' := ⟨fun pins s σ H Q I q => h.run pins s σ H Q I (w σ H Q q)⟩
theorem PT.weak {X : Cx} {e : Expr} {t t' : TT} (h : PT X e t) (w : ∀ σ H Q, t' σ H Q → t σ H Q) : PT X e t' := ⟨fun pins s σ H Q I q => h.run pins s σ H Q I (w σ H Q q)⟩
theorem PW.weak {X : Cx} {e : Expr} {t t' : TT} (h : PW X e t) (w : ∀ σ H Q, t' σ H Q → t σ H Q) : PW X e t' := ⟨fun wh pins s σ H Q I q => h.run wh pins s σ H Q I (w σ H Q q)⟩
theorem PA.weak {X : Cx} {e : List Expr} {t t' : TA} (h : PA X e t) (w : ∀ σ H Q, t' σ H Q → t σ H Q) : PA X e t' := ⟨fun pos pins s σ H Q I q => h.run pos pins s σ H Q I (w σ H Q q)⟩
theorem PS.weak {X : Cx} {e : Stmt} {t t' : TS} (h : PS X e t) (w : ∀ D σ H, t' D σ H → t D σ H) : PS X e t' := ⟨fun pins s σ H D I q => h.run pins s σ H D I (w D σ H q)⟩
theorem PSs.weak {X : Cx} {e : List Stmt} {t t' : TS} (h : PSs X e t) (w : ∀ D σ H, t' D σ H → t D σ H) : PSs X e t' := ⟨fun pins s σ H D I q => h.run pins s σ H D I (w D σ H q)⟩
theorem PI.weak {X : Cx} {tg e : Expr} {t t' : TI} (h : PI X tg e t) (w : ∀ σ H Q, t' σ H Q → t σ H Q) : PI X tg e t' := ⟨fun pins s σ H R I q => h.run pins s σ H R I (w σ H R q)⟩
theorem PI.or {X : Cx} {tg e : Expr} {t t' : TI} (h : PI X tg e t) (h' : PI X tg e t') : PI X tg e (fun σ H R => t σ H R ∨ t' σ H R) := ⟨fun pins s σ H R I q => q.elim (h.run pins s σ H R I) (h'.run pins s σ H R I)⟩
theorem PE.or {X : Cx} {e : Expr} {t t' : TE} (h : PE X e t) (h' : PE X e t') : PE X e (fun σ H R => t σ H R ∨ t' σ H R) := ⟨fun pins s σ H R I q => q.elim (h.run pins s σ H R I) (h'.run pins s σ H R I)⟩
theorem PE.no {X : Cx} {e : Expr} : PE X e (fun _ _ _ => False) := ⟨fun _ _ _ _ _ _ q => q.elim⟩
theorem PT.no {X : Cx} {e : Expr} : PT X e (fun _ _ _ => False) := ⟨fun _ _ _ _ _ _ q => q.elim⟩
theorem PA.no {X : Cx} {e : List Expr} : PA X e (fun _ _ _ => False) := ⟨fun _ _ _ _ _ _ _ q => q.elim⟩
theorem PI.no {X : Cx} {tg e : Expr} : PI X tg e (fun _ _ _ => False) := ⟨fun _ _ _ _ _ _ q => q.elim⟩
theorem PS.no {X : Cx} {e : Stmt} : PS X e (fun _ _ _ => False) := ⟨fun _ _ _ _ _ _ q => q.elim⟩

def At (K : PySem.W.Frag) (Z : Hd) (ρ : Ev) (σ : L2.St) (W H : Hp) : Prop := ∃ He W0 P, EnvR K Z He W0 P ρ σ W H
inductive PRs (K : PySem.W.Frag) (Z : Hd) (W H : Hp) : List V → List D → Prop
  | nil : PRs K Z W H [] []
  | cons {v vs d ds} : PR K Z W H v d → PRs K Z W H vs ds → PRs K Z W H (v :: vs) (d :: ds)
section
variable (K : PySem.W.Frag) (Z : Hd) (Γ : Nat → Con) (G : Nat → D)
def tE (c : CE) : TE := fun σ H Q => ∃ ρ W, At K Z ρ σ W H ∧ wpE Γ G c ρ fun r => ∀ v W' H', Go Z W H W' H' → VR K Z H W' H' v r → Q v H'
def tP (c : CE) : TE := fun σ H Q => ∃ ρ W, At K Z ρ σ W H ∧ pk c ρ (wpE Γ G c ρ) fun d => ∀ v W' H', Go Z W H W' H' → PR K Z W' H' v d → Q v H'
def tTs (c : CE) : TT := fun σ H Q => ∃ ρ W, At K Z ρ σ W H ∧ wpT Γ G c ρ fun k => ∀ W' H', Go Z W H W' H' → Q k H'
def tEs (cs : List CE) : TA := fun σ H Q => ∃ ρ W, At K Z ρ σ W H ∧ wpEs Γ G cs ρ fun ds => ∀ vs W' H', Go Z W H W' H' → RpA K Z W' vs ds → Q vs H'
def tPs (cs : List CE) : TA := fun σ H Q => ∃ ρ W, At K Z ρ σ W H ∧ wpPs Γ G cs ρ fun ds => ∀ vs W' H', Go Z W H W' H' → PRs K Z W' H' vs ds → Q vs H'
end
section
variable {K : PySem.W.Frag} {Z : Hd} {W H W1 H1 W2 H2 : Hp} {ρ : Ev} {σ : L2.St} {v : V} {d : D} {r : Val}
theorem At.go (a : At K Z ρ σ W H) (g : Go Z W H W1 H1) : At K Z ρ σ W1 H1 := by
  obtain ⟨He, W0, P, E⟩ := a; exact ⟨He, W0, P, E.go g⟩
theorem At.refl (a : At K Z ρ σ W H) : Go Z W H W H := by
  obtain ⟨He, W0, P, E⟩ := a; exact E.refl
theorem At.shr (a : At K Z ρ σ W H) {i : Nat} (e : ρ.shr i = some d) : ∃ v, σ[i]? = some (some v) ∧ Rp K Z W v d := by
  obtain ⟨He, W0, P, E⟩ := a
  unfold Ev.shr at e
  split at e
  · rename_i d' q; cases e; exact E.slot i _ q
  · cases e
theorem At.data (a : At K Z ρ σ W H) {i : Nat} (e : ρ.data i = some d) : ∃ v, σ[i]? = some (some v) ∧ PR K Z W H v d := by
  obtain ⟨He, W0, P, E⟩ := a
  unfold Ev.data at e
  split at e
  · rename_i w q
    cases e
    cases w with
    | sh d => obtain ⟨v, h1, h2⟩ := E.slot i d q; exact ⟨v, h1, .inl h2⟩
    | ow ds => obtain ⟨h1, h2, h3, h4, vs, h5, h6⟩ := E.own i ds q; exact ⟨_, h1, .inr ⟨_, vs, ds, rfl, rfl, h4, h5, h6⟩⟩
  · cases e
/-- a value's own end, as a step from further back -/
theorem VR.back (g : Go Z W H W1 H1) (h : VR K Z H1 W2 H2 v r) : VR K Z H W2 H2 v r := by
  cases r with
  | sh d => exact h
  | ow ds => obtain ⟨p, vs, e, h1, h2⟩ := h; exact ⟨p, vs, e, g.back h1, h2⟩
theorem PRs.go {vs : List V} {ds : List D} (h : PRs K Z W1 H1 vs ds) (g : Go Z W1 H1 W2 H2) : PRs K Z W2 H2 vs ds := by
  induction h with
  | nil => exact .nil
  | cons a _ ih => exact .cons (a.go g) ih
/-- a fresh tuple is an answer -/
theorem ans_tup (g : Go Z W H W1 H1) {p : Addr} {vs : List V} {ds : List D} (n : H1 p = none) (h : RpA K Z W1 vs ds) : Go Z W H (upd W1 p (.tup vs)) (upd H1 p (.tup vs)) ∧ VR K Z H (upd W1 p (.tup vs)) (upd H1 p (.tup vs)) (.ref p) (.sh (.tup ds)) :=
  ⟨g.tup n, .tup (SqT.of upd_same) (RpA.mono (fun b o e => by rw [upd_ne (ne_of_none e (g.wnone n))]; exact e) _ _ h)⟩
/-- a fresh list is an answer -/
theorem ans_lst (g : Go Z W H W1 H1) {p : Addr} {vs : List V} {ds : List D} (n : H1 p = none) (h : RpA K Z W1 vs ds) : Go Z W H W1 (upd H1 p (.lst vs)) ∧ VR K Z H W1 (upd H1 p (.lst vs)) (.ref p) (.ow ds) :=
  ⟨g.list n, ⟨p, vs, rfl, g.back n, g.wnone n, g.fresh n, upd_same, h⟩⟩
theorem VR.flat (h : VR K Z H W1 H1 v (.sh d)) : (∀ i, d = .int i → v = .int i) ∧ (∀ b, d = .bl b → v = .bl b) ∧ (d = .non → v = .non) := by
  have h : Rp K Z W1 v d := h
  exact ⟨(PR.flat (H1 := H1) (.inl h)).1, (PR.flat (H1 := H1) (.inl h)).2.1, (PR.flat (H1 := H1) (.inl h)).2.2.1⟩
theorem PR.truth (s : Same W1 H1) (h : PR K Z W1 H1 v d) {k : Bool} (e : truD d = some k) : TruV K v H1 k := by
  cases d with
  | non => have := (h.flat).2.2.1 rfl; subst this; cases e; rfl
  | bl b => have := (h.flat).2.1 b rfl; subst this; cases e; rfl
  | int i => have := (h.flat).1 i rfl; subst this; cases e; rfl
  | tup ds =>
    obtain ⟨p, vs, rfl, h1, _, h2⟩ := h.tup s
    cases e
    refine .inr (.inl ⟨vs, h1, ?_⟩)
    cases h2 <;> rfl
  | lst ds =>
    obtain ⟨p, vs, rfl, h1, h2⟩ := h.lst s
    cases e
    refine .inl ⟨vs, SqL.of h1, ?_⟩
    cases h2 <;> rfl
  | str x => cases e
  | hd n => cases e

/-! ### operators by values -/
variable {X : Cx}
def rBin (K : PySem.W.Frag) (Z : Hd) (o : BO) : R2 := fun x y H Q => ∃ W d e, Go Z W H W H ∧ PR K Z W H x d ∧ PR K Z W H y e ∧ binD o d e fun r => ∀ v W' H', Go Z W H W' H' → VR K Z H W' H' v r → Q v H'
theorem gop_fdiv : OpR X (binaryOp .FloorDiv) (rI (fun _ j => DivOk j) fun i j => .int (i.fdiv j)) := opI fun i j _ _ _ _ _ hc q => floordiv_int hc.1 q (.inl (PyProof.noPylong_of_log2 hc.2))
theorem gop_mul : OpR X (binaryOp .Mult) (rI MulOk fun i j => .int (i * j)) := opI fun i j _ _ _ _ _ hc q => mul_int q (show CMulW i j from hc).ok
theorem big16 {n : Nat} (h : n ≤ 16777216) : n ≤ sizeLine := by rw [sizeLine_eq]; exact h
/-- an int back -/
theorem ansI (g : Go Z W H W H) {Q : VK} {i : Int} (q : ∀ v W' H', Go Z W H W' H' → VR K Z H W' H' v (.sh (.int i)) → Q v H') : Q (.int i) H := q _ W H g (.int i)
theorem ansB (g : Go Z W H W H) {Q : VK} {i : Bool} (q : ∀ v W' H', Go Z W H W' H' → VR K Z H W' H' v (.sh (.bl i)) → Q v H') : Q (.bl i) H := q _ W H g (.bl i)
theorem bin_ok (o : BO) (op : Operator) (ho : boOf op = some o) : OpR X (binaryOp op) (rBin X.K Z o) := by
  intro pins s σ H x y v u Q I rx ry h
  obtain ⟨W, d, e, g, hx, hy, w⟩ := h
  cases op <;> simp only [boOf, Option.some.injEq, reduceCtorEq] at ho <;> subst ho <;> unfold binD at w <;> simp only at w
  case Add =>
    split at w
    · rename_i i j _
      rw [hx.flat.1 i rfl] at rx; rw [hy.flat.1 j rfl] at ry
      exact op_add pins s σ H _ _ v u Q I rx ry ⟨i, j, rfl, rfl, ansI g w⟩
    all_goals first
      | contradiction
      | skip
    · rename_i xs ys _
      obtain ⟨p, vs, rfl, h1, h2⟩ := hx.lst g.sub
      obtain ⟨q, ws, rfl, h3, h4⟩ := hy.lst g.sub
      refine op_cat pins s σ H _ _ v u Q I rx ry ⟨p, q, vs, ws, rfl, rfl, h1, h3, big16 (by rw [h2.length, h4.length]; exact w.1), fun l hl => ?_⟩
      obtain ⟨a1, a2⟩ := ans_lst (K := X.K) g hl (h2.append h4)
      exact w.2 _ _ _ a1 a2
    · rename_i xs ys _
      obtain ⟨p, vs, rfl, h1, h1', h2⟩ := hx.tup g.sub
      obtain ⟨q, ws, rfl, h3, h3', h4⟩ := hy.tup g.sub
      refine op_catA pins s σ H _ _ v u Q I rx ry ⟨p, q, vs, ws, rfl, rfl, h1, h3, big16 (by rw [h2.length, h4.length]; exact w.1), fun z => ?_, fun _ z => ?_, fun _ _ l hl => ?_⟩
      · subst z
        cases h2
        exact w.2 _ _ _ g (.tup h3' h4)
      · subst z
        cases h4
        refine w.2 _ _ _ g ?_
        rw [List.append_nil]
        exact .tup h1' h2
      · obtain ⟨a1, a2⟩ := ans_tup (K := X.K) g hl (h2.append h4)
        exact w.2 _ _ _ a1 a2
  case Sub =>
    split at w
    all_goals first
      | contradiction
      | skip
    · rename_i i j _
      rw [hx.flat.1 i rfl] at rx; rw [hy.flat.1 j rfl] at ry
      exact op_sub pins s σ H _ _ v u Q I rx ry ⟨i, j, rfl, rfl, ansI g w⟩
  case Mult =>
    split at w
    all_goals first
      | contradiction
      | skip
    · rename_i i j _
      rw [hx.flat.1 i rfl] at rx; rw [hy.flat.1 j rfl] at ry
      exact gop_mul pins s σ H _ _ v u Q I rx ry ⟨i, j, rfl, rfl, w.1, ansI g w.2⟩
    · rename_i xs k _
      obtain ⟨p, vs, rfl, h1, h2⟩ := hx.lst g.sub
      rw [hy.flat.1 k rfl] at ry
      refine op_rep pins s σ H _ _ v u Q I rx ry ⟨p, k, vs, rfl, rfl, h1, by omega, by omega, big16 (by rw [h2.length]; exact w.1.2.2), fun l hl => ?_⟩
      obtain ⟨a1, a2⟩ := ans_lst (K := X.K) g hl (h2.rep k.toNat)
      exact w.2 _ _ _ a1 a2
  case Mod =>
    split at w
    all_goals first
      | contradiction
      | skip
    · rename_i i j _
      rw [hx.flat.1 i rfl] at rx; rw [hy.flat.1 j rfl] at ry
      exact op_modN pins s σ H _ _ v u Q I rx ry ⟨i, j, rfl, rfl, w.1, ansI g w.2⟩
  case Pow =>
    split at w
    all_goals first
      | contradiction
      | skip
    · rename_i i j _
      rw [hx.flat.1 i rfl] at rx; rw [hy.flat.1 j rfl] at ry
      exact op_pow pins s σ H _ _ v u Q I rx ry ⟨i, j, rfl, rfl, w.1, ansI g w.2⟩
  case RShift =>
    split at w
    all_goals first
      | contradiction
      | skip
    · rename_i i j _
      rw [hx.flat.1 i rfl] at rx; rw [hy.flat.1 j rfl] at ry
      exact op_shr pins s σ H _ _ v u Q I rx ry ⟨i, j, rfl, rfl, w.1, ansI g w.2⟩
  case BitAnd =>
    split at w
    all_goals first
      | contradiction
      | skip
    · rename_i i j _
      rw [hx.flat.1 i rfl] at rx; rw [hy.flat.1 j rfl] at ry
      exact op_and pins s σ H _ _ v u Q I rx ry ⟨i, j, rfl, rfl, ansI g w⟩
  case FloorDiv =>
    split at w
    all_goals first
      | contradiction
      | skip
    · rename_i i j _
      rw [hx.flat.1 i rfl] at rx; rw [hy.flat.1 j rfl] at ry
      exact gop_fdiv pins s σ H _ _ v u Q I rx ry ⟨i, j, rfl, rfl, w.1, ansI g w.2⟩
end
end Gx
set_option maxHeartbeats 4000000
/-! Gx, part Mx: max(list, key=def). -/
namespace Gx
open PySem PySem.Spec PyProof.Rows L2
section
variable {X : Cx} {pins : List (Addr × Obj)} {σ : L2.St} {f p S I : Addr} {vs : List V} {kf : Nat → Int} {Y : Hp → Prop} {Q : VK}
theorem run_in1 {k : Nat} {fd : FuncData} {ps : List Str} {sp : Sp} {H : Hp} {s : Shared} {us : List Value} {vs : List V} (F : FnOk X.prog X.w X.K X.mg X.base CX0 k f fd ps sp) (hr : Room (k + 1) X.A) (hb : Binds X.K fd ps [])
    (J : Inv X pins σ H s) (r : Vals vs us) (h : sp vs H Q E0) : wpAny (model X.prog X.w) X.A.in1 (call (.ref f) us) (EP X pins σ Q) (fun _ _ => False) s := by
  have hl : us.length = ps.length := by rw [← r.length]; exact F.len _ _ _ _ h
  refine wpAny_call (codeAny_mono (F.run X.A.in1 X.stack s H ⟨us, []⟩ us vs Q E0 hr.in1 J.env0.in1 (by have := hb s us J.kIn (by rw [List.append_nil]; exact hl); rw [List.append_nil] at this; exact this) r h) fun r s' hq => ?_)
  cases r with
  | error e => exact hq
  | ok fl =>
    cases fl with
    | ret u => exact J.after hq
    | next => exact False.elim hq
    | brk => exact False.elim hq
    | cont => exact False.elim hq
/-- what stands after the loop -/
abbrev mxR (X : Cx) (pins : List (Addr × Obj)) (σ : L2.St) (Q : VK) : Result → Shared → Prop := fun r s' => match r with | .ok (.ret v) => EP X pins σ Q v s' | .ok _ => False | .error e => X.xe e s'
theorem fp_not {H H' : Hp} {b : Addr} (f : FpOk X pins H b) (h : H' b = none) : FpOk X pins H' b := ⟨h, f.2⟩
theorem tickI {it : Addr} {t' : Nat} {H : Hp} {s : Shared} {h' : Heap} (J : Inv X pins σ H s) (k : ∀ b o, b ≠ it → s.heap.get? b = some o → h'.get? b = some o) (f : FpOk X pins H it) : Inv X pins σ H { s with heap := h', toks := t' } :=
  J.turned k f.1 f.2.1 f.2.2.2.1 f.2.2.2.2.1 f.2.2.2.2.2
theorem mx_loop (hh : X.A.handled = none) (hSI : S ≠ I)
    (turn : ∀ (pins : List (Addr × Obj)) (i : Nat) (v : V) (u : Value) (H : Hp) (s : Shared), vs[i]? = some v → RelV v u → Y H → Inv X pins σ H s → wpAny (model X.prog X.w) X.A.in1 (call (.ref f) [u]) (EP X pins σ fun r H' => r = .int (kf i) ∧ Y H') (fun _ _ => False) s)
    (hl : ∀ H, Y H → H p = some (.lst vs))
    (hQ : ∀ i v H, vs[i]? = some v → (∀ j, j < vs.length → kf j ≤ kf i ∧ (j < i → kf j < kf i)) → Y H → Q v H) :
    ∀ (r j i : Nat) (H : Hp) (s : Shared) (vb : V) (ub : Value) (tb : Tok) (c : Nat), vs.length - (j + 1) = r → j + 1 ≤ vs.length → Inv X pins σ H s → Y H → FpOk X pins H I → FpOk X pins H S →
      s.heap.get? S = some (seqObj "list" #[ub, .int (kf i) tb] c) → s.heap.IsListIter I p (j + 1) → vs[i]? = some vb → RelV vb ub → i ≤ j → (∀ j', j' ≤ j → kf j' ≤ kf i ∧ (j' < i → kf j' < kf i)) →
      codeAny (model X.prog X.w) X.A (.builtin "max.loop" ⟨[.ref I, .ref f, .ref S], []⟩) (mxR X pins σ Q) s := by
  have hname : (toString "max" ++ toString ".loop" : String) = "max.loop" := by decide
  intro r
  induction r with
  | zero =>
    intro j i H s vb ub tb c hr hj J y fI fS gS hit hvb rb hij hbest
    have hin : j + 1 = vs.length := by omega
    have hp := hl H y
    have hpI : p ≠ I := fun e => by rw [e, fI.1] at hp; cases hp
    obtain ⟨its, rv, pl, _⟩ := J.list (SqL.of hp)
    have W := Walks.list (prog := X.prog) (w := X.w) (A := X.A.in1) hh I p hpI its.toArray
    have hsz : its.toArray.size = vs.length := by rw [List.size_toArray]; exact rv.length.symm
    refine codeAny_builtin PySem.F.entry_max_loop ?_
    rw [Around.under_plainId PySem.F.plain_max_loop _]
    show wpAny _ X.A.in1 (seqItems? (.ref S) >>= _) _ _ _
    refine wpAny_bind (wpAny_seqItems gS rfl ?_)
    show wpAny _ X.A.in1 (tryCatch (pyNext (.ref I)) _ >>= _) _ _ _
    refine wpAny_bind (wpAny_tryCatch (W.done _ _ _ ⟨by rw [hsz, ← hin]; exact hit, pl.isList⟩ fun h' tk' hk' => ?_))
    have hS' := hk' S _ (by simpa using hSI) gS
    have J1 : Inv X pins σ H { s with heap := h', toks := tk' } := tickI J (fun b o hb e => hk' b o (by simpa using hb) e) fI
    show wpAny _ X.A.in1 (updateSeq S (fun _ => #[]) >>= _) _ _ _
    refine wpAny_bind ?_
    refine wpAny_updateSeq hS' rfl (wpAny_bind (wpAny_letGo (wpAny_pure ?_)))
    refine ⟨vb, H, tickI (s := { s with heap := h', toks := tk' }) J1 (fun b o hb e => ((Heap.SameBut.update ..).2 b hb).trans e) fS, rb, hQ i vb H hvb (fun j' hj' => hbest j' (by omega)) y⟩
  | succ r ih =>
    intro j i H s vb ub tb c hr hj J y fI fS gS hit hvb rb hij hbest
    have hlt : j + 1 < vs.length := by omega
    have hp := hl H y
    have hpI : p ≠ I := fun e => by rw [e, fI.1] at hp; cases hp
    obtain ⟨its, rv, pl, _⟩ := J.list (SqL.of hp)
    have W := Walks.list (prog := X.prog) (w := X.w) (A := X.A.in1) hh I p hpI its.toArray
    have hsz : its.toArray.size = vs.length := by rw [List.size_toArray]; exact rv.length.symm
    refine codeAny_builtin PySem.F.entry_max_loop ?_
    rw [Around.under_plainId PySem.F.plain_max_loop _]
    show wpAny _ X.A.in1 (seqItems? (.ref S) >>= _) _ _ _
    refine wpAny_bind (wpAny_seqItems gS rfl ?_)
    show wpAny _ X.A.in1 (tryCatch (pyNext (.ref I)) _ >>= _) _ _ _
    refine wpAny_bind (wpAny_tryCatch (W.item (j + 1) _ _ _ (by rw [hsz]; exact hlt) ⟨hit, pl.isList⟩ fun u h' tk' hP hst' hk' => ?_))
    have hu : its[j + 1]? = some u := by simpa using hP
    obtain ⟨v, hv, ru⟩ : ∃ v, vs[j + 1]? = some v ∧ RelV v u := by
      obtain ⟨v, hv⟩ : ∃ v, vs[j + 1]? = some v := ⟨_, List.getElem?_eq_getElem hlt⟩
      obtain ⟨u', e1, e2⟩ := rv.get hv
      rw [hu] at e1; cases e1
      exact ⟨v, hv, e2⟩
    have J1 : Inv X pins σ H { s with heap := h', toks := tk' } := tickI J (fun b o hb e => hk' b o (by simpa using hb) e) fI
    obtain ⟨oI', hoI', hoc, hod⟩ := id hst'.1
    have hS' : h'.get? S = _ := hk' S _ (by simpa using hSI) gS
    have J2 := J1.pinned (fp := [S, I]) (fun b hb => by
      rcases List.mem_cons.mp hb with rfl | hb
      · exact fS
      · rw [List.mem_singleton.mp hb]; exact fI) (fun b hb => by
      rcases List.mem_cons.mp hb with rfl | hb
      · exact ⟨_, hS', fun v z => by cases z⟩
      · rw [List.mem_singleton.mp hb]; exact ⟨_, hoI', fun v z => by rw [hod] at z; cases z⟩)
    show wpAny _ X.A.in1 (tryCatch (holding [u] (call (.ref f) [u])) _ >>= _) _ _ _
    refine wpAny_bind (wpAny_tryCatch (wpAny_holding (wpAny_mono (turn _ (j + 1) v u H _ hv ru y J2) (fun x s2 he => ?_) fun _ _ hF => hF.elim)))
    obtain ⟨xv, H2, J3, rx, rfl, y2⟩ := he
    obtain ⟨t2, rfl⟩ := (show ∃ t, x = Value.int (kf (j + 1)) t from rx)
    have mS : (S, seqObj "list" #[ub, .int (kf i) tb] c) ∈ pinsAt [S, I] h' := mem_pinsAt (by simp) hS'
    have mI : (I, oI') ∈ pinsAt [S, I] h' := mem_pinsAt (by simp) hoI'
    obtain ⟨gS2, nS2, _⟩ := J3.pin _ (List.mem_append_right _ (List.mem_append_right _ mS))
    obtain ⟨gI2, nI2, _⟩ := J3.pin _ (List.mem_append_right _ (List.mem_append_right _ mI))
    have J4 := J3.unpinned
    have fI2 := fp_not fI nI2
    have fS2 := fp_not fS nS2
    have hit2 : s2.heap.IsListIter I p (j + 1 + 1) := ⟨oI', gI2, hoc, hod⟩
    show wpAny _ X.A.in1 (tryCatch (holding [u, .int (kf (j + 1)) t2] (richCompare .Gt (.int (kf (j + 1)) t2) (.int (kf i) tb) >>= _)) _ >>= _) _ _ _
    refine wpAny_bind (wpAny_tryCatch (wpAny_holding (wpAny_bind (CmpOf.ints_gt (prog := X.prog) (w := X.w) (A := X.A.in1) (P := fun i v => ∃ t, v = .int (kf i) t) kf (fun i v h => h) (j + 1) i _ _ _ _ _ ⟨t2, rfl⟩ ⟨tb, rfl⟩ ?_))))
    refine wpAny_bind (wpAny_holding (wpAny_truthy_bool ?_))
    refine wpAny_bind (wpAny_letGo (wpAny_pure ?_))
    by_cases hb' : kf (j + 1) > kf i
    · obtain ⟨c2, hc2⟩ : ∃ c2, (s2.heap.update S (Obj.mapSeq fun _ => #[u, .int (kf (j + 1)) t2])).get? S = some (seqObj "list" #[u, .int (kf (j + 1)) t2] c2) := ⟨_, get?_update_seq gS2 fun _ => #[u, .int (kf (j + 1)) t2]⟩
      simp only [hb', decide_true, if_true]
      refine wpAny_bind ?_
      refine wpAny_updateSeq gS2 rfl (wpAny_bind (wpAny_letGo ?_))
      rw [hname]
      have s1 := Heap.SameBut.update s2.heap S (Obj.mapSeq fun _ => #[u, .int (kf (j + 1)) t2])
      refine wpAny_pure ⟨plainId_quiet PySem.F.plain_max_loop _, ih (j + 1) (j + 1) H2 _ v u t2 c2 (by omega) hlt (tickI J4 (fun b o hb e => (s1.2 b hb).trans e) fS2) y2 fI2 fS2 hc2 ⟨oI', (s1.2 I hSI.symm).trans gI2, hoc, hod⟩ hv ru (Nat.le_refl _) fun j' hj' => ?_⟩
      by_cases e : j' = j + 1
      · subst e
        exact ⟨by omega, fun _ => by omega⟩
      · have hb1 := hbest j' (by omega)
        have hb2 := hb1.1
        exact ⟨by omega, fun _ => by omega⟩
    · simp only [hb', decide_false, Bool.false_eq_true, if_false]
      refine wpAny_bind (wpAny_letGo ?_)
      rw [hname]
      refine wpAny_pure ⟨plainId_quiet PySem.F.plain_max_loop _, ih (j + 1) i H2 _ vb ub tb c (by omega) hlt (J4.kept fun _ _ e => e) y2 fI2 fS2 gS2 hit2 hvb rb (by omega) fun j' hj' => ?_⟩
      by_cases e : j' = j + 1
      · subst e
        exact ⟨by omega, fun _ => by omega⟩
      · exact hbest j' (by omega)
/-- max(l, key=f) -/
def rMaxK (X : Cx) : List V → List V → Hp → VK → Prop := fun xs zs H Q => ∃ (p f : Addr) (vs : List V) (kf : Nat → Int) (Y : Hp → Prop) (k : Nat) (fd : FuncData) (ps : List Str) (sp : Sp), xs = [.ref p] ∧ zs = [.ref f] ∧ 0 < vs.length ∧
  FnOk X.prog X.w X.K X.mg X.base CX0 k f fd ps sp ∧ Binds X.K fd ps [] ∧ Room (k + 1) X.A ∧ Y H ∧ (∀ H, Y H → H p = some (.lst vs)) ∧
  (∀ (i : Nat) (v : V) (H : Hp), vs[i]? = some v → Y H → sp [v] H (fun r H' => r = .int (kf i) ∧ Y H') E0) ∧
  ∀ i v H, vs[i]? = some v → (∀ j, j < vs.length → kf j ≤ kf i ∧ (j < i → kf j < kf i)) → Y H → Q v H
theorem maxK_ok : CallRK X (.builtin "max") ["key"] (rMaxK X) := by
  intro pins s σ H xs zs us ws Q J rx rz h
  obtain ⟨p, f, vs, kf, Y, k, fd, ps, sp, rfl, rfl, hne, F, hb, hr, y, hl, hst, hQ⟩ := h
  obtain ⟨up, rfl, e1⟩ := vals1 rx
  obtain ⟨uf, rfl, e2⟩ := vals1 rz
  cases (show up = Value.ref p from e1)
  cases (show uf = Value.ref f from e2)
  show wpAny _ _ (call (.builtin "max") [.ref p] [(Str.ofString "key", .ref f)]) _ _ s
  have hh : X.A.handled = none := hr.hd
  have turn : ∀ (pins : List (Addr × Obj)) (i : Nat) (v : V) (u : Value) (H : Hp) (s : Shared), vs[i]? = some v → RelV v u → Y H → Inv X pins σ H s → wpAny (model X.prog X.w) X.A.in1 (call (.ref f) [u]) (EP X pins σ fun r H' => r = .int (kf i) ∧ Y H') (fun _ _ => False) s :=
    fun pins i v u H s hv ru y J => run_in1 F hr hb J (.cons ru .nil) (hst i v H hv y)
  have hname : (toString "max" ++ toString ".loop" : String) = "max.loop" := by decide
  have hp := hl H y
  obtain ⟨its, rv, pl, _⟩ := J.list (SqL.of hp)
  have hls := pl.isList
  obtain ⟨ol, hol, _⟩ := id hls
  have hll : p < s.heap.objs.size := Heap.lt_size hol
  refine kmk_tree PySem.F.kind_max PySem.F.plain_max PySem.F.entry_max (kmk_max_key _ _) ?_
  show wpAny _ X.A.in1 (Builtin.Builtins.bindParams "max" ["key", "default"] 0 ⟨[], [(Str.ofString "key", .ref f)]⟩ >>= _) _ _ s
  refine wpAny_bind (wpAny_of_eq (show Builtin.Builtins.bindParams "max" ["key", "default"] 0 ⟨[], [(Str.ofString "key", .ref f)]⟩ = pure [some (.ref f), none] from rfl) ?_)
  refine wpAny_bind (wpAny_pure ?_)
  refine wpAny_bind (wpAny_pyIter_list hls ?_)
  refine wpAny_bind (wpAny_newList ?_ (Nat.zero_le _))
  rw [hname]
  have hS : (s.heap.push { cls := .type "list_iterator", data := .fields #[.ref p, .int 0 0] }).objs.size = s.heap.objs.size + 1 := size_push' ..
  have hpI : p ≠ s.heap.objs.size := Nat.ne_of_lt hll
  have hSI : (s.heap.push { cls := .type "list_iterator", data := .fields #[.ref p, .int 0 0] }).objs.size ≠ s.heap.objs.size := by rw [hS]; exact Nat.ne_of_gt (Nat.lt_succ_self _)
  refine wpAny_pure ⟨plainId_quiet PySem.F.plain_max_loop _, ?_⟩
  have nI : H s.heap.objs.size = none := J.hok.fresh (Nat.le_refl _)
  have nS : H (s.heap.push { cls := .type "list_iterator", data := .fields #[.ref p, .int 0 0] }).objs.size = none := by rw [hS]; exact J.hok.fresh (Nat.le_succ _)
  have fI : FpOk X pins H s.heap.objs.size := J.fpOk (Nat.le_refl _) nI
  have fS : FpOk X pins H (s.heap.push { cls := .type "list_iterator", data := .fields #[.ref p, .int 0 0] }).objs.size := J.fpOk (by rw [hS]; exact Nat.le_succ _) nS
  have kp : ∀ b o, s.heap.get? b = some o → ((s.heap.push { cls := .type "list_iterator", data := .fields #[.ref p, .int 0 0] }).push (seqObj "list" #[] 0)).get? b = some o := fun b o e => Heap.get?_push_of_some _ (Heap.get?_push_of_some _ e)
  have J0 : Inv X pins σ H { s with heap := (s.heap.push { cls := .type "list_iterator", data := .fields #[.ref p, .int 0 0] }).push (seqObj "list" #[] 0) } := J.kept (t' := s.toks) kp
  have gI : ((s.heap.push { cls := .type "list_iterator", data := .fields #[.ref p, .int 0 0] }).push (seqObj "list" #[] 0)).get? s.heap.objs.size = some { cls := .type "list_iterator", data := .fields #[.ref p, .int 0 0] } :=
    Heap.get?_push_of_some _ (Heap.get?_push_size _ rfl)
  have gS : ((s.heap.push { cls := .type "list_iterator", data := .fields #[.ref p, .int 0 0] }).push (seqObj "list" #[] 0)).get? (s.heap.push { cls := .type "list_iterator", data := .fields #[.ref p, .int 0 0] }).objs.size = some (seqObj "list" #[] 0) := Heap.get?_push_size _ rfl
  generalize (s.heap.push { cls := .type "list_iterator", data := .fields #[.ref p, .int 0 0] }).push (seqObj "list" #[] 0) = h0 at *
  generalize (s.heap.push { cls := .type "list_iterator", data := .fields #[.ref p, .int 0 0] }).objs.size = S at *
  generalize s.heap.objs.size = I at *
  obtain ⟨its, rv, pl, _⟩ := J0.list (SqL.of hp)
  have W := Walks.list (prog := X.prog) (w := X.w) (A := X.A.in1) hh I p hpI its.toArray
  have hsz : its.toArray.size = vs.length := by rw [List.size_toArray]; exact rv.length.symm
  refine codeAny_builtin PySem.F.entry_max_loop ?_
  rw [Around.under_plainId PySem.F.plain_max_loop _]
  show wpAny _ X.A.in1 (seqItems? (.ref S) >>= _) _ _ _
  refine wpAny_bind (wpAny_seqItems gS rfl ?_)
  show wpAny _ X.A.in1 (tryCatch (pyNext (.ref I)) _ >>= _) _ _ _
  refine wpAny_bind (wpAny_tryCatch (W.item 0 _ _ _ (by rw [hsz]; exact hne) ⟨⟨_, gI, rfl, rfl⟩, pl.isList⟩ fun u h' tk' hP hst' hk' => ?_))
  have hu : its[0]? = some u := by simpa using hP
  obtain ⟨v, hv, ru⟩ : ∃ v, vs[0]? = some v ∧ RelV v u := by
    obtain ⟨v, hv⟩ : ∃ v, vs[0]? = some v := ⟨_, List.getElem?_eq_getElem hne⟩
    obtain ⟨u', e1, e2⟩ := rv.get hv
    rw [hu] at e1; cases e1
    exact ⟨v, hv, e2⟩
  have J1 : Inv X pins σ H { s with heap := h', toks := tk' } := tickI (s := { s with heap := h0 }) J0 (fun b o hb e => hk' b o (by simpa using hb) e) fI
  obtain ⟨oI', hoI', hoc, hod⟩ := id hst'.1
  have hS' : h'.get? S = _ := hk' S _ (by simpa using hSI) gS
  have J2 := J1.pinned (fp := [S, I]) (fun b hb => by
    rcases List.mem_cons.mp hb with rfl | hb
    · exact fS
    · rw [List.mem_singleton.mp hb]; exact fI) (fun b hb => by
    rcases List.mem_cons.mp hb with rfl | hb
    · exact ⟨_, hS', fun v z => by cases z⟩
    · rw [List.mem_singleton.mp hb]; exact ⟨_, hoI', fun v z => by rw [hod] at z; cases z⟩)
  show wpAny _ X.A.in1 (tryCatch (holding [u] (call (.ref f) [u])) _ >>= _) _ _ _
  refine wpAny_bind (wpAny_tryCatch (wpAny_holding (wpAny_mono (turn _ 0 v u H _ hv ru y J2) (fun x s2 he => ?_) fun _ _ hF => hF.elim)))
  obtain ⟨xv, H2, J3, rx, rfl, y2⟩ := he
  obtain ⟨t2, rfl⟩ := (show ∃ t, x = Value.int (kf 0) t from rx)
  have mS : (S, seqObj "list" #[] 0) ∈ pinsAt [S, I] h' := mem_pinsAt (by simp) hS'
  have mI : (I, oI') ∈ pinsAt [S, I] h' := mem_pinsAt (by simp) hoI'
  obtain ⟨gS2, nS2, _⟩ := J3.pin _ (List.mem_append_right _ (List.mem_append_right _ mS))
  obtain ⟨gI2, nI2, _⟩ := J3.pin _ (List.mem_append_right _ (List.mem_append_right _ mI))
  have J4 := J3.unpinned
  have fI2 := fp_not fI nI2
  have fS2 := fp_not fS nS2
  have s1 := Heap.SameBut.update s2.heap S (Obj.mapSeq fun _ => #[u, .int (kf 0) t2])
  obtain ⟨c2, hc2⟩ : ∃ c2, (s2.heap.update S (Obj.mapSeq fun _ => #[u, .int (kf 0) t2])).get? S = some (seqObj "list" #[u, .int (kf 0) t2] c2) := ⟨_, get?_update_seq gS2 fun _ => #[u, .int (kf 0) t2]⟩
  show wpAny _ X.A.in1 (updateSeq S (fun _ => #[u, .int (kf 0) t2]) >>= _) _ _ _
  refine wpAny_bind ?_
  refine wpAny_updateSeq gS2 rfl ?_
  rw [hname]
  refine wpAny_pure ⟨plainId_quiet PySem.F.plain_max_loop _, mx_loop hh hSI turn hl hQ _ 0 0 H2 _ v u t2 c2 rfl hne (tickI J4 (fun b o hb e => (s1.2 b hb).trans e) fS2) y2 fI2 fS2 hc2 ⟨oI', (s1.2 I hSI.symm).trans gI2, hoc, hod⟩ hv ru (Nat.le_refl _) fun j' hj' => ?_⟩
  have e : j' = 0 := by omega
  subst e
  exact ⟨by omega, fun h => absurd h (Nat.lt_irrefl _)⟩
end
end Gx
set_option maxHeartbeats 4000000
/-! Gx, part F: comparisons, items, slices, built-ins by values. -/
namespace Gx
open PySem PySem.Spec PyProof.Rows L2
section
variable {K : PySem.W.Frag} {Z : Hd} {X : Cx}
def rCmp (K : PySem.W.Frag) (Z : Hd) (o : CO) : R2 := fun x y H Q => ∃ W d e, Go Z W H W H ∧ PR K Z W H x d ∧ PR K Z W H y e ∧ cmpD o d e fun k => Q (.bl k) H
theorem PR.isNon {W H : Hp} {v : V} {d : D} {k : Bool} (h : PR K Z W H v d) (e : isNon d = some k) : decide (v = V.non) = k := by
  rcases h with h | ⟨p, vs, es, rfl, rfl, m, h1, h2⟩
  · cases h <;> simp_all [Gx.isNon]
  · simp_all [Gx.isNon]
theorem cmp_ok (hu : X.A.units + 64 < cLine) (op : CmpOp) : OpR X (compareOp op) (rCmp X.K Z (coOf op)) := by
  intro pins s σ H x y v u Q I rx ry h
  obtain ⟨W, d, e, g, hx, hy, w⟩ := h
  cases op <;> simp only [coOf] at w
  case Eq =>
    obtain ⟨f1, f2, q⟩ := w
    exact op_eqD hu pins s σ H _ _ v u Q I rx ry ⟨_, _, hx.dp g.sub f1.1, hy.dp g.sub f2.1, f1.2, f2.2, q⟩
  case NotEq =>
    obtain ⟨f1, f2, q⟩ := w
    exact op_neD hu pins s σ H _ _ v u Q I rx ry ⟨_, _, hx.dp g.sub f1.1, hy.dp g.sub f2.1, f1.2, f2.2, q⟩
  case Is =>
    obtain ⟨rfl, k, e, q⟩ := w
    rw [hy.flat.2.2.1 rfl] at ry
    refine op_isN pins s σ H _ _ v u Q I rx ry ⟨rfl, ?_⟩
    rw [hx.isNon e]; exact q
  case IsNot =>
    obtain ⟨rfl, k, e, q⟩ := w
    rw [hy.flat.2.2.1 rfl] at ry
    refine op_notN pins s σ H _ _ v u Q I rx ry ⟨rfl, ?_⟩
    rw [hx.isNon e]; exact q
  case In => exact w.elim
  case NotIn => exact w.elim
  all_goals
    unfold cmpD at w
    simp only at w
    split at w
    · rename_i i j
      rw [hx.flat.1 i rfl] at rx; rw [hy.flat.1 j rfl] at ry
      first
        | exact op_lt pins s σ H _ _ v u Q I rx ry ⟨i, j, rfl, rfl, w⟩
        | exact op_le pins s σ H _ _ v u Q I rx ry ⟨i, j, rfl, rfl, w⟩
        | exact op_gt pins s σ H _ _ v u Q I rx ry ⟨i, j, rfl, rfl, w⟩
        | exact op_ge pins s σ H _ _ v u Q I rx ry ⟨i, j, rfl, rfl, w⟩
    · exact w.elim
/-- items -/
def rIdx (K : PySem.W.Frag) (Z : Hd) : R2 := fun x y H Q => ∃ W d e, Go Z W H W H ∧ PR K Z W H x d ∧ PR K Z W H y e ∧ idxD d e fun r => ∀ v W' H', Go Z W H W' H' → VR K Z H W' H' v r → Q v H'
theorem atI_len {α β : Type} {xs : List α} {ys : List β} {i : Int} {y : β} (hl : xs.length = ys.length) (h : L2.atI ys i = some y) : ∃ j : Nat, ys[j]? = some y ∧ ∀ x, xs[j]? = some x → L2.atI xs i = some x := by
  unfold L2.atI at h ⊢
  rw [hl]
  cases q : ixN ys.length i with
  | none => rw [q] at h; cases h
  | some j => rw [q] at h; exact ⟨j, h, fun x e => e⟩
theorem idx_ok : IxR X (rIdx X.K Z) := by
  intro value slice pins s σ H x y v u Q I rx ry h hs
  obtain ⟨W, d, e, g, hx, hy, w⟩ := h
  unfold idxD at w
  split at w
  · rename_i ds i
    obtain ⟨z, e, q⟩ := w
    obtain ⟨p, vs, rfl, h1, _, h2⟩ := hx.tup g.sub
    rw [hy.flat.1 i rfl] at ry
    obtain ⟨j, e1, e2⟩ := atI_len h2.length e
    obtain ⟨v', e3, e4⟩ := h2.get e1
    exact ix_tup value slice pins s σ H _ _ v u Q I rx ry ⟨p, vs, i, v', rfl, rfl, h1, e2 v' e3, q v' W H g e4⟩ hs
  · rename_i ds i
    obtain ⟨z, e, q⟩ := w
    obtain ⟨p, vs, rfl, h1, h2⟩ := hx.lst g.sub
    rw [hy.flat.1 i rfl] at ry
    obtain ⟨j, e1, e2⟩ := atI_len h2.length e
    obtain ⟨v', e3, e4⟩ := h2.get e1
    exact ix_list value slice pins s σ H _ _ v u Q I rx ry ⟨p, vs, i, v', rfl, rfl, SqL.of h1, e2 v' e3, q v' W H g e4⟩ hs
  · exact w.elim
/-- slices -/
def rSl (K : PySem.W.Frag) (Z : Hd) : V → Option Int → Option Int → Hp → VK → Prop := fun x lo hi H Q => ∃ W d, Go Z W H W H ∧ PR K Z W H x d ∧ slD d lo hi fun r => ∀ v W' H', Go Z W H W' H' → VR K Z H W' H' v r → Q v H'
theorem cut_whole {α : Type} {xs : List α} {lo hi : Option Int} (h : HT.sIx xs.length 0 lo = 0 ∧ HT.sIx xs.length xs.length hi = xs.length) : (xs.drop (HT.sIx xs.length 0 lo)).take (HT.sIx xs.length xs.length hi - HT.sIx xs.length 0 lo) = xs := by
  rw [h.1, h.2]; simp
theorem sl_ok : SlR X (rSl X.K Z) := by
  intro pins s σ H x v vl vu lo hi sl Q I rx hs pl pu h
  obtain ⟨W, d, g, hx, w⟩ := h
  unfold slD at w
  split at w
  · rename_i ds
    obtain ⟨p, vs, rfl, h1, h2⟩ := hx.lst g.sub
    refine sl_list pins s σ H _ v vl vu lo hi sl Q I rx hs pl pu ⟨p, vs, rfl, SqL.of h1, fun l hl => ?_⟩
    obtain ⟨a1, a2⟩ := ans_lst (K := X.K) g hl (h2.cut lo hi)
    exact w _ _ _ a1 a2
  · rename_i ds
    obtain ⟨p, vs, rfl, h1, h1', h2⟩ := hx.tup g.sub
    refine sl_tupA pins s σ H _ v vl vu lo hi sl Q I rx hs pl pu ⟨p, vs, rfl, h1, fun z => ?_, fun _ l hl => ?_⟩
    · refine w _ _ _ g ?_
      rw [h2.length] at z
      unfold cutD
      rw [cut_whole z]
      exact .tup h1' h2
    · obtain ⟨a1, a2⟩ := ans_tup (K := X.K) g hl (h2.cut lo hi)
      exact w _ _ _ a1 a2
  · exact w.elim
/-- built-ins -/
def rPrim (K : PySem.W.Frag) (Z : Hd) (p : PK) : List V → Hp → VK → Prop := fun xs H Q => ∃ W ds, Go Z W H W H ∧ PRs K Z W H xs ds ∧ primD p ds fun r => ∀ v W' H', Go Z W H W' H' → VR K Z H W' H' v r → Q v H'
theorem PRs.one {W H : Hp} {vs : List V} {d : D} (h : PRs K Z W H vs [d]) : ∃ v, vs = [v] ∧ PR K Z W H v d := by
  cases h with | cons a b => cases b; exact ⟨_, rfl, a⟩
theorem PRs.two {W H : Hp} {vs : List V} {d e : D} (h : PRs K Z W H vs [d, e]) : ∃ v w, vs = [v, w] ∧ PR K Z W H v d ∧ PR K Z W H w e := by
  cases h with | cons a b => cases b with | cons c b => cases b; exact ⟨_, _, rfl, a, c⟩
def primV : PK → Value
  | .len => .builtin "len" | .abs => .builtin "abs" | .int => .type "int" | .list => .type "list" | .tuple => .type "tuple" | .min => .builtin "min" | .max => .builtin "max" | .sum => .builtin "sum"
  | .gcd => .builtin "math.gcd" | _ => .none
theorem prim_ok (hc : X.calm = true) (p : PK) : CallR X (primV p) (rPrim X.K Z p) := by
  intro pins s σ H xs us Q I r h
  obtain ⟨W, ds, g, hx, w⟩ := h
  unfold primD at w
  split at w
  · obtain ⟨x, rfl, h1⟩ := hx.one
    obtain ⟨p, vs, rfl, h2, _, h3⟩ := h1.tup g.sub
    refine call_len_seq pins s σ H _ us Q I r ⟨p, vs, rfl, .inr h2, ?_⟩
    rw [h3.length]; exact ansI g w
  · obtain ⟨x, rfl, h1⟩ := hx.one
    obtain ⟨p, vs, rfl, h2, h3⟩ := h1.lst g.sub
    refine call_len_seq pins s σ H _ us Q I r ⟨p, vs, rfl, .inl (SqL.of h2), ?_⟩
    rw [h3.length]; exact ansI g w
  · rename_i i
    obtain ⟨x, rfl, h1⟩ := hx.one
    have e := h1.flat.1 i rfl
    subst e
    exact call_abs pins s σ H _ us Q I r ⟨i, rfl, ansI g w⟩
  · rename_i i
    obtain ⟨x, rfl, h1⟩ := hx.one
    have e := h1.flat.1 i rfl
    subst e
    exact call_int1 pins s σ H _ us Q I r (.inl ⟨i, rfl, ansI g w⟩)
  · rename_i b
    obtain ⟨x, rfl, h1⟩ := hx.one
    have e := h1.flat.2.1 b rfl
    subst e
    exact call_int1 pins s σ H _ us Q I r (.inr ⟨b, rfl, ansI g w⟩)
  · rename_i ys
    obtain ⟨x, rfl, h1⟩ := hx.one
    obtain ⟨p, vs, rfl, h2, _, h3⟩ := h1.tup g.sub
    refine call_list_of pins s σ H _ us Q I r ⟨p, vs, rfl, .inr h2, fun l hl => ?_⟩
    obtain ⟨a1, a2⟩ := ans_lst (K := X.K) g hl h3
    exact w _ _ _ a1 a2
  · rename_i ys
    obtain ⟨x, rfl, h1⟩ := hx.one
    obtain ⟨p, vs, rfl, h2, h3⟩ := h1.lst g.sub
    refine call_list_of pins s σ H _ us Q I r ⟨p, vs, rfl, .inl (SqL.of h2), fun l hl => ?_⟩
    obtain ⟨a1, a2⟩ := ans_lst (K := X.K) g hl h3
    exact w _ _ _ a1 a2
  · rename_i ys
    obtain ⟨x, rfl, h1⟩ := hx.one
    obtain ⟨p, vs, rfl, h2, h2', h3⟩ := h1.tup g.sub
    exact call_tuple_of pins s σ H _ us Q I r ⟨p, vs, rfl, .inr ⟨h2, w _ _ _ g (.tup h2' h3)⟩⟩
  · rename_i ys
    obtain ⟨x, rfl, h1⟩ := hx.one
    obtain ⟨p, vs, rfl, h2, h3⟩ := h1.lst g.sub
    refine call_tuple_of pins s σ H _ us Q I r ⟨p, vs, rfl, .inl ⟨SqL.of h2, fun l hl => ?_⟩⟩
    obtain ⟨a1, a2⟩ := ans_tup (K := X.K) g hl h3
    exact w _ _ _ a1 a2
  · rename_i i j
    obtain ⟨x, y, rfl, h1, h2⟩ := hx.two
    have e := h1.flat.1 i rfl
    have e' := h2.flat.1 j rfl
    subst e e'
    exact cr_gcd pins s σ H _ us Q I r ⟨i, j, rfl, ansI g w⟩
  · rename_i i j
    obtain ⟨x, y, rfl, h1, h2⟩ := hx.two
    have e := h1.flat.1 i rfl
    have e' := h2.flat.1 j rfl
    subst e e'
    exact call_min2 hc pins s σ H _ us Q I r ⟨i, j, rfl, ansI g w⟩
  · rename_i i j
    obtain ⟨x, y, rfl, h1, h2⟩ := hx.two
    have e := h1.flat.1 i rfl
    have e' := h2.flat.1 j rfl
    subst e e'
    exact call_max2 hc pins s σ H _ us Q I r ⟨i, j, rfl, ansI g w⟩
  · rename_i ys
    obtain ⟨ns, e, q⟩ := w
    obtain ⟨x, rfl, h1⟩ := hx.one
    obtain ⟨p, vs, rfl, h2, h3⟩ := h1.lst g.sub
    have e2 := h3.ints e
    subst e2
    exact cr_sum hc pins s σ H _ us Q I r ⟨p, ns, rfl, SqL.of h2, ansI g q⟩
  · exact w.elim
end
end Gx
set_option maxHeartbeats 4000000
/-! Gx, part G: expressions are read rightly. -/
namespace Gx
open PySem PySem.Spec PyProof.Rows L2

/-! ### syntax -/
theorem star1 {e : Expr} {es : List Expr} {env : Env} (h : plainE e = true) : starEach (e :: es) env = (false, eval e env) :: starEach es env := by
  cases e <;> first
    | rfl
    | cases h
theorem star_any {pos : Pos} {env : Env} : ∀ {es : List Expr}, es.all plainE = true → (backTo pos (starEach es env)).any (·.1) = false
  | [], _ => rfl
  | e :: es, h => by
    rw [List.all_cons, Bool.and_eq_true] at h
    rw [star1 h.1]
    show (false || (backTo pos (starEach es env)).any (·.1)) = false
    rw [star_any h.2]; rfl
theorem plain_ix {e : Expr} (h : plainE e = true) : PlainIx e := by
  intro o i
  cases e <;> first
    | rfl
    | cases h
theorem plain_mark {e : Expr} (h : plainE e = true) (op : CmpOp) : behindInMarks op e = false := by
  cases e <;> first
    | rfl
    | cases h
theorem plain_marks {b c : Expr} (h : plainE c = true) (o1 o2 : CmpOp) : lastMarks [o1, o2] [b, c] = false := by
  show behindInMarks o2 c = false
  exact plain_mark h o2
theorem plain_fold {e : Expr} {env : Env} (h : plainE e = true) (x : Value) : foldedSetIterable e env x = pure x := by
  cases e <;> first
    | rfl
    | cases h

section
variable {Z : Hd} {Γ : Nat → Con} {G : Nat → D}
abbrev post (K : PySem.W.Frag) (Z : Hd) (W H : Hp) (Q : VK) : Val → Prop := fun r => ∀ v W' H', Go Z W H W' H' → VR K Z H W' H' v r → Q v H'
theorem post.go {K : PySem.W.Frag} {W H W1 H1 : Hp} {Q : VK} (g : Go Z W H W1 H1) (r : Val) (h : post K Z W H Q r) : post K Z W1 H1 Q r := fun v W' H' g' vr => h v W' H' (g.trans g') (VR.back g vr)
theorem Go.here {W H W1 H1 : Hp} (g : Go Z W H W1 H1) : Go Z W1 H1 W1 H1 := Go.refl' g.sub g.hi g.wm
variable (Γm : ConMono Γ)
include Γm
/-- an operand, shared if it is no name -/
theorem pk_of_wp {c : CE} {ρ : Ev} {Q : D → Prop} (w : wpE Γ G c ρ fun r => Q r.d) : pk c ρ (wpE Γ G c ρ) Q := by
  unfold pk
  split
  · rw [wpE] at w
    obtain ⟨d, e, q⟩ := w
    refine ⟨d, ?_, q⟩
    unfold Ev.shr at e
    unfold Ev.data
    split at e
    · rename_i q; rw [q]; cases e; rfl
    · cases e
  · exact w
theorem tP_of_tE {K : PySem.W.Frag} {c : CE} (hc : ∀ i, c ≠ .var i) {σ : L2.St} {H : Hp} {Q : VK} (h : tP K Z Γ G c σ H Q) : tE K Z Γ G c σ H Q := by
  obtain ⟨ρ, W, a, w⟩ := h
  refine ⟨ρ, W, a, ?_⟩
  unfold pk at w
  split at w
  · exact absurd rfl (hc _)
  · refine wpE_mono Γm _ ρ _ _ (fun r q v W' H' g vr => ?_) w
    obtain ⟨W2, g2, _, h2⟩ := vr.share g
    exact q v W2 H' g2 (.inl h2)
/-- two operands -/
theorem two {K : PySem.W.Frag} {F : D → D → (Val → Prop) → Prop} (Fm : ∀ x y (Q Q' : Val → Prop), (∀ r, Q r → Q' r) → F x y Q → F x y Q') {ca cb : CE} {ρ : Ev} {W H : Hp} {σ : L2.St} {Q : VK} (a : At K Z ρ σ W H)
    (w : pk ca ρ (wpE Γ G ca ρ) fun x => pk cb ρ (wpE Γ G cb ρ) fun y => F x y (post K Z W H Q)) :
    tP K Z Γ G ca σ H fun x H1 => tP K Z Γ G cb σ H1 fun y H2 => ∃ W d e, Go Z W H2 W H2 ∧ PR K Z W H2 x d ∧ PR K Z W H2 y e ∧ F d e (post K Z W H2 Q) := by
  refine ⟨ρ, W, a, pk_mono (fun d hd v W1 H1 g1 p1 => ?_) (fun Q Q' => wpE_mono Γm ca ρ Q Q') w⟩
  refine ⟨ρ, W1, a.go g1, pk_mono (fun e he u W2 H2 g2 p2 => ?_) (fun Q Q' => wpE_mono Γm cb ρ Q Q') hd⟩
  exact ⟨W2, d, e, g2.here, p1.go g2, p2, Fm _ _ _ _ (post.go (g1.trans g2)) he⟩
/-- the translation of a name -/
theorem cE_var {n : Nat} {S : SC} {e : Expr} {i : Nat} (h : cE n S e = .var i) : ∃ x pos, e = .Name x pos ∧ S.N[i]? = some x ∧ Vis S.sc x ∧ x ≠ "__debug__" ∧ x ≠ "__classdict__" := by
  cases n with
  | zero => simp [cE] at h
  | succ n =>
    unfold cE at h
    split at h
    case h_1 x pos =>
      split at h
      · split at h
        · split at h <;> cases h
        · cases h
      · cases h
      · rename_i kk hn1 hn2 hk
        split at h
        · rename_i j hj
          split at h
          · cases h
          · rename_i hne
            cases h
            refine ⟨x, pos, rfl, ixOf_get hj, ?_, fun z => hne (.inl z), fun z => hne (.inr z)⟩
            cases kk with
            | «local» => exact .inl hk
            | cell => exact .inr (.inl hk)
            | free => exact .inr (.inr hk)
            | globalExplicit => exact absurd rfl hn2
            | globalImplicit => exact absurd rfl hn1
        · cases h
      · cases h
    all_goals (try dsimp only at h)
    all_goals (repeat' (first | cases h | split at h))
omit Γm in
theorem ne_beq {x y : Str} (h : x ≠ y) : (x == y) = false := by
  cases q : x == y with
  | false => rfl
  | true => exact absurd (eq_of_beq q) h
/-- expressions and tests, translated with n turns, are read rightly -/
structure Snd (Z : Hd) (Γ : Nat → Con) (G : Nat → D) (n : Nat) : Prop where
  e : ∀ (X : Cx) (S : SC), Good X S Z Γ G → ∀ e, PE X e (tE X.K Z Γ G (cE n S e))
  t : ∀ (X : Cx) (S : SC), Good X S Z Γ G → ∀ e, PT X e (tTs X.K Z Γ G (cE n S e))
variable {X : Cx} {S : SC} {n : Nat}
theorem Snd.p (h : Snd Z Γ G n) (g : Good X S Z Γ G) (e : Expr) : PE X e (tP X.K Z Γ G (cE n S e)) := by
  by_cases hv : ∃ i, cE n S e = .var i
  · obtain ⟨i, hi⟩ := hv
    obtain ⟨x, pos, rfl, h1, h2, h3, h4⟩ := cE_var Γm hi
    rw [hi]
    refine PE.weak (pe_var (i := i) (by rw [g.hN]; exact h1) (by rw [g.sc]; exact h2) (ne_beq h3) (ne_beq h4)) fun σ H Q w => ?_
    obtain ⟨ρ, W, a, d, e, q⟩ := w
    obtain ⟨v, e1, e2⟩ := a.data e
    exact ⟨v, e1, q v W H a.refl e2⟩
  · exact PE.weak (h.e X S g e) fun σ H Q w => tP_of_tE Γm (fun i z => hv ⟨i, z⟩) w
theorem Snd.es (h : Snd Z Γ G n) (g : Good X S Z Γ G) : ∀ {es : List Expr}, es.all plainE = true → PA X es (tEs X.K Z Γ G (es.map (cE n S)))
  | [], _ => PA.weak pa_nil fun σ H Q ⟨ρ, W, a, w⟩ => by rw [List.map_nil, wpEs] at w; exact w [] W H a.refl .nil
  | e :: es, hp => by
    rw [List.all_cons, Bool.and_eq_true] at hp
    refine PA.weak (pa_cons (h.e X S g e) (Snd.es h g hp.2) (star1 hp.1)) fun σ H Q ⟨ρ, W, a, w⟩ => ?_
    rw [List.map_cons, wpEs] at w
    refine ⟨ρ, W, a, wpE_mono Γm _ ρ _ _ (fun r hr v W1 H1 g1 vr => ?_) w⟩
    obtain ⟨W2, g2, _, h2⟩ := vr.share g1
    exact ⟨ρ, W2, a.go g2, wpEs_mono Γm _ ρ _ _ (fun ds hds vs W3 H3 g3 rp => hds (v :: vs) W3 H3 (g2.trans g3) (.cons (h2.mono g3.w) rp)) hr⟩
theorem Snd.ps (h : Snd Z Γ G n) (g : Good X S Z Γ G) : ∀ {es : List Expr}, es.all plainE = true → PA X es (tPs X.K Z Γ G (es.map (cE n S)))
  | [], _ => PA.weak pa_nil fun σ H Q ⟨ρ, W, a, w⟩ => by rw [List.map_nil, wpPs] at w; exact w [] W H a.refl .nil
  | e :: es, hp => by
    rw [List.all_cons, Bool.and_eq_true] at hp
    refine PA.weak (pa_cons (h.p Γm g e) (Snd.ps h g hp.2) (star1 hp.1)) fun σ H Q ⟨ρ, W, a, w⟩ => ?_
    rw [List.map_cons, wpPs] at w
    refine ⟨ρ, W, a, pk_mono (fun d hr v W1 H1 g1 pr => ?_) (fun Q Q' => wpE_mono Γm _ ρ Q Q') w⟩
    exact ⟨ρ, W1, a.go g1, wpPs_mono Γm _ ρ _ _ (fun ds hds vs W3 H3 g3 rp => hds (v :: vs) W3 H3 (g1.trans g3) (.cons (pr.go g3) rp)) hr⟩
omit Γm in
theorem s_bad (e : Expr) : PE X e (tE X.K Z Γ G .bad) := PE.weak PE.no fun σ H Q ⟨ρ, W, a, w⟩ => by rw [wpE] at w; exact w
omit Γm in
theorem s_cst {e : Expr} {v : V} {d : D} (h : PE X e (tC v)) (r : ∀ W, Rp X.K Z W v d) : PE X e (tE X.K Z Γ G (.cst d)) := PE.weak h fun σ H Q ⟨ρ, W, a, w⟩ => by
  rw [wpE] at w; exact w v W H a.refl (r W)
theorem s_name (g : Good X S Z Γ G) (x : Str) (pos : Pos) {i : Nat} (h : cE (n + 1) S (.Name x pos) = .var i) : PE X (.Name x pos) (tE X.K Z Γ G (.var i)) := by
  obtain ⟨x', pos', e, h1, h2, h3, h4⟩ := cE_var Γm h
  cases e
  refine PE.weak (pe_var (i := i) (by rw [g.hN]; exact h1) (by rw [g.sc]; exact h2) (ne_beq h3) (ne_beq h4)) fun σ H Q ⟨ρ, W, a, w⟩ => ?_
  rw [wpE] at w
  obtain ⟨d, e, q⟩ := w
  obtain ⟨v, e1, e2⟩ := a.shr e
  exact ⟨v, e1, q v W H a.refl e2⟩
theorem s_bin (h : Snd Z Γ G n) (g : Good X S Z Γ G) {a b : Expr} {op : Operator} {pos : Pos} {o : BO} (ho : boOf op = some o) : PE X (.BinOp a op b pos) (tE X.K Z Γ G (.bin o (cE n S a) (cE n S b))) := by
  refine PE.weak (pe_op (bin_ok (Z := Z) o op ho) (h.p Γm g a) (h.p Γm g b)) fun σ H Q ⟨ρ, W, at', w⟩ => ?_
  rw [wpE] at w
  exact two Γm (F := binD o) (fun x y Q Q' => binD_mono) at' w
/-- the same, to a test or a value of a truth -/
theorem twoB {K : PySem.W.Frag} {o : CO} {ca cb : CE} {ρ : Ev} {W H : Hp} {σ : L2.St} {Q : Bool → Hp → Prop} (a : At K Z ρ σ W H)
    (w : pk ca ρ (wpE Γ G ca ρ) fun x => pk cb ρ (wpE Γ G cb ρ) fun y => cmpD o x y fun k => ∀ W' H', Go Z W H W' H' → Q k H') :
    tP K Z Γ G ca σ H fun x H1 => tP K Z Γ G cb σ H1 fun y H2 => rCmp K Z o x y H2 fun z H' => ∃ k, z = .bl k ∧ Q k H' := by
  refine ⟨ρ, W, a, pk_mono (fun d hd v W1 H1 g1 p1 => ?_) (fun Q Q' => wpE_mono Γm ca ρ Q Q') w⟩
  refine ⟨ρ, W1, a.go g1, pk_mono (fun e he u W2 H2 g2 p2 => ?_) (fun Q Q' => wpE_mono Γm cb ρ Q Q') hd⟩
  exact ⟨W2, d, e, g2.here, p1.go g2, p2, cmpD_mono (fun k q => ⟨k, rfl, q W2 H2 (g1.trans g2)⟩) he⟩
theorem s_cmp (h : Snd Z Γ G n) (g : Good X S Z Γ G) {a b : Expr} {op : CmpOp} {pos : Pos} (hp : plainE b = true) : PE X (.Compare a [op] [b] pos) (tE X.K Z Γ G (.cmp (coOf op) (cE n S a) (cE n S b))) := by
  refine PE.weak (pe_cmpR (cmp_ok (Z := Z) g.room.units op) (h.p Γm g a) (h.p Γm g b) (plain_mark hp op)) fun σ H Q ⟨ρ, W, at', w⟩ => ?_
  rw [wpE] at w
  refine ⟨ρ, W, at', pk_mono (fun d hd v W1 H1 g1 p1 => ?_) (fun Q Q' => wpE_mono Γm _ ρ Q Q') w⟩
  refine ⟨ρ, W1, at'.go g1, pk_mono (fun e he u W2 H2 g2 p2 => ?_) (fun Q Q' => wpE_mono Γm _ ρ Q Q') hd⟩
  exact ⟨W2, d, e, g2.here, p1.go g2, p2, cmpD_mono (fun k q => q (.bl k) W2 H2 (g1.trans g2) (.bl k)) he⟩
theorem st_cmp (h : Snd Z Γ G n) (g : Good X S Z Γ G) {a b : Expr} {op : CmpOp} {pos : Pos} (hp : plainE b = true) : PT X (.Compare a [op] [b] pos) (tTs X.K Z Γ G (.cmp (coOf op) (cE n S a) (cE n S b))) := by
  refine PT.weak (pt_cmpR (cmp_ok (Z := Z) g.room.units op) (h.p Γm g a) (h.p Γm g b) (plain_mark hp op)) fun σ H Q ⟨ρ, W, at', w⟩ => ?_
  rw [wpT] at w
  exact twoB Γm at' w
theorem s_chain (h : Snd Z Γ G n) (g : Good X S Z Γ G) {a b c : Expr} {o1 o2 : CmpOp} {pos : Pos} (hp : plainE c = true) : PE X (.Compare a [o1, o2] [b, c] pos) (tE X.K Z Γ G (.chain (coOf o1) (coOf o2) (cE n S a) (cE n S b) (cE n S c))) := by
  refine PE.weak (pe_chain (cmp_ok (Z := Z) g.room.units o1) (cmp_ok (Z := Z) g.room.units o2) (h.e X S g a) (h.e X S g b) (h.e X S g c) (plain_marks hp o1 o2)) fun σ H Q ⟨ρ, W, at', w⟩ => ?_
  rw [wpE] at w
  refine ⟨ρ, W, at', wpE_mono Γm _ ρ _ _ (fun r hr v W1 H1 g1 vr => ?_) w⟩
  obtain ⟨W1', g1', _, p1⟩ := vr.share g1
  refine ⟨ρ, W1', at'.go g1', wpE_mono Γm _ ρ _ _ (fun r2 hr2 v2 W2 H2 g2 vr2 => ?_) hr⟩
  obtain ⟨W2', g2', _, p2⟩ := vr2.share g2
  refine ⟨W2', _, _, g2'.here, .inl (p1.mono g2'.w), .inl p2, cmpD_mono (fun k q => ⟨k, rfl, ?_⟩) hr2⟩
  split
  · rename_i hk
    rw [if_pos hk] at q
    refine ⟨ρ, W2', (at'.go g1').go g2', wpE_mono Γm _ ρ _ _ (fun r3 hr3 v3 W3 H3 g3 vr3 => ?_) q⟩
    obtain ⟨W3', g3', _, p3⟩ := vr3.share g3
    exact ⟨W3', _, _, g3'.here, .inl (p2.mono g3'.w), .inl p3, cmpD_mono (fun k q => q (.bl k) W3' H3 ((g1'.trans g2').trans g3') (.bl k)) hr3⟩
  · rename_i hk
    rw [if_neg hk] at q
    exact q (.bl false) W2' H2 (g1'.trans g2') (.bl false)
theorem st_chain (h : Snd Z Γ G n) (g : Good X S Z Γ G) {a b c : Expr} {o1 o2 : CmpOp} {pos : Pos} (hp : plainE c = true) : PT X (.Compare a [o1, o2] [b, c] pos) (tTs X.K Z Γ G (.chain (coOf o1) (coOf o2) (cE n S a) (cE n S b) (cE n S c))) := by
  refine PT.weak (pt_chain (cmp_ok (Z := Z) g.room.units o1) (cmp_ok (Z := Z) g.room.units o2) (h.e X S g a) (h.e X S g b) (h.e X S g c) (plain_marks hp o1 o2)) fun σ H Q ⟨ρ, W, at', w⟩ => ?_
  rw [wpT] at w
  refine ⟨ρ, W, at', wpE_mono Γm _ ρ _ _ (fun r hr v W1 H1 g1 vr => ?_) w⟩
  obtain ⟨W1', g1', _, p1⟩ := vr.share g1
  refine ⟨ρ, W1', at'.go g1', wpE_mono Γm _ ρ _ _ (fun r2 hr2 v2 W2 H2 g2 vr2 => ?_) hr⟩
  obtain ⟨W2', g2', _, p2⟩ := vr2.share g2
  refine ⟨W2', _, _, g2'.here, .inl (p1.mono g2'.w), .inl p2, cmpD_mono (fun k q => ⟨k, rfl, ?_⟩) hr2⟩
  split
  · rename_i hk
    rw [if_pos hk] at q
    refine ⟨ρ, W2', (at'.go g1').go g2', wpE_mono Γm _ ρ _ _ (fun r3 hr3 v3 W3 H3 g3 vr3 => ?_) q⟩
    obtain ⟨W3', g3', _, p3⟩ := vr3.share g3
    exact ⟨W3', _, _, g3'.here, .inl (p2.mono g3'.w), .inl p3, cmpD_mono (fun k q => ⟨k, rfl, q W3' H3 ((g1'.trans g2').trans g3')⟩) hr3⟩
  · rename_i hk
    rw [if_neg hk] at q
    exact ⟨false, rfl, q W2' H2 (g1'.trans g2')⟩
theorem s_neg (h : Snd Z Γ G n) (g : Good X S Z Γ G) {a : Expr} {pos : Pos} : PE X (.UnaryOp .USub a pos) (tE X.K Z Γ G (.neg (cE n S a))) := by
  refine PE.weak (pe_un un_neg (h.e X S g a)) fun σ H Q ⟨ρ, W, at', w⟩ => ?_
  rw [wpE] at w
  refine ⟨ρ, W, at', wpE_mono Γm _ ρ _ _ (fun r hr v W1 H1 g1 vr => ?_) w⟩
  unfold negD at hr
  split at hr
  · rename_i i
    have e := vr.flat.1 i rfl
    subst e
    exact ⟨i, rfl, hr _ W1 H1 g1 (.int _)⟩
  · exact hr.elim
theorem s_not (h : Snd Z Γ G n) (g : Good X S Z Γ G) {a : Expr} {pos : Pos} : PE X (.UnaryOp .Not a pos) (tE X.K Z Γ G (.not (cE n S a))) := by
  refine PE.weak (pe_not (h.e X S g a)) fun σ H Q ⟨ρ, W, at', w⟩ => ?_
  rw [wpE] at w
  refine ⟨ρ, W, at', wpE_mono Γm _ ρ _ _ (fun r hr v W1 H1 g1 vr => ?_) w⟩
  unfold boolD at hr
  split at hr
  · rename_i b
    have e := vr.flat.2.1 b rfl
    subst e
    exact ⟨b, rfl, hr _ W1 H1 g1 (.bl _)⟩
  · exact hr.elim
theorem st_not (h : Snd Z Γ G n) (g : Good X S Z Γ G) {a : Expr} {pos : Pos} : PT X (.UnaryOp .Not a pos) (tTs X.K Z Γ G (.not (cE n S a))) := by
  refine PT.weak (pt_not (h.t X S g a)) fun σ H Q ⟨ρ, W, at', w⟩ => ?_
  rw [wpT] at w
  exact ⟨ρ, W, at', w⟩
end
end Gx
set_option maxHeartbeats 4000000
/-! Gx, part H: expressions, second half. -/
namespace Gx
open PySem PySem.Spec PyProof.Rows L2
section
variable {Z : Hd} {Γ : Nat → Con} {G : Nat → D} (Γm : ConMono Γ) {X : Cx} {S : SC} {n : Nat}
include Γm
/-! ### and, or -/
theorem and_step {K : PySem.W.Frag} {a b : CE} {σ : L2.St} {H : Hp} {Q : VK} (h : tE K Z Γ G (.and a b) σ H Q) : tAndV (tE K Z Γ G a) (tE K Z Γ G b) σ H Q := by
  obtain ⟨ρ, W, at', w⟩ := h
  rw [wpE] at w
  refine ⟨ρ, W, at', wpE_mono Γm _ ρ _ _ (fun r hr v W1 H1 g1 vr => ?_) w⟩
  unfold boolD at hr
  split at hr
  · rename_i k
    have e := vr.flat.2.1 k rfl
    subst e
    refine ⟨k, rfl, ?_⟩
    split
    · rename_i hk
      rw [if_pos hk] at hr
      exact ⟨ρ, W1, at'.go g1, wpE_mono Γm _ ρ _ _ (post.go g1) hr⟩
    · rename_i hk
      rw [if_neg hk] at hr
      exact hr _ W1 H1 g1 (.bl false)
  · exact hr.elim
theorem or_step {K : PySem.W.Frag} {a b : CE} {σ : L2.St} {H : Hp} {Q : VK} (h : tE K Z Γ G (.or a b) σ H Q) : tOrV (tE K Z Γ G a) (tE K Z Γ G b) σ H Q := by
  obtain ⟨ρ, W, at', w⟩ := h
  rw [wpE] at w
  refine ⟨ρ, W, at', wpE_mono Γm _ ρ _ _ (fun r hr v W1 H1 g1 vr => ?_) w⟩
  unfold boolD at hr
  split at hr
  · rename_i k
    have e := vr.flat.2.1 k rfl
    subst e
    refine ⟨k, rfl, ?_⟩
    split
    · rename_i hk
      rw [if_pos hk] at hr
      exact hr _ W1 H1 g1 (.bl true)
    · rename_i hk
      rw [if_neg hk] at hr
      exact ⟨ρ, W1, at'.go g1, wpE_mono Γm _ ρ _ _ (post.go g1) hr⟩
  · exact hr.elim
theorem s_ands (h : Snd Z Γ G n) (g : Good X S Z Γ G) {pos : Pos} : ∀ (r : List Expr) (b : Expr), PE X (.BoolOp .And (b :: r) pos) (tE X.K Z Γ G (cAnds (cE n S) (b :: r)))
  | [], b => pe_one (h.e X S g b)
  | c :: r, b => PE.weak (pe_and (h.e X S g b) (s_ands h g r c)) fun σ H Q w => and_step Γm w
theorem s_ors (h : Snd Z Γ G n) (g : Good X S Z Γ G) {pos : Pos} : ∀ (r : List Expr) (b : Expr), PE X (.BoolOp .Or (b :: r) pos) (tE X.K Z Γ G (cOrs (cE n S) (b :: r)))
  | [], b => pe_one (h.e X S g b)
  | c :: r, b => PE.weak (pe_or (h.e X S g b) (s_ors h g r c)) fun σ H Q w => or_step Γm w
theorem andT_step {K : PySem.W.Frag} {a b : CE} {σ : L2.St} {H : Hp} {Q : Bool → Hp → Prop} (h : tTs K Z Γ G (.and a b) σ H Q) : tAnd (tTs K Z Γ G a) (tTs K Z Γ G b) σ H Q := by
  obtain ⟨ρ, W, at', w⟩ := h
  rw [wpT] at w
  refine ⟨ρ, W, at', wpT_mono Γm _ ρ _ _ (fun k hr W1 H1 g1 => ?_) w⟩
  try dsimp only
  split
  · rename_i hk
    rw [if_pos hk] at hr
    exact ⟨ρ, W1, at'.go g1, wpT_mono Γm _ ρ _ _ (fun k q W' H' g' => q W' H' (g1.trans g')) hr⟩
  · rename_i hk
    rw [if_neg hk] at hr
    exact hr W1 H1 g1
theorem orT_step {K : PySem.W.Frag} {a b : CE} {σ : L2.St} {H : Hp} {Q : Bool → Hp → Prop} (h : tTs K Z Γ G (.or a b) σ H Q) : tOr (tTs K Z Γ G a) (tTs K Z Γ G b) σ H Q := by
  obtain ⟨ρ, W, at', w⟩ := h
  rw [wpT] at w
  refine ⟨ρ, W, at', wpT_mono Γm _ ρ _ _ (fun k hr W1 H1 g1 => ?_) w⟩
  try dsimp only
  split
  · rename_i hk
    rw [if_pos hk] at hr
    exact hr W1 H1 g1
  · rename_i hk
    rw [if_neg hk] at hr
    exact ⟨ρ, W1, at'.go g1, wpT_mono Γm _ ρ _ _ (fun k q W' H' g' => q W' H' (g1.trans g')) hr⟩
theorem st_ands (h : Snd Z Γ G n) (g : Good X S Z Γ G) {pos : Pos} : ∀ (r : List Expr) (b : Expr), PW X (.BoolOp .And (b :: r) pos) (tTs X.K Z Γ G (cAnds (cE n S) (b :: r)))
  | [], b => pw_and1 (h.t X S g b)
  | c :: r, b => PW.weak (pw_and (h.t X S g b) (st_ands h g r c)) fun σ H Q w => andT_step Γm w
theorem st_ors (h : Snd Z Γ G n) (g : Good X S Z Γ G) {pos : Pos} : ∀ (r : List Expr) (b : Expr), PW X (.BoolOp .Or (b :: r) pos) (tTs X.K Z Γ G (cOrs (cE n S) (b :: r)))
  | [], b => pw_or1 (h.t X S g b)
  | c :: r, b => PW.weak (pw_or (h.t X S g b) (st_ors h g r c)) fun σ H Q w => orT_step Γm w
/-! ### a if c else b; displays; items; slices -/
theorem s_ife (h : Snd Z Γ G n) (g : Good X S Z Γ G) {c a b : Expr} {pos : Pos} : PE X (.IfExp c a b pos) (tE X.K Z Γ G (.ife (cE n S c) (cE n S a) (cE n S b))) := by
  refine PE.weak (pe_ifExp (h.t X S g c) (h.e X S g a) (h.e X S g b)) fun σ H Q ⟨ρ, W, at', w⟩ => ?_
  rw [wpE] at w
  refine ⟨ρ, W, at', wpT_mono Γm _ ρ _ _ (fun k hr W1 H1 g1 => ?_) w⟩
  try dsimp only
  split
  · rename_i hk
    rw [if_pos hk] at hr
    exact ⟨ρ, W1, at'.go g1, wpE_mono Γm _ ρ _ _ (post.go g1) hr⟩
  · rename_i hk
    rw [if_neg hk] at hr
    exact ⟨ρ, W1, at'.go g1, wpE_mono Γm _ ρ _ _ (post.go g1) hr⟩
omit Γm in
theorem k16 {n : Nat} (h : n ≤ 1000) : n ≤ sizeLine := big16 (Nat.le_trans h (by decide))
theorem wpEs_len {ρ : Ev} : ∀ {cs : List CE} {Q : List D → Prop}, wpEs Γ G cs ρ Q → wpEs Γ G cs ρ fun ds => ds.length = cs.length ∧ Q ds
  | [], Q, w => by rw [wpEs] at w ⊢; exact ⟨rfl, w⟩
  | c :: cs, Q, w => by
    rw [wpEs] at w ⊢
    refine wpE_mono Γm _ ρ _ _ (fun r q => ?_) w
    exact wpEs_mono Γm _ ρ _ _ (fun ds z => ⟨by rw [List.length_cons, List.length_cons, z.1], z.2⟩) (wpEs_len q)
theorem s_tup (h : Snd Z Γ G n) (g : Good X S Z Γ G) {es : List Expr} {k : Nat} {pos : Pos} (hp : es.all plainE = true) : PE X (.Tuple es k pos) (tE X.K Z Γ G (.tup (es.map (cE n S)))) := by
  refine PE.weak (pe_tup (h.es Γm g hp)) fun σ H Q ⟨ρ, W, at', w⟩ => ?_
  rw [wpE] at w
  refine ⟨ρ, W, at', wpEs_mono Γm _ ρ _ _ (fun ds hq vs W1 H1 g1 rp => ⟨?_, fun p hp => ?_⟩) (wpEs_len Γm w.2)⟩
  · rw [rp.length, hq.1]; exact k16 w.1
  · obtain ⟨a1, a2⟩ := ans_tup (K := X.K) g1 hp rp
    exact hq.2 _ _ _ a1 a2
theorem s_lst (h : Snd Z Γ G n) (g : Good X S Z Γ G) {es : List Expr} {pos : Pos} (hp : es.all plainE = true) : PE X (.List es pos) (tE X.K Z Γ G (.lst (es.map (cE n S)))) := by
  refine PE.weak (pe_lst (h.es Γm g hp)) fun σ H Q ⟨ρ, W, at', w⟩ => ?_
  rw [wpE] at w
  refine ⟨ρ, W, at', wpEs_mono Γm _ ρ _ _ (fun ds hq vs W1 H1 g1 rp => ⟨?_, fun p hp => ?_⟩) (wpEs_len Γm w.2)⟩
  · rw [rp.length, hq.1]; exact k16 w.1
  · obtain ⟨a1, a2⟩ := ans_lst (K := X.K) g1 hp rp
    exact hq.2 _ _ _ a1 a2
theorem s_idx (h : Snd Z Γ G n) (g : Good X S Z Γ G) {a i : Expr} {pos : Pos} (hp : plainE i = true) : PE X (.Subscript a i pos) (tE X.K Z Γ G (.idx (cE n S a) (cE n S i))) := by
  refine PE.weak (pe_ix (idx_ok (Z := Z)) (h.p Γm g a) (h.p Γm g i) (plain_ix hp)) fun σ H Q ⟨ρ, W, at', w⟩ => ?_
  rw [wpE] at w
  exact two Γm (F := idxD) (fun x y Q Q' => idxD_mono) at' (pk_mono (fun x q => pk_of_wp Γm q) (fun Q Q' => wpE_mono Γm _ ρ Q Q') w)
theorem s_opt (h : Snd Z Γ G n) (g : Good X S Z Γ G) (o : Option Expr) : PO X o (fun σ H Q => ∃ ρ W, At X.K Z ρ σ W H ∧ wpO Γ G (o.map (cE n S)) ρ fun l => ∀ W' H', Go Z W H W' H' → Q l H') := by
  cases o with
  | none =>
    refine ⟨fun pins s σ H Q I q => po_none.run pins s σ H Q I ?_⟩
    obtain ⟨ρ, W, a, w⟩ := q
    rw [Option.map_none, wpO] at w
    exact w W H a.refl
  | some e =>
    refine ⟨fun pins s σ H Q I q => (po_some (h.e X S g e)).run pins s σ H Q I ?_⟩
    obtain ⟨ρ, W, a, w⟩ := q
    rw [Option.map_some, wpO] at w
    refine ⟨ρ, W, a, wpE_mono Γm _ ρ _ _ (fun r hr v W1 H1 g1 vr => ?_) w⟩
    unfold intD at hr
    split at hr
    · rename_i i
      have e := vr.flat.1 i rfl
      subst e
      exact ⟨i, rfl, hr W1 H1 g1⟩
    · exact hr.elim
theorem s_sl (h : Snd Z Γ G n) (g : Good X S Z Γ G) {a : Expr} {lo hi : Option Expr} {p2 pos : Pos} : PE X (.Subscript a (.Slice lo hi none p2) pos) (tE X.K Z Γ G (.sl (cE n S a) (lo.map (cE n S)) (hi.map (cE n S)))) := by
  refine PE.weak (pe_slice (sl_ok (Z := Z)) (h.p Γm g a) (s_opt Γm h g lo) (s_opt Γm h g hi)) fun σ H Q ⟨ρ, W, at', w⟩ => ?_
  rw [wpE] at w
  refine ⟨ρ, W, at', pk_mono (fun d hd v W1 H1 g1 p1 => ?_) (fun Q Q' => wpE_mono Γm _ ρ Q Q') w⟩
  refine ⟨ρ, W1, at'.go g1, wpO_mono Γm _ ρ _ _ (fun l hl W2 H2 g2 => ?_) hd⟩
  refine ⟨ρ, W2, (at'.go g1).go g2, wpO_mono Γm _ ρ _ _ (fun u hu W3 H3 g3 => ?_) hl⟩
  exact ⟨W3, d, g3.here, (p1.go g2).go g3, slD_mono (post.go ((g1.trans g2).trans g3)) hu⟩
/-! ### calls -/
theorem s_call (h : Snd Z Γ G n) (g : Good X S Z Γ G) {x : Str} {p pos : Pos} {a : Expr} {r : List Expr} {j : Nat} (hp : (a :: r).all plainE = true) (hx : S.sc.names.lookup x = some .globalImplicit) (hd : x ≠ "__debug__") (hj : S.fns[j]? = some x) :
    PE X (.Call (.Name x p) (a :: r) [] pos) (tE X.K Z Γ G (.call j ((a :: r).map (cE n S)))) := by
  obtain ⟨f, fd, ps, m, hm, hk, hb, F, har⟩ := g.fns j x hj
  have hl : j < S.fns.length := (List.getElem?_eq_some_iff.mp hj).1
  have hg : Gl X x := by show X.env.scope.names.lookup x = _; rw [g.sc]; exact hx
  have hp' := hp
  rw [List.all_cons, Bool.and_eq_true] at hp'
  refine PE.weak (pe_call F (g.room.mono hl) hg hm hk hb .nil pass0 (h.es Γm g hp) (ne_beq hd) (star1 hp'.1) (star_any hp'.2)) fun σ H Q ⟨ρ, W, at', w⟩ => ?_
  rw [wpE] at w
  refine ⟨ρ, W, at', wpEs_mono Γm _ ρ _ _ (fun ds hq vs W1 H1 g1 rp => ?_) w⟩
  show spG X.K Z (Γ j) m (vs ++ []) H1 Q E0
  rw [List.append_nil]
  refine ⟨by rw [rp.length]; exact har ds _ hq, W1, ds, g1.sub, g1.hi, g1.wm, rp, Γm j ds _ _ (post.go g1) hq⟩
theorem s_prim (h : Snd Z Γ G n) (g : Good X S Z Γ G) {x : Str} {p pos : Pos} {a : Expr} {r : List Expr} {q : PK} (hp : (a :: r).all plainE = true) (hx : S.sc.names.lookup x = some .globalImplicit) (hd : x ≠ "__debug__") (hq : pkOf x = some q) (hb : x ∈ S.blt) :
    PE X (.Call (.Name x p) (a :: r) [] pos) (tE X.K Z Γ G (.prim q ((a :: r).map (cE n S)))) := by
  have hm := g.blt x hb
  have hg : Gl X x := by show X.env.scope.names.lookup x = _; rw [g.sc]; exact hx
  have hp' := hp
  rw [List.all_cons, Bool.and_eq_true] at hp'
  have key : PE X (.Call (.Name x p) (a :: r) [] pos) (tCB (rPrim X.K Z q) (tPs X.K Z Γ G ((a :: r).map (cE n S)))) := by
    unfold pkOf at hq
    repeat' split at hq
    all_goals (try cases hq)
    · rename_i e; subst e; exact pe_callB (prim_ok g.calm .len) hg hm boot_len (h.ps Γm g hp) (by decide) (by decide) (star1 hp'.1) (star_any hp'.2)
    · rename_i e; subst e; exact pe_callB (prim_ok g.calm .abs) hg hm boot_abs (h.ps Γm g hp) (by decide) (by decide) (star1 hp'.1) (star_any hp'.2)
    · rename_i e; subst e; exact pe_callTy (prim_ok g.calm .int) hg hm PyProof.Rows.boot_int (h.ps Γm g hp) (by decide) (by decide) (star1 hp'.1) (star_any hp'.2)
    · rename_i e; subst e; exact pe_callTy (prim_ok g.calm .list) hg hm PyProof.Rows.boot_list (h.ps Γm g hp) (by decide) (by decide) (star1 hp'.1) (star_any hp'.2)
    · rename_i e; subst e; exact pe_callTy (prim_ok g.calm .tuple) hg hm PyProof.Rows.boot_tuple (h.ps Γm g hp) (by decide) (by decide) (star1 hp'.1) (star_any hp'.2)
    · rename_i e; subst e; exact pe_callB (prim_ok g.calm .min) hg hm boot_min (h.ps Γm g hp) (by decide) (by decide) (star1 hp'.1) (star_any hp'.2)
    · rename_i e; subst e; exact pe_callB (prim_ok g.calm .max) hg hm boot_max (h.ps Γm g hp) (by decide) (by decide) (star1 hp'.1) (star_any hp'.2)
    · rename_i e; subst e; exact pe_callB (prim_ok g.calm .sum) hg hm boot_sum (h.ps Γm g hp) (by decide) (by decide) (star1 hp'.1) (star_any hp'.2)
  refine PE.weak key fun σ H Q ⟨ρ, W, at', w⟩ => ?_
  rw [wpE] at w
  refine ⟨ρ, W, at', wpPs_mono Γm _ ρ _ _ (fun ds hq vs W1 H1 g1 rp => ?_) w⟩
  exact ⟨W1, ds, g1.here, rp, primD_mono (post.go g1) hq⟩
theorem s_gcd (h : Snd Z Γ G n) (g : Good X S Z Γ G) {p pos : Pos} {a : Expr} {r : List Expr} (hp : (a :: r).all plainE = true) (hx : S.sc.names.lookup ("gcd" : Str) = some .globalImplicit) (hq : S.gcd = true) :
    PE X (.Call (.Name "gcd" p) (a :: r) [] pos) (tE X.K Z Γ G (.prim .gcd ((a :: r).map (cE n S)))) := by
  have hg : Gl X "gcd" := by show X.env.scope.names.lookup _ = _; rw [g.sc]; exact hx
  have hp' := hp
  rw [List.all_cons, Bool.and_eq_true] at hp'
  refine PE.weak (pe_callBfun (prim_ok (Z := Z) g.calm .gcd) hg (g.gcd hq) (h.ps Γm g hp) (by decide) (star1 hp'.1) (star_any hp'.2)) fun σ H Q ⟨ρ, W, at', w⟩ => ?_
  rw [wpE] at w
  refine ⟨ρ, W, at', wpPs_mono Γm _ ρ _ _ (fun ds hq vs W1 H1 g1 rp => ?_) w⟩
  exact ⟨W1, ds, g1.here, rp, primD_mono (post.go g1) hq⟩
/-! ### isinstance; max by a key -/
omit Γm in
theorem _root_.Gx.RpA.get' {K : PySem.W.Frag} {W : Hp} : ∀ {vs : List V} {ds : List D} {i : Nat} {v : V}, RpA K Z W vs ds → vs[i]? = some v → ∃ d, ds[i]? = some d ∧ Rp K Z W v d
  | [], _, i, v, _, h => by simp at h
  | w :: vs, _, 0, v, .cons a b, h => by cases h; exact ⟨_, rfl, a⟩
  | w :: vs, _, i + 1, v, .cons a b, h => by rw [List.getElem?_cons_succ] at h; obtain ⟨d, e, q⟩ := RpA.get' b h; exact ⟨d, by rw [List.getElem?_cons_succ]; exact e, q⟩
omit Γm in
theorem _root_.Gx.PR.notM {K : PySem.W.Frag} {W W0 H0 H : Hp} {l : Addr} {ds : List D} (p : PR K Z W H (.ref l) (.lst ds)) (g : Go Z W0 H0 W H) : ¬ Z.M l := by
  rcases p with p | ⟨a, vs, es, e1, e2, m, _⟩
  · cases p with
    | lst ha _ => exact fun z => by rw [g.wm l z] at ha; cases ha
  · cases e1; exact m
def tkN : TK → String
  | .list => "list" | .tuple => "tuple" | .str => "str" | .bool => "bool" | .int => "int"
omit Γm in
theorem isi_ty {K : PySem.W.Frag} {W H : Hp} {v : V} {d : D} {t : TK} {k : Bool} (hs : Same W H) (p : PR K Z W H v d) (e : isD t d = some k) : ∃ u, TyX K H v u ∧ PySem.W.kitOne K u (.type (tkN t)) = some k := by
  have kits : ∀ (t : TK), kitB "NoneType" (tkN t) = some false ∧ kitB "bool" (tkN t) = isD t (.bl true) ∧ kitB "int" (tkN t) = isD t (.int 0) ∧ kitB "str" (tkN t) = isD t (.str "") ∧ kitB "list" (tkN t) = isD t (.lst []) ∧ kitB "tuple" (tkN t) = isD t (.tup []) := by
    intro t; cases t <;> refine ⟨?_, ?_, ?_, ?_, ?_, ?_⟩ <;> decide +kernel
  obtain ⟨k1, k2, k3, k4, k5, k6⟩ := kits t
  rcases p with p | ⟨a, vs, ds, rfl, rfl, m, h1, h2⟩
  · cases p with
    | non => exact ⟨_, .base .non, kit_ty (k1.trans (by cases t <;> exact e))⟩
    | bl b => exact ⟨_, .base (.bl b), kit_ty (k2.trans (by cases t <;> exact e))⟩
    | int i => exact ⟨_, .base (.int i), kit_ty (k3.trans (by cases t <;> exact e))⟩
    | str x => exact ⟨_, .base (.str x), kit_ty (k4.trans (by cases t <;> exact e))⟩
    | lst ha _ => exact ⟨_, .base (.lst (hs _ _ ha)), kit_ty (k5.trans (by cases t <;> exact e))⟩
    | tup ha _ =>
      have q : kitB "tuple" (tkN t) = some k := k6.trans (by cases t <;> exact e)
      rcases ha with (ha | ⟨o, ha⟩) | ⟨o, its, n, ha, hc, _⟩
      · exact ⟨_, .base (.tup (hs _ _ ha)), kit_ty q⟩
      · exact ⟨_, .fTuple (hs _ _ ha), kit_ty q⟩
      · exact ⟨_, .kTuple ha hc, kit_ty q⟩
    | hd _ => cases t <;> cases e
  · exact ⟨_, .base (.lst h1), kit_ty (k5.trans (by cases t <;> exact e))⟩
theorem s_isi (h : Snd Z Γ G n) (g : Good X S Z Γ G) {x : Str} {p pos : Pos} {a : Expr} {r : List Expr} {t : TK} (hp : (a :: r).all plainE = true) (hx : S.sc.names.lookup x = some .globalImplicit) (hd : x ≠ "__debug__") (ht : isiE S x r = some t) :
    PE X (.Call (.Name x p) (a :: r) [] pos) (tE X.K Z Γ G (.isi t (cE n S a))) := by
  unfold isiE at ht
  split at ht
  · rename_i hq
    obtain ⟨rfl, hb⟩ := hq
    split at ht
    · rename_i y py
      split at ht
      · rename_i hq
        obtain ⟨hy, hyb, hyd⟩ := hq
        have hg : Gl X "isinstance" := by show X.env.scope.names.lookup _ = _; rw [g.sc]; exact hx
        have hgy : Gl X y := by show X.env.scope.names.lookup y = _; rw [g.sc]; exact hy
        have hp' := hp
        rw [List.all_cons, Bool.and_eq_true] at hp'
        have ty : PE X (.Name y py) (tC (.ty (tkN t))) := by
          have hm := g.blt y hyb
          unfold tkOf at ht
          repeat' split at ht
          all_goals (try cases ht)
          · rename_i e; subst e; exact pe_bltn hgy hm PyProof.Rows.boot_list rfl (by decide) (by decide)
          · rename_i e; subst e; exact pe_bltn hgy hm PyProof.Rows.boot_tuple rfl (by decide) (by decide)
          · rename_i e; subst e; exact pe_bltn hgy hm PyProof.Rows.boot_str rfl (by decide) (by decide)
          · rename_i e; subst e; exact pe_bltn hgy hm PyProof.Rows.boot_bool rfl (by decide) (by decide)
          · rename_i e; subst e; exact pe_bltn hgy hm PyProof.Rows.boot_int rfl (by decide) (by decide)
        refine PE.weak (pe_callB call_isi hg (g.blt _ hb) boot_isinstance (pa_cons (h.p Γm g a) (pa_cons ty pa_nil) (star1 hp'.1)) (by decide) (by decide) (star1 hp'.1) (star_any hp'.2)) fun σ H Q ⟨ρ, W, at', w⟩ => ?_
        rw [wpE] at w
        refine ⟨ρ, W, at', pk_mono (fun d hd v W1 H1 g1 p1 => ?_) (fun Q Q' => wpE_mono Γm _ ρ Q Q') w⟩
        obtain ⟨k, e, q⟩ := hd
        obtain ⟨u, h1, h2⟩ := isi_ty g1.sub p1 e
        exact ⟨v, .ty (tkN t), u, _, k, rfl, .ty _, h1, h2, q (.bl k) W1 H1 g1 (.bl k)⟩
      · cases ht
    · cases ht
  · cases ht
theorem s_maxK (h : Snd Z Γ G n) (g : Good X S Z Γ G) {x y f : Str} {p pf pk pos : Pos} {a : Expr} {j : Nat} (hp : plainE a = true) (hj : maxE S x y f = some j) :
    PE X (.Call (.Name x p) [a] [⟨some y, .Name f pf, pk⟩] pos) (tE X.K Z Γ G (.maxK j (cE n S a))) := by
  unfold maxE at hj
  split at hj
  · rename_i hq
    obtain ⟨rfl, rfl, hb, hx, hf, hfd⟩ := hq
    split at hj
    · rename_i i hi
      split at hj
      · rename_i hl
        cases hj
        have hg : Gl X "max" := by show X.env.scope.names.lookup _ = _; rw [g.sc]; exact hx
        have hgf : Gl X f := by show X.env.scope.names.lookup f = _; rw [g.sc]; exact hf
        obtain ⟨fa, fd, ps, m, hm, hk, hbd, F, har⟩ := g.fns j f (lastIx_get hi)
        have hp' : [a].all plainE = true := by simp [hp]
        refine PE.weak (pe_callBK maxK_ok hg (g.blt _ hb) boot_max (pa_cons (h.p Γm g a) pa_nil (star1 hp)) (pk_cons (pe_glob (v := .ref fa) hgf hm rfl (ne_beq hfd)) L2.pk_nil) (by decide) (by decide) ?_ ?_) fun σ H Q ⟨ρ, W, at', w⟩ => ?_
        · rw [star1 hp]; rfl
        · rw [star1 hp]; rfl
        rw [wpE] at w
        refine ⟨ρ, W, at', pk_mono (fun d hd v W1 H1 g1 p1 => ?_) (fun Q Q' => wpE_mono Γm _ ρ Q Q') w⟩
        obtain ⟨ds, kf, rfl, hne, hs, hq⟩ := hd
        obtain ⟨l, vs, rfl, h1, h2⟩ := p1.lst g1.sub
        have nm : ¬ Z.M l := p1.notM g1
        refine ⟨l, fa, vs, kf, fun H' => ∃ W', Go Z W1 H1 W' H', j + 1, fd, ps, spG X.K Z (Γ j) m, rfl, rfl, by rw [h2.length]; exact hne, F, hbd, g.room.mono hl, ⟨W1, g1.here⟩, fun H' ⟨W', g'⟩ => g'.h l _ h1 nm, fun i v H' hv ⟨W', g'⟩ => ?_, fun i v H' hv hbest ⟨W', g'⟩ => ?_⟩
        · obtain ⟨d, hd, rp⟩ := h2.get' hv
          have hc := hs i d hd
          refine ⟨by rw [List.length_singleton]; exact har _ _ hc, W', [d], g'.sub, g'.hi, g'.wm, .cons (Rp.mono g'.w _ _ rp) .nil, Γm j _ _ _ (fun r hr v W2 H2 g2 vr => ?_) hc⟩
          subst hr
          exact ⟨vr.flat.1 _ rfl, W2, g'.trans g2⟩
        · obtain ⟨d, hd, rp⟩ := h2.get' hv
          exact hq i d hd (by rw [← h2.length]; exact hbest) v W' H' (g1.trans g') (Rp.mono g'.w _ _ rp)
      · cases hj
    · cases hj
  · cases hj
/-! ### tests of a value's truth -/
theorem pt_of {e : Expr} {c : CE} (h : PE X e (tE X.K Z Γ G c)) (he : ∀ whole, isTrue e X.env whole = (do let v ← whole; standAt e.pos; holding [v] (truthy v)))
    (hc : ∀ ρ Q, wpT Γ G c ρ Q → wpE Γ G c ρ (truQ Q)) : PT X e (tTs X.K Z Γ G c) := by
  refine PT.weak (pt_truth h he) fun σ H Q ⟨ρ, W, at', w⟩ => ?_
  refine ⟨ρ, W, at', wpE_mono Γm _ ρ _ _ (fun r hr v W1 H1 g1 vr => ?_) (hc _ _ w)⟩
  obtain ⟨k, e, q⟩ := hr
  obtain ⟨W2, g2, _, h2⟩ := vr.share g1
  exact ⟨k, PR.truth g2.sub (.inl h2) e, q W2 H1 g2⟩
omit Γm in
theorem st_bad (e : Expr) {c : CE} (hc : ∀ ρ Q, wpT Γ G c ρ Q → False) : PT X e (tTs X.K Z Γ G c) := PT.weak PT.no fun σ H Q ⟨ρ, W, a, w⟩ => hc _ _ w
end
end Gx
set_option maxHeartbeats 4000000
/-! Gx, part I: targets, what is walked, comprehensions; all expressions. -/
namespace Gx
open PySem PySem.Spec PyProof.Rows L2

/-! ### targets -/
mutual
def inT (j : Nat) : CT → Bool
  | .var i => i == j
  | .tup ts => inTs j ts
  | .bad => false
def inTs (j : Nat) : List CT → Bool
  | [] => false
  | t :: ts => inT j t || inTs j ts
end
mutual
theorem tgD_mono : (t : CT) → ∀ (d : D) (ρ : Ev) (Q Q' : Ev → Prop), (∀ r, Q r → Q' r) → tgD t d ρ Q → tgD t d ρ Q'
  | .var i, d, ρ, Q, Q', h, w => by rw [tgD] at w ⊢; exact h _ w
  | .bad, d, ρ, Q, Q', h, w => by cases d <;> (rw [tgD] at w; exact w.elim) <;> simp
  | .tup ts, .tup ds, ρ, Q, Q', h, w => by rw [tgD] at w ⊢; exact ⟨w.1, tgsD_mono ts ds ρ Q Q' h w.2⟩
  | .tup ts, .lst ds, ρ, Q, Q', h, w => by rw [tgD] at w ⊢; exact ⟨w.1, tgsD_mono ts ds ρ Q Q' h w.2⟩
  | .tup ts, .non, ρ, Q, Q', h, w => by simp [tgD] at w
  | .tup ts, .bl _, ρ, Q, Q', h, w => by simp [tgD] at w
  | .tup ts, .int _, ρ, Q, Q', h, w => by simp [tgD] at w
  | .tup ts, .str _, ρ, Q, Q', h, w => by simp [tgD] at w
  | .tup ts, .hd _, ρ, Q, Q', h, w => by simp [tgD] at w
theorem tgsD_mono : (ts : List CT) → ∀ (ds : List D) (ρ : Ev) (Q Q' : Ev → Prop), (∀ r, Q r → Q' r) → tgsD ts ds ρ Q → tgsD ts ds ρ Q'
  | [], [], ρ, Q, Q', h, w => by rw [tgsD] at w ⊢; exact h _ w
  | t :: ts, d :: ds, ρ, Q, Q', h, w => by rw [tgsD] at w ⊢; exact tgD_mono t d ρ _ _ (fun r => tgsD_mono ts ds r _ _ h) w
  | [], _ :: _, ρ, Q, Q', h, w => by simp [tgsD] at w
  | _ :: _, [], ρ, Q, Q', h, w => by simp [tgsD] at w
end
section
variable {K : PySem.W.Frag} {Z : Hd} {ρ : Ev} {σ : L2.St} {W H : Hp}
theorem set_some {α : Type} {l : List α} {i j : Nat} {a b : α} (h : (l.set i a)[j]? = some b) : (i = j ∧ a = b ∧ i < l.length) ∨ (i ≠ j ∧ l[j]? = some b) := by
  by_cases e : i = j
  · subst e
    by_cases hl : i < l.length
    · rw [List.getElem?_set_self hl] at h; cases h; exact .inl ⟨rfl, rfl, hl⟩
    · rw [List.getElem?_eq_none (by simpa using hl)] at h; cases h
  · rw [List.getElem?_set_ne e] at h; exact .inr ⟨e, h⟩
/-- a name holds shared data -/
theorem At.set (a : At K Z ρ σ W H) (i : Nat) {v : V} {d : D} (r : Rp K Z W v d) : At K Z (ρ.set i (some (.sh d))) (σ.set i (some v)) W H := by
  obtain ⟨He, W0, P, E⟩ := a
  refine ⟨He, W0, P, by rw [List.length_set, List.length_set]; exact E.len, E.sub, E.w0, E.new, E.old, E.hi, E.wm, fun j e h => ?_, fun j ds h => ?_, fun j k ds es h1 h2 => ?_⟩
  · rcases set_some h with ⟨rfl, e, hl⟩ | ⟨ne, h⟩
    · cases e
      exact ⟨v, List.getElem?_set_self (by rw [← E.len]; exact hl), r⟩
    · obtain ⟨u, h1, h2⟩ := E.slot j e h
      exact ⟨u, by rw [List.getElem?_set_ne ne]; exact h1, h2⟩
  · rcases set_some h with ⟨rfl, e, hl⟩ | ⟨ne, h⟩
    · cases e
    · obtain ⟨h1, h2⟩ := E.own j ds h
      exact ⟨by rw [List.getElem?_set_ne ne]; exact h1, h2⟩
  · rcases set_some h1 with ⟨_, e, _⟩ | ⟨_, h1⟩
    · cases e
    · rcases set_some h2 with ⟨_, e, _⟩ | ⟨_, h2⟩
      · cases e
      · exact E.inj j k ds es h1 h2
theorem At.wiped (a : At K Z ρ σ W H) : ∀ vs : List Nat, At K Z (wipeE ρ vs) (L2.wipe σ vs) W H
  | [] => a
  | i :: vs => by
    obtain ⟨He, W0, P, E⟩ := At.wiped a vs
    unfold wipeE L2.wipe
    refine ⟨He, W0, P, by rw [List.length_set, List.length_set]; exact E.len, E.sub, E.w0, E.new, E.old, E.hi, E.wm, fun j e h => ?_, fun j ds h => ?_, fun j k ds es h1 h2 => ?_⟩
    · rcases set_some h with ⟨rfl, e, hl⟩ | ⟨ne, h⟩
      · cases e
      · obtain ⟨u, h1, h2⟩ := E.slot j e h
        exact ⟨u, by rw [List.getElem?_set_ne ne]; exact h1, h2⟩
    · rcases set_some h with ⟨rfl, e, hl⟩ | ⟨ne, h⟩
      · cases e
      · obtain ⟨h1, h2⟩ := E.own j ds h
        exact ⟨by rw [List.getElem?_set_ne ne]; exact h1, h2⟩
    · rcases set_some h1 with ⟨_, e, _⟩ | ⟨_, h1⟩
      · cases e
      · rcases set_some h2 with ⟨_, e, _⟩ | ⟨_, h2⟩
        · cases e
        · exact E.inj j k ds es h1 h2
end
def tG (K : PySem.W.Frag) (Z : Hd) (t : CT) : TG := fun v σ H Q => ∃ ρ W d, At K Z ρ σ W H ∧ Rp K Z W v d ∧ tgD t d ρ fun ρ' => ∀ σ', At K Z ρ' σ' W H → σ'.length = σ.length → (∀ j, inT j t = false → σ'[j]? = σ[j]?) → Q σ' H
def tGs (K : PySem.W.Frag) (Z : Hd) (ts : List CT) : TGs := fun vs σ H Q => ∃ ρ W ds, At K Z ρ σ W H ∧ RpA K Z W vs ds ∧ tgsD ts ds ρ fun ρ' => ∀ σ', At K Z ρ' σ' W H → σ'.length = σ.length → (∀ j, inTs j ts = false → σ'[j]? = σ[j]?) → Q σ' H
theorem PG.weak {X : Cx} {e : Expr} {t t' : TG} (h : PG X e t) (w : ∀ v σ H Q, t' v σ H Q → t v σ H Q) : PG X e t' := ⟨fun pins s σ H v u Q I r q => h.run pins s σ H v u Q I r (w v σ H Q q)⟩
theorem PG.or {X : Cx} {e : Expr} {t t' : TG} (h : PG X e t) (h' : PG X e t') : PG X e (fun v σ H Q => t v σ H Q ∨ t' v σ H Q) := ⟨fun pins s σ H v u Q I r q => q.elim (h.run pins s σ H v u Q I r) (h'.run pins s σ H v u Q I r)⟩
theorem PG.no {X : Cx} {e : Expr} : PG X e (fun _ _ _ _ => False) := ⟨fun _ _ _ _ _ _ _ _ _ q => q.elim⟩
theorem PGs.weak {X : Cx} {e : List Expr} {t t' : TGs} (h : PGs X e t) (w : ∀ v σ H Q, t' v σ H Q → t v σ H Q) : PGs X e t' := ⟨fun pins s σ H v u Q I r q => h.run pins s σ H v u Q I r (w v σ H Q q)⟩
theorem asg1 {e : Expr} {es : List Expr} {env : Env} (h : plainE e = true) : assignEach (e :: es) env = (false, assign e env) :: assignEach es env := by
  cases e <;> first
    | rfl
    | cases h
theorem asg_len {env : Env} : ∀ {es : List Expr}, es.all plainE = true → (assignEach es env).length = es.length ∧ (assignEach es env).findIdx? (·.1) = none
  | [], _ => ⟨rfl, rfl⟩
  | e :: es, h => by
    rw [List.all_cons, Bool.and_eq_true] at h
    obtain ⟨h1, h2⟩ := asg_len (env := env) h.2
    rw [asg1 h.1]
    exact ⟨by rw [List.length_cons, List.length_cons, h1], by rw [List.findIdx?_cons, h2]; rfl⟩
section
variable {Z : Hd} {Γ : Nat → Con} {G : Nat → D} {X : Cx} {S : SC}
theorem isLoc_ok (g : Good X S Z Γ G) {x : Str} (h : isLoc S x = true) : Loc X.env.scope x ∧ (X.fn x = true ∨ X.env.scope.names.lookup x = some .local) := by
  unfold isLoc at h
  rw [Bool.or_eq_true, Bool.and_eq_true, decide_eq_true_eq, decide_eq_true_eq] at h
  rw [g.sc]
  rcases h with h | ⟨h, f⟩
  · exact ⟨.inl h, .inr h⟩
  · exact ⟨.inr h, .inl (g.fn x f)⟩
theorem sG (g : Good X S Z Γ G) : ∀ (n : Nat) (e : Expr), PG X e (tG X.K Z (cT S n e))
  | 0, e => PG.weak PG.no fun v σ H Q ⟨ρ, W, d, a, r, w⟩ => by rw [cT] at w; cases d <;> simp [tgD] at w
  | n + 1, e => by
    have bad : PG X e (tG X.K Z .bad) := PG.weak PG.no fun v σ H Q ⟨ρ, W, d, a, r, w⟩ => by cases d <;> simp [tgD] at w
    unfold cT
    split
    · rename_i x pos
      split
      · rename_i i hi
        split
        · rename_i hl
          obtain ⟨h1, h2⟩ := isLoc_ok g hl
          refine PG.weak (pg_name (i := i) g.nd (by rw [g.hN]; exact ixOf_get hi) h1 h2) fun v σ H Q ⟨ρ, W, d, a, r, w⟩ => ?_
          rw [tgD] at w
          exact w _ (a.set i r) (by rw [List.length_set]) fun j hj => List.getElem?_set_ne (by intro z; subst z; simp [inT] at hj)
        · exact bad
      · exact bad
    · rename_i es k pos
      split
      · rename_i hp
        have hs : ∀ (es : List Expr), es.all plainE = true → PGs X es (tGs X.K Z (es.map (cT S n))) := by
          intro es
          induction es with
          | nil =>
            intro _
            refine PGs.weak pgs_nil fun vs σ H Q ⟨ρ, W, ds, a, r, w⟩ => ?_
            cases ds with
            | nil => cases r; rw [List.map_nil, tgsD] at w; exact ⟨rfl, w σ a rfl fun _ _ => rfl⟩
            | cons d ds => simp [tgsD] at w
          | cons e es ih =>
            intro hp
            rw [List.all_cons, Bool.and_eq_true] at hp
            refine PGs.weak (pgs_cons (sG g n e) (ih hp.2) (by rw [asg1 hp.1]; rfl)) fun vs σ H Q ⟨ρ, W, ds, a, r, w⟩ => ?_
            cases ds with
            | nil => simp [tgsD] at w
            | cons d ds =>
              cases r with
              | cons r1 r2 =>
                rw [List.map_cons, tgsD] at w
                refine ⟨_, _, rfl, ρ, W, d, a, r1, tgD_mono _ _ _ _ _ (fun ρ1 hq σ1 a1 l1 k1 => ?_) w⟩
                refine ⟨ρ1, W, ds, a1, r2, tgsD_mono _ _ _ _ _ (fun ρ2 hq2 σ2 a2 l2 k2 => ?_) hq⟩
                refine hq2 σ2 a2 (l2.trans l1) fun j hj => ?_
                rw [inTs, Bool.or_eq_false_iff] at hj
                exact (k2 j hj.2).trans (k1 j hj.1)
        have hs := hs es hp
        obtain ⟨h1, h2⟩ := asg_len (env := X.env) hp
        refine PG.weak (PG.or (pg_tup g.calm hs h1 h2) (pg_unl g.calm hs h1 h2)) fun v σ H Q ⟨ρ, W, d, a, r, w⟩ => ?_
        cases d with
        | tup ds =>
          rw [tgD] at w
          cases r with
          | tup r1 r2 =>
            refine .inl ⟨_, _, rfl, seqT a.refl.sub r1, by rw [r2.length, ← w.1, List.length_map], ρ, W, ds, a, r2, tgsD_mono _ _ _ _ _ (fun ρ2 hq2 σ2 a2 l2 k2 => ?_) w.2⟩
            exact hq2 σ2 a2 l2 fun j hj => k2 j (by rw [inT] at hj; exact hj)
        | lst ds =>
          rw [tgD] at w
          cases r with
          | lst r1 r2 =>
            refine .inr ⟨_, _, rfl, SqL.of (a.refl.sub _ _ r1), by rw [r2.length, ← w.1, List.length_map], ρ, W, ds, a, r2, tgsD_mono _ _ _ _ _ (fun ρ2 hq2 σ2 a2 l2 k2 => ?_) w.2⟩
            exact hq2 σ2 a2 l2 fun j hj => k2 j (by rw [inT] at hj; exact hj)
        | _ => simp [tgD] at w
      · exact bad
    · exact bad

/-! ### what is walked -/
/-- the iterator goes over these items -/
structure Wk (K : PySem.W.Frag) (Z : Hd) (J : It) (items : List D) (W : Hp) : Prop where
  go : ∀ i W' H, Same W W' → Same W' H → i < items.length → J.go i H
  stop : ∀ i W' H, Same W W' → Same W' H → items.length ≤ i → J.stop i H
  yld : ∀ i W' H v H', Same W W' → Go Z W' H W' H → i < items.length → J.yld i H v H' → ∃ d W2, items[i]? = some d ∧ Go Z W' H W2 H' ∧ Rp K Z W2 v d
def tI (K : PySem.W.Frag) (Z : Hd) (Γ : Nat → Con) (G : Nat → D) (k : IK) (its : List CE) : TI := fun σ H R => ∃ ρ W, At K Z ρ σ W H ∧ wpEs Γ G its ρ fun xs => itsD k xs fun items => ∀ J W' H', Go Z W H W' H' → Wk K Z J items W' → R J H'
theorem wk_list {K : PySem.W.Frag} {W : Hp} {p : Addr} {vs : List V} {ds : List D} (h : W p = some (.lst vs)) (r : RpA K Z W vs ds) : Wk K Z (Itl K p) ds W := by
  refine ⟨fun i W' H s1 s2 hi => ?_, fun i W' H s1 s2 hi => ⟨vs, SqL.of (s2 _ _ (s1 _ _ h)), by rw [r.length]; exact hi⟩, fun i W' H v H' s1 g hi y => ?_⟩
  · have hv : i < vs.length := by rw [r.length]; exact hi
    exact ⟨vs, vs[i], SqL.of (s2 _ _ (s1 _ _ h)), List.getElem?_eq_getElem hv⟩
  · obtain ⟨e, f⟩ := y
    subst e
    obtain ⟨d, h1, h2⟩ := r.getV (f vs (SqL.of (g.sub _ _ (s1 _ _ h))))
    exact ⟨d, W', h1, g, h2.mono s1⟩
theorem wk_tup {K : PySem.W.Frag} {W : Hp} {p : Addr} {vs : List V} {ds : List D} (h : SqT K W p vs) (r : RpA K Z W vs ds) : Wk K Z (Itt K p) ds W := by
  refine ⟨fun i W' H s1 s2 hi => ?_, fun i W' H s1 s2 hi => ⟨vs, seqT s2 (seqT s1 h), by rw [r.length]; exact hi⟩, fun i W' H v H' s1 g hi y => ?_⟩
  · have hv : i < vs.length := by rw [r.length]; exact hi
    exact ⟨vs, vs[i], seqT s2 (seqT s1 h), List.getElem?_eq_getElem hv⟩
  · obtain ⟨e, f⟩ := y
    subst e
    obtain ⟨d, h1, h2⟩ := r.getV (f vs (seqT g.sub (seqT s1 h)))
    exact ⟨d, W', h1, g, h2.mono s1⟩
theorem wk_range {K : PySem.W.Frag} {W : Hp} (lo : Int) (n : Nat) : Wk K Z (Itr lo n) ((List.range n).map fun i => .int (lo + (i : Nat))) W := by
  refine ⟨fun i W' H s1 s2 hi => (show i < n by simpa using hi), fun i W' H s1 s2 hi => (show n ≤ i by simpa using hi), fun i W' H v H' s1 g hi y => ?_⟩
  obtain ⟨e, f⟩ := y
  subst e f
  have hi : i < n := by simpa using hi
  exact ⟨.int (lo + i), W', by rw [List.getElem?_map, List.getElem?_range hi]; rfl, g, .int _⟩
theorem zip_get {α β γ : Type} (f : α → β → γ) : ∀ (xs : List α) (ys : List β) (i : Nat) (x : α) (y : β), xs[i]? = some x → ys[i]? = some y → (List.zipWith f xs ys)[i]? = some (f x y)
  | x :: xs, y :: ys, 0, a, b, h1, h2 => by simp at h1 h2; subst h1 h2; rfl
  | x :: xs, y :: ys, i + 1, a, b, h1, h2 => by
    rw [List.getElem?_cons_succ] at h1 h2
    rw [List.zipWith_cons_cons, List.getElem?_cons_succ]
    exact zip_get f xs ys i a b h1 h2
  | [], _, _, _, _, h1, _ => by simp at h1
  | _ :: _, [], _, _, _, _, h2 => by simp at h2
theorem same_new {H : Hp} {p : Addr} {o : HO} (n : H p = none) : Same H (upd H p o) := fun b u e => by rw [upd_ne (ne_of_none e n)]; exact e
theorem wk_zipL {K : PySem.W.Frag} {W : Hp} {p q : Addr} {vs ws : List V} {ds es : List D} (h : W p = some (.lst vs)) (r : RpA K Z W vs ds) (h' : W q = some (.lst ws)) (r' : RpA K Z W ws es) :
    Wk K Z (Itz K p q) (List.zipWith (fun a b => .tup [a, b]) ds es) W := by
  have l1 := r.length
  have l2 := r'.length
  refine ⟨fun i W' H s1 s2 hi => ?_, fun i W' H s1 s2 hi => ?_, fun i W' H v H' s1 g hi y => ?_⟩
  · rw [List.length_zipWith] at hi
    have hv : i < vs.length := by omega
    have hw : i < ws.length := by omega
    exact ⟨vs, ws, vs[i], ws[i], SqL.of (s2 _ _ (s1 _ _ h)), SqL.of (s2 _ _ (s1 _ _ h')), List.getElem?_eq_getElem hv, List.getElem?_eq_getElem hw⟩
  · rw [List.length_zipWith] at hi
    exact ⟨vs, ws, SqL.of (s2 _ _ (s1 _ _ h)), SqL.of (s2 _ _ (s1 _ _ h')), by omega⟩
  · obtain ⟨T, x, y, rfl, nT, rfl, f1, f2⟩ := y
    obtain ⟨d, h1, h2⟩ := r.getV (f1 vs (SqL.of (g.sub _ _ (s1 _ _ h))))
    obtain ⟨e, h3, h4⟩ := r'.getV (f2 ws (SqL.of (g.sub _ _ (s1 _ _ h'))))
    have m := same_new (o := .tup [x, y]) (g.wnone nT)
    exact ⟨.tup [d, e], _, zip_get _ _ _ _ _ _ h1 h3, g.tup nT, .tup (SqT.of upd_same) (.cons ((h2.mono s1).mono m) (.cons ((h4.mono s1).mono m) .nil))⟩
theorem wk_zipT {K : PySem.W.Frag} {W : Hp} {p q : Addr} {vs ws : List V} {ds es : List D} (h : SqT K W p vs) (r : RpA K Z W vs ds) (h' : SqT K W q ws) (r' : RpA K Z W ws es) :
    Wk K Z (RZ.ItzT K p q) (List.zipWith (fun a b => .tup [a, b]) ds es) W := by
  have l1 := r.length
  have l2 := r'.length
  refine ⟨fun i W' H s1 s2 hi => ?_, fun i W' H s1 s2 hi => ?_, fun i W' H v H' s1 g hi y => ?_⟩
  · rw [List.length_zipWith] at hi
    have hv : i < vs.length := by omega
    have hw : i < ws.length := by omega
    exact ⟨vs, ws, vs[i], ws[i], seqT s2 (seqT s1 h), seqT s2 (seqT s1 h'), List.getElem?_eq_getElem hv, List.getElem?_eq_getElem hw⟩
  · rw [List.length_zipWith] at hi
    exact ⟨vs, ws, seqT s2 (seqT s1 h), seqT s2 (seqT s1 h'), by omega⟩
  · obtain ⟨T, x, y, rfl, nT, rfl, f1, f2⟩ := y
    obtain ⟨d, h1, h2⟩ := r.getV (f1 vs (seqT g.sub (seqT s1 h)))
    obtain ⟨e, h3, h4⟩ := r'.getV (f2 ws (seqT g.sub (seqT s1 h')))
    have m := same_new (o := .tup [x, y]) (g.wnone nT)
    exact ⟨.tup [d, e], _, zip_get _ _ _ _ _ _ h1 h3, g.tup nT, .tup (SqT.of upd_same) (.cons ((h2.mono s1).mono m) (.cons ((h4.mono s1).mono m) .nil))⟩
end
end Gx
set_option maxHeartbeats 4000000
/-! Gx, part J: loops' sources, comprehensions; all expressions and tests. -/
namespace Gx
open PySem PySem.Spec PyProof.Rows L2
theorem len2 {α : Type} : ∀ {l : List α}, l.length = 2 → ∃ a b, l = [a, b]
  | [a, b], _ => ⟨a, b, rfl⟩
  | [], h => by simp at h
  | [_], h => by simp at h
  | _ :: _ :: _ :: _, h => by simp at h
section
variable {X : Cx} {tg : Expr}
/-- a list or a tuple is walked -/
def iSeq (K : PySem.W.Frag) (tl : TE) : TI := fun σ H R => tl σ H fun x H1 => ∃ a, x = .ref a ∧ ((∃ xs, SqL K H1 a xs ∧ R (Itl K a) H1) ∨ ∃ xs, SqT K H1 a xs ∧ R (Itt K a) H1)
theorem pi_seq {l : Expr} {tl : TE} (hl : PE X l tl) : PI X tg l (iSeq X.K tl) := by
  refine ⟨fun pins s σ H R I h => ?_⟩
  refine thn (hl.run pins s σ H _ I h) fun v s1 ⟨x, H1, I1, r1, q1⟩ => ?_
  obtain ⟨a, e, q1⟩ := q1
  subst e
  cases r1
  rcases q1 with ⟨xs, hq, q⟩ | ⟨xs, hq, q⟩
  · obtain ⟨its, rv, p, hz⟩ := I1.list hq
    refine wpAny_pyIter_list p.isList ?_
    refine ⟨s1.heap.objs.size, [s1.heap.objs.size], _, _, H1, rfl, I1.kept (t' := s1.toks) fun b o e => Heap.get?_push_of_some _ e, turn_list a _, ⟨_, Heap.get?_push_size _ rfl, rfl, rfl⟩, fun b hb => ?_, q⟩
    have e : b = s1.heap.objs.size := by simpa using hb
    subst e
    exact I1.fpOk (Nat.le_refl _) (I1.hok.fresh (Nat.le_refl _))
  · obtain ⟨its, rv, p, hz⟩ := I1.tuple hq
    refine wpAny_pyIter_tuple (show s1.heap.IsTuple a its.toArray from p) ?_
    refine ⟨s1.heap.objs.size, [s1.heap.objs.size], _, _, H1, rfl, I1.kept (t' := s1.toks) fun b o e => Heap.get?_push_of_some _ e, turn_tuple a _, ⟨_, Heap.get?_push_size _ rfl, rfl, rfl⟩, fun b hb => ?_, q⟩
    have e : b = s1.heap.objs.size := by simpa using hb
    subst e
    exact I1.fpOk (Nat.le_refl _) (I1.hok.fresh (Nat.le_refl _))
end
section
variable {Z : Hd} {Γ : Nat → Con} {G : Nat → D} (Γm : ConMono Γ) {X : Cx} {S : SC} {n : Nat}
include Γm
theorem gl_of (g : Good X S Z Γ G) {x : Str} (h : S.sc.names.lookup x = some .globalImplicit) : Gl X x := by show X.env.scope.names.lookup x = _; rw [g.sc]; exact h
theorem isBlt_ok (g : Good X S Z Γ G) {x : Str} (h : isBlt S x = true) : Gl X x ∧ X.mg x = none := by
  unfold isBlt at h
  rw [Bool.and_eq_true, decide_eq_true_eq, decide_eq_true_eq] at h
  exact ⟨gl_of Γm g h.1, g.blt x h.2⟩
theorem sI_seq (h : Snd Z Γ G n) (g : Good X S Z Γ G) (tg e : Expr) : PI X tg e (tI X.K Z Γ G .seq [cE n S e]) := by
  refine PI.weak (pi_seq (h.e X S g e)) fun σ H R ⟨ρ, W, a, w⟩ => ?_
  rw [wpEs] at w
  refine ⟨ρ, W, a, wpE_mono Γm _ ρ _ _ (fun r hr v W1 H1 g1 vr => ?_) w⟩
  rw [wpEs] at hr
  obtain ⟨W2, g2, _, h2⟩ := vr.share g1
  generalize r.d = d at hr h2
  cases d with
  | tup ys =>
    have hr : ∀ J W' H', Go Z W H W' H' → Wk X.K Z J ys W' → R J H' := hr
    cases h2 with
    | tup r1 r2 => exact ⟨_, rfl, .inr ⟨_, seqT g2.sub r1, hr _ W2 H1 g2 (wk_tup r1 r2)⟩⟩
  | lst ys =>
    have hr : ∀ J W' H', Go Z W H W' H' → Wk X.K Z J ys W' → R J H' := hr
    cases h2 with
    | lst r1 r2 => exact ⟨_, rfl, .inl ⟨_, SqL.of (g2.sub _ _ r1), hr _ W2 H1 g2 (wk_list r1 r2)⟩⟩
  | _ => exact (show False from hr).elim
omit Γm in
theorem s_ibad (tg e : Expr) (k : IK) : PI X tg e (tI X.K Z Γ G k [.bad]) := PI.weak PI.no fun σ H R ⟨ρ, W, a, w⟩ => by rw [wpEs, wpE] at w; exact w
theorem sI (h : Snd Z Γ G n) (g : Good X S Z Γ G) (tg e : Expr) : PI X tg e (tI X.K Z Γ G (cIt S (cE n S) tg e).1 (cIt S (cE n S) tg e).2) := by
  have other : ∀ e, PI X tg e (tI X.K Z Γ G (if plainE e = true then (IK.seq, [cE n S e]) else (IK.seq, [CE.bad])).1 (if plainE e = true then (IK.seq, [cE n S e]) else (IK.seq, [CE.bad])).2) := fun e => by
    split
    · exact sI_seq Γm h g tg e
    · exact s_ibad tg e .seq
  unfold cIt
  split
  · rename_i x p args kws pos
    split
    · rename_i c
      obtain ⟨rfl, hb, hk, hp, hl⟩ := c
      obtain ⟨g1, g2⟩ := isBlt_ok Γm g hb
      have ek : kws = [] := by simpa using hk
      subst ek
      rcases hl with hl | hl
      · obtain ⟨a, rfl⟩ : ∃ a, args = [a] := List.length_eq_one_iff.mp hl
        refine PI.weak (pi_range1 g1 g2 (h.es Γm g hp) (by rw [List.all_cons, Bool.and_eq_true] at hp; rw [star1 hp.1]; rfl)) fun σ H R ⟨ρ, W, at', w⟩ => ?_
        refine ⟨ρ, W, at', wpEs_mono Γm _ ρ _ _ (fun ds hq vs W1 H1 g1 rp => ?_) (wpEs_len Γm w)⟩
        obtain ⟨hlen, hq⟩ := hq
        obtain ⟨d, rfl⟩ : ∃ d, ds = [d] := List.length_eq_one_iff.mp (by rw [hlen]; rfl)
        cases d with
        | int j =>
          have hq : (j ≤ 2 ^ 62 - 1 ∧ -(2 ^ 62) ≤ j) ∧ ∀ J W' H', Go Z W H W' H' → Wk X.K Z J ((List.range j.toNat).map fun i => .int (i : Nat)) W' → R J H' := hq
          cases rp with
          | cons r1 r2 =>
            cases r2
            cases r1
            refine ⟨j, rfl, hq.1.2, by omega, hq.2 _ W1 H1 g1 ?_⟩
            have := wk_range (K := X.K) (Z := Z) (W := W1) 0 j.toNat
            simpa using this
        | _ => exact (show False from hq).elim
      · obtain ⟨a, b, rfl⟩ : ∃ a b, args = [a, b] := len2 hl
        have hp' := hp
        rw [List.all_cons, Bool.and_eq_true, List.all_cons, Bool.and_eq_true] at hp'
        refine PI.weak (pi_range2 g1 g2 (h.es Γm g hp) (by rw [star1 hp'.1, star1 hp'.2.1]; rfl) (by rw [star1 hp'.2.1]; rfl)) fun σ H R ⟨ρ, W, at', w⟩ => ?_
        refine ⟨ρ, W, at', wpEs_mono Γm _ ρ _ _ (fun ds hq vs W1 H1 g1 rp => ?_) (wpEs_len Γm w)⟩
        obtain ⟨hlen, hq⟩ := hq
        obtain ⟨d, e, rfl⟩ : ∃ d e, ds = [d, e] := len2 (by rw [hlen]; rfl)
        cases d with
        | int i =>
          cases e with
          | int j =>
            have hq : (-(2 ^ 62) ≤ i ∧ i < 2 ^ 62 ∧ -(2 ^ 62) ≤ j ∧ j < 2 ^ 62) ∧ ∀ J W' H', Go Z W H W' H' → Wk X.K Z J ((List.range (j - i).toNat).map fun n => .int (i + (n : Nat))) W' → R J H' := hq
            cases rp with
            | cons r1 r2 =>
              cases r2 with
              | cons r2 r3 =>
                cases r3
                cases r1
                cases r2
                exact ⟨i, j, rfl, hq.1, hq.2 _ W1 H1 g1 (wk_range i (j - i).toNat)⟩
          | _ => exact (show False from hq).elim
        | _ => exact (show False from hq).elim
    · split
      · rename_i c
        obtain ⟨rfl, hb, hk, hp, hl, ht⟩ := c
        obtain ⟨g1, g2⟩ := isBlt_ok Γm g hb
        have ek : kws = [] := by simpa using hk
        subst ek
        obtain ⟨a, b, rfl⟩ : ∃ a b, args = [a, b] := len2 hl
        have hp' := hp
        rw [List.all_cons, Bool.and_eq_true, List.all_cons, Bool.and_eq_true] at hp'
        cases tg with
        | Tuple elts kk tpos =>
          refine PI.weak (RZ.pi_zipA g1 g2 (h.es Γm g hp) (star1 hp'.1) (star_any (by rw [List.all_cons, Bool.and_eq_true]; exact hp'.2))) fun σ H R ⟨ρ, W, at', w⟩ => ?_
          refine ⟨ρ, W, at', wpEs_mono Γm _ ρ _ _ (fun ds hq vs W1 H1 g1 rp => ?_) (wpEs_len Γm w)⟩
          obtain ⟨hlen, hq⟩ := hq
          obtain ⟨d, e, rfl⟩ : ∃ d e, ds = [d, e] := len2 (by rw [hlen]; rfl)
          cases rp with
          | cons r1 r2 =>
            cases r2 with
            | cons r2 r3 =>
              cases r3
              cases d with
              | tup xs =>
                cases e with
                | tup ys =>
                  have hq : ∀ J W' H', Go Z W H W' H' → Wk X.K Z J (List.zipWith (fun a b => .tup [a, b]) xs ys) W' → R J H' := hq
                  cases r1 with
                  | tup a1 a2 =>
                    cases r2 with
                    | tup b1 b2 => exact ⟨_, _, _, _, rfl, .inr ⟨seqT g1.sub a1, seqT g1.sub b1, hq _ W1 H1 g1 (wk_zipT a1 a2 b1 b2)⟩⟩
                | _ => exact (show False from hq).elim
              | lst xs =>
                cases e with
                | lst ys =>
                  have hq : ∀ J W' H', Go Z W H W' H' → Wk X.K Z J (List.zipWith (fun a b => .tup [a, b]) xs ys) W' → R J H' := hq
                  cases r1 with
                  | lst a1 a2 =>
                    cases r2 with
                    | lst b1 b2 => exact ⟨_, _, _, _, rfl, .inl ⟨SqL.of (g1.sub _ _ a1), SqL.of (g1.sub _ _ b1), hq _ W1 H1 g1 (wk_zipL a1 a2 b1 b2)⟩⟩
                | _ => exact (show False from hq).elim
              | _ => exact (show False from hq).elim
        | _ => exact absurd ht (by simp [isTup])
      · exact sI_seq Γm h g tg _
  · exact other e
end
end Gx
set_option maxHeartbeats 4000000
/-! Gx, part K: comprehensions; all expressions and tests. -/
namespace Gx
open PySem PySem.Spec PyProof.Rows L2
section
variable {Z : Hd} {Γ : Nat → Con} {G : Nat → D} {X : Cx} {S : SC} {n : Nat}
theorem Good.blk (g : Good X S Z Γ G) (s : Shared) (H : Hp) (scope : Scope) (C : Addr) (cl : List (Str × Addr)) (fp : List Addr) (hk : scope.kind = .function) : Good (X.blk s H scope (compEnvC scope cl C X.env) fp) (S.blk scope) Z Γ G where
  kind := hk
  hN := g.hN
  nd := g.nd
  sc := by show relS scope X.env.scope = relS scope S.sc; rw [g.sc]
  calm := g.calm
  po := PassesOwn.never
  fn := fun x h => h
  blt := g.blt
  gcd := g.gcd
  gl := g.gl
  fns := g.fns
  room := g.room
theorem Go.stays {W H W1 H1 : Hp} (g : Go Z W H W1 H1) {p : Addr} (h1 : W p = none) (h2 : H p ≠ none) : W1 p = none := by
  cases q : W1 p with
  | none => rfl
  | some o =>
    rcases g.nw p (by rw [q]; simp) with z | z
    · exact absurd h1 z
    · exact absurd z h2
theorem Go.write {W H W1 H1 : Hp} (g : Go Z W H W1 H1) {p : Addr} {o : HO} (h1 : W1 p = none) (h2 : H p = none) (h3 : ¬ Z.M p) : Go Z W H W1 (upd H1 p o) := by
  refine ⟨g.w, fun a u h m => ?_, g.nw, fun a u h => ?_, Z.stay _ _ _ g.hi h3, g.wm⟩
  · rw [upd_ne (ne_of_none h h2)]; exact g.h a u h m
  · rw [upd_ne (ne_of_none h h1)]; exact g.sub a u h
mutual
theorem inT_sub {own : List Nat} {j : Nat} (hj : j ∉ own) : (t : CT) → subT own t = true → inT j t = false
  | .var i, h => by
    rw [subT, decide_eq_true_eq] at h
    rw [inT]
    cases q : i == j with
    | false => rfl
    | true => exact absurd (eq_of_beq q ▸ h) hj
  | .tup ts, h => by rw [subT] at h; rw [inT]; exact inTs_sub hj ts h
  | .bad, h => by rw [inT]
theorem inTs_sub {own : List Nat} {j : Nat} (hj : j ∉ own) : (ts : List CT) → subTs own ts = true → inTs j ts = false
  | [], _ => by rw [inTs]
  | t :: ts, h => by
    rw [subTs, Bool.and_eq_true] at h
    rw [inTs, inT_sub hj t h.1, inTs_sub hj ts h.2]; rfl
end
theorem wipe_get (σ : L2.St) (j : Nat) : ∀ vs : List Nat, (L2.wipe σ vs)[j]? = if j ∈ vs then (if j < σ.length then some none else none) else σ[j]?
  | [] => by simp [L2.wipe]
  | v :: vs => by
    unfold L2.wipe
    by_cases e : v = j
    · subst e
      rw [if_pos List.mem_cons_self]
      by_cases hl : v < σ.length
      · rw [List.getElem?_set_self (by rw [wipe_length]; exact hl), if_pos hl]
      · rw [List.getElem?_eq_none (by rw [List.length_set, wipe_length]; omega), if_neg hl]
    · rw [List.getElem?_set_ne e, wipe_get σ j vs]
      have : (j ∈ v :: vs) ↔ j ∈ vs := by rw [List.mem_cons]; constructor
                                          · rintro (z | z); exact absurd z.symm e; exact z
                                          · exact .inr
      simp only [this]
theorem wipe_eq {σ σ' : L2.St} {vs : List Nat} (hl : σ'.length = (L2.wipe σ vs).length) (h : ∀ j, j ∉ vs → σ'[j]? = (L2.wipe σ vs)[j]?) : L2.wipe σ' vs = L2.wipe σ vs := by
  rw [wipe_length] at hl
  refine List.ext_getElem? fun j => ?_
  rw [wipe_get, wipe_get]
  by_cases e : j ∈ vs
  · rw [if_pos e, if_pos e, hl]
  · rw [if_neg e, if_neg e, h j e, wipe_get, if_neg e]
def tIfs (K : PySem.W.Frag) (Z : Hd) (Γ : Nat → Con) (G : Nat → D) (cs : List CE) : TT := fun σ H Q => ∃ ρ W, At K Z ρ σ W H ∧ wpIfs Γ G cs ρ fun k => ∀ W' H', Go Z W H W' H' → Q k H'
variable (Γm : ConMono Γ)
include Γm
theorem s_ifs (h : Snd Z Γ G n) (g : Good X S Z Γ G) {ifs : List Expr} (hl : ifs.length ≤ 1) : PTs X ifs (tIfs X.K Z Γ G (ifs.map (cE n S))) := by
  match ifs, hl with
  | [], _ => exact ⟨fun pins s σ H Q I ⟨ρ, W, a, w⟩ => pts_nil.run pins s σ H Q I (by rw [List.map_nil, wpIfs] at w; exact w W H a.refl)⟩
  | [c], _ => exact ⟨fun pins s σ H Q I ⟨ρ, W, a, w⟩ => (pts_one (h.t X S g c)).run pins s σ H Q I (by rw [List.map_cons, List.map_nil, wpIfs] at w; exact ⟨ρ, W, a, w⟩)⟩
  | _ :: _ :: _, hl => exact absurd hl (by simp)
theorem wpIfs_mono : (cs : List CE) → ∀ (ρ : Ev) (Q Q' : Bool → Prop), (∀ r, Q r → Q' r) → wpIfs Γ G cs ρ Q → wpIfs Γ G cs ρ Q'
  | [], ρ, Q, Q', h, w => by rw [wpIfs] at w ⊢; exact h _ w
  | [c], ρ, Q, Q', h, w => by rw [wpIfs] at w ⊢; exact wpT_mono Γm c ρ Q Q' h w
  | _ :: _ :: _, ρ, Q, Q', h, w => by simp [wpIfs] at w
theorem lc_read (h : Snd Z Γ G n) (g : Good X S Z Γ G) {elt tg iter : Expr} {ifs : List Expr} {scope : Scope} {own : List Nat} {t : CT}
    (ho : (namesOf S.N own).map (·.2) = own) (hs : subT own t = true) {σ : L2.St} {H : Hp} {Q : VK}
    (w : tE X.K Z Γ G (.comp own (cE n (S.blk scope) elt) t (cIt S (cE n S) tg iter).1 (cIt S (cE n S) tg iter).2 (ifs.map (cE n (S.blk scope)))) σ H Q) :
    tLc (tI X.K Z Γ G (cIt S (cE n S) tg iter).1 (cIt S (cE n S) tg iter).2) (tG X.K Z t) (tIfs X.K Z Γ G (ifs.map (cE n (S.blk scope)))) (tE X.K Z Γ G (cE n (S.blk scope) elt)) ((namesOf S.N own).map (·.2)) σ H Q := by
  obtain ⟨ρ, W, at', w⟩ := w
  rw [wpE] at w
  rw [ho]
  refine ⟨ρ, W, at', wpEs_mono Γm _ ρ _ _ (fun xs => itsD_mono fun items q J W1 H1 g1 wk D hD => ?_) w⟩
  obtain ⟨hz, Iv, h0, hst, hd⟩ := q
  have mD : ¬ Z.M D := g1.fresh hD
  refine ⟨fun i m H' => m = items.length - i ∧ i ≤ items.length ∧ ∃ acc vs Wc, acc.length ≤ i ∧ Iv i acc ∧ Go Z W1 H1 Wc H' ∧ Wc D = none ∧ H' D = some (.lst vs) ∧ RpA X.K Z Wc vs acc,
    ⟨items.length, by omega, Nat.zero_le _, [], [], W1, Nat.le_refl _, h0, g1.here.list hD, g1.wnone hD, upd_same, .nil⟩, ?_⟩
  rintro i m H' ⟨rfl, hi, acc, vs, Wc, ha, hv, gc, wD, hDv, rp⟩
  by_cases hlt : i < items.length
  · refine .inr ⟨wk.go i Wc H' gc.w gc.sub hlt, fun H' => ∃ acc vs Wc, acc.length ≤ i + 1 ∧ Iv (i + 1) acc ∧ Go Z W1 H1 Wc H' ∧ Wc D = none ∧ H' D = some (.lst vs) ∧ RpA X.K Z Wc vs acc,
      fun H'' q => ⟨items.length - (i + 1), by omega, rfl, hlt, q⟩, fun x H2 y => ?_⟩
    obtain ⟨d, W2, hd2, g2, r2⟩ := wk.yld i Wc H' x H2 gc.w gc.here hlt y
    have wD2 : W2 D = none := g2.stays wD (by rw [hDv]; simp)
    have hD2 : H2 D = some (.lst vs) := g2.h D _ hDv mD
    refine ⟨wipeE ρ own, W2, d, (at'.go ((g1.trans gc).trans g2)).wiped own, r2, tgD_mono _ _ _ _ _ (fun ρ1 hq σ2 a2 l2 k2 => ⟨?_, ?_⟩) (hst i d acc hd2 hv)⟩
    · exact wipe_eq l2 fun j hj => k2 j (inT_sub hj t hs)
    · refine ⟨ρ1, W2, a2, wpIfs_mono Γm _ ρ1 _ _ (fun b hb W4 H4 g4 => ?_) hq⟩
      have wD4 : W4 D = none := g4.stays wD2 (by rw [hD2]; simp)
      have hD4 : H4 D = some (.lst vs) := g4.h D _ hD2 mD
      dsimp only
      split
      · rename_i e
        rw [if_pos e] at hb
        refine ⟨ρ1, W4, a2.go g4, wpE_mono Γm _ ρ1 _ _ (fun r hr v W5 H5 g5 vr => ?_) hb⟩
        obtain ⟨W6, g6, s6, r6⟩ := vr.share g5
        have wD6 : W6 D = none := g6.stays wD4 (by rw [hD4]; simp)
        have hD6 : H5 D = some (.lst vs) := g6.h D _ hD4 mD
        have gg : Go Z W1 H1 W6 H5 := ((gc.trans g2).trans g4).trans g6
        have ss : Same Wc W6 := (g2.w.trans g4.w).trans g6.w
        refine ⟨vs, hD6, ?_, acc ++ [r.d], vs ++ [v], W6, by rw [List.length_append]; exact Nat.add_le_add ha (Nat.le_refl _), hr, gg.write wD6 hD mD, wD6, upd_same, (RpA.mono ss _ _ rp).append (.cons r6 .nil)⟩
        rw [rp.length]
        have := big16 (n := 16777216) (Nat.le_refl _)
        omega
      · rename_i e
        rw [if_neg e] at hb
        exact ⟨acc, vs, W4, Nat.le_succ_of_le ha, hb, (gc.trans g2).trans g4, wD4, hD4, RpA.mono (g2.w.trans g4.w) _ _ rp⟩
  · have e : i = items.length := by omega
    subst e
    refine .inl ⟨wk.stop _ Wc H' gc.w gc.sub (Nat.le_refl _), hd acc hv _ Wc H' (g1.trans gc) ⟨D, vs, rfl, g1.back hD, wD, mD, hDv, rp⟩⟩
theorem s_comp (h : Snd Z Γ G n) (g : Good X S Z Γ G) {elt tg iter : Expr} {ifs : List Expr} {scope : Scope} {pos : Pos} {own : List Nat} {t : CT} (et : t = cT (S.blk scope) n tg)
    (hb : blkC S.N S.sc scope (namesOf S.N own) = true) (ho : (namesOf S.N own).map (·.2) = own) (hs : subT own t = true) (hl : ifs.length ≤ 1) (hp : plainE iter = true) :
    PE X (.ListComp elt [⟨tg, iter, ifs, 0⟩] scope pos) (tE X.K Z Γ G (.comp own (cE n (S.blk scope) elt) t (cIt S (cE n S) tg iter).1 (cIt S (cE n S) tg iter).2 (ifs.map (cE n (S.blk scope))))) := by
  have ok : BlkOk X.N X.env.scope scope (namesOf S.N own) := by rw [g.hN, g.sc]; exact blkOk_by hb
  have gb := fun s H C cl fp => g.blk s H scope C cl fp ok.kind
  exact PE.weak (pe_lc g.calm g.nd (sI Γm h g tg iter) ok (g := tG X.K Z t) (tt := tIfs X.K Z Γ G (ifs.map (cE n (S.blk scope)))) (te := tE X.K Z Γ G (cE n (S.blk scope) elt)) (fun s H C cl fp => by rw [et]; exact sG (gb s H C cl fp) n tg) (fun s H C cl fp => s_ifs Γm h (gb s H C cl fp) hl) (fun s H C cl fp => h.e _ _ (gb s H C cl fp) elt) (plain_fold hp)) fun σ H Q w => lc_read Γm h g ho hs w
/-- name = [..] on its own line -/
theorem s_setcomp (h : Snd Z Γ G n) (g : Good X S Z Γ G) {i : Nat} {y : Str} {py spos : Pos} {elt tg iter : Expr} {ifs : List Expr} {scope : Scope} {pos : Pos} {own : List Nat} {t : CT} (hy : S.N[i]? = some y) (hyl : S.sc.names.lookup y = some .local)
    (hsw : swapsWith (.ListComp elt [⟨tg, iter, ifs, 0⟩] scope pos) (some (.Name y py)) spos.line X.env = pure true) (et : t = cT (S.blk scope) n tg)
    (hb : blkC S.N S.sc scope (namesOf S.N own) = true) (ho : (namesOf S.N own).map (·.2) = own) (hs : subT own t = true) (hl : ifs.length ≤ 1) (hp : plainE iter = true) :
    PS X (.Assign [.Name y py] (.ListComp elt [⟨tg, iter, ifs, 0⟩] scope pos) spos) (tAsg (tE X.K Z Γ G (.comp own (cE n (S.blk scope) elt) t (cIt S (cE n S) tg iter).1 (cIt S (cE n S) tg iter).2 (ifs.map (cE n (S.blk scope))))) (gName i)) := by
  have ok : BlkOk X.N X.env.scope scope (namesOf S.N own) := by rw [g.hN, g.sc]; exact blkOk_by hb
  have gb := fun s H C cl fp => g.blk s H scope C cl fp ok.kind
  exact PS.weak (ps_setLc (i := i) g.calm g.nd (by rw [g.hN]; exact hy) (by rw [g.sc]; exact hyl) hsw (sI Γm h g tg iter) ok (g := tG X.K Z t) (tt := tIfs X.K Z Γ G (ifs.map (cE n (S.blk scope)))) (te := tE X.K Z Γ G (cE n (S.blk scope) elt)) (fun s H C cl fp => by rw [et]; exact sG (gb s H C cl fp) n tg) (fun s H C cl fp => s_ifs Γm h (gb s H C cl fp) hl) (fun s H C cl fp => h.e _ _ (gb s H C cl fp) elt) (plain_fold hp)) fun D σ H w => lc_read Γm h g ho hs w
theorem it_plain {f : Expr → CE} {tg iter : Expr} (h : plainE iter ≠ true) : cIt S f tg iter = (.seq, [.bad]) := by
  cases iter <;> first
    | rfl
    | exact absurd rfl h
theorem snd_zero : Snd Z Γ G 0 := ⟨fun X S g e => by rw [cE]; exact s_bad e, fun X S g e => by rw [cE]; exact st_bad e fun ρ Q w => by simp [wpT] at w⟩
theorem snd_e (h : Snd Z Γ G n) (X : Cx) (S : SC) (g : Good X S Z Γ G) (e : Expr) : PE X e (tE X.K Z Γ G (cE (n + 1) S e)) := by
  generalize hc : cE (n + 1) S e = c
  unfold cE at hc
  split at hc
  · rename_i x pos
    have hc' : cE (n + 1) S (.Name x pos) = c := by unfold cE; exact hc
    split at hc
    · rename_i hx
      split at hc
      · rename_i i hi
        split at hc
        · subst hc; exact s_bad _
        · rename_i hd
          subst hc
          obtain ⟨v, u, h1, h2, h3⟩ := g.gl i x (ixOf_get hi)
          refine PE.weak (pe_glob (gl_of Γm g hx) h1 h2 (ne_beq hd)) fun σ H Q ⟨ρ, W, a, w⟩ => ?_
          rw [wpE] at w
          exact w v W H a.refl (h3 W)
      · subst hc; exact s_bad _
    · subst hc; exact s_bad _
    · split at hc
      · split at hc
        · subst hc; exact s_bad _
        · subst hc; exact s_name Γm g x pos hc'
      · subst hc; exact s_bad _
    · subst hc; exact s_bad _
  · subst hc; exact s_cst pe_int fun W => .int _
  · subst hc; exact s_cst pe_bl fun W => .bl _
  · subst hc; exact s_cst pe_non fun W => .non
  · subst hc; exact s_cst pe_str fun W => .str _
  · split at hc
    · rename_i o ho
      subst hc; exact s_bin Γm h g ho
    · subst hc; exact s_bad _
  · subst hc; exact s_neg Γm h g
  · subst hc; exact s_not Γm h g
  · subst hc; exact PE.weak (pe_and (h.e X S g _) (s_ands Γm h g _ _)) fun σ H Q w => and_step Γm w
  · subst hc; exact PE.weak (pe_or (h.e X S g _) (s_ors Γm h g _ _)) fun σ H Q w => or_step Γm w
  · subst hc; exact s_ife Γm h g
  · split at hc
    · rename_i hp; subst hc; exact s_cmp Γm h g hp
    · subst hc; exact s_bad _
  · split at hc
    · rename_i hp; subst hc; exact s_chain Γm h g hp
    · subst hc; exact s_bad _
  · split at hc
    · rename_i hp; subst hc; exact s_tup Γm h g hp
    · subst hc; exact s_bad _
  · split at hc
    · rename_i hp; subst hc; exact s_lst Γm h g hp
    · subst hc; exact s_bad _
  · subst hc; exact s_sl Γm h g
  · split at hc
    · rename_i hp; subst hc; exact s_idx Γm h g hp
    · subst hc; exact s_bad _
  · split at hc
    · rename_i hh
      obtain ⟨hp, hx, hd⟩ := hh
      split at hc
      · rename_i j hj
        subst hc; exact s_call Γm h g hp hx hd (lastIx_get hj)
      · split at hc
        · rename_i hg
          obtain ⟨rfl, hg⟩ := hg
          subst hc; exact s_gcd Γm h g hp hx hg
        · split at hc
          · rename_i p hpk
            split at hc
            · rename_i hb
              subst hc; exact s_prim Γm h g hp hx hd hpk hb
            · subst hc; exact s_bad _
          · split at hc
            · rename_i t ht
              subst hc; exact s_isi Γm h g hp hx hd ht
            · subst hc; exact s_bad _
    · subst hc; exact s_bad _
  · split at hc
    · rename_i j hj
      split at hc
      · rename_i hp
        subst hc; exact s_maxK Γm h g hp hj
      · subst hc; exact s_bad _
    · subst hc; exact s_bad _
  · rename_i elt tg iter ifs scope pos
    dsimp only at hc
    split at hc
    · rename_i hh
      obtain ⟨h1, h2, h3, h4⟩ := hh
      subst hc
      by_cases hp : plainE iter = true
      · exact s_comp Γm h g rfl h1 h2 h3 h4 hp
      · refine PE.weak PE.no fun σ H Q ⟨ρ, W, a, w⟩ => ?_
        rw [wpE, it_plain Γm hp] at w
        dsimp only at w
        rw [wpEs, wpE] at w
        exact w
    · subst hc; exact s_bad _
  · subst hc; exact s_bad _
theorem snd_t (h : Snd Z Γ G n) (X : Cx) (S : SC) (g : Good X S Z Γ G) (e : Expr) : PT X e (tTs X.K Z Γ G (cE (n + 1) S e)) := by
  have he := snd_e Γm h X S g e
  generalize hc : cE (n + 1) S e = c at he
  have hvar : ∀ i, c = .var i → PT X e (tTs X.K Z Γ G c) := fun i hi => by
    subst hi
    obtain ⟨x, pos, rfl, h1, h2, h3, h4⟩ := cE_var Γm hc
    have hp : PE X (.Name x pos) (tP X.K Z Γ G (.var i)) := PE.weak (pe_var (i := i) (by rw [g.hN]; exact h1) (by rw [g.sc]; exact h2) (ne_beq h3) (ne_beq h4)) fun σ H Q w => by
      obtain ⟨ρ, W, a, d, e, q⟩ := w
      obtain ⟨v, e1, e2⟩ := a.data e
      exact ⟨v, e1, q v W H a.refl e2⟩
    refine PT.weak (pt_truth hp (fun _ => rfl)) fun σ H Q ⟨ρ, W, a, w⟩ => ?_
    rw [wpT] at w
    obtain ⟨d, e, k, ek, q⟩ := w
    exact ⟨ρ, W, a, d, e, fun v W' H' g' pr => ⟨k, PR.truth g'.sub pr ek, q W' H' g'⟩⟩
  have bad : (∀ ρ Q, wpT Γ G c ρ Q → False) → PT X e (tTs X.K Z Γ G c) := fun hb => st_bad e hb
  unfold cE at hc
  split at hc
  · rename_i x pos
    split at hc
    · split at hc
      · split at hc <;> (subst hc; exact bad fun ρ Q w => by simp [wpT] at w)
      · subst hc; exact bad fun ρ Q w => by simp [wpT] at w
    · subst hc; exact bad fun ρ Q w => by simp [wpT] at w
    · split at hc
      · split at hc
        · subst hc; exact bad fun ρ Q w => by simp [wpT] at w
        · subst hc; exact hvar _ rfl
      · subst hc; exact bad fun ρ Q w => by simp [wpT] at w
    · subst hc; exact bad fun ρ Q w => by simp [wpT] at w
  · subst hc; exact pt_of Γm he (fun _ => rfl) (fun ρ Q w => by rw [wpT] at w; rw [wpE]; exact w)
  · subst hc; exact pt_of Γm he (fun _ => rfl) (fun ρ Q w => by rw [wpT] at w; rw [wpE]; exact w)
  · subst hc; exact pt_of Γm he (fun _ => rfl) (fun ρ Q w => by rw [wpT] at w; rw [wpE]; exact w)
  · subst hc; exact pt_of Γm he (fun _ => rfl) (fun ρ Q w => by rw [wpT] at w; rw [wpE]; exact w)
  · split at hc
    · subst hc; exact pt_of Γm he (fun _ => rfl) (fun ρ Q w => by rw [wpT] at w; rw [wpE]; exact w)
    · subst hc; exact bad fun ρ Q w => by simp [wpT] at w
  · subst hc; exact bad fun ρ Q w => by simp [wpT] at w
  · subst hc; exact st_not Γm h g
  · subst hc; exact PW.pt (PW.weak (pw_and (h.t X S g _) (st_ands Γm h g _ _)) fun σ H Q w => andT_step Γm w)
  · subst hc; exact PW.pt (PW.weak (pw_or (h.t X S g _) (st_ors Γm h g _ _)) fun σ H Q w => orT_step Γm w)
  · subst hc; exact bad fun ρ Q w => by simp [wpT] at w
  · split at hc
    · rename_i hp; subst hc; exact st_cmp Γm h g hp
    · subst hc; exact bad fun ρ Q w => by simp [wpT] at w
  · split at hc
    · rename_i hp; subst hc; exact st_chain Γm h g hp
    · subst hc; exact bad fun ρ Q w => by simp [wpT] at w
  · split at hc <;> (subst hc; exact bad fun ρ Q w => by simp [wpT] at w)
  · split at hc <;> (subst hc; exact bad fun ρ Q w => by simp [wpT] at w)
  · subst hc; exact bad fun ρ Q w => by simp [wpT] at w
  · split at hc
    · subst hc; exact pt_of Γm he (fun _ => rfl) (fun ρ Q w => by rw [wpT] at w; rw [wpE]; exact w)
    · subst hc; exact bad fun ρ Q w => by simp [wpT] at w
  · split at hc
    · split at hc
      · subst hc; exact pt_of Γm he (fun _ => rfl) (fun ρ Q w => by rw [wpT] at w; rw [wpE]; exact w)
      · split at hc
        · subst hc; exact pt_of Γm he (fun _ => rfl) (fun ρ Q w => by rw [wpT] at w; rw [wpE]; exact w)
        · split at hc
          · split at hc
            · subst hc; exact pt_of Γm he (fun _ => rfl) (fun ρ Q w => by rw [wpT] at w; rw [wpE]; exact w)
            · subst hc; exact bad fun ρ Q w => by simp [wpT] at w
          · split at hc
            · subst hc; exact pt_of Γm he (fun _ => rfl) (fun ρ Q w => by rw [wpT] at w; rw [wpE]; exact w)
            · subst hc; exact bad fun ρ Q w => by simp [wpT] at w
    · subst hc; exact bad fun ρ Q w => by simp [wpT] at w
  · split at hc
    · split at hc
      · subst hc; exact bad fun ρ Q w => by simp [wpT] at w
      · subst hc; exact bad fun ρ Q w => by simp [wpT] at w
    · subst hc; exact bad fun ρ Q w => by simp [wpT] at w
  · dsimp only at hc
    split at hc <;> (subst hc; exact bad fun ρ Q w => by simp [wpT] at w)
  · subst hc; exact bad fun ρ Q w => by simp [wpT] at w
/-- every expression, every test is read rightly -/
theorem snd_all : ∀ n, Snd Z Γ G n
  | 0 => snd_zero Γm
  | n + 1 => ⟨fun X S g e => snd_e Γm (snd_all n) X S g e, fun X S g e => snd_t Γm (snd_all n) X S g e⟩
end
end Gx
set_option maxHeartbeats 4000000
/-! Gx, part L: statements: the translation; wishes widened. -/
namespace Gx
open PySem PySem.Spec PyProof.Rows L2
/-- a, b = x, y: which names are stored from the right -/
def swP (sc : Scope) (ts vs : List Expr) : Option (Option (List Str)) :=
  if !(ts.length == 2 || ts.length == 3) || vs.length != ts.length then some none
  else if vs.any (fun | .Starred .. => true | _ => false) then some none
  else
    let line := (ts.head?.map (·.pos.line)).getD 0
    let names := ts.filterMap fun
      | .Name id pos => if sc.names.lookup id == some .local && pos.line == line then some id else none
      | _ => none
    if names.length != ts.length || names.eraseDups.length != names.length then some none
    else if vs.all (foldedForSure 8) then some none
    else if vs.all (constantsAlone 8) then none
    else some (some names)
theorem swP_ok {sc : Scope} {env : Env} (hk : env.scope.kind = .function) (hs : env.scope = sc) {ts vs : List Expr} {k k2 : Nat} {p p2 : Pos} {r : Option (List Str)} (h : swP sc ts vs = some r) :
    swappedStores [.Tuple ts k p] (.Tuple vs k2 p2) env = pure r := by
  subst hs
  have hb : env.blockKind = .function := by unfold Env.blockKind; rw [hk]; rfl
  have he : (env.blockKind != .function) = false := by rw [hb]; rfl
  unfold swP at h
  unfold swappedStores
  dsimp only at h ⊢
  split at h
  · rename_i c
    cases h
    refine if_pos ?_
    rw [Bool.or_eq_true]; exact .inl c
  · rename_i c
    refine (if_neg ?_).trans ?_
    · rw [Bool.or_eq_true]; rintro (z | z)
      · exact c z
      · rw [he] at z; cases z
    · split at h
      · rename_i c; cases h; exact if_pos c
      · rename_i c
        refine (if_neg c).trans ?_
        split at h
        · rename_i c; cases h; exact if_pos c
        · rename_i c
          refine (if_neg c).trans ?_
          split at h
          · rename_i c; cases h; exact if_pos c
          · rename_i c
            refine (if_neg c).trans ?_
            split at h
            · cases h
            · rename_i c; cases h; exact (if_neg c).trans rfl
/-- a written tuple stored to a tuple of targets -/
def cTT (n : Nat) (S : SC) (ts vs : List Expr) (k k2 : Nat) (p p2 : Pos) : CS := match swP S.sc ts vs with
  | some none => .asg (cT S n (.Tuple ts k p)) (cE n S (.Tuple vs k2 p2))
  | some (some names) => match ts, vs with
    | [.Name x _, .Name y _], [a, b] => match ixOf x S.N, ixOf y S.N with
      | some i, some j => if names = [x, y] ∧ S.sc.names.lookup x = some .local ∧ S.sc.names.lookup y = some .local ∧ i ≠ j ∧ [a, b].all plainE = true then .asg (.tup ([i, j].map .var)) (.tup ([a, b].map (cE n S))) else .bad
      | _, _ => .bad
    | [.Name x _, .Name y _, .Name z _], [a, b, c] => match ixOf x S.N, ixOf y S.N, ixOf z S.N with
      | some i, some j, some l => if names = [x, y, z] ∧ S.sc.names.lookup x = some .local ∧ S.sc.names.lookup y = some .local ∧ S.sc.names.lookup z = some .local ∧ (i ≠ j ∧ i ≠ l ∧ j ≠ l) ∧ [a, b, c].all plainE = true then .asg (.tup ([i, j, l].map .var)) (.tup ([a, b, c].map (cE n S))) else .bad
      | _, _, _ => .bad
    | _, _ => .bad
  | none => .bad
/-- a name's place -/
def nameIx (S : SC) (x : Str) : Option Nat := match S.sc.names.lookup x with
  | some .globalImplicit => none
  | some .globalExplicit => none
  | some _ => if x = "__debug__" ∨ x = "__classdict__" then none else ixOf x S.N
  | none => none
def cS : Nat → SC → Stmt → CS
  | 0, _, _ => .bad
  | n + 1, S, st => match st with
    | .Assign [.Name x px] (.Call (.Attribute (.Name y py) m ap) [] [] cp) _ =>
      match nameIx S y, ixOf x S.N with
      | some i, some t => if m = "pop" ∧ isLoc S x ∧ ap.endLine == cp.line then .pop t i else .bad
      | _, _ => .bad
    | .Assign [.Name x _] e _ => match ixOf x S.N with
      | some i => if isLoc S x then .asg (.var i) (cE n S e) else .bad
      | none => .bad
    | .Assign [.Tuple ts k p] (.Tuple vs k2 p2) _ => cTT n S ts vs k k2 p p2
    | .Assign [.Tuple ts k p] e _ => if plainE e ∧ isTup e = false then .asg (cT S n (.Tuple ts k p)) (cE n S e) else .bad
    | .Assign [.Subscript (.Name x _) i _] e _ => match nameIx S x with
      | some j => if plainE i then .seti j (cE n S i) (cE n S e) else .bad
      | none => .bad
    | .AugAssign (.Name x _) op e _ => match nameIx S x with
      | some i => if isLoc S x then (match op with
        | .Add => .aug i .add (cE n S e)
        | .Sub => .aug i .sub (cE n S e)
        | _ => .bad) else .bad
      | none => .bad
    | .Expr (.Call (.Attribute (.Name x _) m ap) [.Call (.Attribute (.Name y _) m2 ap2) [e] [] cp2] [] cp) _ => match nameIx S x, nameIx S y with
      | some i, some j => if m = "append" ∧ m2 = "pop" ∧ plainE e ∧ ap.endLine == cp.line ∧ ap2.endLine == cp2.line then .appPop i j (cE n S e) else .bad
      | _, _ => .bad
    | .Expr (.Call (.Attribute (.Name x _) m ap) [e] [] cp) _ => match nameIx S x with
      | some i => if plainE e ∧ ap.endLine == cp.line then (if m = "append" then .app i (cE n S e) else if m = "extend" then .ext i (cE n S e) else .bad) else .bad
      | none => .bad
    | .Expr (.Call (.Attribute (.Name x _) m ap) [] [] cp) _ => match nameIx S x with
      | some i => if m = "pop" ∧ ap.endLine == cp.line then .drop i else .bad
      | none => .bad
    | .Return (some e) _ => .ret (cE n S e)
    | .Return none _ => .retN
    | .If c a b _ => .ife (cE n S c) (a.map (cS n S)) (b.map (cS n S))
    | .For tg iter b [] _ => if plainE iter then .fr (cT S n tg) (cIt S (cE n S) tg iter).1 (cIt S (cE n S) tg iter).2 (b.map (cS n S)) else .bad
    | .While c b [] _ => .whl (cE n S c) (b.map (cS n S))
    | .Break _ => .brk
    | .Continue _ => .cont
    | .Pass _ => .pass
    | _ => .bad
/-! ### wishes widened -/
structure FinLe (k k' : Fin) : Prop where
  nx : ∀ ρ, k.nx ρ → k'.nx ρ
  rt : ∀ r, k.rt r → k'.rt r
  bk : ∀ ρ, k.bk ρ → k'.bk ρ
  ct : ∀ ρ, k.ct ρ → k'.ct ρ
section
variable {Γ : Nat → Con} {G : Nat → D} (Γm : ConMono Γ)
theorem stD_mono {t : CT} {v : Val} {ρ : Ev} {Q Q' : Ev → Prop} (h : ∀ r, Q r → Q' r) (w : stD t v ρ Q) : stD t v ρ Q' := by
  cases t with
  | var i => exact h _ w
  | tup ts => exact tgD_mono _ _ _ _ _ h w
  | bad => exact tgD_mono _ _ _ _ _ h w
theorem augD_mono {o : BO} {x y : D} {Q Q' : D → Prop} (h : ∀ r, Q r → Q' r) (w : augD o x y Q) : augD o x y Q' := by
  unfold augD at w ⊢
  split at w <;> first
    | exact h _ w
    | exact w.elim
include Γm
mutual
theorem wpS_mono : (c : CS) → ∀ (k k' : Fin) (ρ : Ev), FinLe k k' → wpS Γ G c k ρ → wpS Γ G c k' ρ
  | .asg t e, k, k', ρ, h, w => by rw [wpS] at w ⊢; exact wpE_mono Γm _ _ _ _ (fun r => stD_mono h.nx) w
  | .ext i e, k, k', ρ, h, w => by
    rw [wpS] at w ⊢
    obtain ⟨ds, o, w⟩ := w
    exact ⟨ds, o, wpE_mono Γm _ _ _ _ (fun r ⟨es, b, c, d⟩ => ⟨es, b, c, h.nx _ d⟩) w⟩
  | .pop t i, k, k', ρ, h, w => by
    rw [wpS] at w ⊢
    obtain ⟨ds, y, a, b, c⟩ := w
    exact ⟨ds, y, a, b, h.nx _ c⟩
  | .appPop i j e, k, k', ρ, h, w => by
    rw [wpS] at w ⊢
    obtain ⟨hij, ds, es, o1, o2, w⟩ := w
    exact ⟨hij, ds, es, o1, o2, wpE_mono Γm _ _ _ _ (fun r => intD_mono fun n ⟨m, y, c, d, e, f, g⟩ => ⟨m, y, c, d, e, f, h.nx _ g⟩) w⟩
  | .seti i x e, k, k', ρ, h, w => by
    rw [wpS] at w ⊢
    obtain ⟨ds, o, w⟩ := w
    exact ⟨ds, o, wpE_mono Γm _ _ _ _ (fun r => wpE_mono Γm _ _ _ _ fun s => intD_mono fun n ⟨m, b, c⟩ => ⟨m, b, h.nx _ c⟩) w⟩
  | .app i e, k, k', ρ, h, w => by
    rw [wpS] at w ⊢
    obtain ⟨ds, o, w⟩ := w
    exact ⟨ds, o, wpE_mono Γm _ _ _ _ (fun r ⟨b, c⟩ => ⟨b, h.nx _ c⟩) w⟩
  | .aug i o e, k, k', ρ, h, w => by
    rw [wpS] at w ⊢
    obtain ⟨x, a, w⟩ := w
    exact ⟨x, a, wpE_mono Γm _ _ _ _ (fun r => augD_mono fun d => h.nx _) w⟩
  | .drop i, k, k', ρ, h, w => by
    rw [wpS] at w ⊢
    obtain ⟨ds, y, a, b, c⟩ := w
    exact ⟨ds, y, a, b, h.nx _ c⟩
  | .ret e, k, k', ρ, h, w => by
    rw [wpS] at w ⊢
    unfold rtD at w ⊢
    split at w
    · obtain ⟨v, e, q⟩ := w; exact ⟨v, e, h.rt _ q⟩
    · exact wpE_mono Γm _ _ _ _ h.rt w
  | .retN, k, k', ρ, h, w => by rw [wpS] at w ⊢; exact h.rt _ w
  | .ife c a b, k, k', ρ, h, w => by
    rw [wpS] at w ⊢
    refine wpT_mono Γm _ _ _ _ (fun x q => ?_) w
    split
    · rename_i e; rw [if_pos e] at q; exact wpB_mono a k k' _ h q
    · rename_i e; rw [if_neg e] at q; exact wpB_mono b k k' _ h q
  | .fr t kd its b, k, k', ρ, h, w => by
    rw [wpS] at w ⊢
    refine wpEs_mono Γm _ _ _ _ (fun xs => itsD_mono fun items ⟨Iv, h0, hs, hd⟩ => ⟨Iv, h0, fun i d ρ1 e v => ?_, fun ρ1 v => h.nx _ (hd ρ1 v)⟩) w
    exact tgD_mono _ _ _ _ _ (fun ρ2 q => wpB_mono b ⟨Iv (i + 1), k.rt, k.nx, Iv (i + 1)⟩ ⟨Iv (i + 1), k'.rt, k'.nx, Iv (i + 1)⟩ _ ⟨fun _ z => z, h.rt, h.nx, fun _ z => z⟩ q) (hs i d ρ1 e v)
  | .whl c b, k, k', ρ, h, w => by
    rw [wpS] at w ⊢
    obtain ⟨Iv, h0, hs⟩ := w
    refine ⟨Iv, h0, fun m ρ1 v => wpT_mono Γm _ _ _ _ (fun x q => ?_) (hs m ρ1 v)⟩
    split
    · rename_i e; rw [if_pos e] at q; exact wpB_mono b ⟨fun ρ2 => ∃ m', m' < m ∧ Iv m' (give ρ2 (bare c)), k.rt, k.nx, fun ρ2 => ∃ m', m' < m ∧ Iv m' (give ρ2 (bare c))⟩ ⟨fun ρ2 => ∃ m', m' < m ∧ Iv m' (give ρ2 (bare c)), k'.rt, k'.nx, fun ρ2 => ∃ m', m' < m ∧ Iv m' (give ρ2 (bare c))⟩ _ ⟨fun _ z => z, h.rt, h.nx, fun _ z => z⟩ q
    · rename_i e; rw [if_neg e] at q; exact h.nx _ q
  | .brk, k, k', ρ, h, w => by rw [wpS] at w ⊢; exact h.bk _ w
  | .cont, k, k', ρ, h, w => by rw [wpS] at w ⊢; exact h.ct _ w
  | .pass, k, k', ρ, h, w => by rw [wpS] at w ⊢; exact h.nx _ w
  | .bad, k, k', ρ, h, w => by rw [wpS] at w; exact w.elim
theorem wpB_mono : (cs : List CS) → ∀ (k k' : Fin) (ρ : Ev), FinLe k k' → wpB Γ G cs k ρ → wpB Γ G cs k' ρ
  | [], k, k', ρ, h, w => by rw [wpB] at w ⊢; exact h.nx _ w
  | c :: cs, k, k', ρ, h, w => by
    rw [wpB] at w ⊢
    exact wpS_mono c ⟨wpB Γ G cs k, k.rt, k.bk, k.ct⟩ ⟨wpB Γ G cs k', k'.rt, k'.bk, k'.ct⟩ _ ⟨fun ρ1 q => wpB_mono cs k k' ρ1 h q, h.rt, h.bk, h.ct⟩ w
end
end
end Gx
set_option maxHeartbeats 4000000
/-! Gx, part M: statements are read rightly: the state, stores. -/
namespace Gx
open PySem PySem.Spec PyProof.Rows L2
def AtS (K : PySem.W.Frag) (Z : Hd) (He W0 : Hp) (ρ : Ev) (σ : L2.St) (W H : Hp) : Prop := ∃ P, EnvR K Z He W0 P ρ σ W H
def finD (K : PySem.W.Frag) (Z : Hd) (He W0 : Hp) (D : Ends) : Fin where
  nx := fun ρ => ∀ σ W H, AtS K Z He W0 ρ σ W H → D.nx σ H
  rt := fun r => ∀ v W H, Go Z W0 He W H → VR K Z He W H v r → D.rt v H
  bk := fun ρ => ∀ σ W H, AtS K Z He W0 ρ σ W H → D.bk σ H
  ct := fun ρ => ∀ σ W H, AtS K Z He W0 ρ σ W H → D.ct σ H
section
variable (K : PySem.W.Frag) (Z : Hd) (Γ : Nat → Con) (G : Nat → D)
def tS (c : CS) : TS := fun D σ H => ∃ He W0 ρ W, AtS K Z He W0 ρ σ W H ∧ wpS Γ G c (finD K Z He W0 D) ρ
def tB (cs : List CS) : TS := fun D σ H => ∃ He W0 ρ W, AtS K Z He W0 ρ σ W H ∧ wpB Γ G cs (finD K Z He W0 D) ρ
end
section
variable {K : PySem.W.Frag} {Z : Hd} {He W0 W H W1 H1 W2 H2 : Hp} {ρ : Ev} {σ : L2.St} {v : V} {d : D} {r : Val} {P : Nat → Addr}
theorem EnvR.entry (E : EnvR K Z He W0 P ρ σ W H) : Go Z W0 He W H := ⟨E.w0, E.old, E.new, E.sub, E.hi, E.wm⟩
theorem AtS.at (a : AtS K Z He W0 ρ σ W H) : At K Z ρ σ W H := by obtain ⟨P, E⟩ := a; exact ⟨He, W0, P, E⟩
theorem AtS.entry (a : AtS K Z He W0 ρ σ W H) : Go Z W0 He W H := by obtain ⟨P, E⟩ := a; exact E.entry
theorem AtS.go (a : AtS K Z He W0 ρ σ W H) (g : Go Z W H W1 H1) : AtS K Z He W0 ρ σ W1 H1 := by obtain ⟨P, E⟩ := a; exact ⟨P, E.go g⟩
/-- a name's list is shared from now on -/
theorem EnvR.give1 (E : EnvR K Z He W0 P ρ σ W H) {i : Nat} {ds : List D} (h : ρ[i]? = some (some (.ow ds))) : ∃ W', EnvR K Z He W0 P (ρ.set i (some (.sh (.lst ds)))) σ W' H ∧ Same W W' := by
  obtain ⟨h1, h2, h3, h4, vs, h5, h6⟩ := E.own i ds h
  have s : Same W (upd W (P i) (.lst vs)) := same_new h2
  refine ⟨upd W (P i) (.lst vs), ⟨by rw [List.length_set]; exact E.len, fun a o q => ?_, E.w0.trans s, fun a q => ?_, E.old, E.hi, fun a m => ?_, fun j e q => ?_, fun j es q => ?_, fun j k es fs q1 q2 => ?_⟩, s⟩
  · by_cases e : a = P i
    · subst e; rw [upd_same] at q; rw [h5]; exact q
    · rw [upd_ne e] at q; exact E.sub a o q
  · by_cases e : a = P i
    · subst e; exact .inr h3
    · rw [upd_ne e] at q; exact E.new a q
  · have : a ≠ P i := fun e => h4 (e ▸ m)
    rw [upd_ne this]; exact E.wm a m
  · rcases set_some q with ⟨rfl, e, hl⟩ | ⟨ne, q⟩
    · cases e
      exact ⟨_, h1, .lst upd_same (RpA.mono s _ _ h6)⟩
    · obtain ⟨u, k1, k2⟩ := E.slot j e q
      exact ⟨u, k1, k2.mono s⟩
  · rcases set_some q with ⟨rfl, e, hl⟩ | ⟨ne, q⟩
    · cases e
    · obtain ⟨k1, k2, k3, k4, ws, k5, k6⟩ := E.own j es q
      have : P j ≠ P i := fun e => ne (E.inj _ _ _ _ q h e).symm
      exact ⟨k1, by rw [upd_ne this]; exact k2, k3, k4, ws, k5, RpA.mono s _ _ k6⟩
  · rcases set_some q1 with ⟨_, e, _⟩ | ⟨_, q1⟩
    · cases e
    · rcases set_some q2 with ⟨_, e, _⟩ | ⟨_, q2⟩
      · cases e
      · exact E.inj j k es fs q1 q2
theorem set_id {α : Type} {l : List α} {i : Nat} {a : α} (h : l[i]? = some a) : l.set i a = l := by
  refine List.ext_getElem? fun j => ?_
  by_cases e : i = j
  · subst e
    obtain ⟨hl, _⟩ := List.getElem?_eq_some_iff.mp h
    rw [List.getElem?_set_self hl, h]
  · rw [List.getElem?_set_ne e]
theorem AtS.give (a : AtS K Z He W0 ρ σ W H) : ∀ is : List Nat, ∃ W', AtS K Z He W0 (give ρ is) σ W' H ∧ Same W W'
  | [] => ⟨W, a, fun _ _ h => h⟩
  | i :: is => by
    obtain ⟨W1, ⟨P, E⟩, s1⟩ := AtS.give a is
    unfold Gx.give
    split
    · rename_i w q
      cases w with
      | sh d => exact ⟨W1, ⟨P, by rw [show giveV (.sh d) = .sh d from rfl, set_id q]; exact E⟩, s1⟩
      | ow ds =>
        obtain ⟨W2, E2, s2⟩ := E.give1 q
        exact ⟨W2, ⟨P, E2⟩, s1.trans s2⟩
    · exact ⟨W1, ⟨P, E⟩, s1⟩
theorem AtS.set (a : AtS K Z He W0 ρ σ W H) (i : Nat) (r : Rp K Z W v d) : AtS K Z He W0 (ρ.set i (some (.sh d))) (σ.set i (some v)) W H := by
  obtain ⟨P, E⟩ := a
  refine ⟨P, by rw [List.length_set, List.length_set]; exact E.len, E.sub, E.w0, E.new, E.old, E.hi, E.wm, fun j e h => ?_, fun j ds h => ?_, fun j k ds es h1 h2 => ?_⟩
  · rcases set_some h with ⟨rfl, e, hl⟩ | ⟨ne, h⟩
    · cases e
      exact ⟨v, List.getElem?_set_self (by rw [← E.len]; exact hl), r⟩
    · obtain ⟨u, h1, h2⟩ := E.slot j e h
      exact ⟨u, by rw [List.getElem?_set_ne ne]; exact h1, h2⟩
  · rcases set_some h with ⟨rfl, e, hl⟩ | ⟨ne, h⟩
    · cases e
    · obtain ⟨h1, h2⟩ := E.own j ds h
      exact ⟨by rw [List.getElem?_set_ne ne]; exact h1, h2⟩
  · rcases set_some h1 with ⟨_, e, _⟩ | ⟨_, h1⟩
    · cases e
    · rcases set_some h2 with ⟨_, e, _⟩ | ⟨_, h2⟩
      · cases e
      · exact E.inj j k ds es h1 h2
/-- an expression's value stored at a name -/
theorem AtS.setV (a : AtS K Z He W0 ρ σ W H) (i : Nat) (g : Go Z W H W1 H1) (h : VR K Z H W1 H1 v r) : AtS K Z He W0 (ρ.set i (some r)) (σ.set i (some v)) W1 H1 := by
  cases r with
  | sh d => exact (a.go g).set i h
  | ow ds =>
    obtain ⟨p, vs, rfl, hp, hw, hm, h1, h2⟩ := h
    obtain ⟨P, E⟩ := a
    have hne : ∀ j es, ρ[j]? = some (some (Val.ow es)) → P j ≠ p := fun j es q z => by
      obtain ⟨_, _, _, _, ws, k5, _⟩ := E.own j es q
      rw [z, hp] at k5; cases k5
    have hHe : He p = none := by
      cases q : He p with
      | none => rfl
      | some o => rw [E.old p o q hm] at hp; cases hp
    have E1 := E.go g
    refine ⟨fun j => if j = i then p else P j, by rw [List.length_set, List.length_set]; exact E1.len, E1.sub, E1.w0, E1.new, E1.old, E1.hi, E1.wm, fun j e q => ?_, fun j es q => ?_, fun j k es fs q1 q2 => ?_⟩
    · rcases set_some q with ⟨rfl, e, hl⟩ | ⟨ne, q⟩
      · cases e
      · obtain ⟨u, k1, k2⟩ := E1.slot j e q
        exact ⟨u, by rw [List.getElem?_set_ne ne]; exact k1, k2⟩
    · rcases set_some q with ⟨rfl, e, hl⟩ | ⟨ne, q⟩
      · cases e
        rw [if_pos rfl]
        exact ⟨List.getElem?_set_self (by rw [← E.len]; exact hl), hw, hHe, hm, vs, h1, h2⟩
      · rw [if_neg (Ne.symm ne), List.getElem?_set_ne ne]
        exact E1.own j es q
    · rcases set_some q1 with ⟨e1, _, _⟩ | ⟨n1, q1⟩
      · rcases set_some q2 with ⟨e2, _, _⟩ | ⟨n2, q2⟩
        · intro _; rw [← e1, ← e2]
        · rw [if_pos e1.symm, if_neg (Ne.symm n2)]
          intro z; exact absurd z.symm (hne k fs q2)
      · rcases set_some q2 with ⟨e2, _, _⟩ | ⟨n2, q2⟩
        · rw [if_neg (Ne.symm n1), if_pos e2.symm]
          intro z; exact absurd z (hne j es q1)
        · rw [if_neg (Ne.symm n1), if_neg (Ne.symm n2)]
          exact E1.inj j k es fs q1 q2
/-- a name's own list is written -/
theorem AtS.write (a : AtS K Z He W0 ρ σ W H) {i : Nat} {ds : List D} (h : ρ.own i = some ds) : ∃ p vs, σ[i]? = some (some (.ref p)) ∧ H p = some (.lst vs) ∧ RpA K Z W vs ds ∧
    ∀ vs' ds', RpA K Z W vs' ds' → AtS K Z He W0 (ρ.set i (some (.ow ds'))) σ W (upd H p (.lst vs')) := by
  obtain ⟨P, E⟩ := a
  have h : ρ[i]? = some (some (Val.ow ds)) := by
    unfold Ev.own at h
    split at h
    · rename_i q; cases h; exact q
    · cases h
  obtain ⟨h1, h2, h3, h4, vs, h5, h6⟩ := E.own i ds h
  refine ⟨P i, vs, h1, h5, h6, fun vs' ds' r => ⟨P, by rw [List.length_set]; exact E.len, fun a o q => ?_, E.w0, E.new, fun a o q m => ?_, Z.stay _ _ _ E.hi h4, E.wm, fun j e q => ?_, fun j es q => ?_, fun j k es fs q1 q2 => ?_⟩⟩
  · rw [upd_ne (ne_of_none q h2)]; exact E.sub a o q
  · rw [upd_ne (ne_of_none q h3)]; exact E.old a o q m
  · rcases set_some q with ⟨rfl, e, hl⟩ | ⟨ne, q⟩
    · cases e
    · exact E.slot j e q
  · rcases set_some q with ⟨rfl, e, hl⟩ | ⟨ne, q⟩
    · cases e
      exact ⟨h1, h2, h3, h4, vs', upd_same, r⟩
    · obtain ⟨k1, k2, k3, k4, ws, k5, k6⟩ := E.own j es q
      have : P j ≠ P i := fun e => ne (E.inj _ _ _ _ q h e).symm
      exact ⟨k1, k2, k3, k4, ws, by rw [upd_ne this]; exact k5, k6⟩
  · have key : ∀ j es, (ρ.set i (some (Val.ow ds')))[j]? = some (some (Val.ow es)) → ∃ es, ρ[j]? = some (some (Val.ow es)) := fun j es q => by
      rcases set_some q with ⟨rfl, e, hl⟩ | ⟨ne, q⟩
      · exact ⟨ds, h⟩
      · exact ⟨es, q⟩
    obtain ⟨_, z1⟩ := key j es q1
    obtain ⟨_, z2⟩ := key k fs q2
    exact E.inj j k _ _ z1 z2
/-- a base that lies further on -/
theorem AtS.base (a : AtS K Z He W0 ρ σ W H) : AtS K Z He W ρ σ W H := by
  obtain ⟨P, E⟩ := a
  exact ⟨P, E.len, E.sub, fun _ _ h => h, fun a h => .inl h, E.old, E.hi, E.wm, E.slot, E.own, E.inj⟩
theorem Go.rebase (g0 : Go Z W0 He W1 H1) (g : Go Z W1 He W H) : Go Z W0 He W H := by
  refine ⟨g0.w.trans g.w, g.h, fun a h => ?_, g.sub, g.hi, g.wm⟩
  rcases g.nw a h with z | z
  · exact g0.nw a z
  · exact .inr z
theorem AtS.rebase (g0 : Go Z W0 He W1 H1) (a : AtS K Z He W1 ρ σ W H) : AtS K Z He W0 ρ σ W H := by
  obtain ⟨P, E⟩ := a
  have g := Go.rebase g0 E.entry
  exact ⟨P, E.len, E.sub, g.w, g.nw, E.old, E.hi, E.wm, E.slot, E.own, E.inj⟩
theorem finD_rebase {D : Ends} (g0 : Go Z W0 He W1 H1) : FinLe (finD K Z He W0 D) (finD K Z He W1 D) :=
  ⟨fun ρ h σ W H a => h σ W H (AtS.rebase g0 a), fun r h v W H g vr => h v W H (Go.rebase g0 g) vr, fun ρ h σ W H a => h σ W H (AtS.rebase g0 a), fun ρ h σ W H a => h σ W H (AtS.rebase g0 a)⟩
end
/-! ### syntax -/
def isComp : Expr → Bool
  | .ListComp _ _ _ _ => true
  | .SetComp _ _ _ _ => true
  | .DictComp _ _ _ _ _ => true
  | _ => false
theorem sw_false {e : Expr} {t : Option Expr} {l : Nat} {env : Env} (h : isComp e = false) : swapsWith e t l env = pure false := by
  cases e <;> first
    | rfl
    | cases h
theorem sw_tup {e : Expr} {es : List Expr} {k : Nat} {p : Pos} {l : Nat} {env : Env} : swapsWith e (some (.Tuple es k p)) l env = pure false := by
  cases e <;> rfl
theorem sw_sub {e o i : Expr} {p : Pos} {l : Nat} {env : Env} : swapsWith e (some (.Subscript o i p)) l env = pure false := by
  cases e <;> rfl
theorem st_tup {ts : List Expr} {e : Expr} {k : Nat} {p : Pos} {env : Env} (h : isTup e = false) : swappedStores [.Tuple ts k p] e env = pure none := by
  cases e <;> first
    | rfl
    | cases h
theorem st_sub {o i e : Expr} {p : Pos} {env : Env} : swappedStores [.Subscript o i p] e env = pure none := by
  cases e <;> rfl
end Gx
set_option maxHeartbeats 4000000
/-! Gx, part N: every statement is read rightly. -/
namespace Gx
open PySem PySem.Spec PyProof.Rows L2
section
variable {Z : Hd} {Γ : Nat → Con} {G : Nat → D} (Γm : ConMono Γ) {X : Cx} {S : SC} {n : Nat}
include Γm
omit Γm in
theorem nameIx_ok {x : Str} {i : Nat} (h : nameIx S x = some i) : S.N[i]? = some x ∧ Vis S.sc x ∧ x ≠ "__debug__" ∧ x ≠ "__classdict__" := by
  unfold nameIx at h
  split at h
  · cases h
  · cases h
  · rename_i kk hn1 hn2 hk
    split at h
    · cases h
    · rename_i hne
      refine ⟨ixOf_get h, ?_, fun z => hne (.inl z), fun z => hne (.inr z)⟩
      cases kk with
      | «local» => exact .inl hk
      | cell => exact .inr (.inl hk)
      | free => exact .inr (.inr hk)
      | globalExplicit => exact absurd rfl hn2
      | globalImplicit => exact absurd rfl hn1
  · cases h
omit Γm in
theorem pe_nm (g : Good X S Z Γ G) {x : Str} {i : Nat} {pos : Pos} (h : nameIx S x = some i) : PE X (.Name x pos) (tVar i) := by
  obtain ⟨h1, h2, h3, h4⟩ := nameIx_ok h
  exact pe_var (i := i) (by rw [g.hN]; exact h1) (by rw [g.sc]; exact h2) (ne_beq h3) (ne_beq h4)
omit Γm in
theorem ps_bad {st : Stmt} : PS X st (tS X.K Z Γ G .bad) := PS.weak PS.no fun D σ H ⟨He, W0, ρ, W, a, w⟩ => by rw [wpS] at w; exact w
omit Γm in
theorem tyL {K : PySem.W.Frag} {p : Addr} {vs : List V} {H : Hp} (h : H p = some (.lst vs)) : tyV K "list" (.ref p) H := .inl ⟨rfl, _, SqL.of h⟩
omit Γm in
theorem sw_no {elt : Expr} {gs : List Comprehension} {scope : Scope} {pos py : Pos} {y : Str} {l : Nat} {env : Env} (h : ¬ (env.scope.names.lookup y = some .local ∧ (py.line == pos.line) = true ∧ (scope.names.any fun (n, k) => n == y && (k == .local || k == .cell)) = false)) :
    swapsWith (.ListComp elt gs scope pos) (some (.Name y py)) l env = pure false := by
  unfold swapsWith
  show (pure (env.blockKind == .function && env.kindOf y == some .local && py.line == pos.line && !(scope.names.any fun (n, k) => n == y && (k == .local || k == .cell))) : Sem Bool) = pure false
  congr 1
  rw [Bool.eq_false_iff]
  intro z
  rw [Bool.and_eq_true, Bool.and_eq_true, Bool.and_eq_true] at z
  refine h ⟨?_, z.1.2, ?_⟩
  · exact eq_of_beq z.1.1.2
  · have := z.2
    rw [Bool.not_eq_true'] at this
    exact this
/-! ### stores -/
theorem ss_name (h : Snd Z Γ G n) (g : Good X S Z Γ G) {x : Str} {px pos : Pos} {e : Expr} {i : Nat} (hi : ixOf x S.N = some i) (hl : isLoc S x = true) : PS X (.Assign [.Name x px] e pos) (tS X.K Z Γ G (.asg (.var i) (cE n S e))) := by
  obtain ⟨l1, l2⟩ := isLoc_ok g hl
  have fin : ∀ (c : CE) (D : Ends) (σ : L2.St) (H : Hp), tS X.K Z Γ G (.asg (.var i) c) D σ H → tAsg (tE X.K Z Γ G c) (gName i) D σ H := fun c D σ H ⟨He, W0, ρ, W, a, w⟩ => by
    rw [wpS] at w
    obtain ⟨W1, a1, s1⟩ := a.give (bare c)
    refine ⟨_, W1, a1.at, wpE_mono Γm _ _ _ _ (fun r hr v W2 H2 g2 vr => ?_) w⟩
    exact hr _ W2 H2 (a1.setV i g2 vr)
  by_cases hc : isComp e = false
  · exact PS.weak (ps_set (i := i) g.nd (by rw [g.hN]; exact ixOf_get hi) l1 (h.e X S g e) (sw_false hc) l2) fun D σ H w => fin _ D σ H w
  · have hno : ∀ {c : CE}, c = .bad → PS X (.Assign [.Name x px] e pos) (tS X.K Z Γ G (.asg (.var i) c)) := fun hb => by
      subst hb
      refine PS.weak PS.no fun D σ H ⟨He, W0, ρ, W, a, w⟩ => ?_
      rw [wpS, wpE] at w
      exact w
    cases n with
    | zero => exact hno (by rw [cE])
    | succ n =>
      have hn : Snd Z Γ G n := snd_all Γm n
      by_cases hb : cE (n + 1) S e = .bad
      · exact hno hb
      · -- a list comprehension that was translated
        generalize hcc : cE (n + 1) S e = c at hb
        have he := h.e X S g e
        rw [hcc] at he
        unfold cE at hcc
        split at hcc
        all_goals first
          | exact absurd rfl hc
          | skip
        · rename_i elt tg iter ifs scope pos'
          dsimp only at hcc
          split at hcc
          · rename_i hh
            obtain ⟨h1, h2, h3, h4⟩ := hh
            subst hcc
            by_cases hp : plainE iter = true
            · by_cases hs : S.sc.names.lookup x = some .local ∧ (px.line == pos'.line) = true ∧ (scope.names.any fun (n, k) => n == x && (k == .local || k == .cell)) = false
              · exact PS.weak (s_setcomp Γm hn g (i := i) (ixOf_get hi) hs.1 (sw_true (by rw [g.sc]; exact g.kind) (by rw [g.sc]; exact hs.1) hs.2.1 hs.2.2) rfl h1 h2 h3 h4 hp) fun D σ H w => fin _ D σ H w
              · exact PS.weak (ps_set (i := i) g.nd (by rw [g.hN]; exact ixOf_get hi) l1 he (sw_no (by rw [g.sc]; exact hs)) l2) fun D σ H w => fin _ D σ H w
            · refine PS.weak PS.no fun D σ H ⟨He, W0, ρ, W, a, w⟩ => ?_
              rw [wpS, wpE, it_plain Γm hp] at w
              dsimp only at w
              rw [wpEs, wpE] at w
              exact w
          · exact absurd hcc.symm hb
        · exact absurd hcc.symm hb
theorem fin_tup {i : List Nat} {K : PySem.W.Frag} {c : CE} {t : CT} (ht : ∀ j, t ≠ .var j) {D : Ends} {σ : L2.St} {H : Hp} (w : tS K Z Γ G (.asg t c) D σ H) :
    tAsg (tE K Z Γ G c) (fun v σ H Q => ∃ He W0 ρ W d, AtS K Z He W0 ρ σ W H ∧ Rp K Z W v d ∧ tgD t d ρ fun ρ' => ∀ σ', AtS K Z He W0 ρ' σ' W H → Q σ' H) D σ H := by
  obtain ⟨He, W0, ρ, W, a, w⟩ := w
  rw [wpS] at w
  obtain ⟨W1, a1, s1⟩ := a.give (bare c)
  refine ⟨_, W1, a1.at, wpE_mono Γm _ _ _ _ (fun r hr v W2 H2 g2 vr => ?_) w⟩
  obtain ⟨W3, g3, _, r3⟩ := vr.share g2
  refine ⟨He, W0, _, W3, r.d, a1.go g3, r3, ?_⟩
  have hr' : tgD t r.d (give ρ (bare c)) (finD K Z He W0 D).nx := by
    cases t with
    | var j => exact absurd rfl (ht j)
    | _ => exact hr
  exact tgD_mono _ _ _ _ _ (fun ρ' q σ' a' => q σ' W3 H2 a') hr'
omit Γm in
/-- targets, keeping the frame -/
theorem sGS (g : Good X S Z Γ G) : ∀ (n : Nat) (e : Expr), PG X e (fun v σ H Q => ∃ He W0 ρ W d, AtS X.K Z He W0 ρ σ W H ∧ Rp X.K Z W v d ∧ tgD (cT S n e) d ρ fun ρ' => ∀ σ', AtS X.K Z He W0 ρ' σ' W H → Q σ' H)
  | 0, e => PG.weak PG.no fun v σ H Q ⟨He, W0, ρ, W, d, a, r, w⟩ => by rw [cT] at w; cases d <;> simp [tgD] at w
  | n + 1, e => by
    have bad : PG X e (fun v σ H Q => ∃ He W0 ρ W d, AtS X.K Z He W0 ρ σ W H ∧ Rp X.K Z W v d ∧ tgD .bad d ρ fun ρ' => ∀ σ', AtS X.K Z He W0 ρ' σ' W H → Q σ' H) := PG.weak PG.no fun v σ H Q ⟨He, W0, ρ, W, d, a, r, w⟩ => by cases d <;> simp [tgD] at w
    unfold cT
    split
    · rename_i x pos
      split
      · rename_i i hi
        split
        · rename_i hl
          obtain ⟨h1, h2⟩ := isLoc_ok g hl
          refine PG.weak (pg_name (i := i) g.nd (by rw [g.hN]; exact ixOf_get hi) h1 h2) fun v σ H Q ⟨He, W0, ρ, W, d, a, r, w⟩ => ?_
          rw [tgD] at w
          exact w _ (a.set i r)
        · exact bad
      · exact bad
    · rename_i es k pos
      split
      · rename_i hp
        have hs : ∀ (es : List Expr), es.all plainE = true → PGs X es (fun vs σ H Q => ∃ He W0 ρ W ds, AtS X.K Z He W0 ρ σ W H ∧ RpA X.K Z W vs ds ∧ tgsD (es.map (cT S n)) ds ρ fun ρ' => ∀ σ', AtS X.K Z He W0 ρ' σ' W H → Q σ' H) := by
          intro es
          induction es with
          | nil =>
            intro _
            refine PGs.weak pgs_nil fun vs σ H Q ⟨He, W0, ρ, W, ds, a, r, w⟩ => ?_
            cases ds with
            | nil => cases r; rw [List.map_nil, tgsD] at w; exact ⟨rfl, w σ a⟩
            | cons d ds => simp [tgsD] at w
          | cons e es ih =>
            intro hp
            rw [List.all_cons, Bool.and_eq_true] at hp
            refine PGs.weak (pgs_cons (sGS g n e) (ih hp.2) (by rw [asg1 hp.1]; rfl)) fun vs σ H Q ⟨He, W0, ρ, W, ds, a, r, w⟩ => ?_
            cases ds with
            | nil => simp [tgsD] at w
            | cons d ds =>
              cases r with
              | cons r1 r2 =>
                rw [List.map_cons, tgsD] at w
                exact ⟨_, _, rfl, He, W0, ρ, W, d, a, r1, tgD_mono _ _ _ _ _ (fun ρ1 hq σ1 a1 => ⟨He, W0, ρ1, W, ds, a1, r2, hq⟩) w⟩
        have hs := hs es hp
        obtain ⟨h1, h2⟩ := asg_len (env := X.env) hp
        refine PG.weak (PG.or (pg_tup g.calm hs h1 h2) (pg_unl g.calm hs h1 h2)) fun v σ H Q ⟨He, W0, ρ, W, d, a, r, w⟩ => ?_
        cases d with
        | tup ds =>
          rw [tgD] at w
          cases r with
          | tup r1 r2 => exact .inl ⟨_, _, rfl, seqT a.entry.sub r1, by rw [r2.length, ← w.1, List.length_map], He, W0, ρ, W, ds, a, r2, w.2⟩
        | lst ds =>
          rw [tgD] at w
          cases r with
          | lst r1 r2 => exact .inr ⟨_, _, rfl, SqL.of (a.entry.sub _ _ r1), by rw [r2.length, ← w.1, List.length_map], He, W0, ρ, W, ds, a, r2, w.2⟩
        | _ => simp [tgD] at w
      · exact bad
    · exact bad
omit Γm in
theorem cT_tup {ts : List Expr} {k : Nat} {p : Pos} : ∀ (n j : Nat), cT S n (.Tuple ts k p) ≠ .var j := by
  intro n j z
  cases n with
  | zero => simp [cT] at z
  | succ n =>
    unfold cT at z
    dsimp only at z
    split at z <;> cases z
theorem ss_tup (h : Snd Z Γ G n) (g : Good X S Z Γ G) {ts : List Expr} {k : Nat} {p pos : Pos} {e : Expr} (h2 : swappedStores [.Tuple ts k p] e X.env = pure none) :
    PS X (.Assign [.Tuple ts k p] e pos) (tS X.K Z Γ G (.asg (cT S n (.Tuple ts k p)) (cE n S e))) :=
  PS.weak (ps_asg (h.e X S g e) (sGS g n (.Tuple ts k p)) (show swapsWith e (some (.Tuple ts k p)) pos.line X.env = pure false from sw_tup) h2) fun D σ H w => fin_tup Γm (i := []) (fun j => cT_tup n j) w
omit Γm in
theorem set_names {K : PySem.W.Frag} {He W0 W H : Hp} {R : L2.St → Hp → Prop} : ∀ (is : List Nat) (ds : List D) (vs : List V) (ρ : Ev) (σ : L2.St), AtS K Z He W0 ρ σ W H → RpA K Z W vs ds →
    tgsD (is.map .var) ds ρ (fun ρ' => ∀ σ W H, AtS K Z He W0 ρ' σ W H → R σ H) → R ((is.zip vs).foldl (fun s (p : Nat × V) => s.set p.1 (some p.2)) σ) H
  | [], [], _, ρ, σ, a, r, w => by cases r; rw [List.map_nil, tgsD] at w; exact w σ W H a
  | [], d :: ds, _, ρ, σ, a, r, w => by simp [tgsD] at w
  | i :: is, [], _, ρ, σ, a, r, w => by simp [tgsD] at w
  | i :: is, d :: ds, _, ρ, σ, a, r, w => by
    cases r with
    | cons r1 r2 =>
      rw [List.map_cons, tgsD, tgD] at w
      rw [List.zip_cons_cons, List.foldl_cons]
      exact set_names is ds _ _ _ (a.set i r1) r2 w
/-- what a store of a written tuple to names does -/
theorem tup_names {K : PySem.W.Frag} {is : List Nat} {cs : List CE} {D : Ends} {σ : L2.St} {H : Hp} (w : tS K Z Γ G (.asg (.tup (is.map .var)) (.tup cs)) D σ H) :
    tEs K Z Γ G cs σ H fun vs H1 => vs.length = is.length ∧ D.nx ((is.zip vs).foldl (fun s (p : Nat × V) => s.set p.1 (some p.2)) σ) H1 := by
  obtain ⟨He, W0, ρ, W, a, w⟩ := w
  rw [wpS, wpE] at w
  obtain ⟨W1, a1, s1⟩ := a.give (bare (.tup cs))
  refine ⟨_, W1, a1.at, wpEs_mono Γm _ _ _ _ (fun ds hq vs W2 H2 g2 rp => ?_) w.2⟩
  have hq : tgD (.tup (is.map .var)) (.tup ds) (give ρ (bare (.tup cs))) (finD K Z He W0 D).nx := hq
  rw [tgD] at hq
  exact ⟨by rw [rp.length, ← hq.1, List.length_map], set_names is ds vs _ σ (a1.go g2) rp hq.2⟩
theorem ss_tuptup (h : Snd Z Γ G n) (g : Good X S Z Γ G) {ts vs : List Expr} {k k2 : Nat} {p p2 pos : Pos} :
    PS X (.Assign [.Tuple ts k p] (.Tuple vs k2 p2) pos) (tS X.K Z Γ G (cTT n S ts vs k k2 p p2)) := by
  have hkind : X.env.scope.kind = .function := by rw [g.sc]; exact g.kind
  unfold cTT
  split
  · rename_i hq
    exact ss_tup Γm h g (swP_ok hkind g.sc hq)
  · rename_i names hq
    have hsw := fun k p => swP_ok (k := k) (k2 := k2) (p := p) (p2 := p2) hkind g.sc hq
    split
    · rename_i x px y py a b
      split
      · rename_i i j hi hj
        split
        · rename_i hh
          obtain ⟨rfl, lx, ly, hij, hp⟩ := hh
          refine PS.weak (ps_par (i := i) (j := j) g.calm g.nd (by rw [g.hN]; exact ixOf_get hi) (by rw [g.hN]; exact ixOf_get hj) hij (by rw [g.sc]; exact lx) (by rw [g.sc]; exact ly) (h.es Γm g hp) (hsw _ _)) fun D σ H w => ?_
          obtain ⟨ρ, W, a, w⟩ := tup_names Γm (is := [i, j]) w
          refine ⟨ρ, W, a, wpEs_mono Γm _ _ _ _ (fun ds hq vs W' H' g' rp => ?_) w⟩
          obtain ⟨hl, q⟩ := hq vs W' H' g' rp
          obtain ⟨v, u, rfl⟩ := len2 hl
          exact ⟨v, u, rfl, q⟩
        · exact ps_bad
      · exact ps_bad
    · rename_i x px y py z pz a b c
      split
      · rename_i i j l hi hj hl
        split
        · rename_i hh
          obtain ⟨rfl, lx, ly, lz, ⟨hij, hil, hjl⟩, hp⟩ := hh
          refine PS.weak (ps_par3 (i := i) (j := j) (l := l) g.calm g.nd (by rw [g.hN]; exact ixOf_get hi) (by rw [g.hN]; exact ixOf_get hj) (by rw [g.hN]; exact ixOf_get hl) hij hil hjl (by rw [g.sc]; exact lx) (by rw [g.sc]; exact ly) (by rw [g.sc]; exact lz) (h.es Γm g hp) (hsw _ _)) fun D σ H w => ?_
          obtain ⟨ρ, W, a, w⟩ := tup_names Γm (is := [i, j, l]) w
          refine ⟨ρ, W, a, wpEs_mono Γm _ _ _ _ (fun ds hq vs W' H' g' rp => ?_) w⟩
          obtain ⟨hl, q⟩ := hq vs W' H' g' rp
          match vs, hl with
          | [v, u, t], _ => exact ⟨v, u, t, rfl, q⟩
        · exact ps_bad
      · exact ps_bad
    · exact ps_bad
  · exact ps_bad
/-! ### a list's item stored, lists grown and cut -/
theorem ss_seti (h : Snd Z Γ G n) (g : Good X S Z Γ G) {x : Str} {px p pos : Pos} {ix e : Expr} {j : Nat} (hj : nameIx S x = some j) (hp : plainE ix = true) :
    PS X (.Assign [.Subscript (.Name x px) ix p] e pos) (tS X.K Z Γ G (.seti j (cE n S ix) (cE n S e))) := by
  have ha : ∀ v, assign (.Subscript (.Name x px) ix p) X.env v = (do
      let ov ← holding [v] (eval (.Name x px) X.env)
      let iv ← holding [v, ov] (eval ix X.env)
      standAt p
      holding [v, ov, iv] (setItem ov iv v)
      release [v, ov, iv] []) := by
    intro v
    cases ix <;> first
      | rfl
      | cases hp
  refine PS.weak (ps_asg (h.e X S g e) (pg_sub (pe_nm g hj) (h.e X S g ix) set_list ha) (show swapsWith e (some (.Subscript (.Name x px) ix p)) pos.line X.env = pure false from sw_sub) st_sub) fun D σ H ⟨He, W0, ρ, W, a, w⟩ => ?_
  rw [wpS] at w
  obtain ⟨W1, a1, s1⟩ := a.give (bare (cE n S e) ++ bare (cE n S ix))
  obtain ⟨ds, ho, w⟩ := w
  refine ⟨_, W1, a1.at, wpE_mono Γm _ _ _ _ (fun r hr v W2 H2 g2 vr => ?_) w⟩
  obtain ⟨W3, g3, _, r3⟩ := vr.share g2
  have a3 := a1.go g3
  obtain ⟨q, _, hq, _⟩ := a3.write ho
  refine ⟨_, hq, ?_⟩
  refine ⟨_, W3, a3.at, wpE_mono Γm _ _ _ _ (fun s hs u W4 H4 g4 vs => ?_) hr⟩
  unfold intD at hs
  split at hs
  · rename_i i
    have e := vs.flat.1 i rfl
    subst e
    obtain ⟨m, hm, nx⟩ := hs
    have a4 := a3.go g4
    obtain ⟨q', xs, hq', hx, rp, wr⟩ := a4.write ho
    rw [hq] at hq'
    cases hq'
    refine ⟨q, xs, i, m, rfl, rfl, hx, by rw [rp.length]; exact hm, ?_⟩
    exact nx _ _ _ (wr _ _ (rp.set m (r3.mono g4.w)))
  · exact hs.elim
theorem ss_app (h : Snd Z Γ G n) (g : Good X S Z Γ G) {x : Str} {px ap cp pos : Pos} {e : Expr} {i : Nat} (hi : nameIx S x = some i) (hp : plainE e = true) (hl : (ap.endLine == cp.line) = true) :
    PS X (.Expr (.Call (.Attribute (.Name x px) "append" ap) [e] [] cp) pos) (tS X.K Z Γ G (.app i (cE n S e))) := by
  refine PS.weak (ps_expr (pe_bm PySem.F.plainAttrs_list PySem.F.slot_list_append PySem.F.type_list_append mt_append (pe_nm g hi) (pa_cons (h.e X S g e) pa_nil (star1 hp)) rfl (by rw [star1 hp]; rfl) hl (star1 hp) rfl)) fun D σ H ⟨He, W0, ρ, W, a, w⟩ => ?_
  rw [wpS] at w
  obtain ⟨W1, a1, s1⟩ := a.give (bare (cE n S e))
  obtain ⟨ds, ho, w⟩ := w
  obtain ⟨q, xs0, hq, hx0, _⟩ := a1.write ho
  refine ⟨_, hq, tyL hx0, ?_⟩
  refine ⟨_, W1, a1.at, wpE_mono Γm _ _ _ _ (fun r hr v W2 H2 g2 vr => ?_) w⟩
  obtain ⟨W3, g3, _, r3⟩ := vr.share g2
  have a3 := a1.go g3
  obtain ⟨q', xs, hq', hx, rp, wr⟩ := a3.write ho
  rw [hq] at hq'
  cases hq'
  exact ⟨q, xs, v, rfl, rfl, hx, by rw [rp.length, sizeLine_eq]; exact hr.1, hr.2 _ _ _ (wr _ _ (rp.append (.cons r3 .nil)))⟩
theorem ss_ext (h : Snd Z Γ G n) (g : Good X S Z Γ G) {x : Str} {px ap cp pos : Pos} {e : Expr} {i : Nat} (hi : nameIx S x = some i) (hp : plainE e = true) (hl : (ap.endLine == cp.line) = true) :
    PS X (.Expr (.Call (.Attribute (.Name x px) "extend" ap) [e] [] cp) pos) (tS X.K Z Γ G (.ext i (cE n S e))) := by
  refine PS.weak (ps_expr (pe_bm PySem.F.plainAttrs_list PySem.F.slot_list_extend PySem.F.type_list_extend mt_extend (pe_nm g hi) (pa_cons (h.e X S g e) pa_nil (star1 hp)) rfl (by rw [star1 hp]; rfl) hl (star1 hp) rfl)) fun D σ H ⟨He, W0, ρ, W, a, w⟩ => ?_
  rw [wpS] at w
  obtain ⟨W1, a1, s1⟩ := a.give (bare (cE n S e))
  obtain ⟨ds, ho, w⟩ := w
  obtain ⟨q, xs0, hq, hx0, _⟩ := a1.write ho
  refine ⟨_, hq, tyL hx0, ?_⟩
  refine ⟨_, W1, a1.at, wpE_mono Γm _ _ _ _ (fun r hr v W2 H2 g2 vr => ?_) w⟩
  obtain ⟨W3, g3, _, r3⟩ := vr.share g2
  have a3 := a1.go g3
  obtain ⟨q', xs, hq', hx, rp, wr⟩ := a3.write ho
  rw [hq] at hq'
  cases hq'
  obtain ⟨es, he, hz, nx⟩ := hr
  rw [he] at r3
  cases r3 with
  | lst z1 z2 =>
    exact ⟨q, _, xs, _, rfl, rfl, hx, a3.entry.sub _ _ z1, by rw [rp.length, z2.length, sizeLine_eq]; exact hz, nx _ _ _ (wr _ _ (rp.append z2))⟩
omit Γm in
theorem ss_drop (g : Good X S Z Γ G) {x : Str} {px ap cp pos : Pos} {i : Nat} (hi : nameIx S x = some i) (hl : (ap.endLine == cp.line) = true) :
    PS X (.Expr (.Call (.Attribute (.Name x px) "pop" ap) [] [] cp) pos) (tS X.K Z Γ G (.drop i)) := by
  refine PS.weak (ps_expr (pe_bm0 PySem.F.plainAttrs_list PySem.F.slot_list_pop PySem.F.type_list_pop mt_pop (pe_nm g hi) rfl hl)) fun D σ H ⟨He, W0, ρ, W, a, w⟩ => ?_
  rw [wpS] at w
  obtain ⟨ds, y, ho, hy, nx⟩ := w
  obtain ⟨q, xs, hq, hx, rp, wr⟩ := a.write ho
  obtain ⟨v, e1, e2⟩ := rp.get hy
  exact ⟨_, hq, tyL hx, q, xs, v, rfl, rfl, hx, by rw [rp.length]; exact e1, nx _ _ _ (wr _ _ rp.dropLast)⟩
omit Γm in
theorem ss_pop (g : Good X S Z Γ G) {x y : Str} {px py ap cp pos : Pos} {i t : Nat} (ht : ixOf x S.N = some t) (hlx : isLoc S x = true) (hi : nameIx S y = some i) (hl : (ap.endLine == cp.line) = true) :
    PS X (.Assign [.Name x px] (.Call (.Attribute (.Name y py) "pop" ap) [] [] cp) pos) (tS X.K Z Γ G (.pop t i)) := by
  obtain ⟨l1, l2⟩ := isLoc_ok g hlx
  refine PS.weak (ps_set (i := t) g.nd (by rw [g.hN]; exact ixOf_get ht) l1 (pe_bm0 PySem.F.plainAttrs_list PySem.F.slot_list_pop PySem.F.type_list_pop mt_pop (pe_nm g hi) rfl hl) (sw_false rfl) l2) fun D σ H ⟨He, W0, ρ, W, a, w⟩ => ?_
  rw [wpS] at w
  obtain ⟨ds, z, ho, hy, nx⟩ := w
  obtain ⟨q, xs, hq, hx, rp, wr⟩ := a.write ho
  obtain ⟨v, e1, e2⟩ := rp.get hy
  exact ⟨_, hq, tyL hx, q, xs, v, rfl, rfl, hx, by rw [rp.length]; exact e1, nx _ _ _ ((wr _ _ rp.dropLast).set t e2)⟩
omit Γm in
theorem RpA.erase {K : PySem.W.Frag} {W : Hp} {ds : List D} {vs : List V} (h : RpA K Z W vs ds) (m : Nat) : RpA K Z W (vs.eraseIdx m) (ds.eraseIdx m) := by
  rw [List.eraseIdx_eq_take_drop_succ, List.eraseIdx_eq_take_drop_succ]
  exact (h.take m).append (h.drop (m + 1))
theorem ss_appPop (h : Snd Z Γ G n) (g : Good X S Z Γ G) {x y : Str} {px py ap ap2 cp cp2 pos : Pos} {e : Expr} {i j : Nat} (hi : nameIx S x = some i) (hj : nameIx S y = some j) (hp : plainE e = true) (hl : (ap.endLine == cp.line) = true) (hl2 : (ap2.endLine == cp2.line) = true) :
    PS X (.Expr (.Call (.Attribute (.Name x px) "append" ap) [.Call (.Attribute (.Name y py) "pop" ap2) [e] [] cp2] [] cp) pos) (tS X.K Z Γ G (.appPop i j (cE n S e))) := by
  have inner : PE X (.Call (.Attribute (.Name y py) "pop" ap2) [e] [] cp2) _ := pe_bm PySem.F.plainAttrs_list PySem.F.slot_list_pop PySem.F.type_list_pop mt_popAt (pe_nm g hj) (pa_cons (h.e X S g e) pa_nil (star1 hp)) rfl (by rw [star1 hp]; rfl) hl2 (star1 hp) rfl
  refine PS.weak (ps_expr (pe_bm PySem.F.plainAttrs_list PySem.F.slot_list_append PySem.F.type_list_append mt_append (pe_nm g hi) (pa_cons inner pa_nil rfl) rfl rfl hl rfl rfl)) fun D σ H ⟨He, W0, ρ, W, a, w⟩ => ?_
  rw [wpS] at w
  obtain ⟨W1, a1, s1⟩ := a.give (bare (cE n S e))
  obtain ⟨hij, ds, es, ho, ho2, w⟩ := w
  obtain ⟨q, xs0, hq, hx0, _⟩ := a1.write ho
  obtain ⟨q2, ys0, hq2, hy0, _⟩ := a1.write ho2
  refine ⟨_, hq, tyL hx0, ?_⟩
  refine ⟨_, hq2, tyL hy0, ?_⟩
  refine ⟨_, W1, a1.at, wpE_mono Γm _ _ _ _ (fun r hr v W2 H2 g2 vr => ?_) w⟩
  unfold intD at hr
  split at hr
  · rename_i k
    have ek := vr.flat.1 k rfl
    subst ek
    obtain ⟨m, z, hm, hz, hd, hes, nx⟩ := hr
    have a3 := a1.go g2
    obtain ⟨q2', ys, hq2', hy, rp2, wr2⟩ := a3.write ho2
    rw [hq2] at hq2'
    cases hq2'
    obtain ⟨v, e1, e2⟩ := rp2.get hz
    obtain ⟨i1, i2, i3, i4⟩ := ixN_seq (n := ys.length) (i := k) (j := m) (by rw [rp2.length]; exact hm)
    have hl2 := rp2.length
    refine ⟨q2, ys, k, m, v, rfl, rfl, hy, by omega, by omega, i1, e1, ?_⟩
    have a4 := wr2 _ _ (RpA.erase rp2 m)
    have ho' : Ev.own ((give ρ (bare (cE n S e))).set j (some (Val.ow (es.eraseIdx m)))) i = some ds := by
      unfold Ev.own at ho ⊢
      rw [List.getElem?_set_ne (Ne.symm hij)]
      exact ho
    obtain ⟨q', xs, hq', hx, rp, wr⟩ := a4.write ho'
    rw [hq] at hq'
    cases hq'
    exact ⟨q, xs, v, rfl, rfl, hx, by rw [rp.length, sizeLine_eq]; exact hd, nx _ _ _ (wr _ _ (rp.append (.cons e2 .nil)))⟩
  · exact hr.elim
theorem ss_aug (h : Snd Z Γ G n) (g : Good X S Z Γ G) {x : Str} {px pos : Pos} {e : Expr} {i : Nat} {op : Operator} {o : BO} (ho : (op = .Add ∧ o = .add) ∨ (op = .Sub ∧ o = .sub)) (hi : nameIx S x = some i) (hl : isLoc S x = true) :
    PS X (.AugAssign (.Name x px) op e pos) (tS X.K Z Γ G (.aug i o (cE n S e))) := by
  obtain ⟨l1, l2⟩ := isLoc_ok g hl
  have hN : X.N[i]? = some x := by rw [g.hN]; exact (nameIx_ok hi).1
  rcases ho with ⟨rfl, rfl⟩ | ⟨rfl, rfl⟩
  · refine PS.weak (ps_aug (i := i) g.nd hN l1 (h.e X S g e) ip_add l2) fun D σ H ⟨He, W0, ρ, W, a, w⟩ => ?_
    rw [wpS] at w
    obtain ⟨d, hd, w⟩ := w
    obtain ⟨u, hu, ru⟩ := a.at.shr hd
    obtain ⟨W1, a1, s1⟩ := a.give (bare (cE n S e))
    refine ⟨u, hu, _, W1, a1.at, wpE_mono Γm _ _ _ _ (fun r hr v W2 H2 g2 vr => ?_) w⟩
    obtain ⟨W3, g3, _, r3⟩ := vr.share g2
    generalize r.d = d2 at hr r3
    unfold augD at hr
    split at hr <;> first
      | contradiction
      | skip
    · cases ru
      cases r3
      exact ⟨_, _, rfl, rfl, hr _ _ _ ((a1.go g3).set i (.int _))⟩
  · refine PS.weak (ps_aug (i := i) g.nd hN l1 (h.e X S g e) ip_sub l2) fun D σ H ⟨He, W0, ρ, W, a, w⟩ => ?_
    rw [wpS] at w
    obtain ⟨d, hd, w⟩ := w
    obtain ⟨u, hu, ru⟩ := a.at.shr hd
    obtain ⟨W1, a1, s1⟩ := a.give (bare (cE n S e))
    refine ⟨u, hu, _, W1, a1.at, wpE_mono Γm _ _ _ _ (fun r hr v W2 H2 g2 vr => ?_) w⟩
    obtain ⟨W3, g3, _, r3⟩ := vr.share g2
    generalize r.d = d2 at hr r3
    unfold augD at hr
    split at hr <;> first
      | contradiction
      | skip
    · cases ru
      cases r3
      exact ⟨_, _, rfl, rfl, hr _ _ _ ((a1.go g3).set i (.int _))⟩
/-! ### return, if, for, while -/
theorem ss_ret (h : Snd Z Γ G n) (g : Good X S Z Γ G) {e : Expr} {pos : Pos} : PS X (.Return (some e) pos) (tS X.K Z Γ G (.ret (cE n S e))) := by
  by_cases hv : ∃ i, cE n S e = .var i
  · obtain ⟨i, hi⟩ := hv
    obtain ⟨x, p, rfl, h1, h2, h3, h4⟩ := cE_var Γm hi
    rw [hi]
    refine PS.weak (ps_ret (pe_var (i := i) (by rw [g.hN]; exact h1) (by rw [g.sc]; exact h2) (ne_beq h3) (ne_beq h4))) fun D σ H ⟨He, W0, ρ, W, a, w⟩ => ?_
    rw [wpS] at w
    obtain ⟨v, e, q⟩ := w
    obtain ⟨P, E⟩ := a
    cases v with
    | sh d =>
      obtain ⟨u, k1, k2⟩ := E.slot i d e
      exact ⟨u, k1, q u W H E.entry k2⟩
    | ow ds =>
      obtain ⟨k1, k2, k3, k4, vs, k5, k6⟩ := E.own i ds e
      exact ⟨_, k1, q _ W H E.entry ⟨_, vs, rfl, k3, k2, k4, k5, k6⟩⟩
  · refine PS.weak (ps_ret (h.e X S g e)) fun D σ H ⟨He, W0, ρ, W, a, w⟩ => ?_
    rw [wpS] at w
    unfold rtD at w
    split at w
    · rename_i i hi; exact absurd ⟨_, hi⟩ hv
    · obtain ⟨W1, a1, s1⟩ := a.give (bare (cE n S e))
      refine ⟨_, W1, a1.at, wpE_mono Γm _ _ _ _ (fun r hr v W2 H2 g2 vr => ?_) w⟩
      exact hr v W2 H2 (a1.entry.trans g2) (VR.back a1.entry vr)
abbrev SndS (Z : Hd) (Γ : Nat → Con) (G : Nat → D) (n : Nat) : Prop := ∀ (X : Cx) (S : SC), Good X S Z Γ G → ∀ st, PS X st (tS X.K Z Γ G (cS n S st))
theorem ss_block (h : SndS Z Γ G n) (g : Good X S Z Γ G) : ∀ (ss : List Stmt), PSs X ss (tB X.K Z Γ G (ss.map (cS n S)))
  | [] => PSs.weak pss_nil fun D σ H ⟨He, W0, ρ, W, a, w⟩ => by rw [List.map_nil, wpB] at w; exact w σ W H a
  | s :: ss => by
    refine PSs.weak (pss_cons (h X S g s) (ss_block h g ss)) fun D σ H ⟨He, W0, ρ, W, a, w⟩ => ?_
    rw [List.map_cons, wpB] at w
    exact ⟨He, W0, ρ, W, a, wpS_mono Γm _ ⟨wpB Γ G (ss.map (cS n S)) (finD X.K Z He W0 D), (finD X.K Z He W0 D).rt, (finD X.K Z He W0 D).bk, (finD X.K Z He W0 D).ct⟩ _ _ ⟨fun ρ1 q σ1 W1 H1 a1 => ⟨He, W0, ρ1, W1, a1, q⟩, fun _ q => q, fun _ q => q, fun _ q => q⟩ w⟩
theorem ss_if (h : Snd Z Γ G n) (hs : SndS Z Γ G n) (g : Good X S Z Γ G) {c : Expr} {a b : List Stmt} {pos : Pos} : PS X (.If c a b pos) (tS X.K Z Γ G (.ife (cE n S c) (a.map (cS n S)) (b.map (cS n S)))) := by
  refine PS.weak (ps_if (h.t X S g c) (ss_block Γm hs g a) (ss_block Γm hs g b)) fun D σ H ⟨He, W0, ρ, W, at', w⟩ => ?_
  rw [wpS] at w
  obtain ⟨W1, a1, s1⟩ := at'.give (bare (cE n S c))
  refine ⟨_, W1, a1.at, wpT_mono Γm _ _ _ _ (fun k q W2 H2 g2 => ?_) w⟩
  dsimp only
  split
  · rename_i e; rw [if_pos e] at q; exact ⟨He, W0, _, W2, a1.go g2, q⟩
  · rename_i e; rw [if_neg e] at q; exact ⟨He, W0, _, W2, a1.go g2, q⟩
theorem ss_while (h : Snd Z Γ G n) (hs : SndS Z Γ G n) (g : Good X S Z Γ G) {c : Expr} {b : List Stmt} {pos : Pos} : PS X (.While c b [] pos) (tS X.K Z Γ G (.whl (cE n S c) (b.map (cS n S)))) := by
  refine PS.weak (ps_while g.po (h.t X S g c) (ss_block Γm hs g b)) fun D σ H ⟨He, W0, ρ, W, at', w⟩ => ?_
  rw [wpS] at w
  obtain ⟨Iv, ⟨m0, i0⟩, turn⟩ := w
  obtain ⟨W1, a1, s1⟩ := at'.give (bare (cE n S c))
  refine ⟨fun m σ H => ∃ ρ W, AtS X.K Z He W0 ρ σ W H ∧ Iv m ρ, ⟨m0, _, W1, a1, i0⟩, ?_⟩
  rintro m σ2 H2 ⟨ρ2, W2, a2, i2⟩
  refine ⟨ρ2, W2, a2.at, wpT_mono Γm _ _ _ _ (fun k q W3 H3 g3 => ?_) (turn m ρ2 i2)⟩
  dsimp only
  split
  · rename_i e
    rw [if_pos e] at q
    refine ⟨fun σ' H' => ∃ ρ W, AtS X.K Z He W0 ρ σ' W H' ∧ ∃ m', m' < m ∧ Iv m' (give ρ (bare (cE n S c))), fun σ' H' ⟨ρ', W', a', m', hm, i'⟩ => ?_, ?_⟩
    · obtain ⟨W'', a'', _⟩ := a'.give (bare (cE n S c))
      exact ⟨m', hm, _, W'', a'', i'⟩
    · exact ⟨He, W0, ρ2, W3, a2.go g3, wpB_mono Γm _ ⟨fun ρ2 => ∃ m', m' < m ∧ Iv m' (give ρ2 (bare (cE n S c))), (finD X.K Z He W0 D).rt, (finD X.K Z He W0 D).nx, fun ρ2 => ∃ m', m' < m ∧ Iv m' (give ρ2 (bare (cE n S c)))⟩ _ _ ⟨fun ρ' q σ' W' H' a' => ⟨ρ', W', a', q⟩, fun _ q => q, fun _ q => q, fun ρ' q σ' W' H' a' => ⟨ρ', W', a', q⟩⟩ q⟩
  · rename_i e
    rw [if_neg e] at q
    exact q _ _ _ (a2.go g3)
theorem ss_for (h : Snd Z Γ G n) (hs : SndS Z Γ G n) (g : Good X S Z Γ G) {tg iter : Expr} {b : List Stmt} {pos : Pos} (hp : plainE iter = true) :
    PS X (.For tg iter b [] pos) (tS X.K Z Γ G (.fr (cT S n tg) (cIt S (cE n S) tg iter).1 (cIt S (cE n S) tg iter).2 (b.map (cS n S)))) := by
  refine PS.weak (ps_for g.po g.calm (sI Γm h g tg iter) (sGS g n tg) (ss_block Γm hs g b) (plain_fold hp)) fun D σ H ⟨He, W0, ρ, W, at', w⟩ => ?_
  rw [wpS] at w
  obtain ⟨W1, a1, s1⟩ := at'.give (bares (cIt S (cE n S) tg iter).2)
  refine ⟨_, W1, a1.at, wpEs_mono Γm _ _ _ _ (fun xs => itsD_mono fun items ⟨Iv, i0, hst, hd⟩ J W2 H2 g2 wk => ?_) w⟩
  have a2 := a1.go g2
  have g0 := a2.entry
  refine ⟨fun i m σ H => m = items.length - i ∧ i ≤ items.length ∧ ∃ ρ W, AtS X.K Z He W2 ρ σ W H ∧ Iv i ρ, ⟨items.length, by omega, Nat.zero_le _, _, W2, a2.base, i0⟩, ?_⟩
  rintro i m σ3 H3 ⟨rfl, hi, ρ3, W3, a3, i3⟩
  have e3 := a3.entry
  by_cases hlt : i < items.length
  · refine .inr ⟨wk.go i W3 H3 e3.w e3.sub hlt, fun σ H => ∃ ρ W, AtS X.K Z He W2 ρ σ W H ∧ Iv (i + 1) ρ, fun σ' H' q => ⟨items.length - (i + 1), by omega, rfl, hlt, q⟩, fun x H4 y => ?_⟩
    obtain ⟨d, W4, hd4, g4, r4⟩ := wk.yld i W3 H3 x H4 e3.w (Go.refl' e3.sub e3.hi e3.wm) hlt y
    refine ⟨He, W2, ρ3, W4, d, a3.go g4, r4, tgD_mono _ _ _ _ _ (fun ρ5 q σ5 a5 => ?_) (hst i d ρ3 hd4 i3)⟩
    refine ⟨He, W2, ρ5, W4, a5, wpB_mono Γm _ ⟨Iv (i + 1), (finD X.K Z He W0 D).rt, (finD X.K Z He W0 D).nx, Iv (i + 1)⟩ _ _ ⟨fun ρ' q σ' W' H' a' => ⟨ρ', W', a', q⟩, fun r q v W' H' g' vr => q v W' H' (Go.rebase g0 g') vr, fun ρ' q σ' W' H' a' => q σ' W' H' (AtS.rebase g0 a'), fun ρ' q σ' W' H' a' => ⟨ρ', W', a', q⟩⟩ q⟩
  · have e : i = items.length := by omega
    subst e
    exact .inl ⟨wk.stop _ W3 H3 e3.w e3.sub (Nat.le_refl _), hd ρ3 i3 _ _ _ (AtS.rebase g0 a3)⟩
/-- every statement is read rightly -/
theorem snd_s : ∀ n, SndS Z Γ G n
  | 0 => fun X S g st => by rw [cS]; exact ps_bad
  | n + 1 => fun X S g st => by
    have h : Snd Z Γ G n := snd_all Γm n
    have hs : SndS Z Γ G n := snd_s n
    unfold cS
    split
    · split
      · rename_i i t hi ht
        split
        · rename_i hh
          obtain ⟨rfl, h1, h2⟩ := hh
          exact ss_pop g ht h1 hi h2
        · exact ps_bad
      · exact ps_bad
    · split
      · rename_i i hi
        split
        · rename_i hl; exact ss_name Γm h g hi hl
        · exact ps_bad
      · exact ps_bad
    · exact ss_tuptup Γm h g
    · split
      · rename_i hh; exact ss_tup Γm h g (st_tup hh.2)
      · exact ps_bad
    · split
      · rename_i j hj
        split
        · rename_i hp; exact ss_seti Γm h g hj hp
        · exact ps_bad
      · exact ps_bad
    · split
      · rename_i i hi
        split
        · rename_i hl
          split
          · exact ss_aug Γm h g (.inl ⟨rfl, rfl⟩) hi hl
          · exact ss_aug Γm h g (.inr ⟨rfl, rfl⟩) hi hl
          · exact ps_bad
        · exact ps_bad
      · exact ps_bad
    · split
      · rename_i i j hi hj
        split
        · rename_i hh
          obtain ⟨rfl, rfl, h1, h2, h3⟩ := hh
          exact ss_appPop Γm h g hi hj h1 h2 h3
        · exact ps_bad
      · exact ps_bad
    · split
      · rename_i i hi
        split
        · rename_i hh
          obtain ⟨h1, h2⟩ := hh
          split
          · rename_i e; subst e; exact ss_app Γm h g hi h1 h2
          · split
            · rename_i e; subst e; exact ss_ext Γm h g hi h1 h2
            · exact ps_bad
        · exact ps_bad
      · exact ps_bad
    · split
      · rename_i i hi
        split
        · rename_i hh
          obtain ⟨rfl, h2⟩ := hh
          exact ss_drop g hi h2
        · exact ps_bad
      · exact ps_bad
    · exact ss_ret Γm h g
    · exact PS.weak ps_retN fun D σ H ⟨He, W0, ρ, W, a, w⟩ => by rw [wpS] at w; exact w _ W H a.entry .non
    · exact ss_if Γm h hs g
    · split
      · rename_i hp; exact ss_for Γm h hs g hp
      · exact ps_bad
    · exact ss_while Γm h hs g
    · exact PS.weak ps_break fun D σ H ⟨He, W0, ρ, W, a, w⟩ => by rw [wpS] at w; exact w σ W H a
    · exact PS.weak ps_continue fun D σ H ⟨He, W0, ρ, W, a, w⟩ => by rw [wpS] at w; exact w σ W H a
    · exact PS.weak ps_pass fun D σ H ⟨He, W0, ρ, W, a, w⟩ => by rw [wpS] at w; exact w σ W H a
    · exact ps_bad
end
end Gx
set_option maxHeartbeats 4000000
/-! Gx, part O: a def keeps its contract; all defs of a text, one after another. -/
namespace Gx
open PySem PySem.Spec PyProof.Rows L2
/-- the names at a def's entry -/
def entry (m : Nat) (ds : List D) : Ev := ds.map (fun d => some (.sh d)) ++ List.replicate (m - ds.length) none
/-- a def's end, as wished -/
abbrev fin0 (Q : Val → Prop) : Fin := ⟨fun _ => Q (.sh .non), Q, fun _ => False, fun _ => False⟩
/-- a def of the text -/
structure DI where
  x : Str
  st : Stmt
  N : List Str
  ps : List Str
/-- what is written around the defs -/
structure Surr where
  blt : List Str
  gcd : Bool
  gl : List Str
def Surr.sc (u : Surr) (names : List Str) (j : Nat) (d : DI) : SC := ⟨d.N, defScope d.st, fun _ => true, names.take j, u.blt, u.gcd, u.gl⟩
/-- the translated body of the j-th def -/
def bodyOf (fuel : Nat) (u : Surr) (names : List Str) (j : Nat) (d : DI) : List CS := (defBody d.st).map (cS fuel (u.sc names j d))
structure SurrOk (K : PySem.W.Frag) (mg : Str → Option Value) (Z : Hd) (G : Nat → D) (u : Surr) : Prop where
  blt : ∀ x, x ∈ u.blt → mg x = none
  gcd : u.gcd = true → mg "gcd" = some (.builtin "math.gcd")
  gl : ∀ (i : Nat) x, u.gl[i]? = some x → ∃ v w, mg x = some w ∧ RelV v w ∧ ∀ W, Rp K Z W v (G i)
/-- a def stands, and keeps its contract -/
def FnF (P : Program) (w : World) (K : PySem.W.Frag) (mg : Str → Option Value) (base : Heap) (Z : Hd) (g : Con) (j : Nat) (x : Str) : Prop :=
  ∃ f fd ps n, mg x = some (.ref f) ∧ PySem.W.keepIn K (.ref f) = true ∧ Binds K fd ps [] ∧ FnOk P w K mg base CX0 (j + 1) f fd ps (spG K Z g n) ∧ ∀ ds Q, g ds Q → ds.length = n
section
variable {P : Program} {w : World} {K : PySem.W.Frag} {mg : Str → Option Value} {base : Heap} {Z : Hd} {Γ : Nat → Con} {G : Nat → D} (Γm : ConMono Γ) {u : Surr} {names : List Str}
include Γm
/-- THE RULE for a def -/
theorem fn_ok (U : SurrOk K mg Z G u) {fuel j : Nat} {d : DI} {f : Addr} {fd : FuncData} {core : List CS} (F : Fun K d.x d.x d.st f fd) (S : FnScope d.N d.ps (defScope d.st)) (hm : mg d.x = some (.ref f)) (hb : Binds K fd d.ps [])
    (low : ∀ i, i < j → ∀ x, names[i]? = some x → FnF P w K mg base Z (Γ i) i x)
    (hc : bodyOf fuel u names j d = core) (har : ∀ ds Q, Γ j ds Q → ds.length = d.ps.length)
    (ob : ∀ ds Q, Γ j ds Q → wpB Γ G core (fin0 Q) (entry d.N.length ds)) : FnF P w K mg base Z (Γ j) j d.x := by
  refine ⟨f, fd, d.ps, d.ps.length, hm, F.kp, hb, ?_, har⟩
  refine F.ok S (fun vs H Q E h => h.1) (fun cdv A outer s H vs Q E hr h => ?_)
  obtain ⟨hl, W, ds, sub, hi, wm, rp, hg⟩ := h
  have hpl : d.ps.length ≤ d.N.length := by have := congrArg List.length S.pre; rw [List.length_take] at this; omega
  have good : Good (cxOf CX0 P w K mg base d.N d.x (defScope d.st) f cdv A outer s H E).nox (u.sc names j d) Z Γ G := by
    refine ⟨rfl, S.nd, rfl, S.kind, rfl, PassesOwn.never, fun _ _ => rfl, U.blt, U.gcd, U.gl, fun i x hx => ?_, ?_⟩
    · have hx : (names.take j)[i]? = some x := hx
      rw [List.getElem?_take] at hx
      split at hx
      · rename_i hi
        obtain ⟨f, fd, ps, n, a, b, c, e, q⟩ := low i hi x hx
        exact ⟨f, fd, ps, n, a, b, c, e, q⟩
      · cases hx
    · refine Room.mono hr ?_
      show (names.take j).length ≤ j
      rw [List.length_take]; omega
  refine ⟨tB K Z Γ G core, ?_, H, W, entry d.N.length ds, W, ?_, wpB_mono Γm _ (fin0 fun r => ∀ v W' H', Go Z W H W' H' → VR K Z H W' H' v r → Q v H') _ _ ⟨fun ρ q σ1 W1 H1 a1 => ?_, fun r q v W1 H1 g vr => q v W1 H1 g vr, fun _ q => q.elim, fun _ q => q.elim⟩ (ob ds _ hg)⟩
  · rw [← hc]
    exact ss_block Γm (snd_s Γm fuel) good (defBody d.st)
  · have hn : ds.length = vs.length := rp.length.symm
    refine ⟨fun _ => 0, ?_, sub, fun _ _ h => h, fun a h => .inl h, fun a o h _ => h, hi, wm, fun i e h => ?_, fun i es h => ?_, fun i k es fs h => ?_⟩
    · unfold entry L2.start
      rw [List.length_append, List.length_append, List.length_map, List.length_map, List.length_replicate, List.length_replicate, hn]
    · unfold entry at h
      by_cases hi : i < ds.length
      · rw [List.getElem?_append_left (by rw [List.length_map]; exact hi), List.getElem?_map] at h
        cases q : ds[i]? with
        | none => rw [q] at h; cases h
        | some e' =>
          rw [q] at h
          injection h with h; injection h with h; injection h with h
          subst h
          obtain ⟨v, k1, k2⟩ := rp.get q
          refine ⟨v, ?_, k2⟩
          unfold L2.start
          rw [List.getElem?_append_left (by rw [List.length_map, ← hn]; exact hi), List.getElem?_map, k1]; rfl
      · rw [List.getElem?_append_right (by rw [List.length_map]; omega), List.getElem?_replicate] at h
        split at h <;> cases h
    · exfalso
      unfold entry at h
      by_cases hi : i < ds.length
      · rw [List.getElem?_append_left (by rw [List.length_map]; exact hi), List.getElem?_map] at h
        cases q : ds[i]? with
        | none => rw [q] at h; cases h
        | some e' => rw [q] at h; injection h with h; injection h with h; cases h
      · rw [List.getElem?_append_right (by rw [List.length_map]; omega), List.getElem?_replicate] at h
        split at h <;> cases h
    · exfalso
      unfold entry at h
      by_cases hi : i < ds.length
      · rw [List.getElem?_append_left (by rw [List.length_map]; exact hi), List.getElem?_map] at h
        cases q : ds[i]? with
        | none => rw [q] at h; cases h
        | some e' => rw [q] at h; injection h with h; injection h with h; cases h
      · rw [List.getElem?_append_right (by rw [List.length_map]; omega), List.getElem?_replicate] at h
        split at h <;> cases h
  · exact q (.non) W1 H1 a1.entry .non
omit Γm in
/-- all defs, one after another -/
theorem fn_all {n : Nat} (step : ∀ j, j < n → (∀ i, i < j → ∀ x, names[i]? = some x → FnF P w K mg base Z (Γ i) i x) → ∀ x, names[j]? = some x → FnF P w K mg base Z (Γ j) j x) :
    ∀ j, j < n → ∀ x, names[j]? = some x → FnF P w K mg base Z (Γ j) j x := by
  intro j
  induction j using Nat.strongRecOn with
  | ind j ih => exact fun hj => step j hj fun i hi => ih i hi (Nat.lt_trans hi hj)
end
end Gx
set_option maxHeartbeats 4000000
/-! Gx, part Q: plain facts on data. -/
namespace Gx
open PySem PySem.Spec PyProof.Rows L2
mutual
/-- whole numbers, tuples and lists of such, no deeper than n -/
def okI : Nat → D → Bool
  | _, .int _ => true
  | n + 1, .tup xs => okIs n xs
  | n + 1, .lst xs => okIs n xs
  | _, _ => false
def okIs : Nat → List D → Bool
  | _, [] => true
  | n, d :: ds => okI n d && okIs n ds
end
mutual
theorem okI_clean : ∀ (n : Nat) (d : D), okI n d = true → d.clean = true
  | _, .int _, _ => by simp [D.clean]
  | n + 1, .tup xs, h => by rw [okI] at h; rw [D.clean]; exact okIs_clean n xs h
  | n + 1, .lst xs, h => by rw [okI] at h; rw [D.clean]; exact okIs_clean n xs h
  | 0, .tup xs, h => by simp [okI] at h
  | 0, .lst xs, h => by simp [okI] at h
  | _, .non, h => by simp [okI] at h
  | _, .bl _, h => by simp [okI] at h
  | _, .str _, h => by simp [okI] at h
  | _, .hd _, h => by simp [okI] at h
theorem okIs_clean : ∀ (n : Nat) (ds : List D), okIs n ds = true → D.cleans ds = true
  | _, [], _ => by simp [D.cleans]
  | n, d :: ds, h => by rw [okIs, Bool.and_eq_true] at h; rw [D.cleans, Bool.and_eq_true]; exact ⟨okI_clean n d h.1, okIs_clean n ds h.2⟩
end
mutual
theorem okI_lay : ∀ (n : Nat) (d : D), okI n d = true → PyData.canLay0 d.py = true ∧ d.py.depth ≤ n
  | _, .int _, _ => by simp [D.py, PyData.canLay0, PyData.depth]
  | n + 1, .tup xs, h => by
    rw [okI] at h; have := okIs_lay n xs h
    rw [D.py, PyData.canLay0, PyData.depth]; exact ⟨this.1, Nat.succ_le_succ this.2⟩
  | n + 1, .lst xs, h => by
    rw [okI] at h; have := okIs_lay n xs h
    rw [D.py, PyData.canLay0, PyData.depth]; exact ⟨this.1, Nat.succ_le_succ this.2⟩
  | 0, .tup xs, h => by simp [okI] at h
  | 0, .lst xs, h => by simp [okI] at h
  | _, .non, h => by simp [okI] at h
  | _, .bl _, h => by simp [okI] at h
  | _, .str _, h => by simp [okI] at h
  | _, .hd _, h => by simp [okI] at h
theorem okIs_lay : ∀ (n : Nat) (ds : List D), okIs n ds = true → PyData.canLayAll0 (D.pys ds) = true ∧ PyData.depthAll (D.pys ds) ≤ n
  | _, [], _ => by simp [D.pys, PyData.canLayAll0, PyData.depthAll]
  | n, d :: ds, h => by
    rw [okIs, Bool.and_eq_true] at h
    have h1 := okI_lay n d h.1
    have h2 := okIs_lay n ds h.2
    rw [D.pys, PyData.canLayAll0, PyData.depthAll, Bool.and_eq_true]
    exact ⟨⟨h1.1, h2.1⟩, Nat.max_le.mpr ⟨h1.2, h2.2⟩⟩
end
theorem okI_fine {n : Nat} {d : D} (hn : n ≤ 64) (h : okI n d = true) : Fine d := by
  have := okI_lay n d h
  refine ⟨okI_clean n d h, ?_⟩
  unfold SeqAt.shaped
  rw [Bool.and_eq_true]
  exact ⟨this.1, decide_eq_true (Nat.le_trans this.2 hn)⟩
mutual
theorem okI_eqv : ∀ (n : Nat) (d e : D) (m : Nat), okI n d = true → okI m e = true → (PyData.eqv d.py e.py = true ↔ d = e)
  | _, .int i, .int j, _, _, _ => by simp [D.py, PyData.eqv]
  | n + 1, .tup xs, .tup ys, m + 1, h, h2 => by
    rw [okI] at h h2; rw [D.py, D.py, PyData.eqv, D.tup.injEq]; exact okIs_eqv n xs ys m h h2
  | n + 1, .lst xs, .lst ys, m + 1, h, h2 => by
    rw [okI] at h h2; rw [D.py, D.py, PyData.eqv, D.lst.injEq]; exact okIs_eqv n xs ys m h h2
  | _, .int i, .tup ys, _, _, _ => by simp [D.py, PyData.eqv]
  | _, .int i, .lst ys, _, _, _ => by simp [D.py, PyData.eqv]
  | n, .tup xs, .int j, _, _, _ => by simp [D.py, PyData.eqv]
  | n, .lst xs, .int j, _, _, _ => by simp [D.py, PyData.eqv]
  | n, .tup xs, .lst j, _, _, _ => by simp [D.py, PyData.eqv]
  | n, .lst xs, .tup j, _, _, _ => by simp [D.py, PyData.eqv]
  | 0, .tup xs, .tup _, _, h, _ => by simp [okI] at h
  | 0, .lst xs, .lst _, _, h, _ => by simp [okI] at h
  | _, .tup xs, .tup _, 0, _, h => by simp [okI] at h
  | _, .lst xs, .lst _, 0, _, h => by simp [okI] at h
  | _, .non, _, _, h, _ => by simp [okI] at h
  | _, .bl _, _, _, h, _ => by simp [okI] at h
  | _, .str _, _, _, h, _ => by simp [okI] at h
  | _, .hd _, _, _, h, _ => by simp [okI] at h
  | _, _, .non, _, _, h => by simp [okI] at h
  | _, _, .bl _, _, _, h => by simp [okI] at h
  | _, _, .str _, _, _, h => by simp [okI] at h
  | _, _, .hd _, _, _, h => by simp [okI] at h
theorem okIs_eqv : ∀ (n : Nat) (ds es : List D) (m : Nat), okIs n ds = true → okIs m es = true → (PyData.eqvAll (D.pys ds) (D.pys es) = true ↔ ds = es)
  | _, [], [], _, _, _ => by simp [D.pys, PyData.eqvAll]
  | _, [], _ :: _, _, _, _ => by simp [D.pys, PyData.eqvAll]
  | _, _ :: _, [], _, _, _ => by simp [D.pys, PyData.eqvAll]
  | n, d :: ds, e :: es, m, h, h2 => by
    rw [okIs, Bool.and_eq_true] at h h2
    rw [D.pys, D.pys, PyData.eqvAll, Bool.and_eq_true, okI_eqv n d e m h.1 h2.1, okIs_eqv n ds es m h.2 h2.2, List.cons.injEq]
end
theorem cmp_eqI {n m : Nat} {x y : D} {Q : Bool → Prop} (hx : okI n x = true) (hy : okI m y = true) (hn : n ≤ 64 := by decide) (hm : m ≤ 64 := by decide) (k : ∀ b : Bool, (b = true ↔ x = y) → Q b) : cmpD .eq x y Q := by
  unfold cmpD
  exact ⟨okI_fine hn hx, okI_fine hm hy, k _ (okI_eqv n x y m hx hy)⟩
theorem cmp_neI {n m : Nat} {x y : D} {Q : Bool → Prop} (hx : okI n x = true) (hy : okI m y = true) (hn : n ≤ 64 := by decide) (hm : m ≤ 64 := by decide) (k : ∀ b : Bool, (b = true ↔ x ≠ y) → Q b) : cmpD .ne x y Q := by
  unfold cmpD
  refine ⟨okI_fine hn hx, okI_fine hm hy, k _ ?_⟩
  rw [Bool.not_eq_true', ← Bool.not_eq_true, okI_eqv n x y m hx hy]
theorem Fine_int (i : Int) : Fine (.int i) := okI_fine (n := 0) (by decide) (by simp [okI])
theorem Fine_bl (i : Bool) : Fine (.bl i) := ⟨by simp [D.clean], by simp [SeqAt.shaped, D.py, PyData.canLay0, PyData.depth]⟩
theorem cmpD_eq_int (i j : Int) (Q : Bool → Prop) : cmpD .eq (.int i) (.int j) Q = Q (decide (i = j)) := by
  simp only [cmpD, Fine_int, D.py, PyData.eqv, true_and]
  rfl
theorem cmpD_ne_int (i j : Int) (Q : Bool → Prop) : cmpD .ne (.int i) (.int j) Q = Q (!decide (i = j)) := by
  simp only [cmpD, Fine_int, D.py, PyData.eqv, true_and]
  rfl
theorem cmpD_eq_bl (i j : Bool) (Q : Bool → Prop) : cmpD .eq (.bl i) (.bl j) Q = Q (decide (i = j)) := by
  simp only [cmpD, Fine_bl, D.py, PyData.eqv, true_and]
  cases i <;> cases j <;> rfl
theorem cmpD_ne_bl (i j : Bool) (Q : Bool → Prop) : cmpD .ne (.bl i) (.bl j) Q = Q (!decide (i = j)) := by
  simp only [cmpD, Fine_bl, D.py, PyData.eqv, true_and]
  cases i <;> cases j <;> rfl
theorem cmpD_lt (i j : Int) (Q : Bool → Prop) : cmpD .lt (.int i) (.int j) Q = Q (decide (i < j)) := rfl
theorem cmpD_le (i j : Int) (Q : Bool → Prop) : cmpD .le (.int i) (.int j) Q = Q (decide (i ≤ j)) := rfl
theorem cmpD_gt (i j : Int) (Q : Bool → Prop) : cmpD .gt (.int i) (.int j) Q = Q (decide (j < i)) := rfl
theorem cmpD_ge (i j : Int) (Q : Bool → Prop) : cmpD .ge (.int i) (.int j) Q = Q (decide (j ≤ i)) := rfl
theorem cmpD_is (x : D) (Q : Bool → Prop) : cmpD .is x .non Q = ∃ k, isNon x = some k ∧ Q k := by simp [cmpD]
theorem cmpD_isnot (x : D) (Q : Bool → Prop) : cmpD .isnot x .non Q = ∃ k, isNon x = some k ∧ Q (!k) := by simp [cmpD]
theorem truQ_bl (Q : Bool → Prop) (b : Bool) : truQ Q (.sh (.bl b)) = Q b := by simp [truQ, Val.d, truD]
theorem atI_0 {α : Type} (x : α) (r : List α) : atI (x :: r) 0 = some x := by simp [atI, ixN]
theorem atI_1 {α : Type} (x y : α) (r : List α) : atI (x :: y :: r) 1 = some y := by
  have : (1 : Int) < (r.length : Int) + 1 + 1 := by omega
  simp [atI, ixN, this]
theorem atI_2 {α : Type} (x y z : α) (r : List α) : atI (x :: y :: z :: r) 2 = some z := by
  have : (2 : Int) < (r.length : Int) + 1 + 1 + 1 := by omega
  simp [atI, ixN, this]
theorem atI_3 {α : Type} (x y z w : α) (r : List α) : atI (x :: y :: z :: w :: r) 3 = some w := by
  have : (3 : Int) < (r.length : Int) + 1 + 1 + 1 + 1 := by omega
  simp [atI, ixN, this]
theorem atI_nat' {α : Type} {xs : List α} {i : Nat} {x : α} (h : xs[i]? = some x) : atI xs (i : Int) = some x := by
  have hl : i < xs.length := (List.getElem?_eq_some_iff.mp h).1
  have : (i : Int) < xs.length := by omega
  simp [atI, ixN, this, h]
theorem atI_last {α : Type} {xs : List α} {x : α} (h : xs.getLast? = some x) : atI xs (-1) = some x := by
  cases xs with
  | nil => simp at h
  | cons y r =>
    rw [List.getLast?_eq_getElem?] at h
    have e : ((r.length : Int) + 1 + -1).toNat = r.length := by omega
    have : -((r.length : Int) + 1) ≤ -1 := by omega
    simp [atI, ixN, this]
    rw [show (-1 + ((r.length : Int) + 1)).toNat = r.length by omega]
    simpa using h
theorem atI_m1 {α : Type} (ys : List α) (x : α) : atI (ys ++ [x]) (-1) = some x := atI_last (by simp)
end Gx
set_option maxHeartbeats 4000000
/-! Gx, part R: fractions. -/
namespace Gx
open PySem PySem.Spec PyProof.Rows L2
/-- a fraction in lowest terms, as the program holds it -/
def frD (x : Rat) : D := .tup [.int x.num, .int x.den]
/-- a fraction's room -/
def Bt (n : Nat) (x : Rat) : Prop := x.num.natAbs < 2 ^ n ∧ x.den < 2 ^ n
theorem natlog {n : Nat} {k : Nat} (h : n < 2 ^ k) (hk : 0 < k) : n.log2 < k := by
  by_cases h0 : n = 0
  · subst h0; simpa using hk
  · exact (Nat.log2_lt h0).2 h
theorem mulOk {n m : Nat} {i j : Int} (h : i.natAbs < 2 ^ n) (h2 : j.natAbs < 2 ^ m) (hn : n + m < 999990) : MulOk i j := by
  unfold MulOk
  have h3 := natlog (k := n + 1) (Nat.lt_of_lt_of_le h (Nat.pow_le_pow_right (by decide) (Nat.le_succ n))) (Nat.succ_pos n)
  have h4 := natlog (k := m + 1) (Nat.lt_of_lt_of_le h2 (Nat.pow_le_pow_right (by decide) (Nat.le_succ m))) (Nat.succ_pos m)
  omega
theorem divOk {n : Nat} {j : Int} (h0 : j ≠ 0) (h : j.natAbs < 2 ^ n) (hn : n < 8990) : DivOk j := by
  refine ⟨h0, ?_⟩
  have h3 := natlog (k := n + 1) (Nat.lt_of_lt_of_le h (Nat.pow_le_pow_right (by decide) (Nat.le_succ n))) (Nat.succ_pos n)
  omega
theorem bit_mul {n m : Nat} {i j : Int} (h : i.natAbs < 2 ^ n) (h2 : j.natAbs < 2 ^ m) : (i * j).natAbs < 2 ^ (n + m) := by
  rw [Int.natAbs_mul, Nat.pow_add]
  exact Nat.mul_lt_mul'' h h2
theorem bit_mono {n m : Nat} {i : Int} (h : i.natAbs < 2 ^ n) (hm : n ≤ m) : i.natAbs < 2 ^ m := Nat.lt_of_lt_of_le h (Nat.pow_le_pow_right (by decide) hm)
theorem bit_add {n : Nat} {i j : Int} (h : i.natAbs < 2 ^ n) (h2 : j.natAbs < 2 ^ n) : (i + j).natAbs < 2 ^ (n + 1) := by
  rw [Nat.pow_succ]
  have := Int.natAbs_add_le i j
  omega
theorem bit_sub {n : Nat} {i j : Int} (h : i.natAbs < 2 ^ n) (h2 : j.natAbs < 2 ^ n) : (i - j).natAbs < 2 ^ (n + 1) := by
  rw [Nat.pow_succ]
  have := Int.natAbs_sub_le i j
  omega
theorem divOk64 {j : Int} (h0 : j ≠ 0) (h : j.natAbs < 2 ^ 64) : DivOk j := divOk h0 h (by decide)
theorem rat_parts (x : Rat) : (x.num : Rat) / ((x.den : Int) : Rat) = x := by
  rw [← Rat.divInt_eq_div, Rat.num_divInt_den]
theorem fr_of {p q : Int} (hq : 0 < q) : (D.tup [.int (p.fdiv (Nat.gcd p.natAbs q.natAbs : Nat)), .int (q.fdiv (Nat.gcd p.natAbs q.natAbs : Nat))]) = frD ((p : Rat) / (q : Rat)) := by
  have hg : q.gcd p = Nat.gcd p.natAbs q.natAbs := by rw [Int.gcd, Nat.gcd_comm]
  have hg0 : (0 : Int) ≤ (Nat.gcd p.natAbs q.natAbs : Nat) := Int.natCast_nonneg _
  rw [← Rat.divInt_eq_div]
  unfold frD
  rw [Rat.num_divInt, Rat.den_divInt, hg, if_neg (by omega), Int.sign_eq_one_of_pos hq, Int.one_mul, Int.fdiv_eq_ediv_of_nonneg _ hg0, Int.fdiv_eq_ediv_of_nonneg _ hg0]
  congr 3
  rw [Int.natCast_ediv, Int.natAbs_of_nonneg (by omega)]
theorem bt_of {n : Nat} {p q : Int} (hq : 0 < q) (h1 : p.natAbs < 2 ^ n) (h2 : q.natAbs < 2 ^ n) : Bt n ((p : Rat) / (q : Rat)) := by
  rw [← Rat.divInt_eq_div]
  unfold Bt
  rw [Rat.num_divInt, Rat.den_divInt, if_neg (by omega), Int.sign_eq_one_of_pos hq, Int.one_mul]
  refine ⟨Nat.lt_of_le_of_lt ?_ h1, Nat.lt_of_le_of_lt (Nat.div_le_self _ _) h2⟩
  exact Int.natAbs_ediv_le_natAbs _ _
theorem ratpos {q : Int} (h : 0 < q) : (q : Rat) ≠ 0 := fun e => by
  have := Rat.intCast_pos.mpr h
  rw [e] at this; exact absurd this (by decide)
theorem rat_eq0 {x : Rat} : x.num = 0 ↔ x = 0 := Rat.num_eq_zero
theorem lt_parts {a b c d : Int} (hb : 0 < b) (hd : 0 < d) : (a : Rat) / b < (c : Rat) / d ↔ a * d < c * b := by
  rw [Rat.div_lt_iff (Rat.intCast_pos.mpr hb), ← Rat.intCast_lt_intCast (a := a * d)]
  have e : (c : Rat) / d * b = ((c * b : Int) : Rat) / d := by
    rw [Rat.intCast_mul]; have := ratpos hd; grind
  rw [e, Rat.lt_div_iff (Rat.intCast_pos.mpr hd), Rat.intCast_mul, Rat.intCast_mul]
end Gx
set_option maxHeartbeats 4000000
/-! Gx, part S: rules for reading. -/
namespace Gx
section
variable {ρ : Ev} {i j : Nat} {d : D} {ds : List D} {t : CT} {ts : List CT} {v : Val} {Q : Ev → Prop}
theorem stD_var : stD (.var i) v ρ Q = Q (ρ.set i (some v)) := rfl
theorem stD_tup : stD (.tup ts) v ρ Q = tgD (.tup ts) v.d ρ Q := rfl
theorem tgD_var : tgD (.var i) d ρ Q = Q (ρ.set i (some (.sh d))) := by rw [tgD]
theorem tgD_tt : tgD (.tup ts) (.tup ds) ρ Q = (ts.length = ds.length ∧ tgsD ts ds ρ Q) := by rw [tgD]
theorem tgD_tl : tgD (.tup ts) (.lst ds) ρ Q = (ts.length = ds.length ∧ tgsD ts ds ρ Q) := by rw [tgD]
theorem tgsD_nil : tgsD [] [] ρ Q = Q ρ := by rw [tgsD]
theorem tgsD_cons : tgsD (t :: ts) (d :: ds) ρ Q = tgD t d ρ fun ρ' => tgsD ts ds ρ' Q := by rw [tgsD]
theorem give_nil : give ρ [] = ρ := rfl
theorem give_one (v : Val) (is : List Nat) (h : (give ρ is)[i]? = some (some v)) : give ρ (i :: is) = (give ρ is).set i (some (giveV v)) := by rw [give, h]
end
section
variable {ρ : Ev} {w : (Val → Prop) → Prop} {Q : D → Prop} {a b c : CE} {e : List CE}
theorem pk_var (i : Nat) : pk (.var i) ρ w Q = ∃ d, ρ.data i = some d ∧ Q d := rfl
theorem pk_cst (d : D) : pk (.cst d) ρ w Q = w fun r => Q r.d := rfl
theorem pk_glc (d : Nat) : pk (.glc d) ρ w Q = w fun r => Q r.d := rfl
theorem pk_bin (o : BO) : pk (.bin o a b) ρ w Q = w fun r => Q r.d := rfl
theorem pk_neg : pk (.neg a) ρ w Q = w fun r => Q r.d := rfl
theorem pk_not : pk (.not a) ρ w Q = w fun r => Q r.d := rfl
theorem pk_cmp (o : CO) : pk (.cmp o a b) ρ w Q = w fun r => Q r.d := rfl
theorem pk_chain (o o2 : CO) : pk (.chain o o2 a b c) ρ w Q = w fun r => Q r.d := rfl
theorem pk_and : pk (.and a b) ρ w Q = w fun r => Q r.d := rfl
theorem pk_or : pk (.or a b) ρ w Q = w fun r => Q r.d := rfl
theorem pk_ife : pk (.ife a b c) ρ w Q = w fun r => Q r.d := rfl
theorem pk_tup : pk (.tup e) ρ w Q = w fun r => Q r.d := rfl
theorem pk_lst : pk (.lst e) ρ w Q = w fun r => Q r.d := rfl
theorem pk_idx : pk (.idx a b) ρ w Q = w fun r => Q r.d := rfl
theorem pk_sl (l h : Option CE) : pk (.sl a l h) ρ w Q = w fun r => Q r.d := rfl
theorem pk_rev : pk (.rev a) ρ w Q = w fun r => Q r.d := rfl
theorem pk_isi (t : TK) : pk (.isi t a) ρ w Q = w fun r => Q r.d := rfl
theorem pk_maxK (f : Nat) : pk (.maxK f a) ρ w Q = w fun r => Q r.d := rfl
theorem pk_call (f : Nat) : pk (.call f e) ρ w Q = w fun r => Q r.d := rfl
theorem pk_prim (p : PK) : pk (.prim p e) ρ w Q = w fun r => Q r.d := rfl
theorem pk_comp (own : List Nat) (t : CT) (k : IK) (e2 : List CE) : pk (.comp own a t k e e2) ρ w Q = w fun r => Q r.d := rfl
end
section
variable {ρ : Ev} {w : (Val → Prop) → Prop} {Q : Val → Prop} {a b c : CE} {e : List CE}
theorem rt_var (i : Nat) : rtD (.var i) ρ w Q = ∃ v, ρ[i]? = some (some v) ∧ Q v := rfl
theorem rt_cst (d : D) : rtD (.cst d) ρ w Q = w Q := rfl
theorem rt_glc (d : Nat) : rtD (.glc d) ρ w Q = w Q := rfl
theorem rt_bin (o : BO) : rtD (.bin o a b) ρ w Q = w Q := rfl
theorem rt_neg : rtD (.neg a) ρ w Q = w Q := rfl
theorem rt_not : rtD (.not a) ρ w Q = w Q := rfl
theorem rt_cmp (o : CO) : rtD (.cmp o a b) ρ w Q = w Q := rfl
theorem rt_chain (o o2 : CO) : rtD (.chain o o2 a b c) ρ w Q = w Q := rfl
theorem rt_and : rtD (.and a b) ρ w Q = w Q := rfl
theorem rt_or : rtD (.or a b) ρ w Q = w Q := rfl
theorem rt_ife : rtD (.ife a b c) ρ w Q = w Q := rfl
theorem rt_tup : rtD (.tup e) ρ w Q = w Q := rfl
theorem rt_lst : rtD (.lst e) ρ w Q = w Q := rfl
theorem rt_idx : rtD (.idx a b) ρ w Q = w Q := rfl
theorem rt_sl (l h : Option CE) : rtD (.sl a l h) ρ w Q = w Q := rfl
theorem rt_rev : rtD (.rev a) ρ w Q = w Q := rfl
theorem rt_isi (t : TK) : rtD (.isi t a) ρ w Q = w Q := rfl
theorem rt_maxK (f : Nat) : rtD (.maxK f a) ρ w Q = w Q := rfl
theorem rt_call (f : Nat) : rtD (.call f e) ρ w Q = w Q := rfl
theorem rt_prim (p : PK) : rtD (.prim p e) ρ w Q = w Q := rfl
theorem rt_comp (own : List Nat) (t : CT) (k : IK) (e2 : List CE) : rtD (.comp own a t k e e2) ρ w Q = w Q := rfl
end
section
variable {ρ : Ev} {i : Nat} {v : Val} {x : Option (Option Val)}
/-- a name's value, by what stands at its place -/
def gD : Option (Option Val) → Option D
  | some (some v) => some v.d
  | _ => none
def gS : Option (Option Val) → Option D
  | some (some (.sh d)) => some d
  | _ => none
def gO : Option (Option Val) → Option (List D)
  | some (some (.ow d)) => some d
  | _ => none
theorem data_eq : Ev.data ρ i = gD ρ[i]? := rfl
theorem shr_eq : Ev.shr ρ i = gS ρ[i]? := rfl
theorem own_eq : Ev.own ρ i = gO ρ[i]? := rfl
theorem gD_s : gD (some (some v)) = some v.d := rfl
theorem gS_s {d : D} : gS (some (some (.sh d))) = some d := rfl
theorem gO_s {d : List D} : gO (some (some (.ow d))) = some d := rfl
def gG (ρ : Ev) (i : Nat) : Option (Option Val) → Ev
  | some (some v) => ρ.set i (some (giveV v))
  | _ => ρ
theorem give_cons {is : List Nat} : give ρ (i :: is) = gG (give ρ is) i (give ρ is)[i]? := by
  rw [give]; unfold gG; rfl
theorem gG_s : gG ρ i (some (some v)) = ρ.set i (some (giveV v)) := rfl
theorem gG_n : gG ρ i (some none) = ρ := rfl
theorem giveV_sh {d : D} : giveV (.sh d) = .sh d := rfl
theorem giveV_ow {d : List D} : giveV (.ow d) = .sh (.lst d) := rfl
theorem vd_sh {d : D} : Val.d (.sh d) = d := rfl
theorem vd_ow {d : List D} : Val.d (.ow d) = .lst d := rfl
end
section
variable {Q : Val → Prop} {R : List D → Prop} {B : Bool → Prop} {I : Int → Prop} {i j : Int} {xs ys : List D} {b : Bool} {x : D}
theorem b_add : binD .add (.int i) (.int j) Q = Q (.sh (.int (i + j))) := rfl
theorem b_sub : binD .sub (.int i) (.int j) Q = Q (.sh (.int (i - j))) := rfl
theorem b_mul : binD .mul (.int i) (.int j) Q = (MulOk i j ∧ Q (.sh (.int (i * j)))) := rfl
theorem b_fdiv : binD .fdiv (.int i) (.int j) Q = (DivOk j ∧ Q (.sh (.int (i.fdiv j)))) := rfl
theorem b_mod : binD .mod (.int i) (.int j) Q = (j ≠ 0 ∧ Q (.sh (.int (i.fmod j)))) := rfl
theorem b_pow : binD .pow (.int i) (.int j) Q = ((0 ≤ j ∧ j ≤ 1000000 ∧ i.natAbs < 2 ^ 64) ∧ Q (.sh (.int (i ^ j.toNat)))) := rfl
theorem b_addL : binD .add (.lst xs) (.lst ys) Q = (xs.length + ys.length ≤ 16777216 ∧ Q (.ow (xs ++ ys))) := rfl
theorem b_addT : binD .add (.tup xs) (.tup ys) Q = (xs.length + ys.length ≤ 16777216 ∧ Q (.sh (.tup (xs ++ ys)))) := rfl
theorem b_mulL : binD .mul (.lst xs) (.int j) Q = ((0 ≤ j ∧ j ≤ 1000000 ∧ xs.length * j.toNat ≤ 16777216) ∧ Q (.ow (List.replicate j.toNat xs).flatten)) := rfl
theorem x_t : idxD (.tup xs) (.int i) Q = ∃ v, L2.atI xs i = some v ∧ Q (.sh v) := rfl
theorem x_l : idxD (.lst xs) (.int i) Q = ∃ v, L2.atI xs i = some v ∧ Q (.sh v) := rfl
theorem s_l {lo hi : Option Int} : slD (.lst xs) lo hi Q = Q (.ow (cutD xs lo hi)) := rfl
theorem s_t {lo hi : Option Int} : slD (.tup xs) lo hi Q = Q (.sh (.tup (cutD xs lo hi))) := rfl
theorem p_lenT : primD .len [.tup xs] Q = Q (.sh (.int xs.length)) := rfl
theorem p_lenL : primD .len [.lst xs] Q = Q (.sh (.int xs.length)) := rfl
theorem p_abs : primD .abs [.int i] Q = Q (.sh (.int (if i < 0 then -i else i))) := rfl
theorem p_int : primD .int [.int i] Q = Q (.sh (.int i)) := rfl
theorem p_intb : primD .int [.bl b] Q = Q (.sh (.int (if b then 1 else 0))) := rfl
theorem p_listT : primD .list [.tup xs] Q = Q (.ow xs) := rfl
theorem p_listL : primD .list [.lst xs] Q = Q (.ow xs) := rfl
theorem p_tupT : primD .tuple [.tup xs] Q = Q (.sh (.tup xs)) := rfl
theorem p_tupL : primD .tuple [.lst xs] Q = Q (.sh (.tup xs)) := rfl
theorem p_gcd : primD .gcd [.int i, .int j] Q = Q (.sh (.int ((Nat.gcd i.natAbs j.natAbs : Nat) : Int))) := rfl
theorem p_min : primD .min [.int i, .int j] Q = Q (.sh (.int (if j < i then j else i))) := rfl
theorem p_max : primD .max [.int i, .int j] Q = Q (.sh (.int (if j > i then j else i))) := rfl
theorem p_sum : primD .sum [.lst xs] Q = ∃ ns, intsD xs = some ns ∧ Q (.sh (.int ns.sum)) := rfl
theorem i_t : itsD .seq [.tup xs] R = R xs := rfl
theorem i_l : itsD .seq [.lst xs] R = R xs := rfl
theorem i_r1 : itsD .range [.int j] R = ((j ≤ 2 ^ 62 - 1 ∧ -(2 ^ 62) ≤ j) ∧ R ((List.range j.toNat).map fun i => .int (i : Nat))) := rfl
theorem i_r2 : itsD .range [.int i, .int j] R = ((-(2 ^ 62) ≤ i ∧ i < 2 ^ 62 ∧ -(2 ^ 62) ≤ j ∧ j < 2 ^ 62) ∧ R ((List.range (j - i).toNat).map fun n => .int (i + (n : Nat)))) := rfl
theorem i_zt : itsD .zip [.tup xs, .tup ys] R = R (List.zipWith (fun a b => .tup [a, b]) xs ys) := rfl
theorem i_zl : itsD .zip [.lst xs, .lst ys] R = R (List.zipWith (fun a b => .tup [a, b]) xs ys) := rfl
theorem n_i : negD (.sh (.int i)) Q = Q (.sh (.int (-i))) := rfl
theorem bo_b : boolD (.sh (.bl b)) B = B b := rfl
theorem in_i : intD (.sh (.int i)) I = I i := rfl
theorem tr_n : truD .non = some false := rfl
theorem tr_b : truD (.bl b) = some b := rfl
theorem tr_i : truD (.int i) = some (i != 0) := rfl
theorem tr_t : truD (.tup xs) = some (!xs.isEmpty) := rfl
theorem tr_l : truD (.lst xs) = some (!xs.isEmpty) := rfl
theorem nn_n : isNon .non = some true := rfl
theorem nn_t : isNon (.tup xs) = some false := rfl
theorem nn_l : isNon (.lst xs) = some false := rfl
theorem nn_i : isNon (.int i) = some false := rfl
theorem nn_b : isNon (.bl b) = some false := rfl
theorem isiD_eq {t : TK} : isiD t x B = ∃ k, isD t x = some k ∧ B k := rfl
theorem au_a {R : D → Prop} : augD .add (.int i) (.int j) R = R (.int (i + j)) := rfl
theorem au_s {R : D → Prop} : augD .sub (.int i) (.int j) R = R (.int (i - j)) := rfl
theorem tru_sh {k : Val} : truQ B k = ∃ b, truD k.d = some b ∧ B b := rfl
theorem wi_n {ρ : Ev} : wipeE ρ [] = ρ := rfl
theorem wi_c {ρ : Ev} {v : Nat} {vs : List Nat} : wipeE ρ (v :: vs) = (wipeE ρ vs).set v none := rfl
theorem set_0 {ρ : Ev} {x y : Option Val} : List.set (x :: ρ) 0 y = y :: ρ := rfl
theorem set_s {ρ : Ev} {x y : Option Val} {n : Nat} : List.set (x :: ρ) (n + 1) y = x :: ρ.set n y := rfl
theorem ite_b {p q : Prop} (c : Prop) [Decidable c] : (if decide c = true then p else q) ↔ (if c then p else q) := by
  by_cases h : c <;> simp [h]
end
theorem step_cons {Γ : Nat → Con} {G : Nat → D} {s : CS} {ss : List CS} {k : Gx.Fin} {ρ : Ev} (h : wpS Γ G s { k with nx := wpB Γ G ss k } ρ) : wpB Γ G (s :: ss) k ρ := by rw [wpB]; exact h
theorem step_nil {Γ : Nat → Con} {G : Nat → D} {k : Gx.Fin} {ρ : Ev} (h : k.nx ρ) : wpB Γ G [] k ρ := by rw [wpB]; exact h
theorem step_nil_eq {Γ : Nat → Con} {G : Nat → D} {k : Gx.Fin} {ρ : Ev} : wpB Γ G [] k ρ = k.nx ρ := by rw [wpB]
end Gx
set_option maxHeartbeats 4000000
namespace Lw
open PySem PySem.Spec PyProof.Rows L2 Gx
def topS (i : Nat) : Stmt := PySem.Challenge.pw_threecorners_k35_whole_ford_chains.main.body.getD i (.Pass ⟨0, 0, 0, 0⟩)
abbrev sState : Stmt := topS 11
abbrev sDraw : Stmt := topS 12
/-! ### the draws' state -/
theorem scDraw : FnScope ["state", "many", "cells", "value", "mixed"] ["state", "many"] (defScope sDraw) := ⟨rfl, rfl, rfl, by decide +kernel, rfl, by decide +kernel, by decide +kernel⟩
theorem scState : FnScope ["script", "seed", "cell"] ["script"] (defScope sState) := ⟨rfl, rfl, rfl, by decide +kernel, rfl, by decide +kernel, by decide +kernel⟩
/-- the state's objects: the list of both, the list of the cells -/
def Zd (a c : Addr) : Hd where
  v := fun n => if n = 0 then some (.ref a) else none
  M := fun b => b = a ∨ b = c
  HI := fun H => a ≠ c ∧ ∃ (m : Int) (cells : List Int), H a = some (.lst [.ref c, .int m]) ∧ H c = some (.lst (cells.map V.int)) ∧ 0 ≤ m ∧ m < 2147483647
  track := fun H b ⟨_, m, cells, h1, h2, _⟩ hb => by
    rcases hb with rfl | rfl
    · rw [h1]; simp
    · rw [h2]; simp
  stay := fun H p o ⟨ne, m, cells, h1, h2, h3⟩ hp => ⟨ne, m, cells, by rw [upd_ne (fun e => hp (.inl e.symm))]; exact h1, by rw [upd_ne (fun e => hp (.inr e.symm))]; exact h2, h3⟩
def conDraw : Con := fun ds Q => ∃ many : Int, ds = [.hd 0, .int many] ∧ 0 < many ∧ many < 1073741824 ∧ ∀ d : Int, 0 ≤ d → d < many → Q (.sh (.int d))
theorem ite_no {c : Prop} [Decidable c] {α : Prop} {β : Prop} (h : ¬ c) (k : β) : (if c then α else β) := by rw [if_neg h]; exact k
theorem ite_yes {c : Prop} [Decidable c] {α : Prop} {β : Prop} (h : c) (k : α) : (if c then α else β) := by rw [if_pos h]; exact k
theorem dvSmall {m : Int} (h : 0 < m) (h1 : m < 1073741824) : DivOk m := ⟨by omega, by have := (Nat.log2_lt (n := m.natAbs) (k := 30) (by omega)).2 (by omega); omega⟩
section
variable {P : Program} {w : World} {K : PySem.W.Frag} {mg : Str → Option Value} {base : Heap}
theorem ok_draw {a c : Addr} {f : Addr} {fd : FuncData} (j : Nat) (F : Fun K "_law_draw" "_law_draw" sDraw f fd) (ml : mg "len" = none) (mi : mg "int" = none) : FnOk P w K mg base CX0 (j + 1) f fd ["state", "many"] (spG K (Zd a c) conDraw 2) := by
  refine F.ok scDraw (fun vs H Q E h => h.1) (fun cdv A outer s H vs Q E hr h => ?_)
  obtain ⟨hl, W, ds, sub, hi, wm, rp, many, rfl, hm0, hm1, hq⟩ := h
  have nd := scDraw.nd
  refine ⟨_, pss_cons (ps_set (i := 2) nd rfl (.inl rfl) (pe_ix ix_list (pv 0) pe_int (fun _ _ => rfl)))
    (pss_cons (ps_while PassesOwn.never (PW.pt (pw_and (pt_cmpR op_gt (pe_callB call_len_seq (by rfl) ml PySem.boot_len (pa_cons (pv 2) pa_nil)) pe_int (nomark _)) (pw_and1 (pt_cmpR op_eq (pe_ix ix_list (pv 2) pe_int (fun _ _ => rfl)) pe_int (nomark _)))))
        (pss_one (ps_expr (pe_bm PySem.F.plainAttrs_list PySem.F.slot_list_pop PySem.F.type_list_pop mt_popAt (pv 2) (pa_cons pe_int pa_nil)))))
    (pss_cons (ps_if (pt_cmpR op_gt (pe_callB call_len_seq (by rfl) ml PySem.boot_len (pa_cons (pv 2) pa_nil)) pe_int (nomark _))
        (pss_cons (ps_set (i := 3) nd rfl (.inl rfl) (pe_ix ix_list (pv 2) pe_int (fun _ _ => rfl)))
        (pss_cons (ps_asg (pe_op gop_fdiv (pv 3) (pv 1)) (pg_sub (pv 2) pe_int set_list))
        (pss_one (ps_ret (pe_op op_modN (pe_callTy call_int1 (by rfl) mi PyProof.Rows.boot_int (pa_cons (pv 3) pa_nil)) (pv 1)))))) pss_nil)
    (pss_cons (ps_set (i := 4) nd rfl (.inl rfl) (pe_op op_mod (pe_callTy call_int1 (by rfl) mi PyProof.Rows.boot_int (pa_cons (pe_op op_add (pe_op op_mul (pe_ix ix_list (pv 0) pe_int (fun _ _ => rfl)) pe_int) pe_int) pa_nil)) pe_int))
    (pss_cons (ps_asg (pv 4) (pg_sub (pv 0) pe_int set_list))
    (pss_one (ps_ret (pe_op op_modN (pe_callTy call_int1 (by rfl) mi PyProof.Rows.boot_int (pa_cons (pe_op op_fdiv (pv 4) pe_int) pa_nil)) (pv 1)))))))), ?_⟩
  cases rp with
  | cons r1 rp =>
  cases rp with
  | cons r2 rp =>
  cases rp
  cases r2
  cases r1 with
  | hd e0 =>
  have e0 : some (V.ref a) = some _ := e0
  cases e0
  obtain ⟨ne, m, cells, h1, h2, h3, h4⟩ := hi
  -- the end, whatever stands there
  have fin : ∀ (H' : Hp) (m' : Int) (cs : List Int) (d : Int), H' a = some (.lst [.ref c, .int m']) → H' c = some (.lst (cs.map V.int)) → 0 ≤ m' → m' < 2147483647 → (∀ b, b ≠ a → b ≠ c → H' b = H b) → 0 ≤ d → d < many → Q (.int d) H' := fun H' m' cs d k1 k2 k3 k4 k5 d0 d1 => by
    refine hq d d0 d1 (.int d) W H' ⟨fun _ _ z => z, fun b o e hm => ?_, fun b z => .inl z, fun b o e => ?_, ⟨ne, m', cs, k1, k2, k3, k4⟩, wm⟩ (.int d)
    · rw [k5 b (fun z => hm (.inl z)) (fun z => hm (.inr z))]; exact e
    · have hm : ¬ (b = a ∨ b = c) := fun z => by rw [wm b z] at e; cases e
      rw [k5 b (fun z => hm (.inl z)) (fun z => hm (.inr z))]; exact sub b o e
  refine ⟨.ref a, rfl, a, [.ref c, .int m], 0, .ref c, rfl, rfl, SqL.of h1, atI_nat (j := 0) rfl, ?_⟩
  refine ⟨fun n σ H' => σ = [some (.ref a), some (.int many), some (.ref c), none, none] ∧ ∃ cs : List Int, cs.length = n ∧ H' c = some (.lst (cs.map V.int)) ∧ ∀ b, b ≠ c → H' b = H b, ⟨cells.length, rfl, cells, rfl, h2, fun _ _ => rfl⟩, ?_⟩
  rintro n σ H' ⟨rfl, cs, rfl, k1, k2⟩
  have ka : H' a = some (.lst [.ref c, .int m]) := by rw [k2 a ne]; exact h1
  rcases cs with _ | ⟨x, cs⟩
  · -- nothing is given any more
    refine ⟨.ref c, rfl, c, [], rfl, .inl (SqL.of k1), _, _, rfl, rfl, _, rfl, ?_⟩
    refine ite_no (by simp) ?_
    refine ite_no (by simp) ?_
    refine ⟨.ref c, rfl, c, [], rfl, .inl (SqL.of k1), _, _, rfl, rfl, _, rfl, ?_⟩
    refine ite_no (by simp) ?_
    refine ⟨.ref a, rfl, a, [.ref c, .int m], 1, .int m, rfl, rfl, SqL.of ka, atI_nat (j := 1) rfl, _, _, rfl, rfl, .inr (by omega), _, _, rfl, rfl, .inl ⟨m * 48271 + 12345, rfl, _, _, rfl, rfl, show (0:Int) < 2147483647 by decide, ?_⟩⟩
    have e1 : 0 ≤ (m * 48271 + 12345) % 2147483647 := Int.emod_nonneg _ (by decide)
    have e2 : (m * 48271 + 12345) % 2147483647 < 2147483647 := Int.emod_lt_of_pos _ (by decide)
    refine ⟨_, rfl, .ref a, rfl, a, [.ref c, .int m], 1, 1, rfl, rfl, ka, rfl, ?_⟩
    refine ⟨_, rfl, _, _, rfl, rfl, ⟨by decide, by decide⟩, .inl ⟨_, rfl, ?_⟩⟩
    refine ⟨_, rfl, _, _, rfl, rfl, (by omega), ?_⟩
    refine fin _ ((m * 48271 + 12345) % 2147483647) [] _ (by rw [upd_same]; rfl) (by rw [upd_ne ne.symm]; exact k1) e1 e2 (fun b h1 h2 => by rw [upd_ne h1]; exact k2 b h2) (Int.fmod_nonneg_of_pos _ hm0) (Int.fmod_lt_of_pos _ hm0)
  · by_cases hx : x = 0
    · subst hx
      refine ⟨.ref c, rfl, c, _, rfl, .inl (SqL.of k1), _, _, rfl, rfl, _, rfl, ?_⟩
      refine ite_yes (by simp) ?_
      refine ⟨.ref c, rfl, c, _, 0, .int 0, rfl, rfl, SqL.of k1, atI_nat (j := 0) rfl, rfl, _, rfl, ?_⟩
      refine ite_yes (by simp) ?_
      refine ⟨_, fun σ' H'' z => z, .ref c, rfl, .inl ⟨rfl, _, SqL.of k1⟩, ?_⟩
      refine ⟨c, _, 0, 0, .int 0, rfl, rfl, k1, by decide, by decide, by simp [seqIndex?], rfl, ?_⟩
      exact ⟨cs.length, Nat.lt_succ_self _, rfl, cs, rfl, by rw [upd_same]; rfl, fun b hb => by rw [upd_ne hb]; exact k2 b hb⟩
    · refine ⟨.ref c, rfl, c, _, rfl, .inl (SqL.of k1), _, _, rfl, rfl, _, rfl, ?_⟩
      refine ite_yes (by simp) ?_
      refine ⟨.ref c, rfl, c, _, 0, .int x, rfl, rfl, SqL.of k1, atI_nat (j := 0) rfl, rfl, _, rfl, ?_⟩
      refine ite_no (by simp [hx]) ?_
      refine ⟨.ref c, rfl, c, _, rfl, .inl (SqL.of k1), _, _, rfl, rfl, _, rfl, ?_⟩
      refine ite_yes (by simp) ?_
      refine ⟨.ref c, rfl, c, _, 0, .int x, rfl, rfl, SqL.of k1, atI_nat (j := 0) rfl, ?_⟩
      refine ⟨_, rfl, _, rfl, x, _, rfl, rfl, dvSmall hm0 hm1, ?_⟩
      refine ⟨.ref c, rfl, c, _, 0, 0, rfl, rfl, k1, by simp [ixN], ?_⟩
      refine ⟨_, rfl, .inl ⟨x, rfl, _, rfl, _, _, rfl, rfl, (by omega), ?_⟩⟩
      refine fin _ m (x.fdiv many :: cs) _ (by rw [upd_ne ne]; exact ka) (by rw [upd_same]; rfl) h3 h4 (fun b h1 h2 => by rw [upd_ne h2]; exact k2 b h2) (Int.fmod_nonneg_of_pos _ hm0) (Int.fmod_lt_of_pos _ hm0)
/-- a script's state: two new lists -/
def spState (K : PySem.W.Frag) : Sp := fun vs H Q _ => ∃ (a : Addr) (ns : List Int), vs = [.ref a] ∧ SqL K H a (ns.map V.int) ∧ ns.length ≤ 63 ∧
  ∀ H' p c m cells, Same H H' → H p = none → H c = none → p ≠ c → H' p = some (.lst [.ref c, .int m]) → H' c = some (.lst ((cells : List Int).map V.int)) → 0 ≤ m → m < 2147483647 → Q (.ref p) H'
theorem ok_state {f : Addr} {fd : FuncData} (j : Nat) (F : Fun K "_law_state" "_law_state" sState f fd) (ml : mg "abs" = none) (mi : mg "int" = none) : FnOk P w K mg base CX0 (j + 1) f fd ["script"] (spState K) := by
  refine F.ok scState (fun vs H Q E h => ?_) (fun cdv A outer s H vs Q E hr h => ?_)
  · obtain ⟨a, ns, rfl, _⟩ := h; rfl
  obtain ⟨a, ns, rfl, hS, hl, hq⟩ := h
  have nd := scState.nd
  have itl : ∀ H', Same H H' → SqL K H' a (ns.map V.int) := fun H' sm => sm.seq hS
  refine ⟨_, pss_cons (ps_set (i := 1) nd rfl (.inl rfl) pe_int)
    (pss_cons (ps_for PassesOwn.never rfl (pi_list (pv 0)) (pg_name (i := 2) nd rfl (.inl rfl))
        (pss_one (ps_set (i := 1) nd rfl (.inl rfl) (pe_op op_mod (pe_callTy call_int1 (by rfl) mi PyProof.Rows.boot_int (pa_cons (pe_op op_add (pe_op op_mul (pv 1) pe_int) (pv 2)) pa_nil)) pe_int))))
    (pss_one (ps_ret (pe_lst (pa_cons (pe_lc (own := [("cell", 2)]) rfl nd (pi_list (pv 0)) (show BlkOk ["script", "seed", "cell"] (defScope sState) _ [("cell", 2)] from blkOk_by (by decide +kernel))
        (fun s H C cl fp => pg_name (i := 2) nd rfl (.inl rfl)) (fun s H C cl fp => pts_nil) (fun s H C cl fp => pe_callB call_abs (by rfl) ml boot_abs (pa_cons (pv 2) pa_nil))) (pa_cons (pe_op op_add (pv 1) pe_int) pa_nil)))))), ?_⟩
  refine ⟨.ref a, rfl, a, rfl, ⟨_, hS⟩, ?_⟩
  refine ⟨fun i m σ H' => H = H' ∧ i + m = ns.length ∧ ∃ (z : Int) (y : Option V), σ = [some (.ref a), some (.int z), y] ∧ 0 ≤ z ∧ z < 1000003, ⟨ns.length, rfl, by omega, 7, none, rfl, by decide, by decide⟩, ?_⟩
  rintro i m σ _ ⟨rfl, em, z, y, rfl, z0, z1⟩
  by_cases hi : i < ns.length
  · refine .inr ⟨⟨_, .int ns[i], hS, by rw [List.getElem?_map, List.getElem?_eq_getElem hi]; rfl⟩, _, fun σ' H'' q => ⟨m - 1, by omega, q⟩, ?_⟩
    rintro x H2 ⟨rfl, hx⟩
    have hx := hx _ hS
    rw [List.getElem?_map, List.getElem?_eq_getElem hi] at hx
    cases hx
    refine ⟨_, rfl, z, 31, rfl, rfl, .inr (by decide), _, rfl, _, _, rfl, rfl, .inl ⟨_, rfl, _, _, rfl, rfl, show (0:Int) < 1000003 by decide, ?_⟩⟩
    exact ⟨rfl, by omega, _, _, rfl, Int.emod_nonneg _ (by decide), Int.emod_lt_of_pos _ (by decide)⟩
  · refine .inl ⟨⟨_, hS, by rw [List.length_map]; omega⟩, ?_⟩
    refine ⟨.ref a, rfl, a, rfl, ⟨_, hS⟩, fun c hc => ?_⟩
    have sc := same_new (o := .lst []) hc
    refine ⟨fun i m H' => i + m = ns.length ∧ H' = upd H c (.lst ((ns.take i).map fun n => V.int (if n < 0 then -n else n))), ⟨ns.length, by omega, rfl⟩, ?_⟩
    rintro i m H' ⟨em, rfl⟩
    have sc := same_new (o := .lst ((ns.take i).map fun n => V.int (if n < 0 then -n else n))) hc
    have hS2 := itl _ sc
    by_cases hi : i < ns.length
    · refine .inr ⟨⟨_, .int ns[i], hS2, by rw [List.getElem?_map, List.getElem?_eq_getElem hi]; rfl⟩, _, fun H'' q => ⟨m - 1, by omega, q⟩, ?_⟩
      rintro x H2 ⟨rfl, hx⟩
      have hx := hx _ hS2
      rw [List.getElem?_map, List.getElem?_eq_getElem hi] at hx
      cases hx
      refine ⟨rfl, ?_⟩
      refine ⟨_, rfl, _, rfl, (ns.take i).map fun n => V.int (if n < 0 then -n else n), upd_same, ?_, ?_⟩
      · rw [List.length_map, List.length_take]
        have := big16 (n := 63) (by decide)
        omega
      · refine ⟨(by omega : i + 1 + (m - 1) = ns.length), ?_⟩
        rw [upd_upd, List.take_succ, List.getElem?_eq_getElem hi, List.map_append]; rfl
    · refine .inl ⟨⟨_, hS2, by rw [List.length_map]; omega⟩, ?_⟩
      refine ⟨_, rfl, _, _, rfl, rfl, ?_⟩
      have e : ns.take i = ns := List.take_of_length_le (by omega)
      rw [e]
      refine ⟨by show 2 ≤ _; have := big16 (n := 63) (by decide); omega, fun p hp => ?_⟩
      have ne : p ≠ c := fun e => by rw [e, upd_same] at hp; cases hp
      refine hq _ p c (z + 1) (ns.map fun n => if n < 0 then -n else n) ?_ ?_ hc ne upd_same ?_ (by omega) (by omega)
      · exact (same_new hc).trans (same_new hp)
      · rw [upd_ne ne] at hp; exact hp
      · rw [upd_ne ne.symm, upd_same, List.map_map]; rfl
end
end Lw
set_option maxHeartbeats 4000000
namespace Lw
open PySem PySem.Spec PyProof.Rows L2 Gx
abbrev N_lowest : List Str := ["p", "q", "common"]
abbrev d_lowest : DI := ⟨"lowest", topS 2, N_lowest, ["p", "q"]⟩
abbrev N_worth : List Str := ["fraction"]
abbrev d_worth : DI := ⟨"worth", topS 9, N_worth, ["fraction"]⟩
abbrev N_ford : List Str := ["p", "q"]
abbrev d_ford : DI := ⟨"ford", topS 4, N_ford, ["p", "q"]⟩
abbrev N_ford_touch : List Str := ["one", "other"]
abbrev d_ford_touch : DI := ⟨"ford_touch", topS 5, N_ford_touch, ["one", "other"]⟩
abbrev N_ford_between : List Str := ["one", "other"]
abbrev d_ford_between : DI := ⟨"ford_between", topS 6, N_ford_between, ["one", "other"]⟩
abbrev N_neighbours_to : List Str := ["one", "goal", "told", "s", "r"]
abbrev d_neighbours_to : DI := ⟨"neighbours_to", topS 7, N_neighbours_to, ["one", "goal"]⟩
abbrev N_ford_chain : List Str := ["one", "other", "told", "found"]
abbrev d_ford_chain : DI := ⟨"ford_chain", topS 8, N_ford_chain, ["one", "other"]⟩
abbrev N_law_draw : List Str := ["state", "many", "cells", "mixed", "value"]
abbrev d_law_draw : DI := ⟨"_law_draw", topS 12, N_law_draw, ["state", "many"]⟩
abbrev N_law_pick : List Str := ["state", "row"]
abbrev d_law_pick : DI := ⟨"_law_pick", topS 13, N_law_pick, ["state", "row"]⟩
abbrev N_law_eq : List Str := ["told", "due", "k"]
abbrev d_law_eq : DI := ⟨"_law_eq", topS 14, N_law_eq, ["told", "due"]⟩
abbrev N_law_low : List Str := ["p", "q", "a", "b"]
abbrev d_law_low : DI := ⟨"_law_low", topS 15, N_law_low, ["p", "q"]⟩
abbrev N_law_add : List Str := ["one", "other"]
abbrev d_law_add : DI := ⟨"_law_add", topS 16, N_law_add, ["one", "other"]⟩
abbrev N_law_times : List Str := ["one", "other"]
abbrev d_law_times : DI := ⟨"_law_times", topS 17, N_law_times, ["one", "other"]⟩
abbrev N_law_less : List Str := ["one", "other"]
abbrev d_law_less : DI := ⟨"_law_less", topS 18, N_law_less, ["one", "other"]⟩
abbrev N_law_drawn : List Str := ["state", "far", "q"]
abbrev d_law_drawn : DI := ⟨"_law_drawn", topS 19, N_law_drawn, ["state", "far"]⟩
abbrev N_law_circle : List Str := ["one", "p", "q"]
abbrev d_law_circle : DI := ⟨"_law_circle", topS 20, N_law_circle, ["one"]⟩
abbrev N_law_apart : List Str := ["one", "other", "told", "a", "b", "whole", "part"]
abbrev d_law_apart : DI := ⟨"_law_apart", topS 21, N_law_apart, ["one", "other"]⟩
abbrev N_law_back : List Str := ["a", "m", "one", "other", "many"]
abbrev d_law_back : DI := ⟨"_law_back", topS 22, N_law_back, ["a", "m"]⟩
abbrev N_law_chain : List Str := ["one", "other", "told", "step", "p", "q", "best", "s", "r"]
abbrev d_law_chain : DI := ⟨"_law_chain", topS 23, N_law_chain, ["one", "other"]⟩
abbrev N_law : List Str := ["script", "state", "turn", "told", "far", "one", "other", "p", "q", "s", "near", "some", "low", "high", "a", "b", "gap", "touches", "k", "between", "due", "step"]
abbrev d_law : DI := ⟨"law", topS 24, N_law, ["script"]⟩
def uu : Surr := ⟨["len", "abs", "int", "list", "tuple", "range", "zip", "min", "max", "sum", "isinstance", "str", "bool"], true, []⟩
abbrev nms : List Str := ["lowest", "worth", "ford", "ford_touch", "ford_between", "neighbours_to", "ford_chain", "_law_draw", "_law_pick", "_law_eq", "_law_eq", "_law_eq", "_law_eq", "_law_eq", "_law_low", "_law_add", "_law_times", "_law_less", "_law_drawn", "_law_circle", "_law_apart", "_law_back", "_law_chain", "law"]
/-- the 0-th def -/
def core_0_lowest : List CS :=
  [CS.asg (CT.var 2)
      ((CE.cmp CO.gt (CE.var 1) (CE.cst (D.int 0))).ife (CE.prim PK.gcd [CE.var 0, CE.var 1])
        (CE.prim PK.gcd [CE.var 0, CE.var 1]).neg),
    CS.ret (CE.tup [CE.bin BO.fdiv (CE.var 0) (CE.var 2), CE.bin BO.fdiv (CE.var 1) (CE.var 2)])]
/-- the 1-th def -/
def core_1_worth : List CS :=
  [CS.ret
      (CE.bin BO.fdiv
        (CE.bin BO.mul ((CE.var 0).idx (CE.cst (D.int 0)))
          (CE.bin BO.pow (CE.cst (D.int 10)) (CE.cst (D.int 9))))
        ((CE.var 0).idx (CE.cst (D.int 1))))]
/-- the 2-th def -/
def core_2_ford : List CS :=
  [CS.ret
      (CE.tup
        [CE.tup
            [CE.tup [CE.var 0, CE.var 1],
              CE.tup
                [CE.cst (D.int 1),
                  CE.bin BO.mul (CE.bin BO.mul (CE.cst (D.int 2)) (CE.var 1)) (CE.var 1)]],
          CE.tup
            [CE.cst (D.int 1),
              CE.bin BO.mul
                (CE.bin BO.mul (CE.bin BO.mul (CE.bin BO.mul (CE.cst (D.int 4)) (CE.var 1)) (CE.var 1))
                  (CE.var 1))
                (CE.var 1)]])]
/-- the 3-th def -/
def core_3_ford_touch : List CS :=
  [CS.ret
      (CE.cmp CO.eq
        (CE.prim PK.abs
          [CE.bin BO.sub
              (CE.bin BO.mul ((CE.var 0).idx (CE.cst (D.int 0)))
                ((CE.var 1).idx (CE.cst (D.int 1))))
              (CE.bin BO.mul ((CE.var 0).idx (CE.cst (D.int 1)))
                ((CE.var 1).idx (CE.cst (D.int 0))))])
        (CE.cst (D.int 1)))]
/-- the 4-th def -/
def core_4_ford_between : List CS :=
  [CS.ret
      (CE.tup
        [CE.bin BO.add ((CE.var 0).idx (CE.cst (D.int 0))) ((CE.var 1).idx (CE.cst (D.int 0))),
          CE.bin BO.add ((CE.var 0).idx (CE.cst (D.int 1))) ((CE.var 1).idx (CE.cst (D.int 1)))])]
/-- the 5-th def -/
def core_5_neighbours_to : List CS :=
  [CS.asg (CT.var 2) (CE.lst []),
    CS.fr (CT.var 3) IK.range
      [CE.cst (D.int 1),
        CE.bin BO.add
          (CE.prim PK.max [(CE.var 0).idx (CE.cst (D.int 1)), (CE.var 1).idx (CE.cst (D.int 1))])
          (CE.cst (D.int 1))]
      [CS.ife
          (CE.cmp CO.eq
            (CE.bin BO.mod
              (CE.bin BO.add (CE.cst (D.int 1))
                (CE.bin BO.mul ((CE.var 0).idx (CE.cst (D.int 0))) (CE.var 3)))
              ((CE.var 0).idx (CE.cst (D.int 1))))
            (CE.cst (D.int 0)))
          [CS.asg (CT.var 4)
              (CE.bin BO.fdiv
                (CE.bin BO.add (CE.cst (D.int 1))
                  (CE.bin BO.mul ((CE.var 0).idx (CE.cst (D.int 0))) (CE.var 3)))
                ((CE.var 0).idx (CE.cst (D.int 1)))),
            CS.ife
              (CE.cmp CO.le (CE.bin BO.mul (CE.var 4) ((CE.var 1).idx (CE.cst (D.int 1))))
                (CE.bin BO.mul ((CE.var 1).idx (CE.cst (D.int 0))) (CE.var 3)))
              [CS.app 2 (CE.call 0 [CE.var 4, CE.var 3])] []]
          []],
    CS.ret (CE.var 2)]
/-- the 6-th def -/
def core_6_ford_chain : List CS :=
  [CS.asg (CT.var 2) (CE.lst [CE.var 0]),
    CS.whl (CE.cmp CO.ne ((CE.var 2).idx (CE.cst (D.int 1)).neg) (CE.var 1))
      [CS.asg (CT.var 3) (CE.call 5 [(CE.var 2).idx (CE.cst (D.int 1)).neg, CE.var 1]),
        CS.app 2 (CE.maxK 1 (CE.var 3))],
    CS.ret (CE.var 2)]
/-- the 7-th def -/
def core_7_law_draw : List CS :=
  [CS.asg (CT.var 2) ((CE.var 0).idx (CE.cst (D.int 0))),
    CS.whl
      ((CE.cmp CO.gt (CE.prim PK.len [CE.var 2]) (CE.cst (D.int 0))).and
        (CE.cmp CO.eq ((CE.var 2).idx (CE.cst (D.int 0))) (CE.cst (D.int 0))))
      [CS.bad],
    CS.ife (CE.cmp CO.gt (CE.prim PK.len [CE.var 2]) (CE.cst (D.int 0)))
      [CS.asg (CT.var 4) ((CE.var 2).idx (CE.cst (D.int 0))),
        CS.seti 2 (CE.cst (D.int 0)) (CE.bin BO.fdiv (CE.var 4) (CE.var 1)),
        CS.ret (CE.bin BO.mod (CE.prim PK.int [CE.var 4]) (CE.var 1))]
      [],
    CS.asg (CT.var 3)
      (CE.bin BO.mod
        (CE.prim PK.int
          [CE.bin BO.add
              (CE.bin BO.mul ((CE.var 0).idx (CE.cst (D.int 1))) (CE.cst (D.int 48271)))
              (CE.cst (D.int 12345))])
        (CE.cst (D.int 2147483647))),
    CS.seti 0 (CE.cst (D.int 1)) (CE.var 3),
    CS.ret (CE.bin BO.mod (CE.prim PK.int [CE.bin BO.fdiv (CE.var 3) (CE.cst (D.int 64))]) (CE.var 1))]
/-- the 8-th def -/
def core_8_law_pick : List CS :=
  [CS.ret ((CE.var 1).idx (CE.call 7 [CE.var 0, CE.prim PK.len [CE.var 1]]))]
/-- the 9-th def -/
def core_9_law_eq : List CS :=
  [CS.ife ((CE.isi TK.list (CE.var 1)).or (CE.isi TK.tuple (CE.var 1)))
      [CS.ife
          ((CE.cmp CO.ne (CE.isi TK.list (CE.var 0)) (CE.isi TK.list (CE.var 1))).or
            (CE.cmp CO.ne (CE.isi TK.tuple (CE.var 0)) (CE.isi TK.tuple (CE.var 1))))
          [CS.ret (CE.cst (D.bl false))] [],
        CS.ife (CE.cmp CO.ne (CE.prim PK.len [CE.var 0]) (CE.prim PK.len [CE.var 1])) [CS.ret (CE.cst (D.bl false))] [],
        CS.ret
          (CE.cmp CO.eq (CE.comp [2] (CE.var 2) (CT.var 2) IK.range [CE.prim PK.len [CE.var 1]] [CE.bad.not])
            (CE.lst []))]
      [],
    CS.ife (CE.cmp CO.is (CE.var 1) (CE.cst D.non)) [CS.ret (CE.cmp CO.is (CE.var 0) (CE.cst D.non))] [],
    CS.ife (CE.isi TK.str (CE.var 1)) [CS.ret ((CE.isi TK.str (CE.var 0)).and (CE.cmp CO.eq (CE.var 0) (CE.var 1)))] [],
    CS.ife (CE.isi TK.bool (CE.var 1)) [CS.ret ((CE.isi TK.bool (CE.var 0)).and (CE.cmp CO.eq (CE.var 0) (CE.var 1)))] [],
    CS.ret ((CE.isi TK.int (CE.var 0)).and ((CE.isi TK.bool (CE.var 0)).not.and (CE.cmp CO.eq (CE.var 0) (CE.var 1))))]
/-- the 10-th def -/
def core_10_law_eq : List CS :=
  [CS.ife ((CE.isi TK.list (CE.var 1)).or (CE.isi TK.tuple (CE.var 1)))
      [CS.ife
          ((CE.cmp CO.ne (CE.isi TK.list (CE.var 0)) (CE.isi TK.list (CE.var 1))).or
            (CE.cmp CO.ne (CE.isi TK.tuple (CE.var 0)) (CE.isi TK.tuple (CE.var 1))))
          [CS.ret (CE.cst (D.bl false))] [],
        CS.ife (CE.cmp CO.ne (CE.prim PK.len [CE.var 0]) (CE.prim PK.len [CE.var 1])) [CS.ret (CE.cst (D.bl false))] [],
        CS.ret
          (CE.cmp CO.eq
            (CE.comp [2] (CE.var 2) (CT.var 2) IK.range [CE.prim PK.len [CE.var 1]]
              [(CE.call 9 [(CE.var 0).idx (CE.var 2), (CE.var 1).idx (CE.var 2)]).not])
            (CE.lst []))]
      [],
    CS.ife (CE.cmp CO.is (CE.var 1) (CE.cst D.non)) [CS.ret (CE.cmp CO.is (CE.var 0) (CE.cst D.non))] [],
    CS.ife (CE.isi TK.str (CE.var 1)) [CS.ret ((CE.isi TK.str (CE.var 0)).and (CE.cmp CO.eq (CE.var 0) (CE.var 1)))] [],
    CS.ife (CE.isi TK.bool (CE.var 1)) [CS.ret ((CE.isi TK.bool (CE.var 0)).and (CE.cmp CO.eq (CE.var 0) (CE.var 1)))] [],
    CS.ret ((CE.isi TK.int (CE.var 0)).and ((CE.isi TK.bool (CE.var 0)).not.and (CE.cmp CO.eq (CE.var 0) (CE.var 1))))]
/-- the 11-th def -/
def core_11_law_eq : List CS :=
  [CS.ife ((CE.isi TK.list (CE.var 1)).or (CE.isi TK.tuple (CE.var 1)))
      [CS.ife
          ((CE.cmp CO.ne (CE.isi TK.list (CE.var 0)) (CE.isi TK.list (CE.var 1))).or
            (CE.cmp CO.ne (CE.isi TK.tuple (CE.var 0)) (CE.isi TK.tuple (CE.var 1))))
          [CS.ret (CE.cst (D.bl false))] [],
        CS.ife (CE.cmp CO.ne (CE.prim PK.len [CE.var 0]) (CE.prim PK.len [CE.var 1])) [CS.ret (CE.cst (D.bl false))] [],
        CS.ret
          (CE.cmp CO.eq
            (CE.comp [2] (CE.var 2) (CT.var 2) IK.range [CE.prim PK.len [CE.var 1]]
              [(CE.call 10 [(CE.var 0).idx (CE.var 2), (CE.var 1).idx (CE.var 2)]).not])
            (CE.lst []))]
      [],
    CS.ife (CE.cmp CO.is (CE.var 1) (CE.cst D.non)) [CS.ret (CE.cmp CO.is (CE.var 0) (CE.cst D.non))] [],
    CS.ife (CE.isi TK.str (CE.var 1)) [CS.ret ((CE.isi TK.str (CE.var 0)).and (CE.cmp CO.eq (CE.var 0) (CE.var 1)))] [],
    CS.ife (CE.isi TK.bool (CE.var 1)) [CS.ret ((CE.isi TK.bool (CE.var 0)).and (CE.cmp CO.eq (CE.var 0) (CE.var 1)))] [],
    CS.ret ((CE.isi TK.int (CE.var 0)).and ((CE.isi TK.bool (CE.var 0)).not.and (CE.cmp CO.eq (CE.var 0) (CE.var 1))))]
/-- the 12-th def -/
def core_12_law_eq : List CS :=
  [CS.ife ((CE.isi TK.list (CE.var 1)).or (CE.isi TK.tuple (CE.var 1)))
      [CS.ife
          ((CE.cmp CO.ne (CE.isi TK.list (CE.var 0)) (CE.isi TK.list (CE.var 1))).or
            (CE.cmp CO.ne (CE.isi TK.tuple (CE.var 0)) (CE.isi TK.tuple (CE.var 1))))
          [CS.ret (CE.cst (D.bl false))] [],
        CS.ife (CE.cmp CO.ne (CE.prim PK.len [CE.var 0]) (CE.prim PK.len [CE.var 1])) [CS.ret (CE.cst (D.bl false))] [],
        CS.ret
          (CE.cmp CO.eq
            (CE.comp [2] (CE.var 2) (CT.var 2) IK.range [CE.prim PK.len [CE.var 1]]
              [(CE.call 11 [(CE.var 0).idx (CE.var 2), (CE.var 1).idx (CE.var 2)]).not])
            (CE.lst []))]
      [],
    CS.ife (CE.cmp CO.is (CE.var 1) (CE.cst D.non)) [CS.ret (CE.cmp CO.is (CE.var 0) (CE.cst D.non))] [],
    CS.ife (CE.isi TK.str (CE.var 1)) [CS.ret ((CE.isi TK.str (CE.var 0)).and (CE.cmp CO.eq (CE.var 0) (CE.var 1)))] [],
    CS.ife (CE.isi TK.bool (CE.var 1)) [CS.ret ((CE.isi TK.bool (CE.var 0)).and (CE.cmp CO.eq (CE.var 0) (CE.var 1)))] [],
    CS.ret ((CE.isi TK.int (CE.var 0)).and ((CE.isi TK.bool (CE.var 0)).not.and (CE.cmp CO.eq (CE.var 0) (CE.var 1))))]
/-- the 13-th def -/
def core_13_law_eq : List CS :=
  [CS.ife ((CE.isi TK.list (CE.var 1)).or (CE.isi TK.tuple (CE.var 1)))
      [CS.ife
          ((CE.cmp CO.ne (CE.isi TK.list (CE.var 0)) (CE.isi TK.list (CE.var 1))).or
            (CE.cmp CO.ne (CE.isi TK.tuple (CE.var 0)) (CE.isi TK.tuple (CE.var 1))))
          [CS.ret (CE.cst (D.bl false))] [],
        CS.ife (CE.cmp CO.ne (CE.prim PK.len [CE.var 0]) (CE.prim PK.len [CE.var 1])) [CS.ret (CE.cst (D.bl false))] [],
        CS.ret
          (CE.cmp CO.eq
            (CE.comp [2] (CE.var 2) (CT.var 2) IK.range [CE.prim PK.len [CE.var 1]]
              [(CE.call 12 [(CE.var 0).idx (CE.var 2), (CE.var 1).idx (CE.var 2)]).not])
            (CE.lst []))]
      [],
    CS.ife (CE.cmp CO.is (CE.var 1) (CE.cst D.non)) [CS.ret (CE.cmp CO.is (CE.var 0) (CE.cst D.non))] [],
    CS.ife (CE.isi TK.str (CE.var 1)) [CS.ret ((CE.isi TK.str (CE.var 0)).and (CE.cmp CO.eq (CE.var 0) (CE.var 1)))] [],
    CS.ife (CE.isi TK.bool (CE.var 1)) [CS.ret ((CE.isi TK.bool (CE.var 0)).and (CE.cmp CO.eq (CE.var 0) (CE.var 1)))] [],
    CS.ret ((CE.isi TK.int (CE.var 0)).and ((CE.isi TK.bool (CE.var 0)).not.and (CE.cmp CO.eq (CE.var 0) (CE.var 1))))]
/-- the 14-th def -/
def core_14_law_low : List CS :=
  [CS.asg (CT.tup [CT.var 2, CT.var 3]) (CE.tup [CE.prim PK.abs [CE.var 0], CE.prim PK.abs [CE.var 1]]),
    CS.whl (CE.cmp CO.gt (CE.var 3) (CE.cst (D.int 0)))
      [CS.asg (CT.tup [CT.var 2, CT.var 3]) (CE.tup [CE.var 3, CE.bin BO.mod (CE.var 2) (CE.var 3)])],
    CS.ret
      ((CE.cmp CO.gt (CE.var 1) (CE.cst (D.int 0))).ife
        (CE.tup
          [CE.prim PK.int [CE.bin BO.fdiv (CE.var 0) (CE.var 2)], CE.prim PK.int [CE.bin BO.fdiv (CE.var 1) (CE.var 2)]])
        (CE.tup
          [CE.prim PK.int [CE.bin BO.fdiv (CE.bin BO.sub (CE.cst (D.int 0)) (CE.var 0)) (CE.var 2)],
            CE.prim PK.int [CE.bin BO.fdiv (CE.bin BO.sub (CE.cst (D.int 0)) (CE.var 1)) (CE.var 2)]]))]
/-- the 15-th def -/
def core_15_law_add : List CS :=
  [CS.ret
      (CE.call 14
        [CE.bin BO.add
            (CE.bin BO.mul ((CE.var 0).idx (CE.cst (D.int 0)))
              ((CE.var 1).idx (CE.cst (D.int 1))))
            (CE.bin BO.mul ((CE.var 1).idx (CE.cst (D.int 0)))
              ((CE.var 0).idx (CE.cst (D.int 1)))),
          CE.bin BO.mul ((CE.var 0).idx (CE.cst (D.int 1))) ((CE.var 1).idx (CE.cst (D.int 1)))])]
/-- the 16-th def -/
def core_16_law_times : List CS :=
  [CS.ret
      (CE.call 14
        [CE.bin BO.mul ((CE.var 0).idx (CE.cst (D.int 0))) ((CE.var 1).idx (CE.cst (D.int 0))),
          CE.bin BO.mul ((CE.var 0).idx (CE.cst (D.int 1))) ((CE.var 1).idx (CE.cst (D.int 1)))])]
/-- the 17-th def -/
def core_17_law_less : List CS :=
  [CS.ret
      (CE.cmp CO.lt
        (CE.bin BO.mul ((CE.var 0).idx (CE.cst (D.int 0))) ((CE.var 1).idx (CE.cst (D.int 1))))
        (CE.bin BO.mul ((CE.var 1).idx (CE.cst (D.int 0))) ((CE.var 0).idx (CE.cst (D.int 1)))))]
/-- the 18-th def -/
def core_18_law_drawn : List CS :=
  [CS.asg (CT.var 2) (CE.bin BO.add (CE.cst (D.int 1)) (CE.call 7 [CE.var 0, CE.var 1])),
    CS.ret
      (CE.call 14
        [CE.bin BO.sub
            (CE.call 7
              [CE.var 0,
                CE.bin BO.add (CE.bin BO.mul (CE.cst (D.int 2)) (CE.var 1)) (CE.cst (D.int 1))])
            (CE.var 1),
          CE.var 2])]
/-- the 19-th def -/
def core_19_law_circle : List CS :=
  [CS.asg (CT.tup [CT.var 1, CT.var 2]) (CE.var 0),
    CS.ret
      (CE.tup
        [CE.tup
            [CE.tup [CE.var 1, CE.var 2],
              CE.tup
                [CE.cst (D.int 1),
                  CE.bin BO.mul (CE.bin BO.mul (CE.cst (D.int 2)) (CE.var 2)) (CE.var 2)]],
          CE.tup
            [CE.cst (D.int 1),
              CE.bin BO.mul
                (CE.bin BO.mul (CE.bin BO.mul (CE.bin BO.mul (CE.cst (D.int 4)) (CE.var 2)) (CE.var 2))
                  (CE.var 2))
                (CE.var 2)]])]
/-- the 20-th def -/
def core_20_law_apart : List CS :=
  [CS.asg (CT.var 2) (CE.tup [CE.cst (D.int 0), CE.cst (D.int 1)]),
    CS.fr (CT.tup [CT.var 3, CT.var 4]) IK.zip
      [(CE.call 19 [CE.var 0]).idx (CE.cst (D.int 0)),
        (CE.call 19 [CE.var 1]).idx (CE.cst (D.int 0))]
      [CS.asg (CT.var 6)
          (CE.call 15
            [CE.var 3,
              CE.tup
                [CE.bin BO.sub (CE.cst (D.int 0)) ((CE.var 4).idx (CE.cst (D.int 0))),
                  (CE.var 4).idx (CE.cst (D.int 1))]]),
        CS.asg (CT.var 2) (CE.call 15 [CE.var 2, CE.call 16 [CE.var 6, CE.var 6]])],
    CS.asg (CT.var 5)
      (CE.call 15
        [CE.tup
            [CE.cst (D.int 1),
              CE.bin BO.mul (CE.bin BO.mul (CE.cst (D.int 2)) ((CE.var 0).idx (CE.cst (D.int 1))))
                ((CE.var 0).idx (CE.cst (D.int 1)))],
          CE.tup
            [CE.cst (D.int 1),
              CE.bin BO.mul (CE.bin BO.mul (CE.cst (D.int 2)) ((CE.var 1).idx (CE.cst (D.int 1))))
                ((CE.var 1).idx (CE.cst (D.int 1)))]]),
    CS.ret
      (CE.call 15
        [CE.var 2,
          CE.tup
            [CE.bin BO.sub (CE.cst (D.int 0))
                (CE.bin BO.mul ((CE.var 5).idx (CE.cst (D.int 0)))
                  ((CE.var 5).idx (CE.cst (D.int 0)))),
              CE.bin BO.mul ((CE.var 5).idx (CE.cst (D.int 1)))
                ((CE.var 5).idx (CE.cst (D.int 1)))]])]
/-- the 21-th def -/
def core_21_law_back : List CS :=
  [CS.asg (CT.tup [CT.var 2, CT.var 3])
      (CE.tup
        [CE.tup [CE.bin BO.mod (CE.var 0) (CE.var 1), CE.cst (D.int 1)],
          CE.tup [CE.var 1, CE.cst (D.int 0)]]),
    CS.whl (CE.cmp CO.gt ((CE.var 2).idx (CE.cst (D.int 0))) (CE.cst (D.int 0)))
      [CS.asg (CT.var 4)
          (CE.prim PK.int
            [CE.bin BO.fdiv ((CE.var 3).idx (CE.cst (D.int 0)))
                ((CE.var 2).idx (CE.cst (D.int 0)))]),
        CS.asg (CT.tup [CT.var 2, CT.var 3])
          (CE.tup
            [CE.tup
                [CE.bin BO.sub ((CE.var 3).idx (CE.cst (D.int 0)))
                    (CE.bin BO.mul (CE.var 4) ((CE.var 2).idx (CE.cst (D.int 0)))),
                  CE.bin BO.sub ((CE.var 3).idx (CE.cst (D.int 1)))
                    (CE.bin BO.mul (CE.var 4) ((CE.var 2).idx (CE.cst (D.int 1))))],
              CE.var 2])],
    CS.ret (CE.bin BO.mod ((CE.var 3).idx (CE.cst (D.int 1))) (CE.var 1))]
/-- the 22-th def -/
def core_22_law_chain : List CS :=
  [CS.asg (CT.var 2) (CE.lst [CE.var 0]),
    CS.fr (CT.var 3) IK.range [CE.cst (D.int 2000)]
      [CS.ife (CE.cmp CO.ne ((CE.var 2).idx (CE.cst (D.int 1)).neg) (CE.var 1))
          [CS.asg (CT.tup [CT.var 4, CT.var 5]) ((CE.var 2).idx (CE.cst (D.int 1)).neg),
            CS.asg (CT.var 6) (CE.cst D.non),
            CS.fr (CT.var 7) IK.range
              [CE.cst (D.int 1),
                CE.bin BO.add (CE.prim PK.max [CE.var 5, (CE.var 1).idx (CE.cst (D.int 1))])
                  (CE.cst (D.int 1))]
              [CS.ife
                  (CE.cmp CO.eq
                    (CE.bin BO.mod (CE.bin BO.add (CE.cst (D.int 1)) (CE.bin BO.mul (CE.var 4) (CE.var 7)))
                      (CE.var 5))
                    (CE.cst (D.int 0)))
                  [CS.asg (CT.var 8)
                      (CE.prim PK.int
                        [CE.bin BO.fdiv
                            (CE.bin BO.add (CE.cst (D.int 1)) (CE.bin BO.mul (CE.var 4) (CE.var 7)))
                            (CE.var 5)]),
                    CS.ife
                      ((CE.cmp CO.le (CE.bin BO.mul (CE.var 8) ((CE.var 1).idx (CE.cst (D.int 1))))
                            (CE.bin BO.mul ((CE.var 1).idx (CE.cst (D.int 0))) (CE.var 7))).and
                        ((CE.cmp CO.is (CE.var 6) (CE.cst D.non)).or
                          (CE.cmp CO.gt (CE.bin BO.mul (CE.var 8) ((CE.var 6).idx (CE.cst (D.int 1))))
                            (CE.bin BO.mul ((CE.var 6).idx (CE.cst (D.int 0))) (CE.var 7)))))
                      [CS.asg (CT.var 6) (CE.tup [CE.var 8, CE.var 7])] []]
                  []],
            CS.app 2 (CE.var 6)]
          []],
    CS.ret (CE.var 2)]
/-- the 23-th def -/
def core_23_law : List CS :=
  [CS.asg (CT.var 1) CE.bad,
    CS.fr (CT.var 2) IK.range [CE.cst (D.int 6)]
      [CS.asg (CT.var 4)
          (CE.call 8
            [CE.var 1,
              CE.lst [CE.cst (D.int 6), CE.cst (D.int 60), CE.cst (D.int 1000000)]]),
        CS.asg (CT.tup [CT.var 5, CT.var 6]) (CE.tup [CE.call 18 [CE.var 1, CE.var 4], CE.call 18 [CE.var 1, CE.var 4]]),
        CS.ife
          (CE.call 13
              [CE.lst
                  [CE.call 2
                      [(CE.var 5).idx (CE.cst (D.int 0)), (CE.var 5).idx (CE.cst (D.int 1))],
                    CE.call 2
                      [(CE.var 6).idx (CE.cst (D.int 0)), (CE.var 6).idx (CE.cst (D.int 1))]],
                CE.lst [CE.call 19 [CE.var 5], CE.call 19 [CE.var 6]]]).not
          [CS.ret (CE.cst (D.bl false))] [],
        CS.asg (CT.tup [CT.var 7, CT.var 8]) (CE.var 5),
        CS.asg (CT.var 9)
          ((CE.cmp CO.gt (CE.var 8) (CE.cst (D.int 1))).ife
            (CE.call 21 [CE.bin BO.sub (CE.cst (D.int 0)) (CE.var 7), CE.var 8])
            (CE.bin BO.add (CE.cst (D.int 1)) (CE.call 7 [CE.var 1, CE.cst (D.int 9)]))),
        CS.asg (CT.var 10)
          (((CE.cmp CO.gt (CE.var 9) (CE.cst (D.int 0))).and
                (CE.cmp CO.le
                  (CE.prim PK.abs
                    [CE.prim PK.int
                        [CE.bin BO.fdiv
                            (CE.bin BO.add (CE.cst (D.int 1)) (CE.bin BO.mul (CE.var 7) (CE.var 9)))
                            (CE.var 8)]])
                  (CE.bin BO.pow (CE.cst (D.int 10)) (CE.cst (D.int 6))))).ife
            (CE.call 14
              [CE.prim PK.int
                  [CE.bin BO.fdiv (CE.bin BO.add (CE.cst (D.int 1)) (CE.bin BO.mul (CE.var 7) (CE.var 9)))
                      (CE.var 8)],
                CE.var 9])
            (CE.cst D.non)),
        CS.fr (CT.var 11) IK.seq [CE.tup [CE.var 6, CE.var 10]]
          [CS.ife ((CE.cmp CO.isnot (CE.var 11) (CE.cst D.non)).and (CE.cmp CO.ne (CE.var 11) (CE.var 5)))
              [CS.asg (CT.var 16) (CE.call 20 [CE.var 5, CE.var 11]),
                CS.asg (CT.var 17)
                  (CE.cmp CO.eq ((CE.var 16).idx (CE.cst (D.int 0))) (CE.cst (D.int 0))),
                CS.ife
                  ((CE.cmp CO.lt ((CE.var 16).idx (CE.cst (D.int 0))) (CE.cst (D.int 0))).or
                    (CE.call 13
                        [CE.lst [CE.call 3 [CE.var 5, CE.var 11], CE.call 3 [CE.var 11, CE.var 5]],
                          CE.bin BO.mul (CE.lst [CE.var 17]) (CE.cst (D.int 2))]).not)
                  [CS.ret (CE.cst (D.bl false))] [],
                CS.ife (CE.var 17)
                  [CS.asg (CT.tup [CT.var 12, CT.var 13])
                      ((CE.call 17 [CE.var 5, CE.var 11]).ife (CE.tup [CE.var 5, CE.var 11])
                        (CE.tup [CE.var 11, CE.var 5])),
                    CS.asg (CT.var 19) (CE.call 4 [CE.var 12, CE.var 13]),
                    CS.asg (CT.var 20)
                      (CE.call 14
                        [CE.bin BO.add ((CE.var 5).idx (CE.cst (D.int 0)))
                            ((CE.var 11).idx (CE.cst (D.int 0))),
                          CE.bin BO.add ((CE.var 5).idx (CE.cst (D.int 1)))
                            ((CE.var 11).idx (CE.cst (D.int 1)))]),
                    CS.ife
                      ((CE.call 13 [CE.prim PK.tuple [CE.var 19], CE.var 20]).not.or
                        ((CE.cmp CO.ne ((CE.call 20 [CE.var 20, CE.var 5]).idx (CE.cst (D.int 0)))
                              (CE.cst (D.int 0))).or
                          ((CE.cmp CO.ne ((CE.call 20 [CE.var 20, CE.var 11]).idx (CE.cst (D.int 0)))
                                (CE.cst (D.int 0))).or
                            ((CE.call 17 [CE.var 12, CE.var 20]).not.or (CE.call 17 [CE.var 20, CE.var 13]).not))))
                      [CS.ret (CE.cst (D.bl false))] []]
                  []]
              []],
        CS.asg (CT.tup [CT.var 5, CT.var 6])
          (CE.comp [18]
            (CE.call 14
              [CE.call 7
                  [CE.var 1,
                    CE.call 8 [CE.var 1, CE.lst [CE.cst (D.int 30), CE.cst (D.int 300)]]],
                CE.bin BO.add (CE.cst (D.int 1))
                  (CE.call 7
                    [CE.var 1,
                      CE.call 8 [CE.var 1, CE.lst [CE.cst (D.int 8), CE.cst (D.int 60)]]])])
            (CT.var 18) IK.range [CE.cst (D.int 2)] []),
        CS.ife (CE.cmp CO.ne (CE.var 5) (CE.var 6))
          [CS.asg (CT.tup [CT.var 12, CT.var 13])
              ((CE.call 17 [CE.var 5, CE.var 6]).ife (CE.tup [CE.var 5, CE.var 6]) (CE.tup [CE.var 6, CE.var 5])),
            CS.asg (CT.var 3)
              (CE.comp [21] (CE.prim PK.tuple [CE.var 21]) (CT.var 21) IK.seq [CE.call 6 [CE.var 12, CE.var 13]] []),
            CS.ife (CE.call 13 [CE.var 3, CE.call 22 [CE.var 12, CE.var 13]]).not [CS.ret (CE.cst (D.bl false))] [],
            CS.fr (CT.tup [CT.var 14, CT.var 15]) IK.zip
              [CE.var 3, (CE.var 3).sl (some (CE.cst (D.int 1))) none]
              [CS.ife ((CE.call 17 [CE.var 14, CE.var 15]).not.or (CE.call 3 [CE.var 14, CE.var 15]).not)
                  [CS.ret (CE.cst (D.bl false))] []]]
          []],
    CS.asg (CT.var 3)
      (CE.comp [5] (CE.prim PK.tuple [CE.var 5]) (CT.var 5) IK.seq
        [CE.call 6
            [CE.tup [CE.cst (D.int 0), CE.cst (D.int 1)],
              CE.tup [CE.cst (D.int 2), CE.cst (D.int 1)]]]
        []),
    CS.ret
      ((CE.call 13
            [CE.lst
                [CE.call 3
                    [CE.tup [CE.cst (D.int 0), CE.cst (D.int 1)],
                      CE.tup [CE.cst (D.int 1), CE.cst (D.int 1)]],
                  CE.call 3
                    [CE.tup [CE.cst (D.int 0), CE.cst (D.int 1)],
                      CE.tup [CE.cst (D.int 2), CE.cst (D.int 1)]],
                  CE.prim PK.tuple
                    [CE.call 4
                        [CE.tup [CE.cst (D.int 0), CE.cst (D.int 1)],
                          CE.tup [CE.cst (D.int 1), CE.cst (D.int 1)]]]],
              CE.lst
                [CE.cst (D.bl true), CE.cst (D.bl false),
                  CE.tup [CE.cst (D.int 1), CE.cst (D.int 2)]]]).and
        (CE.cmp CO.eq (CE.var 3)
          (CE.lst
            [CE.tup [CE.cst (D.int 0), CE.cst (D.int 1)],
              CE.tup [CE.cst (D.int 1), CE.cst (D.int 1)],
              CE.tup [CE.cst (D.int 2), CE.cst (D.int 1)]])))]
end Lw
set_option maxHeartbeats 4000000
namespace Lw
open Gx
variable {Γ : Nat → Con} {G : Nat → D}
def pr (p q : Int) : D := .tup [.int p, .int q]
def Sm (n : Nat) (i : Int) : Prop := i.natAbs < 2 ^ n
theorem frD_pr (x : Rat) : frD x = pr x.num x.den := rfl
theorem ent2 (a b : D) : entry 2 [a, b] = [some (.sh a), some (.sh b)] := rfl
theorem ent31 (a : D) : entry 3 [a] = [some (.sh a), none, none] := rfl
theorem ent32 (a b : D) : entry 3 [a, b] = [some (.sh a), some (.sh b), none] := rfl
theorem ent1 (a : D) : entry 1 [a] = [some (.sh a)] := rfl
theorem sm_num (i : Int) (n : Nat) (h : i.natAbs < 2 ^ n) : Sm n i := h
/-! ### fractions -/
def conLow : Con := fun ds Q => ∃ (p q : Int) (n : Nat), ds = [.int p, .int q] ∧ 0 < q ∧ Sm n p ∧ Sm n q ∧ n ≤ 4000 ∧ ∀ x : Rat, x = (p : Rat) / (q : Rat) → Bt n x → Q (.sh (frD x))
def conAdd : Con := fun ds Q => ∃ (a b c d : Int) (n : Nat), ds = [pr a b, pr c d] ∧ 0 < b ∧ 0 < d ∧ Sm n a ∧ Sm n b ∧ Sm n c ∧ Sm n d ∧ n ≤ 1500 ∧ ∀ x : Rat, x = (a : Rat) / (b : Rat) + (c : Rat) / (d : Rat) → Bt (2 * n + 1) x → Q (.sh (frD x))
def conTimes : Con := fun ds Q => ∃ (a b c d : Int) (n : Nat), ds = [pr a b, pr c d] ∧ 0 < b ∧ 0 < d ∧ Sm n a ∧ Sm n b ∧ Sm n c ∧ Sm n d ∧ n ≤ 1500 ∧ ∀ x : Rat, x = (a : Rat) / (b : Rat) * ((c : Rat) / (d : Rat)) → Bt (2 * n + 1) x → Q (.sh (frD x))
def conLess : Con := fun ds Q => ∃ (a b c d : Int) (n : Nat), ds = [pr a b, pr c d] ∧ Sm n a ∧ Sm n b ∧ Sm n c ∧ Sm n d ∧ n ≤ 1500 ∧ Q (.sh (.bl (decide (a * d < c * b))))
def circ (p q : Int) : D := .tup [.tup [pr p q, pr 1 (2 * q * q)], pr 1 (4 * q * q * q * q)]
def conFord : Con := fun ds Q => ∃ (p q : Int) (n : Nat), ds = [.int p, .int q] ∧ Sm n q ∧ n ≤ 1500 ∧ Q (.sh (circ p q))
def conCirc : Con := fun ds Q => ∃ (p q : Int) (n : Nat), ds = [pr p q] ∧ Sm n q ∧ n ≤ 1500 ∧ Q (.sh (circ p q))
def conTouch : Con := fun ds Q => ∃ (a b c d : Int) (n : Nat), ds = [pr a b, pr c d] ∧ Sm n a ∧ Sm n b ∧ Sm n c ∧ Sm n d ∧ n ≤ 1500 ∧ Q (.sh (.bl (decide (a * d - b * c = 1 ∨ a * d - b * c = -1))))
def conBetween : Con := fun ds Q => ∃ (a b c d : Int), ds = [pr a b, pr c d] ∧ Q (.sh (pr (a + c) (b + d)))
def conWorth : Con := fun ds Q => ∃ (a b : Int) (n : Nat), ds = [pr a b] ∧ 0 < b ∧ Sm n a ∧ Sm n b ∧ n ≤ 1500 ∧ Q (.sh (.int ((a * 1000000000).fdiv b)))
def conPick : Con := fun ds Q => ∃ xs : List D, ds = [.hd 0, .lst xs] ∧ 0 < xs.length ∧ xs.length < 1000 ∧ ∀ (i : Nat) x, xs[i]? = some x → Q (.sh x)
def conDrawn : Con := fun ds Q => ∃ far : Int, ds = [.hd 0, .int far] ∧ 0 < far ∧ far < 10000000 ∧ ∀ x : Rat, x.num.natAbs ≤ far → (x.den : Int) ≤ far → Q (.sh (frD x))
theorem o_ford {ds Q} (h : conFord ds Q) : wpB Γ G core_2_ford (fin0 Q) (entry 2 ds) := by
  obtain ⟨p, q, n, rfl, h2, hn, hq⟩ := h
  refine step_cons ?_
  simp only [ent2, wpS, wpE, wpEs, wpPs, wpT, wpO, wpIfs, pk_var, pk_cst, pk_glc, pk_bin, pk_neg, pk_not, pk_cmp, pk_chain, pk_and, pk_or, pk_ife, pk_tup, pk_lst, pk_idx, pk_sl, pk_rev, pk_isi, pk_maxK, pk_call, pk_prim, pk_comp, rt_var, rt_cst, rt_glc, rt_bin, rt_neg, rt_not, rt_cmp, rt_chain, rt_and, rt_or, rt_ife, rt_tup, rt_lst, rt_idx, rt_sl, rt_rev, rt_isi, rt_maxK, rt_call, rt_prim, rt_comp, stD_var, stD_tup, tgD_var, tgD_tt, tgD_tl, tgsD_nil, tgsD_cons, bare, bareP, bares, barePs, bareO, give_nil, give_cons, gG_s, gG_n, giveV_sh, giveV_ow, data_eq, shr_eq, own_eq, gD_s, gS_s, gO_s, vd_sh, vd_ow, b_add, b_sub, b_mul, b_fdiv, b_mod, b_pow, b_addL, b_addT, b_mulL, x_t, x_l, s_l, s_t, p_lenT, p_lenL, p_abs, p_int, p_intb, p_listT, p_listL, p_tupT, p_tupL, p_gcd, p_min, p_max, p_sum, i_t, i_l, i_r1, i_r2, i_zt, i_zl, n_i, bo_b, in_i, tr_n, tr_b, tr_i, tr_t, tr_l, nn_n, nn_t, nn_l, nn_i, nn_b, isiD_eq, isD, au_a, au_s, wi_n, wi_c, cmpD_eq_int, cmpD_ne_int, cmpD_eq_bl, cmpD_ne_bl, cmpD_lt, cmpD_le, cmpD_gt, cmpD_ge, cmpD_is, cmpD_isnot, truQ_bl, atI_0, atI_1, atI_2, atI_3, fin0, List.nil_append, List.append_nil, List.cons_append, List.getElem?_cons_zero, List.getElem?_cons_succ, set_0, set_s, List.length_cons, List.length_nil, Option.some.injEq, Val.sh.injEq, Val.ow.injEq, D.int.injEq, D.tup.injEq, D.lst.injEq, D.bl.injEq, exists_eq_left', exists_eq_left, true_and, and_true, Nat.reduceAdd, Nat.reduceLeDiff, Nat.zero_add, if_true, if_false, Bool.false_eq_true, reduceCtorEq, decide_eq_true_eq, Bool.not_eq_true, ne_eq, not_false_eq_true, reduceIte, decide_true, decide_false, Bool.not_true, Bool.not_false, step_nil_eq]
  have e1 : Sm (n + 4) (2 * q) := by rw [Nat.add_comm n]; exact bit_mul (n := 4) (by decide) h2
  have e2 : Sm (n + 4) (4 * q) := by rw [Nat.add_comm n]; exact bit_mul (n := 4) (by decide) h2
  have e3 := bit_mul e2 h2
  have e4 := bit_mul e3 h2
  refine ⟨mulOk (n := 4) (by decide) h2 (by omega), mulOk e1 h2 (by omega), mulOk (n := 4) (by decide) h2 (by omega), mulOk e2 h2 (by omega), mulOk e3 h2 (by omega), mulOk e4 h2 (by omega), hq⟩
theorem o_circ {ds Q} (h : conCirc ds Q) : wpB Γ G core_19_law_circle (fin0 Q) (entry 3 ds) := by
  obtain ⟨p, q, n, rfl, h2, hn, hq⟩ := h
  refine step_cons ?_
  simp only [ent31, pr, wpS, wpE, wpEs, wpPs, wpT, wpO, wpIfs, pk_var, pk_cst, pk_glc, pk_bin, pk_neg, pk_not, pk_cmp, pk_chain, pk_and, pk_or, pk_ife, pk_tup, pk_lst, pk_idx, pk_sl, pk_rev, pk_isi, pk_maxK, pk_call, pk_prim, pk_comp, rt_var, rt_cst, rt_glc, rt_bin, rt_neg, rt_not, rt_cmp, rt_chain, rt_and, rt_or, rt_ife, rt_tup, rt_lst, rt_idx, rt_sl, rt_rev, rt_isi, rt_maxK, rt_call, rt_prim, rt_comp, stD_var, stD_tup, tgD_var, tgD_tt, tgD_tl, tgsD_nil, tgsD_cons, bare, bareP, bares, barePs, bareO, give_nil, give_cons, gG_s, gG_n, giveV_sh, giveV_ow, data_eq, shr_eq, own_eq, gD_s, gS_s, gO_s, vd_sh, vd_ow, b_add, b_sub, b_mul, b_fdiv, b_mod, b_pow, b_addL, b_addT, b_mulL, x_t, x_l, s_l, s_t, p_lenT, p_lenL, p_abs, p_int, p_intb, p_listT, p_listL, p_tupT, p_tupL, p_gcd, p_min, p_max, p_sum, i_t, i_l, i_r1, i_r2, i_zt, i_zl, n_i, bo_b, in_i, tr_n, tr_b, tr_i, tr_t, tr_l, nn_n, nn_t, nn_l, nn_i, nn_b, isiD_eq, isD, au_a, au_s, wi_n, wi_c, cmpD_eq_int, cmpD_ne_int, cmpD_eq_bl, cmpD_ne_bl, cmpD_lt, cmpD_le, cmpD_gt, cmpD_ge, cmpD_is, cmpD_isnot, truQ_bl, atI_0, atI_1, atI_2, atI_3, fin0, List.nil_append, List.append_nil, List.cons_append, List.getElem?_cons_zero, List.getElem?_cons_succ, set_0, set_s, List.length_cons, List.length_nil, Option.some.injEq, Val.sh.injEq, Val.ow.injEq, D.int.injEq, D.tup.injEq, D.lst.injEq, D.bl.injEq, exists_eq_left', exists_eq_left, true_and, and_true, Nat.reduceAdd, Nat.reduceLeDiff, Nat.zero_add, if_true, if_false, Bool.false_eq_true, reduceCtorEq, decide_eq_true_eq, Bool.not_eq_true, ne_eq, not_false_eq_true, reduceIte, decide_true, decide_false, Bool.not_true, Bool.not_false, step_nil_eq]
  refine step_cons ?_
  simp only [pr, wpS, wpE, wpEs, wpPs, wpT, wpO, wpIfs, pk_var, pk_cst, pk_glc, pk_bin, pk_neg, pk_not, pk_cmp, pk_chain, pk_and, pk_or, pk_ife, pk_tup, pk_lst, pk_idx, pk_sl, pk_rev, pk_isi, pk_maxK, pk_call, pk_prim, pk_comp, rt_var, rt_cst, rt_glc, rt_bin, rt_neg, rt_not, rt_cmp, rt_chain, rt_and, rt_or, rt_ife, rt_tup, rt_lst, rt_idx, rt_sl, rt_rev, rt_isi, rt_maxK, rt_call, rt_prim, rt_comp, stD_var, stD_tup, tgD_var, tgD_tt, tgD_tl, tgsD_nil, tgsD_cons, bare, bareP, bares, barePs, bareO, give_nil, give_cons, gG_s, gG_n, giveV_sh, giveV_ow, data_eq, shr_eq, own_eq, gD_s, gS_s, gO_s, vd_sh, vd_ow, b_add, b_sub, b_mul, b_fdiv, b_mod, b_pow, b_addL, b_addT, b_mulL, x_t, x_l, s_l, s_t, p_lenT, p_lenL, p_abs, p_int, p_intb, p_listT, p_listL, p_tupT, p_tupL, p_gcd, p_min, p_max, p_sum, i_t, i_l, i_r1, i_r2, i_zt, i_zl, n_i, bo_b, in_i, tr_n, tr_b, tr_i, tr_t, tr_l, nn_n, nn_t, nn_l, nn_i, nn_b, isiD_eq, isD, au_a, au_s, wi_n, wi_c, cmpD_eq_int, cmpD_ne_int, cmpD_eq_bl, cmpD_ne_bl, cmpD_lt, cmpD_le, cmpD_gt, cmpD_ge, cmpD_is, cmpD_isnot, truQ_bl, atI_0, atI_1, atI_2, atI_3, fin0, List.nil_append, List.append_nil, List.cons_append, List.getElem?_cons_zero, List.getElem?_cons_succ, set_0, set_s, List.length_cons, List.length_nil, Option.some.injEq, Val.sh.injEq, Val.ow.injEq, D.int.injEq, D.tup.injEq, D.lst.injEq, D.bl.injEq, exists_eq_left', exists_eq_left, true_and, and_true, Nat.reduceAdd, Nat.reduceLeDiff, Nat.zero_add, if_true, if_false, Bool.false_eq_true, reduceCtorEq, decide_eq_true_eq, Bool.not_eq_true, ne_eq, not_false_eq_true, reduceIte, decide_true, decide_false, Bool.not_true, Bool.not_false, step_nil_eq]
  have e1 : Sm (n + 4) (2 * q) := by rw [Nat.add_comm n]; exact bit_mul (n := 4) (by decide) h2
  have e2 : Sm (n + 4) (4 * q) := by rw [Nat.add_comm n]; exact bit_mul (n := 4) (by decide) h2
  have e3 := bit_mul e2 h2
  have e4 := bit_mul e3 h2
  refine ⟨mulOk (n := 4) (by decide) h2 (by omega), mulOk e1 h2 (by omega), mulOk (n := 4) (by decide) h2 (by omega), mulOk e2 h2 (by omega), mulOk e3 h2 (by omega), mulOk e4 h2 (by omega), hq⟩
theorem o_touch {ds Q} (h : conTouch ds Q) : wpB Γ G core_3_ford_touch (fin0 Q) (entry 2 ds) := by
  obtain ⟨a, b, c, d, n, rfl, ha, hb, hc, hd, hn, hq⟩ := h
  refine step_cons ?_
  simp only [ent2, pr, wpS, wpE, wpEs, wpPs, wpT, wpO, wpIfs, pk_var, pk_cst, pk_glc, pk_bin, pk_neg, pk_not, pk_cmp, pk_chain, pk_and, pk_or, pk_ife, pk_tup, pk_lst, pk_idx, pk_sl, pk_rev, pk_isi, pk_maxK, pk_call, pk_prim, pk_comp, rt_var, rt_cst, rt_glc, rt_bin, rt_neg, rt_not, rt_cmp, rt_chain, rt_and, rt_or, rt_ife, rt_tup, rt_lst, rt_idx, rt_sl, rt_rev, rt_isi, rt_maxK, rt_call, rt_prim, rt_comp, stD_var, stD_tup, tgD_var, tgD_tt, tgD_tl, tgsD_nil, tgsD_cons, bare, bareP, bares, barePs, bareO, give_nil, give_cons, gG_s, gG_n, giveV_sh, giveV_ow, data_eq, shr_eq, own_eq, gD_s, gS_s, gO_s, vd_sh, vd_ow, b_add, b_sub, b_mul, b_fdiv, b_mod, b_pow, b_addL, b_addT, b_mulL, x_t, x_l, s_l, s_t, p_lenT, p_lenL, p_abs, p_int, p_intb, p_listT, p_listL, p_tupT, p_tupL, p_gcd, p_min, p_max, p_sum, i_t, i_l, i_r1, i_r2, i_zt, i_zl, n_i, bo_b, in_i, tr_n, tr_b, tr_i, tr_t, tr_l, nn_n, nn_t, nn_l, nn_i, nn_b, isiD_eq, isD, au_a, au_s, wi_n, wi_c, cmpD_eq_int, cmpD_ne_int, cmpD_eq_bl, cmpD_ne_bl, cmpD_lt, cmpD_le, cmpD_gt, cmpD_ge, cmpD_is, cmpD_isnot, truQ_bl, atI_0, atI_1, atI_2, atI_3, fin0, List.nil_append, List.append_nil, List.cons_append, List.getElem?_cons_zero, List.getElem?_cons_succ, set_0, set_s, List.length_cons, List.length_nil, Option.some.injEq, Val.sh.injEq, Val.ow.injEq, D.int.injEq, D.tup.injEq, D.lst.injEq, D.bl.injEq, exists_eq_left', exists_eq_left, true_and, and_true, Nat.reduceAdd, Nat.reduceLeDiff, Nat.zero_add, if_true, if_false, Bool.false_eq_true, reduceCtorEq, decide_eq_true_eq, Bool.not_eq_true, ne_eq, not_false_eq_true, reduceIte, decide_true, decide_false, Bool.not_true, Bool.not_false, step_nil_eq]
  refine ⟨mulOk ha hd (by omega), mulOk hb hc (by omega), ?_⟩
  rw [show decide ((if a * d - b * c < 0 then -(a * d - b * c) else a * d - b * c) = 1) = decide (a * d - b * c = 1 ∨ a * d - b * c = -1) by
    apply decide_eq_decide.mpr; generalize a * d - b * c = t; split <;> omega]
  exact hq
theorem o_between {ds Q} (h : conBetween ds Q) : wpB Γ G core_4_ford_between (fin0 Q) (entry 2 ds) := by
  obtain ⟨a, b, c, d, rfl, hq⟩ := h
  refine step_cons ?_
  simp only [ent2, pr, wpS, wpE, wpEs, wpPs, wpT, wpO, wpIfs, pk_var, pk_cst, pk_glc, pk_bin, pk_neg, pk_not, pk_cmp, pk_chain, pk_and, pk_or, pk_ife, pk_tup, pk_lst, pk_idx, pk_sl, pk_rev, pk_isi, pk_maxK, pk_call, pk_prim, pk_comp, rt_var, rt_cst, rt_glc, rt_bin, rt_neg, rt_not, rt_cmp, rt_chain, rt_and, rt_or, rt_ife, rt_tup, rt_lst, rt_idx, rt_sl, rt_rev, rt_isi, rt_maxK, rt_call, rt_prim, rt_comp, stD_var, stD_tup, tgD_var, tgD_tt, tgD_tl, tgsD_nil, tgsD_cons, bare, bareP, bares, barePs, bareO, give_nil, give_cons, gG_s, gG_n, giveV_sh, giveV_ow, data_eq, shr_eq, own_eq, gD_s, gS_s, gO_s, vd_sh, vd_ow, b_add, b_sub, b_mul, b_fdiv, b_mod, b_pow, b_addL, b_addT, b_mulL, x_t, x_l, s_l, s_t, p_lenT, p_lenL, p_abs, p_int, p_intb, p_listT, p_listL, p_tupT, p_tupL, p_gcd, p_min, p_max, p_sum, i_t, i_l, i_r1, i_r2, i_zt, i_zl, n_i, bo_b, in_i, tr_n, tr_b, tr_i, tr_t, tr_l, nn_n, nn_t, nn_l, nn_i, nn_b, isiD_eq, isD, au_a, au_s, wi_n, wi_c, cmpD_eq_int, cmpD_ne_int, cmpD_eq_bl, cmpD_ne_bl, cmpD_lt, cmpD_le, cmpD_gt, cmpD_ge, cmpD_is, cmpD_isnot, truQ_bl, atI_0, atI_1, atI_2, atI_3, fin0, List.nil_append, List.append_nil, List.cons_append, List.getElem?_cons_zero, List.getElem?_cons_succ, set_0, set_s, List.length_cons, List.length_nil, Option.some.injEq, Val.sh.injEq, Val.ow.injEq, D.int.injEq, D.tup.injEq, D.lst.injEq, D.bl.injEq, exists_eq_left', exists_eq_left, true_and, and_true, Nat.reduceAdd, Nat.reduceLeDiff, Nat.zero_add, if_true, if_false, Bool.false_eq_true, reduceCtorEq, decide_eq_true_eq, Bool.not_eq_true, ne_eq, not_false_eq_true, reduceIte, decide_true, decide_false, Bool.not_true, Bool.not_false, step_nil_eq]
  exact hq
theorem o_worth {ds Q} (h : conWorth ds Q) : wpB Γ G core_1_worth (fin0 Q) (entry 1 ds) := by
  obtain ⟨a, b, n, rfl, h0, ha, hb, hn, hq⟩ := h
  refine step_cons ?_
  simp only [ent1, pr, wpS, wpE, wpEs, wpPs, wpT, wpO, wpIfs, pk_var, pk_cst, pk_glc, pk_bin, pk_neg, pk_not, pk_cmp, pk_chain, pk_and, pk_or, pk_ife, pk_tup, pk_lst, pk_idx, pk_sl, pk_rev, pk_isi, pk_maxK, pk_call, pk_prim, pk_comp, rt_var, rt_cst, rt_glc, rt_bin, rt_neg, rt_not, rt_cmp, rt_chain, rt_and, rt_or, rt_ife, rt_tup, rt_lst, rt_idx, rt_sl, rt_rev, rt_isi, rt_maxK, rt_call, rt_prim, rt_comp, stD_var, stD_tup, tgD_var, tgD_tt, tgD_tl, tgsD_nil, tgsD_cons, bare, bareP, bares, barePs, bareO, give_nil, give_cons, gG_s, gG_n, giveV_sh, giveV_ow, data_eq, shr_eq, own_eq, gD_s, gS_s, gO_s, vd_sh, vd_ow, b_add, b_sub, b_mul, b_fdiv, b_mod, b_pow, b_addL, b_addT, b_mulL, x_t, x_l, s_l, s_t, p_lenT, p_lenL, p_abs, p_int, p_intb, p_listT, p_listL, p_tupT, p_tupL, p_gcd, p_min, p_max, p_sum, i_t, i_l, i_r1, i_r2, i_zt, i_zl, n_i, bo_b, in_i, tr_n, tr_b, tr_i, tr_t, tr_l, nn_n, nn_t, nn_l, nn_i, nn_b, isiD_eq, isD, au_a, au_s, wi_n, wi_c, cmpD_eq_int, cmpD_ne_int, cmpD_eq_bl, cmpD_ne_bl, cmpD_lt, cmpD_le, cmpD_gt, cmpD_ge, cmpD_is, cmpD_isnot, truQ_bl, atI_0, atI_1, atI_2, atI_3, fin0, List.nil_append, List.append_nil, List.cons_append, List.getElem?_cons_zero, List.getElem?_cons_succ, set_0, set_s, List.length_cons, List.length_nil, Option.some.injEq, Val.sh.injEq, Val.ow.injEq, D.int.injEq, D.tup.injEq, D.lst.injEq, D.bl.injEq, exists_eq_left', exists_eq_left, true_and, and_true, Nat.reduceAdd, Nat.reduceLeDiff, Nat.zero_add, if_true, if_false, Bool.false_eq_true, reduceCtorEq, decide_eq_true_eq, Bool.not_eq_true, ne_eq, not_false_eq_true, reduceIte, decide_true, decide_false, Bool.not_true, Bool.not_false, step_nil_eq]
  exact ⟨⟨by decide, by decide, by decide⟩, mulOk ha (m := 40) (by decide) (by omega), divOk (by omega) hb (by omega), hq⟩
theorem o_less {ds Q} (h : conLess ds Q) : wpB Γ G core_17_law_less (fin0 Q) (entry 2 ds) := by
  obtain ⟨a, b, c, d, n, rfl, ha, hb, hc, hd, hn, hq⟩ := h
  refine step_cons ?_
  simp only [ent2, pr, wpS, wpE, wpEs, wpPs, wpT, wpO, wpIfs, pk_var, pk_cst, pk_glc, pk_bin, pk_neg, pk_not, pk_cmp, pk_chain, pk_and, pk_or, pk_ife, pk_tup, pk_lst, pk_idx, pk_sl, pk_rev, pk_isi, pk_maxK, pk_call, pk_prim, pk_comp, rt_var, rt_cst, rt_glc, rt_bin, rt_neg, rt_not, rt_cmp, rt_chain, rt_and, rt_or, rt_ife, rt_tup, rt_lst, rt_idx, rt_sl, rt_rev, rt_isi, rt_maxK, rt_call, rt_prim, rt_comp, stD_var, stD_tup, tgD_var, tgD_tt, tgD_tl, tgsD_nil, tgsD_cons, bare, bareP, bares, barePs, bareO, give_nil, give_cons, gG_s, gG_n, giveV_sh, giveV_ow, data_eq, shr_eq, own_eq, gD_s, gS_s, gO_s, vd_sh, vd_ow, b_add, b_sub, b_mul, b_fdiv, b_mod, b_pow, b_addL, b_addT, b_mulL, x_t, x_l, s_l, s_t, p_lenT, p_lenL, p_abs, p_int, p_intb, p_listT, p_listL, p_tupT, p_tupL, p_gcd, p_min, p_max, p_sum, i_t, i_l, i_r1, i_r2, i_zt, i_zl, n_i, bo_b, in_i, tr_n, tr_b, tr_i, tr_t, tr_l, nn_n, nn_t, nn_l, nn_i, nn_b, isiD_eq, isD, au_a, au_s, wi_n, wi_c, cmpD_eq_int, cmpD_ne_int, cmpD_eq_bl, cmpD_ne_bl, cmpD_lt, cmpD_le, cmpD_gt, cmpD_ge, cmpD_is, cmpD_isnot, truQ_bl, atI_0, atI_1, atI_2, atI_3, fin0, List.nil_append, List.append_nil, List.cons_append, List.getElem?_cons_zero, List.getElem?_cons_succ, set_0, set_s, List.length_cons, List.length_nil, Option.some.injEq, Val.sh.injEq, Val.ow.injEq, D.int.injEq, D.tup.injEq, D.lst.injEq, D.bl.injEq, exists_eq_left', exists_eq_left, true_and, and_true, Nat.reduceAdd, Nat.reduceLeDiff, Nat.zero_add, if_true, if_false, Bool.false_eq_true, reduceCtorEq, decide_eq_true_eq, Bool.not_eq_true, ne_eq, not_false_eq_true, reduceIte, decide_true, decide_false, Bool.not_true, Bool.not_false, step_nil_eq]
  exact ⟨mulOk ha hd (by omega), mulOk hc hb (by omega), hq⟩
theorem cast_mul (a b : Int) : ((a * b : Int) : Rat) = (a : Rat) * (b : Rat) := Rat.intCast_mul a b
theorem cast_add (a b : Int) : ((a + b : Int) : Rat) = (a : Rat) + (b : Rat) := Rat.intCast_add a b
theorem cast_sub (a b : Int) : ((a - b : Int) : Rat) = (a : Rat) - (b : Rat) := Rat.intCast_sub a b
theorem o_add {ds Q} (h : conAdd ds Q) (hΓ : Γ 14 = conLow) : wpB Γ G core_15_law_add (fin0 Q) (entry 2 ds) := by
  obtain ⟨a, b, c, d, n, rfl, hb0, hd0, ha, hb, hc, hd, hn, hq⟩ := h
  refine step_cons ?_
  simp only [ent2, pr, hΓ, wpS, wpE, wpEs, wpPs, wpT, wpO, wpIfs, pk_var, pk_cst, pk_glc, pk_bin, pk_neg, pk_not, pk_cmp, pk_chain, pk_and, pk_or, pk_ife, pk_tup, pk_lst, pk_idx, pk_sl, pk_rev, pk_isi, pk_maxK, pk_call, pk_prim, pk_comp, rt_var, rt_cst, rt_glc, rt_bin, rt_neg, rt_not, rt_cmp, rt_chain, rt_and, rt_or, rt_ife, rt_tup, rt_lst, rt_idx, rt_sl, rt_rev, rt_isi, rt_maxK, rt_call, rt_prim, rt_comp, stD_var, stD_tup, tgD_var, tgD_tt, tgD_tl, tgsD_nil, tgsD_cons, bare, bareP, bares, barePs, bareO, give_nil, give_cons, gG_s, gG_n, giveV_sh, giveV_ow, data_eq, shr_eq, own_eq, gD_s, gS_s, gO_s, vd_sh, vd_ow, b_add, b_sub, b_mul, b_fdiv, b_mod, b_pow, b_addL, b_addT, b_mulL, x_t, x_l, s_l, s_t, p_lenT, p_lenL, p_abs, p_int, p_intb, p_listT, p_listL, p_tupT, p_tupL, p_gcd, p_min, p_max, p_sum, i_t, i_l, i_r1, i_r2, i_zt, i_zl, n_i, bo_b, in_i, tr_n, tr_b, tr_i, tr_t, tr_l, nn_n, nn_t, nn_l, nn_i, nn_b, isiD_eq, isD, au_a, au_s, wi_n, wi_c, cmpD_eq_int, cmpD_ne_int, cmpD_eq_bl, cmpD_ne_bl, cmpD_lt, cmpD_le, cmpD_gt, cmpD_ge, cmpD_is, cmpD_isnot, truQ_bl, atI_0, atI_1, atI_2, atI_3, fin0, List.nil_append, List.append_nil, List.cons_append, List.getElem?_cons_zero, List.getElem?_cons_succ, set_0, set_s, List.length_cons, List.length_nil, Option.some.injEq, Val.sh.injEq, Val.ow.injEq, D.int.injEq, D.tup.injEq, D.lst.injEq, D.bl.injEq, exists_eq_left', exists_eq_left, true_and, and_true, Nat.reduceAdd, Nat.reduceLeDiff, Nat.zero_add, if_true, if_false, Bool.false_eq_true, reduceCtorEq, decide_eq_true_eq, Bool.not_eq_true, ne_eq, not_false_eq_true, reduceIte, decide_true, decide_false, Bool.not_true, Bool.not_false, step_nil_eq]
  refine ⟨mulOk ha hd (by omega), mulOk hc hb (by omega), mulOk hb hd (by omega), _, _, 2 * n + 1, rfl, Int.mul_pos hb0 hd0, ?_, ?_, by omega, fun x e bx => hq x ?_ bx⟩
  · have := bit_add (bit_mul ha hd) (bit_mul hc hb); rw [← Nat.two_mul] at this; exact this
  · have := bit_mul hb hd; rw [← Nat.two_mul] at this; exact bit_mono this (by omega)
  · rw [e, cast_add, cast_mul, cast_mul, cast_mul]
    have h1 := ratpos hb0
    have h2 := ratpos hd0
    grind
theorem o_times {ds Q} (h : conTimes ds Q) (hΓ : Γ 14 = conLow) : wpB Γ G core_16_law_times (fin0 Q) (entry 2 ds) := by
  obtain ⟨a, b, c, d, n, rfl, hb0, hd0, ha, hb, hc, hd, hn, hq⟩ := h
  refine step_cons ?_
  simp only [ent2, pr, hΓ, wpS, wpE, wpEs, wpPs, wpT, wpO, wpIfs, pk_var, pk_cst, pk_glc, pk_bin, pk_neg, pk_not, pk_cmp, pk_chain, pk_and, pk_or, pk_ife, pk_tup, pk_lst, pk_idx, pk_sl, pk_rev, pk_isi, pk_maxK, pk_call, pk_prim, pk_comp, rt_var, rt_cst, rt_glc, rt_bin, rt_neg, rt_not, rt_cmp, rt_chain, rt_and, rt_or, rt_ife, rt_tup, rt_lst, rt_idx, rt_sl, rt_rev, rt_isi, rt_maxK, rt_call, rt_prim, rt_comp, stD_var, stD_tup, tgD_var, tgD_tt, tgD_tl, tgsD_nil, tgsD_cons, bare, bareP, bares, barePs, bareO, give_nil, give_cons, gG_s, gG_n, giveV_sh, giveV_ow, data_eq, shr_eq, own_eq, gD_s, gS_s, gO_s, vd_sh, vd_ow, b_add, b_sub, b_mul, b_fdiv, b_mod, b_pow, b_addL, b_addT, b_mulL, x_t, x_l, s_l, s_t, p_lenT, p_lenL, p_abs, p_int, p_intb, p_listT, p_listL, p_tupT, p_tupL, p_gcd, p_min, p_max, p_sum, i_t, i_l, i_r1, i_r2, i_zt, i_zl, n_i, bo_b, in_i, tr_n, tr_b, tr_i, tr_t, tr_l, nn_n, nn_t, nn_l, nn_i, nn_b, isiD_eq, isD, au_a, au_s, wi_n, wi_c, cmpD_eq_int, cmpD_ne_int, cmpD_eq_bl, cmpD_ne_bl, cmpD_lt, cmpD_le, cmpD_gt, cmpD_ge, cmpD_is, cmpD_isnot, truQ_bl, atI_0, atI_1, atI_2, atI_3, fin0, List.nil_append, List.append_nil, List.cons_append, List.getElem?_cons_zero, List.getElem?_cons_succ, set_0, set_s, List.length_cons, List.length_nil, Option.some.injEq, Val.sh.injEq, Val.ow.injEq, D.int.injEq, D.tup.injEq, D.lst.injEq, D.bl.injEq, exists_eq_left', exists_eq_left, true_and, and_true, Nat.reduceAdd, Nat.reduceLeDiff, Nat.zero_add, if_true, if_false, Bool.false_eq_true, reduceCtorEq, decide_eq_true_eq, Bool.not_eq_true, ne_eq, not_false_eq_true, reduceIte, decide_true, decide_false, Bool.not_true, Bool.not_false, step_nil_eq]
  refine ⟨mulOk ha hc (by omega), mulOk hb hd (by omega), _, _, 2 * n + 1, rfl, Int.mul_pos hb0 hd0, ?_, ?_, by omega, fun x e bx => hq x ?_ bx⟩
  · have := bit_mul ha hc; rw [← Nat.two_mul] at this; exact bit_mono this (by omega)
  · have := bit_mul hb hd; rw [← Nat.two_mul] at this; exact bit_mono this (by omega)
  · rw [e, cast_mul, cast_mul]
    have h1 := ratpos hb0
    have h2 := ratpos hd0
    grind
theorem o_pick {ds Q} (h : conPick ds Q) (hΓ : Γ 7 = conDraw) : wpB Γ G core_8_law_pick (fin0 Q) (entry 2 ds) := by
  obtain ⟨xs, rfl, h0, h1, hq⟩ := h
  refine step_cons ?_
  simp only [ent2, pr, hΓ, conDraw, wpS, wpE, wpEs, wpPs, wpT, wpO, wpIfs, pk_var, pk_cst, pk_glc, pk_bin, pk_neg, pk_not, pk_cmp, pk_chain, pk_and, pk_or, pk_ife, pk_tup, pk_lst, pk_idx, pk_sl, pk_rev, pk_isi, pk_maxK, pk_call, pk_prim, pk_comp, rt_var, rt_cst, rt_glc, rt_bin, rt_neg, rt_not, rt_cmp, rt_chain, rt_and, rt_or, rt_ife, rt_tup, rt_lst, rt_idx, rt_sl, rt_rev, rt_isi, rt_maxK, rt_call, rt_prim, rt_comp, stD_var, stD_tup, tgD_var, tgD_tt, tgD_tl, tgsD_nil, tgsD_cons, bare, bareP, bares, barePs, bareO, give_nil, give_cons, gG_s, gG_n, giveV_sh, giveV_ow, data_eq, shr_eq, own_eq, gD_s, gS_s, gO_s, vd_sh, vd_ow, b_add, b_sub, b_mul, b_fdiv, b_mod, b_pow, b_addL, b_addT, b_mulL, x_t, x_l, s_l, s_t, p_lenT, p_lenL, p_abs, p_int, p_intb, p_listT, p_listL, p_tupT, p_tupL, p_gcd, p_min, p_max, p_sum, i_t, i_l, i_r1, i_r2, i_zt, i_zl, n_i, bo_b, in_i, tr_n, tr_b, tr_i, tr_t, tr_l, nn_n, nn_t, nn_l, nn_i, nn_b, isiD_eq, isD, au_a, au_s, wi_n, wi_c, cmpD_eq_int, cmpD_ne_int, cmpD_eq_bl, cmpD_ne_bl, cmpD_lt, cmpD_le, cmpD_gt, cmpD_ge, cmpD_is, cmpD_isnot, truQ_bl, atI_0, atI_1, atI_2, atI_3, fin0, List.nil_append, List.append_nil, List.cons_append, List.getElem?_cons_zero, List.getElem?_cons_succ, set_0, set_s, List.length_cons, List.length_nil, Option.some.injEq, Val.sh.injEq, Val.ow.injEq, D.int.injEq, D.tup.injEq, D.lst.injEq, D.bl.injEq, exists_eq_left', exists_eq_left, true_and, and_true, Nat.reduceAdd, Nat.reduceLeDiff, Nat.zero_add, if_true, if_false, Bool.false_eq_true, reduceCtorEq, decide_eq_true_eq, Bool.not_eq_true, ne_eq, not_false_eq_true, reduceIte, decide_true, decide_false, Bool.not_true, Bool.not_false, step_nil_eq]
  refine ⟨_, rfl, by omega, by omega, fun d d0 d1 => ?_⟩
  obtain ⟨i, rfl⟩ : ∃ i : Nat, d = i := ⟨d.toNat, by omega⟩
  have hi : i < xs.length := by omega
  refine ⟨xs[i], atI_nat' (List.getElem?_eq_getElem hi), hq i _ (List.getElem?_eq_getElem hi)⟩
theorem o_drawn {ds Q} (h : conDrawn ds Q) (hΓ : Γ 7 = conDraw) (hΓ2 : Γ 14 = conLow) : wpB Γ G core_18_law_drawn (fin0 Q) (entry 3 ds) := by
  obtain ⟨far, rfl, h0, h1, hq⟩ := h
  refine step_cons ?_
  simp only [ent32, hΓ, conDraw, wpS, wpE, wpEs, wpPs, wpT, wpO, wpIfs, pk_var, pk_cst, pk_glc, pk_bin, pk_neg, pk_not, pk_cmp, pk_chain, pk_and, pk_or, pk_ife, pk_tup, pk_lst, pk_idx, pk_sl, pk_rev, pk_isi, pk_maxK, pk_call, pk_prim, pk_comp, rt_var, rt_cst, rt_glc, rt_bin, rt_neg, rt_not, rt_cmp, rt_chain, rt_and, rt_or, rt_ife, rt_tup, rt_lst, rt_idx, rt_sl, rt_rev, rt_isi, rt_maxK, rt_call, rt_prim, rt_comp, stD_var, stD_tup, tgD_var, tgD_tt, tgD_tl, tgsD_nil, tgsD_cons, bare, bareP, bares, barePs, bareO, give_nil, give_cons, gG_s, gG_n, giveV_sh, giveV_ow, data_eq, shr_eq, own_eq, gD_s, gS_s, gO_s, vd_sh, vd_ow, b_add, b_sub, b_mul, b_fdiv, b_mod, b_pow, b_addL, b_addT, b_mulL, x_t, x_l, s_l, s_t, p_lenT, p_lenL, p_abs, p_int, p_intb, p_listT, p_listL, p_tupT, p_tupL, p_gcd, p_min, p_max, p_sum, i_t, i_l, i_r1, i_r2, i_zt, i_zl, n_i, bo_b, in_i, tr_n, tr_b, tr_i, tr_t, tr_l, nn_n, nn_t, nn_l, nn_i, nn_b, isiD_eq, isD, au_a, au_s, wi_n, wi_c, cmpD_eq_int, cmpD_ne_int, cmpD_eq_bl, cmpD_ne_bl, cmpD_lt, cmpD_le, cmpD_gt, cmpD_ge, cmpD_is, cmpD_isnot, truQ_bl, atI_0, atI_1, atI_2, atI_3, fin0, List.nil_append, List.append_nil, List.cons_append, List.getElem?_cons_zero, List.getElem?_cons_succ, set_0, set_s, List.length_cons, List.length_nil, Option.some.injEq, Val.sh.injEq, Val.ow.injEq, D.int.injEq, D.tup.injEq, D.lst.injEq, D.bl.injEq, exists_eq_left', exists_eq_left, true_and, and_true, Nat.reduceAdd, Nat.reduceLeDiff, Nat.zero_add, if_true, if_false, Bool.false_eq_true, reduceCtorEq, decide_eq_true_eq, Bool.not_eq_true, ne_eq, not_false_eq_true, reduceIte, decide_true, decide_false, Bool.not_true, Bool.not_false, step_nil_eq]
  refine ⟨_, rfl, h0, by omega, fun d d0 d1 => ?_⟩
  try simp only [wpS, wpE, wpEs, wpPs, wpT, wpO, wpIfs, pk_var, pk_cst, pk_glc, pk_bin, pk_neg, pk_not, pk_cmp, pk_chain, pk_and, pk_or, pk_ife, pk_tup, pk_lst, pk_idx, pk_sl, pk_rev, pk_isi, pk_maxK, pk_call, pk_prim, pk_comp, rt_var, rt_cst, rt_glc, rt_bin, rt_neg, rt_not, rt_cmp, rt_chain, rt_and, rt_or, rt_ife, rt_tup, rt_lst, rt_idx, rt_sl, rt_rev, rt_isi, rt_maxK, rt_call, rt_prim, rt_comp, stD_var, stD_tup, tgD_var, tgD_tt, tgD_tl, tgsD_nil, tgsD_cons, bare, bareP, bares, barePs, bareO, give_nil, give_cons, gG_s, gG_n, giveV_sh, giveV_ow, data_eq, shr_eq, own_eq, gD_s, gS_s, gO_s, vd_sh, vd_ow, b_add, b_sub, b_mul, b_fdiv, b_mod, b_pow, b_addL, b_addT, b_mulL, x_t, x_l, s_l, s_t, p_lenT, p_lenL, p_abs, p_int, p_intb, p_listT, p_listL, p_tupT, p_tupL, p_gcd, p_min, p_max, p_sum, i_t, i_l, i_r1, i_r2, i_zt, i_zl, n_i, bo_b, in_i, tr_n, tr_b, tr_i, tr_t, tr_l, nn_n, nn_t, nn_l, nn_i, nn_b, isiD_eq, isD, au_a, au_s, wi_n, wi_c, cmpD_eq_int, cmpD_ne_int, cmpD_eq_bl, cmpD_ne_bl, cmpD_lt, cmpD_le, cmpD_gt, cmpD_ge, cmpD_is, cmpD_isnot, truQ_bl, atI_0, atI_1, atI_2, atI_3, fin0, List.nil_append, List.append_nil, List.cons_append, List.getElem?_cons_zero, List.getElem?_cons_succ, set_0, set_s, List.length_cons, List.length_nil, Option.some.injEq, Val.sh.injEq, Val.ow.injEq, D.int.injEq, D.tup.injEq, D.lst.injEq, D.bl.injEq, exists_eq_left', exists_eq_left, true_and, and_true, Nat.reduceAdd, Nat.reduceLeDiff, Nat.zero_add, if_true, if_false, Bool.false_eq_true, reduceCtorEq, decide_eq_true_eq, Bool.not_eq_true, ne_eq, not_false_eq_true, reduceIte, decide_true, decide_false, Bool.not_true, Bool.not_false, step_nil_eq]
  refine step_cons ?_
  simp only [hΓ, hΓ2, conDraw, wpS, wpE, wpEs, wpPs, wpT, wpO, wpIfs, pk_var, pk_cst, pk_glc, pk_bin, pk_neg, pk_not, pk_cmp, pk_chain, pk_and, pk_or, pk_ife, pk_tup, pk_lst, pk_idx, pk_sl, pk_rev, pk_isi, pk_maxK, pk_call, pk_prim, pk_comp, rt_var, rt_cst, rt_glc, rt_bin, rt_neg, rt_not, rt_cmp, rt_chain, rt_and, rt_or, rt_ife, rt_tup, rt_lst, rt_idx, rt_sl, rt_rev, rt_isi, rt_maxK, rt_call, rt_prim, rt_comp, stD_var, stD_tup, tgD_var, tgD_tt, tgD_tl, tgsD_nil, tgsD_cons, bare, bareP, bares, barePs, bareO, give_nil, give_cons, gG_s, gG_n, giveV_sh, giveV_ow, data_eq, shr_eq, own_eq, gD_s, gS_s, gO_s, vd_sh, vd_ow, b_add, b_sub, b_mul, b_fdiv, b_mod, b_pow, b_addL, b_addT, b_mulL, x_t, x_l, s_l, s_t, p_lenT, p_lenL, p_abs, p_int, p_intb, p_listT, p_listL, p_tupT, p_tupL, p_gcd, p_min, p_max, p_sum, i_t, i_l, i_r1, i_r2, i_zt, i_zl, n_i, bo_b, in_i, tr_n, tr_b, tr_i, tr_t, tr_l, nn_n, nn_t, nn_l, nn_i, nn_b, isiD_eq, isD, au_a, au_s, wi_n, wi_c, cmpD_eq_int, cmpD_ne_int, cmpD_eq_bl, cmpD_ne_bl, cmpD_lt, cmpD_le, cmpD_gt, cmpD_ge, cmpD_is, cmpD_isnot, truQ_bl, atI_0, atI_1, atI_2, atI_3, fin0, List.nil_append, List.append_nil, List.cons_append, List.getElem?_cons_zero, List.getElem?_cons_succ, set_0, set_s, List.length_cons, List.length_nil, Option.some.injEq, Val.sh.injEq, Val.ow.injEq, D.int.injEq, D.tup.injEq, D.lst.injEq, D.bl.injEq, exists_eq_left', exists_eq_left, true_and, and_true, Nat.reduceAdd, Nat.reduceLeDiff, Nat.zero_add, if_true, if_false, Bool.false_eq_true, reduceCtorEq, decide_eq_true_eq, Bool.not_eq_true, ne_eq, not_false_eq_true, reduceIte, decide_true, decide_false, Bool.not_true, Bool.not_false, step_nil_eq]
  refine ⟨mulOk (n := 4) (m := 30) (by decide) (by omega) (by decide), _, rfl, by omega, by omega, fun e e0 e1 => ?_⟩
  try simp only [wpS, wpE, wpEs, wpPs, wpT, wpO, wpIfs, pk_var, pk_cst, pk_glc, pk_bin, pk_neg, pk_not, pk_cmp, pk_chain, pk_and, pk_or, pk_ife, pk_tup, pk_lst, pk_idx, pk_sl, pk_rev, pk_isi, pk_maxK, pk_call, pk_prim, pk_comp, rt_var, rt_cst, rt_glc, rt_bin, rt_neg, rt_not, rt_cmp, rt_chain, rt_and, rt_or, rt_ife, rt_tup, rt_lst, rt_idx, rt_sl, rt_rev, rt_isi, rt_maxK, rt_call, rt_prim, rt_comp, stD_var, stD_tup, tgD_var, tgD_tt, tgD_tl, tgsD_nil, tgsD_cons, bare, bareP, bares, barePs, bareO, give_nil, give_cons, gG_s, gG_n, giveV_sh, giveV_ow, data_eq, shr_eq, own_eq, gD_s, gS_s, gO_s, vd_sh, vd_ow, b_add, b_sub, b_mul, b_fdiv, b_mod, b_pow, b_addL, b_addT, b_mulL, x_t, x_l, s_l, s_t, p_lenT, p_lenL, p_abs, p_int, p_intb, p_listT, p_listL, p_tupT, p_tupL, p_gcd, p_min, p_max, p_sum, i_t, i_l, i_r1, i_r2, i_zt, i_zl, n_i, bo_b, in_i, tr_n, tr_b, tr_i, tr_t, tr_l, nn_n, nn_t, nn_l, nn_i, nn_b, isiD_eq, isD, au_a, au_s, wi_n, wi_c, cmpD_eq_int, cmpD_ne_int, cmpD_eq_bl, cmpD_ne_bl, cmpD_lt, cmpD_le, cmpD_gt, cmpD_ge, cmpD_is, cmpD_isnot, truQ_bl, atI_0, atI_1, atI_2, atI_3, fin0, List.nil_append, List.append_nil, List.cons_append, List.getElem?_cons_zero, List.getElem?_cons_succ, set_0, set_s, List.length_cons, List.length_nil, Option.some.injEq, Val.sh.injEq, Val.ow.injEq, D.int.injEq, D.tup.injEq, D.lst.injEq, D.bl.injEq, exists_eq_left', exists_eq_left, true_and, and_true, Nat.reduceAdd, Nat.reduceLeDiff, Nat.zero_add, if_true, if_false, Bool.false_eq_true, reduceCtorEq, decide_eq_true_eq, Bool.not_eq_true, ne_eq, not_false_eq_true, reduceIte, decide_true, decide_false, Bool.not_true, Bool.not_false, step_nil_eq]
  refine ⟨e - far, 1 + d, 30, rfl, by omega, by show (e - far).natAbs < 2 ^ 30; omega, by show (1 + d).natAbs < 2 ^ 30; omega, by decide, fun x ex bx => hq x ?_ ?_⟩
  · have := Rat.num_divInt (e - far) (1 + d)
    rw [Rat.divInt_eq_div, ← ex, Int.sign_eq_one_of_pos (by omega), Int.one_mul] at this
    rw [this]
    exact Int.le_trans (Int.ofNat_le.mpr (Int.natAbs_ediv_le_natAbs _ _)) (by omega)
  · have := Rat.den_divInt (e - far) (1 + d)
    rw [Rat.divInt_eq_div, ← ex, if_neg (by omega)] at this
    rw [this]
    exact Int.le_trans (Int.ofNat_le.mpr (Nat.div_le_self _ _)) (by omega)
end Lw
set_option maxHeartbeats 4000000
namespace Lw
open Gx
variable {Γ : Nat → Con} {G : Nat → D}
/-! ### lowest terms -/
theorem fdiv_gcd {p q : Int} (hq : 0 < q) (n : Nat) (hn : n ≤ 4000) (h1 : Sm n p) (h2 : Sm n q) : DivOk ((Nat.gcd p.natAbs q.natAbs : Nat) : Int) := by
  have hg : 0 < Nat.gcd p.natAbs q.natAbs := Nat.gcd_pos_of_pos_right _ (by omega)
  refine divOk (n := n) (by omega) ?_ (by omega)
  rw [Int.natAbs_natCast]
  exact Nat.lt_of_le_of_lt (Nat.gcd_le_right _ (by omega)) h2
theorem o_lowest {ds Q} (h : conLow ds Q) : wpB Γ G core_0_lowest (fin0 Q) (entry 3 ds) := by
  obtain ⟨p, q, n, rfl, hq0, hp, hq, hn, k⟩ := h
  refine step_cons ?_
  simp only [ent32, wpS, wpE, wpEs, wpPs, wpT, wpO, wpIfs, pk_var, pk_cst, pk_glc, pk_bin, pk_neg, pk_not, pk_cmp, pk_chain, pk_and, pk_or, pk_ife, pk_tup, pk_lst, pk_idx, pk_sl, pk_rev, pk_isi, pk_maxK, pk_call, pk_prim, pk_comp, rt_var, rt_cst, rt_glc, rt_bin, rt_neg, rt_not, rt_cmp, rt_chain, rt_and, rt_or, rt_ife, rt_tup, rt_lst, rt_idx, rt_sl, rt_rev, rt_isi, rt_maxK, rt_call, rt_prim, rt_comp, stD_var, stD_tup, tgD_var, tgD_tt, tgD_tl, tgsD_nil, tgsD_cons, bare, bareP, bares, barePs, bareO, give_nil, give_cons, gG_s, gG_n, giveV_sh, giveV_ow, data_eq, shr_eq, own_eq, gD_s, gS_s, gO_s, vd_sh, vd_ow, b_add, b_sub, b_mul, b_fdiv, b_mod, b_pow, b_addL, b_addT, b_mulL, x_t, x_l, s_l, s_t, p_lenT, p_lenL, p_abs, p_int, p_intb, p_listT, p_listL, p_tupT, p_tupL, p_gcd, p_min, p_max, p_sum, i_t, i_l, i_r1, i_r2, i_zt, i_zl, n_i, bo_b, in_i, tr_n, tr_b, tr_i, tr_t, tr_l, nn_n, nn_t, nn_l, nn_i, nn_b, isiD_eq, isD, au_a, au_s, wi_n, wi_c, cmpD_eq_int, cmpD_ne_int, cmpD_eq_bl, cmpD_ne_bl, cmpD_lt, cmpD_le, cmpD_gt, cmpD_ge, cmpD_is, cmpD_isnot, truQ_bl, atI_0, atI_1, atI_2, atI_3, fin0, List.nil_append, List.append_nil, List.cons_append, List.getElem?_cons_zero, List.getElem?_cons_succ, set_0, set_s, List.length_cons, List.length_nil, Option.some.injEq, Val.sh.injEq, Val.ow.injEq, D.int.injEq, D.tup.injEq, D.lst.injEq, D.bl.injEq, exists_eq_left', exists_eq_left, true_and, and_true, Nat.reduceAdd, Nat.reduceLeDiff, Nat.zero_add, if_true, if_false, Bool.false_eq_true, reduceCtorEq, decide_eq_true_eq, Bool.not_eq_true, ne_eq, not_false_eq_true, reduceIte, decide_true, decide_false, Bool.not_true, Bool.not_false, step_nil_eq]
  rw [if_pos hq0]
  try simp only [wpS, wpE, wpEs, wpPs, wpT, wpO, wpIfs, pk_var, pk_cst, pk_glc, pk_bin, pk_neg, pk_not, pk_cmp, pk_chain, pk_and, pk_or, pk_ife, pk_tup, pk_lst, pk_idx, pk_sl, pk_rev, pk_isi, pk_maxK, pk_call, pk_prim, pk_comp, rt_var, rt_cst, rt_glc, rt_bin, rt_neg, rt_not, rt_cmp, rt_chain, rt_and, rt_or, rt_ife, rt_tup, rt_lst, rt_idx, rt_sl, rt_rev, rt_isi, rt_maxK, rt_call, rt_prim, rt_comp, stD_var, stD_tup, tgD_var, tgD_tt, tgD_tl, tgsD_nil, tgsD_cons, bare, bareP, bares, barePs, bareO, give_nil, give_cons, gG_s, gG_n, giveV_sh, giveV_ow, data_eq, shr_eq, own_eq, gD_s, gS_s, gO_s, vd_sh, vd_ow, b_add, b_sub, b_mul, b_fdiv, b_mod, b_pow, b_addL, b_addT, b_mulL, x_t, x_l, s_l, s_t, p_lenT, p_lenL, p_abs, p_int, p_intb, p_listT, p_listL, p_tupT, p_tupL, p_gcd, p_min, p_max, p_sum, i_t, i_l, i_r1, i_r2, i_zt, i_zl, n_i, bo_b, in_i, tr_n, tr_b, tr_i, tr_t, tr_l, nn_n, nn_t, nn_l, nn_i, nn_b, isiD_eq, isD, au_a, au_s, wi_n, wi_c, cmpD_eq_int, cmpD_ne_int, cmpD_eq_bl, cmpD_ne_bl, cmpD_lt, cmpD_le, cmpD_gt, cmpD_ge, cmpD_is, cmpD_isnot, truQ_bl, atI_0, atI_1, atI_2, atI_3, fin0, List.nil_append, List.append_nil, List.cons_append, List.getElem?_cons_zero, List.getElem?_cons_succ, set_0, set_s, List.length_cons, List.length_nil, Option.some.injEq, Val.sh.injEq, Val.ow.injEq, D.int.injEq, D.tup.injEq, D.lst.injEq, D.bl.injEq, exists_eq_left', exists_eq_left, true_and, and_true, Nat.reduceAdd, Nat.reduceLeDiff, Nat.zero_add, if_true, if_false, Bool.false_eq_true, reduceCtorEq, decide_eq_true_eq, Bool.not_eq_true, ne_eq, not_false_eq_true, reduceIte, decide_true, decide_false, Bool.not_true, Bool.not_false, step_nil_eq]
  refine step_cons ?_
  try simp only [wpS, wpE, wpEs, wpPs, wpT, wpO, wpIfs, pk_var, pk_cst, pk_glc, pk_bin, pk_neg, pk_not, pk_cmp, pk_chain, pk_and, pk_or, pk_ife, pk_tup, pk_lst, pk_idx, pk_sl, pk_rev, pk_isi, pk_maxK, pk_call, pk_prim, pk_comp, rt_var, rt_cst, rt_glc, rt_bin, rt_neg, rt_not, rt_cmp, rt_chain, rt_and, rt_or, rt_ife, rt_tup, rt_lst, rt_idx, rt_sl, rt_rev, rt_isi, rt_maxK, rt_call, rt_prim, rt_comp, stD_var, stD_tup, tgD_var, tgD_tt, tgD_tl, tgsD_nil, tgsD_cons, bare, bareP, bares, barePs, bareO, give_nil, give_cons, gG_s, gG_n, giveV_sh, giveV_ow, data_eq, shr_eq, own_eq, gD_s, gS_s, gO_s, vd_sh, vd_ow, b_add, b_sub, b_mul, b_fdiv, b_mod, b_pow, b_addL, b_addT, b_mulL, x_t, x_l, s_l, s_t, p_lenT, p_lenL, p_abs, p_int, p_intb, p_listT, p_listL, p_tupT, p_tupL, p_gcd, p_min, p_max, p_sum, i_t, i_l, i_r1, i_r2, i_zt, i_zl, n_i, bo_b, in_i, tr_n, tr_b, tr_i, tr_t, tr_l, nn_n, nn_t, nn_l, nn_i, nn_b, isiD_eq, isD, au_a, au_s, wi_n, wi_c, cmpD_eq_int, cmpD_ne_int, cmpD_eq_bl, cmpD_ne_bl, cmpD_lt, cmpD_le, cmpD_gt, cmpD_ge, cmpD_is, cmpD_isnot, truQ_bl, atI_0, atI_1, atI_2, atI_3, fin0, List.nil_append, List.append_nil, List.cons_append, List.getElem?_cons_zero, List.getElem?_cons_succ, set_0, set_s, List.length_cons, List.length_nil, Option.some.injEq, Val.sh.injEq, Val.ow.injEq, D.int.injEq, D.tup.injEq, D.lst.injEq, D.bl.injEq, exists_eq_left', exists_eq_left, true_and, and_true, Nat.reduceAdd, Nat.reduceLeDiff, Nat.zero_add, if_true, if_false, Bool.false_eq_true, reduceCtorEq, decide_eq_true_eq, Bool.not_eq_true, ne_eq, not_false_eq_true, reduceIte, decide_true, decide_false, Bool.not_true, Bool.not_false, step_nil_eq]
  refine ⟨fdiv_gcd hq0 n hn hp hq, fdiv_gcd hq0 n hn hp hq, ?_⟩
  rw [fr_of hq0]
  exact k _ rfl (bt_of hq0 hp hq)
theorem ent42 (a b : D) : entry 4 [a, b] = [some (.sh a), some (.sh b), none, none] := rfl
theorem natAbs_ite (i : Int) : (if i < 0 then -i else i) = (i.natAbs : Int) := by split <;> omega
theorem o_low {ds Q} (h : conLow ds Q) : wpB Γ G core_14_law_low (fin0 Q) (entry 4 ds) := by
  obtain ⟨p, q, n, rfl, hq0, hp, hq, hn, k⟩ := h
  refine step_cons ?_
  simp only [ent42, natAbs_ite, wpS, wpE, wpEs, wpPs, wpT, wpO, wpIfs, pk_var, pk_cst, pk_glc, pk_bin, pk_neg, pk_not, pk_cmp, pk_chain, pk_and, pk_or, pk_ife, pk_tup, pk_lst, pk_idx, pk_sl, pk_rev, pk_isi, pk_maxK, pk_call, pk_prim, pk_comp, rt_var, rt_cst, rt_glc, rt_bin, rt_neg, rt_not, rt_cmp, rt_chain, rt_and, rt_or, rt_ife, rt_tup, rt_lst, rt_idx, rt_sl, rt_rev, rt_isi, rt_maxK, rt_call, rt_prim, rt_comp, stD_var, stD_tup, tgD_var, tgD_tt, tgD_tl, tgsD_nil, tgsD_cons, bare, bareP, bares, barePs, bareO, give_nil, give_cons, gG_s, gG_n, giveV_sh, giveV_ow, data_eq, shr_eq, own_eq, gD_s, gS_s, gO_s, vd_sh, vd_ow, b_add, b_sub, b_mul, b_fdiv, b_mod, b_pow, b_addL, b_addT, b_mulL, x_t, x_l, s_l, s_t, p_lenT, p_lenL, p_abs, p_int, p_intb, p_listT, p_listL, p_tupT, p_tupL, p_gcd, p_min, p_max, p_sum, i_t, i_l, i_r1, i_r2, i_zt, i_zl, n_i, bo_b, in_i, tr_n, tr_b, tr_i, tr_t, tr_l, nn_n, nn_t, nn_l, nn_i, nn_b, isiD_eq, isD, au_a, au_s, wi_n, wi_c, cmpD_eq_int, cmpD_ne_int, cmpD_eq_bl, cmpD_ne_bl, cmpD_lt, cmpD_le, cmpD_gt, cmpD_ge, cmpD_is, cmpD_isnot, truQ_bl, atI_0, atI_1, atI_2, atI_3, fin0, List.nil_append, List.append_nil, List.cons_append, List.getElem?_cons_zero, List.getElem?_cons_succ, set_0, set_s, List.length_cons, List.length_nil, Option.some.injEq, Val.sh.injEq, Val.ow.injEq, D.int.injEq, D.tup.injEq, D.lst.injEq, D.bl.injEq, exists_eq_left', exists_eq_left, true_and, and_true, Nat.reduceAdd, Nat.reduceLeDiff, Nat.zero_add, if_true, if_false, Bool.false_eq_true, reduceCtorEq, decide_eq_true_eq, Bool.not_eq_true, ne_eq, not_false_eq_true, reduceIte, decide_true, decide_false, Bool.not_true, Bool.not_false, step_nil_eq]
  refine step_cons ?_
  try simp only [wpS, wpE, wpEs, wpPs, wpT, wpO, wpIfs, pk_var, pk_cst, pk_glc, pk_bin, pk_neg, pk_not, pk_cmp, pk_chain, pk_and, pk_or, pk_ife, pk_tup, pk_lst, pk_idx, pk_sl, pk_rev, pk_isi, pk_maxK, pk_call, pk_prim, pk_comp, rt_var, rt_cst, rt_glc, rt_bin, rt_neg, rt_not, rt_cmp, rt_chain, rt_and, rt_or, rt_ife, rt_tup, rt_lst, rt_idx, rt_sl, rt_rev, rt_isi, rt_maxK, rt_call, rt_prim, rt_comp, stD_var, stD_tup, tgD_var, tgD_tt, tgD_tl, tgsD_nil, tgsD_cons, bare, bareP, bares, barePs, bareO, give_nil, give_cons, gG_s, gG_n, giveV_sh, giveV_ow, data_eq, shr_eq, own_eq, gD_s, gS_s, gO_s, vd_sh, vd_ow, b_add, b_sub, b_mul, b_fdiv, b_mod, b_pow, b_addL, b_addT, b_mulL, x_t, x_l, s_l, s_t, p_lenT, p_lenL, p_abs, p_int, p_intb, p_listT, p_listL, p_tupT, p_tupL, p_gcd, p_min, p_max, p_sum, i_t, i_l, i_r1, i_r2, i_zt, i_zl, n_i, bo_b, in_i, tr_n, tr_b, tr_i, tr_t, tr_l, nn_n, nn_t, nn_l, nn_i, nn_b, isiD_eq, isD, au_a, au_s, wi_n, wi_c, cmpD_eq_int, cmpD_ne_int, cmpD_eq_bl, cmpD_ne_bl, cmpD_lt, cmpD_le, cmpD_gt, cmpD_ge, cmpD_is, cmpD_isnot, truQ_bl, atI_0, atI_1, atI_2, atI_3, fin0, List.nil_append, List.append_nil, List.cons_append, List.getElem?_cons_zero, List.getElem?_cons_succ, set_0, set_s, List.length_cons, List.length_nil, Option.some.injEq, Val.sh.injEq, Val.ow.injEq, D.int.injEq, D.tup.injEq, D.lst.injEq, D.bl.injEq, exists_eq_left', exists_eq_left, true_and, and_true, Nat.reduceAdd, Nat.reduceLeDiff, Nat.zero_add, if_true, if_false, Bool.false_eq_true, reduceCtorEq, decide_eq_true_eq, Bool.not_eq_true, ne_eq, not_false_eq_true, reduceIte, decide_true, decide_false, Bool.not_true, Bool.not_false, step_nil_eq]
  refine ⟨fun m ρ => ∃ a b : Nat, ρ = [some (.sh (.int p)), some (.sh (.int q)), some (.sh (.int a)), some (.sh (.int b))] ∧ m = b ∧ Nat.gcd a b = Nat.gcd p.natAbs q.natAbs, ⟨_, _, _, rfl, rfl, rfl⟩, ?_⟩
  rintro m ρ ⟨a, b, rfl, rfl, hg⟩
  try simp only [wpS, wpE, wpEs, wpPs, wpT, wpO, wpIfs, pk_var, pk_cst, pk_glc, pk_bin, pk_neg, pk_not, pk_cmp, pk_chain, pk_and, pk_or, pk_ife, pk_tup, pk_lst, pk_idx, pk_sl, pk_rev, pk_isi, pk_maxK, pk_call, pk_prim, pk_comp, rt_var, rt_cst, rt_glc, rt_bin, rt_neg, rt_not, rt_cmp, rt_chain, rt_and, rt_or, rt_ife, rt_tup, rt_lst, rt_idx, rt_sl, rt_rev, rt_isi, rt_maxK, rt_call, rt_prim, rt_comp, stD_var, stD_tup, tgD_var, tgD_tt, tgD_tl, tgsD_nil, tgsD_cons, bare, bareP, bares, barePs, bareO, give_nil, give_cons, gG_s, gG_n, giveV_sh, giveV_ow, data_eq, shr_eq, own_eq, gD_s, gS_s, gO_s, vd_sh, vd_ow, b_add, b_sub, b_mul, b_fdiv, b_mod, b_pow, b_addL, b_addT, b_mulL, x_t, x_l, s_l, s_t, p_lenT, p_lenL, p_abs, p_int, p_intb, p_listT, p_listL, p_tupT, p_tupL, p_gcd, p_min, p_max, p_sum, i_t, i_l, i_r1, i_r2, i_zt, i_zl, n_i, bo_b, in_i, tr_n, tr_b, tr_i, tr_t, tr_l, nn_n, nn_t, nn_l, nn_i, nn_b, isiD_eq, isD, au_a, au_s, wi_n, wi_c, cmpD_eq_int, cmpD_ne_int, cmpD_eq_bl, cmpD_ne_bl, cmpD_lt, cmpD_le, cmpD_gt, cmpD_ge, cmpD_is, cmpD_isnot, truQ_bl, atI_0, atI_1, atI_2, atI_3, fin0, List.nil_append, List.append_nil, List.cons_append, List.getElem?_cons_zero, List.getElem?_cons_succ, set_0, set_s, List.length_cons, List.length_nil, Option.some.injEq, Val.sh.injEq, Val.ow.injEq, D.int.injEq, D.tup.injEq, D.lst.injEq, D.bl.injEq, exists_eq_left', exists_eq_left, true_and, and_true, Nat.reduceAdd, Nat.reduceLeDiff, Nat.zero_add, if_true, if_false, Bool.false_eq_true, reduceCtorEq, decide_eq_true_eq, Bool.not_eq_true, ne_eq, not_false_eq_true, reduceIte, decide_true, decide_false, Bool.not_true, Bool.not_false, step_nil_eq]
  by_cases hb : 0 < (m : Int)
  · rw [if_pos hb]
    refine step_cons ?_
    try simp only [wpS, wpE, wpEs, wpPs, wpT, wpO, wpIfs, pk_var, pk_cst, pk_glc, pk_bin, pk_neg, pk_not, pk_cmp, pk_chain, pk_and, pk_or, pk_ife, pk_tup, pk_lst, pk_idx, pk_sl, pk_rev, pk_isi, pk_maxK, pk_call, pk_prim, pk_comp, rt_var, rt_cst, rt_glc, rt_bin, rt_neg, rt_not, rt_cmp, rt_chain, rt_and, rt_or, rt_ife, rt_tup, rt_lst, rt_idx, rt_sl, rt_rev, rt_isi, rt_maxK, rt_call, rt_prim, rt_comp, stD_var, stD_tup, tgD_var, tgD_tt, tgD_tl, tgsD_nil, tgsD_cons, bare, bareP, bares, barePs, bareO, give_nil, give_cons, gG_s, gG_n, giveV_sh, giveV_ow, data_eq, shr_eq, own_eq, gD_s, gS_s, gO_s, vd_sh, vd_ow, b_add, b_sub, b_mul, b_fdiv, b_mod, b_pow, b_addL, b_addT, b_mulL, x_t, x_l, s_l, s_t, p_lenT, p_lenL, p_abs, p_int, p_intb, p_listT, p_listL, p_tupT, p_tupL, p_gcd, p_min, p_max, p_sum, i_t, i_l, i_r1, i_r2, i_zt, i_zl, n_i, bo_b, in_i, tr_n, tr_b, tr_i, tr_t, tr_l, nn_n, nn_t, nn_l, nn_i, nn_b, isiD_eq, isD, au_a, au_s, wi_n, wi_c, cmpD_eq_int, cmpD_ne_int, cmpD_eq_bl, cmpD_ne_bl, cmpD_lt, cmpD_le, cmpD_gt, cmpD_ge, cmpD_is, cmpD_isnot, truQ_bl, atI_0, atI_1, atI_2, atI_3, fin0, List.nil_append, List.append_nil, List.cons_append, List.getElem?_cons_zero, List.getElem?_cons_succ, set_0, set_s, List.length_cons, List.length_nil, Option.some.injEq, Val.sh.injEq, Val.ow.injEq, D.int.injEq, D.tup.injEq, D.lst.injEq, D.bl.injEq, exists_eq_left', exists_eq_left, true_and, and_true, Nat.reduceAdd, Nat.reduceLeDiff, Nat.zero_add, if_true, if_false, Bool.false_eq_true, reduceCtorEq, decide_eq_true_eq, Bool.not_eq_true, ne_eq, not_false_eq_true, reduceIte, decide_true, decide_false, Bool.not_true, Bool.not_false, step_nil_eq]
    refine ⟨by omega, ?_⟩
    refine ⟨a % m, Nat.mod_lt _ (by omega), ⟨m, a % m, by rw [Int.fmod_eq_emod_of_nonneg _ (by omega)]; rfl, rfl, ?_⟩⟩
    rw [← hg, Nat.gcd_comm a m, Nat.gcd_rec m a, Nat.gcd_comm]
  · rw [if_neg hb]
    have e : m = 0 := by omega
    subst e
    rw [Nat.gcd_zero_right] at hg
    subst hg
    refine step_cons ?_
    try simp only [wpS, wpE, wpEs, wpPs, wpT, wpO, wpIfs, pk_var, pk_cst, pk_glc, pk_bin, pk_neg, pk_not, pk_cmp, pk_chain, pk_and, pk_or, pk_ife, pk_tup, pk_lst, pk_idx, pk_sl, pk_rev, pk_isi, pk_maxK, pk_call, pk_prim, pk_comp, rt_var, rt_cst, rt_glc, rt_bin, rt_neg, rt_not, rt_cmp, rt_chain, rt_and, rt_or, rt_ife, rt_tup, rt_lst, rt_idx, rt_sl, rt_rev, rt_isi, rt_maxK, rt_call, rt_prim, rt_comp, stD_var, stD_tup, tgD_var, tgD_tt, tgD_tl, tgsD_nil, tgsD_cons, bare, bareP, bares, barePs, bareO, give_nil, give_cons, gG_s, gG_n, giveV_sh, giveV_ow, data_eq, shr_eq, own_eq, gD_s, gS_s, gO_s, vd_sh, vd_ow, b_add, b_sub, b_mul, b_fdiv, b_mod, b_pow, b_addL, b_addT, b_mulL, x_t, x_l, s_l, s_t, p_lenT, p_lenL, p_abs, p_int, p_intb, p_listT, p_listL, p_tupT, p_tupL, p_gcd, p_min, p_max, p_sum, i_t, i_l, i_r1, i_r2, i_zt, i_zl, n_i, bo_b, in_i, tr_n, tr_b, tr_i, tr_t, tr_l, nn_n, nn_t, nn_l, nn_i, nn_b, isiD_eq, isD, au_a, au_s, wi_n, wi_c, cmpD_eq_int, cmpD_ne_int, cmpD_eq_bl, cmpD_ne_bl, cmpD_lt, cmpD_le, cmpD_gt, cmpD_ge, cmpD_is, cmpD_isnot, truQ_bl, atI_0, atI_1, atI_2, atI_3, fin0, List.nil_append, List.append_nil, List.cons_append, List.getElem?_cons_zero, List.getElem?_cons_succ, set_0, set_s, List.length_cons, List.length_nil, Option.some.injEq, Val.sh.injEq, Val.ow.injEq, D.int.injEq, D.tup.injEq, D.lst.injEq, D.bl.injEq, exists_eq_left', exists_eq_left, true_and, and_true, Nat.reduceAdd, Nat.reduceLeDiff, Nat.zero_add, if_true, if_false, Bool.false_eq_true, reduceCtorEq, decide_eq_true_eq, Bool.not_eq_true, ne_eq, not_false_eq_true, reduceIte, decide_true, decide_false, Bool.not_true, Bool.not_false, step_nil_eq]
    rw [if_pos hq0]
    try simp only [wpS, wpE, wpEs, wpPs, wpT, wpO, wpIfs, pk_var, pk_cst, pk_glc, pk_bin, pk_neg, pk_not, pk_cmp, pk_chain, pk_and, pk_or, pk_ife, pk_tup, pk_lst, pk_idx, pk_sl, pk_rev, pk_isi, pk_maxK, pk_call, pk_prim, pk_comp, rt_var, rt_cst, rt_glc, rt_bin, rt_neg, rt_not, rt_cmp, rt_chain, rt_and, rt_or, rt_ife, rt_tup, rt_lst, rt_idx, rt_sl, rt_rev, rt_isi, rt_maxK, rt_call, rt_prim, rt_comp, stD_var, stD_tup, tgD_var, tgD_tt, tgD_tl, tgsD_nil, tgsD_cons, bare, bareP, bares, barePs, bareO, give_nil, give_cons, gG_s, gG_n, giveV_sh, giveV_ow, data_eq, shr_eq, own_eq, gD_s, gS_s, gO_s, vd_sh, vd_ow, b_add, b_sub, b_mul, b_fdiv, b_mod, b_pow, b_addL, b_addT, b_mulL, x_t, x_l, s_l, s_t, p_lenT, p_lenL, p_abs, p_int, p_intb, p_listT, p_listL, p_tupT, p_tupL, p_gcd, p_min, p_max, p_sum, i_t, i_l, i_r1, i_r2, i_zt, i_zl, n_i, bo_b, in_i, tr_n, tr_b, tr_i, tr_t, tr_l, nn_n, nn_t, nn_l, nn_i, nn_b, isiD_eq, isD, au_a, au_s, wi_n, wi_c, cmpD_eq_int, cmpD_ne_int, cmpD_eq_bl, cmpD_ne_bl, cmpD_lt, cmpD_le, cmpD_gt, cmpD_ge, cmpD_is, cmpD_isnot, truQ_bl, atI_0, atI_1, atI_2, atI_3, fin0, List.nil_append, List.append_nil, List.cons_append, List.getElem?_cons_zero, List.getElem?_cons_succ, set_0, set_s, List.length_cons, List.length_nil, Option.some.injEq, Val.sh.injEq, Val.ow.injEq, D.int.injEq, D.tup.injEq, D.lst.injEq, D.bl.injEq, exists_eq_left', exists_eq_left, true_and, and_true, Nat.reduceAdd, Nat.reduceLeDiff, Nat.zero_add, if_true, if_false, Bool.false_eq_true, reduceCtorEq, decide_eq_true_eq, Bool.not_eq_true, ne_eq, not_false_eq_true, reduceIte, decide_true, decide_false, Bool.not_true, Bool.not_false, step_nil_eq]
    refine ⟨fdiv_gcd hq0 n hn hp hq, fdiv_gcd hq0 n hn hp hq, ?_⟩
    rw [fr_of hq0]
    exact k _ rfl (bt_of hq0 hp hq)
/-! ### the law's equality: of a thing with itself -/
def OkE : Nat → D → Prop
  | 0, _ => False
  | _ + 1, .int _ => True
  | _ + 1, .bl _ => True
  | n + 1, .tup xs => xs.length ≤ 10000 ∧ ∀ x, x ∈ xs → OkE n x
  | n + 1, .lst xs => xs.length ≤ 10000 ∧ ∀ x, x ∈ xs → OkE n x
  | _, _ => False
def conEq (n : Nat) : Con := fun ds Q => ∃ d, ds = [d, d] ∧ OkE n d ∧ Q (.sh (.bl true))
def eqCore (inner : CE) : List CS := [CS.ife ((CE.isi TK.list (CE.var 1)).or (CE.isi TK.tuple (CE.var 1)))
      [CS.ife
          ((CE.cmp CO.ne (CE.isi TK.list (CE.var 0)) (CE.isi TK.list (CE.var 1))).or
            (CE.cmp CO.ne (CE.isi TK.tuple (CE.var 0)) (CE.isi TK.tuple (CE.var 1))))
          [CS.ret (CE.cst (D.bl false))] [],
        CS.ife (CE.cmp CO.ne (CE.prim PK.len [CE.var 0]) (CE.prim PK.len [CE.var 1])) [CS.ret (CE.cst (D.bl false))] [],
        CS.ret
          (CE.cmp CO.eq
            (CE.comp [2] (CE.var 2) (CT.var 2) IK.range [CE.prim PK.len [CE.var 1]]
              [inner.not])
            (CE.lst []))]
      [],
    CS.ife (CE.cmp CO.is (CE.var 1) (CE.cst D.non)) [CS.ret (CE.cmp CO.is (CE.var 0) (CE.cst D.non))] [],
    CS.ife (CE.isi TK.str (CE.var 1)) [CS.ret ((CE.isi TK.str (CE.var 0)).and (CE.cmp CO.eq (CE.var 0) (CE.var 1)))] [],
    CS.ife (CE.isi TK.bool (CE.var 1)) [CS.ret ((CE.isi TK.bool (CE.var 0)).and (CE.cmp CO.eq (CE.var 0) (CE.var 1)))] [],
    CS.ret ((CE.isi TK.int (CE.var 0)).and ((CE.isi TK.bool (CE.var 0)).not.and (CE.cmp CO.eq (CE.var 0) (CE.var 1))))]
theorem eq_ret {n : Nat} {xs : List D} {d : D} {Q : Val → Prop} {inner : CE} (hd : d = .tup xs ∨ d = .lst xs) (hl : xs.length ≤ 10000)
    (hb : bare inner = [2, 2] ∨ bare inner = []) (hi : ∀ (i : Nat) x, xs[i]? = some x → wpT Γ G inner [some (.sh d), some (.sh d), some (.sh (.int i))] fun k => k = true) (hm : ConMono Γ) (k : Q (.sh (.bl true))) (kn : Ev → Prop) :
    wpB Γ G [CS.ret
          (CE.cmp CO.eq
            (CE.comp [2] (CE.var 2) (CT.var 2) IK.range [CE.prim PK.len [CE.var 1]]
              [inner.not])
            (CE.lst []))] { nx := kn, rt := Q } [some (.sh d), some (.sh d), none] := by
  refine step_cons ?_
  have key : ∀ m, primD .len [d] m = m (.sh (.int xs.length)) := by intro m; rcases hd with rfl | rfl <;> rfl
  rcases hb with hb | hb
  · simp only [hb, key, wpS, wpE, wpEs, wpPs, wpT, wpO, wpIfs, pk_var, pk_cst, pk_glc, pk_bin, pk_neg, pk_not, pk_cmp, pk_chain, pk_and, pk_or, pk_ife, pk_tup, pk_lst, pk_idx, pk_sl, pk_rev, pk_isi, pk_maxK, pk_call, pk_prim, pk_comp, rt_var, rt_cst, rt_glc, rt_bin, rt_neg, rt_not, rt_cmp, rt_chain, rt_and, rt_or, rt_ife, rt_tup, rt_lst, rt_idx, rt_sl, rt_rev, rt_isi, rt_maxK, rt_call, rt_prim, rt_comp, stD_var, stD_tup, tgD_var, tgD_tt, tgD_tl, tgsD_nil, tgsD_cons, bare, bareP, bares, barePs, bareO, give_nil, give_cons, gG_s, gG_n, giveV_sh, giveV_ow, data_eq, shr_eq, own_eq, gD_s, gS_s, gO_s, vd_sh, vd_ow, b_add, b_sub, b_mul, b_fdiv, b_mod, b_pow, b_addL, b_addT, b_mulL, x_t, x_l, s_l, s_t, p_lenT, p_lenL, p_abs, p_int, p_intb, p_listT, p_listL, p_tupT, p_tupL, p_gcd, p_min, p_max, p_sum, i_t, i_l, i_r1, i_r2, i_zt, i_zl, n_i, bo_b, in_i, tr_n, tr_b, tr_i, tr_t, tr_l, nn_n, nn_t, nn_l, nn_i, nn_b, isiD_eq, isD, au_a, au_s, wi_n, wi_c, cmpD_eq_int, cmpD_ne_int, cmpD_eq_bl, cmpD_ne_bl, cmpD_lt, cmpD_le, cmpD_gt, cmpD_ge, cmpD_is, cmpD_isnot, truQ_bl, atI_0, atI_1, atI_2, atI_3, fin0, List.nil_append, List.append_nil, List.cons_append, List.getElem?_cons_zero, List.getElem?_cons_succ, set_0, set_s, List.length_cons, List.length_nil, Option.some.injEq, Val.sh.injEq, Val.ow.injEq, D.int.injEq, D.tup.injEq, D.lst.injEq, D.bl.injEq, exists_eq_left', exists_eq_left, true_and, and_true, Nat.reduceAdd, Nat.reduceLeDiff, Nat.zero_add, if_true, if_false, Bool.false_eq_true, reduceCtorEq, decide_eq_true_eq, Bool.not_eq_true, ne_eq, not_false_eq_true, reduceIte, decide_true, decide_false, Bool.not_true, Bool.not_false, step_nil_eq]
    refine ⟨⟨by omega, by omega⟩, ?_, fun _ acc => acc = [], rfl, ?_, ?_⟩
    · rw [List.length_map, List.length_range]; omega
    · rintro i d' acc hi' rfl
      rw [List.getElem?_map] at hi'
      cases q : (List.range ((xs.length : Int)).toNat)[i]? with
      | none => rw [q] at hi'; cases hi'
      | some j =>
        rw [q] at hi'
        cases hi'
        have hj : j = i ∧ i < xs.length := by
          have h1 := List.getElem?_eq_some_iff.mp q
          obtain ⟨h2, h3⟩ := h1
          rw [List.length_range] at h2
          rw [List.getElem_range] at h3
          exact ⟨h3.symm, by omega⟩
        obtain ⟨rfl, hj⟩ := hj
        refine wpT_mono hm _ _ _ _ (fun r hr => ?_) (hi j _ (List.getElem?_eq_getElem hj))
        subst hr
        simp only [Bool.not_true, Bool.false_eq_true, if_false]
    · rintro acc rfl
      refine cmp_eqI (n := 1) (m := 1) (by simp [okI, okIs]) (by simp [okI, okIs]) (k := fun b hb => ?_)
      have : b = true := hb.mpr rfl
      subst this; exact k
  · simp only [hb, key, wpS, wpE, wpEs, wpPs, wpT, wpO, wpIfs, pk_var, pk_cst, pk_glc, pk_bin, pk_neg, pk_not, pk_cmp, pk_chain, pk_and, pk_or, pk_ife, pk_tup, pk_lst, pk_idx, pk_sl, pk_rev, pk_isi, pk_maxK, pk_call, pk_prim, pk_comp, rt_var, rt_cst, rt_glc, rt_bin, rt_neg, rt_not, rt_cmp, rt_chain, rt_and, rt_or, rt_ife, rt_tup, rt_lst, rt_idx, rt_sl, rt_rev, rt_isi, rt_maxK, rt_call, rt_prim, rt_comp, stD_var, stD_tup, tgD_var, tgD_tt, tgD_tl, tgsD_nil, tgsD_cons, bare, bareP, bares, barePs, bareO, give_nil, give_cons, gG_s, gG_n, giveV_sh, giveV_ow, data_eq, shr_eq, own_eq, gD_s, gS_s, gO_s, vd_sh, vd_ow, b_add, b_sub, b_mul, b_fdiv, b_mod, b_pow, b_addL, b_addT, b_mulL, x_t, x_l, s_l, s_t, p_lenT, p_lenL, p_abs, p_int, p_intb, p_listT, p_listL, p_tupT, p_tupL, p_gcd, p_min, p_max, p_sum, i_t, i_l, i_r1, i_r2, i_zt, i_zl, n_i, bo_b, in_i, tr_n, tr_b, tr_i, tr_t, tr_l, nn_n, nn_t, nn_l, nn_i, nn_b, isiD_eq, isD, au_a, au_s, wi_n, wi_c, cmpD_eq_int, cmpD_ne_int, cmpD_eq_bl, cmpD_ne_bl, cmpD_lt, cmpD_le, cmpD_gt, cmpD_ge, cmpD_is, cmpD_isnot, truQ_bl, atI_0, atI_1, atI_2, atI_3, fin0, List.nil_append, List.append_nil, List.cons_append, List.getElem?_cons_zero, List.getElem?_cons_succ, set_0, set_s, List.length_cons, List.length_nil, Option.some.injEq, Val.sh.injEq, Val.ow.injEq, D.int.injEq, D.tup.injEq, D.lst.injEq, D.bl.injEq, exists_eq_left', exists_eq_left, true_and, and_true, Nat.reduceAdd, Nat.reduceLeDiff, Nat.zero_add, if_true, if_false, Bool.false_eq_true, reduceCtorEq, decide_eq_true_eq, Bool.not_eq_true, ne_eq, not_false_eq_true, reduceIte, decide_true, decide_false, Bool.not_true, Bool.not_false, step_nil_eq]
    refine ⟨⟨by omega, by omega⟩, ?_, fun _ acc => acc = [], rfl, ?_, ?_⟩
    · rw [List.length_map, List.length_range]; omega
    · rintro i d' acc hi' rfl
      rw [List.getElem?_map] at hi'
      cases q : (List.range ((xs.length : Int)).toNat)[i]? with
      | none => rw [q] at hi'; cases hi'
      | some j =>
        rw [q] at hi'
        cases hi'
        have hj : j = i ∧ i < xs.length := by
          have h1 := List.getElem?_eq_some_iff.mp q
          obtain ⟨h2, h3⟩ := h1
          rw [List.length_range] at h2
          rw [List.getElem_range] at h3
          exact ⟨h3.symm, by omega⟩
        obtain ⟨rfl, hj⟩ := hj
        refine wpT_mono hm _ _ _ _ (fun r hr => ?_) (hi j _ (List.getElem?_eq_getElem hj))
        subst hr
        simp only [Bool.not_true, Bool.false_eq_true, if_false]
    · rintro acc rfl
      refine cmp_eqI (n := 1) (m := 1) (by simp [okI, okIs]) (by simp [okI, okIs]) (k := fun b hb => ?_)
      have : b = true := hb.mpr rfl
      subst this; exact k
theorem o_eq {n j : Nat} (hm : ConMono Γ) (hΓ : Γ j = conEq n) {ds Q} (h : conEq (n + 1) ds Q) : wpB Γ G (eqCore (.call j [(CE.var 0).idx (CE.var 2), (CE.var 1).idx (CE.var 2)])) (fin0 Q) (entry 3 ds) := by
  obtain ⟨d, rfl, ok, k⟩ := h
  unfold eqCore
  have inn : ∀ xs, (d = .tup xs ∨ d = .lst xs) → (∀ x, x ∈ xs → OkE n x) → ∀ (i : Nat) x, xs[i]? = some x → wpT Γ G (.call j [(CE.var 0).idx (CE.var 2), (CE.var 1).idx (CE.var 2)]) [some (.sh d), some (.sh d), some (.sh (.int i))] fun k => k = true := by
    intro xs hd hx i x hi
    have hx := hx x (List.mem_of_getElem? hi)
    have ha := atI_nat' hi
    rcases hd with rfl | rfl
    · try simp only [wpS, wpE, wpEs, wpPs, wpT, wpO, wpIfs, pk_var, pk_cst, pk_glc, pk_bin, pk_neg, pk_not, pk_cmp, pk_chain, pk_and, pk_or, pk_ife, pk_tup, pk_lst, pk_idx, pk_sl, pk_rev, pk_isi, pk_maxK, pk_call, pk_prim, pk_comp, rt_var, rt_cst, rt_glc, rt_bin, rt_neg, rt_not, rt_cmp, rt_chain, rt_and, rt_or, rt_ife, rt_tup, rt_lst, rt_idx, rt_sl, rt_rev, rt_isi, rt_maxK, rt_call, rt_prim, rt_comp, stD_var, stD_tup, tgD_var, tgD_tt, tgD_tl, tgsD_nil, tgsD_cons, bare, bareP, bares, barePs, bareO, give_nil, give_cons, gG_s, gG_n, giveV_sh, giveV_ow, data_eq, shr_eq, own_eq, gD_s, gS_s, gO_s, vd_sh, vd_ow, b_add, b_sub, b_mul, b_fdiv, b_mod, b_pow, b_addL, b_addT, b_mulL, x_t, x_l, s_l, s_t, p_lenT, p_lenL, p_abs, p_int, p_intb, p_listT, p_listL, p_tupT, p_tupL, p_gcd, p_min, p_max, p_sum, i_t, i_l, i_r1, i_r2, i_zt, i_zl, n_i, bo_b, in_i, tr_n, tr_b, tr_i, tr_t, tr_l, nn_n, nn_t, nn_l, nn_i, nn_b, isiD_eq, isD, au_a, au_s, wi_n, wi_c, cmpD_eq_int, cmpD_ne_int, cmpD_eq_bl, cmpD_ne_bl, cmpD_lt, cmpD_le, cmpD_gt, cmpD_ge, cmpD_is, cmpD_isnot, truQ_bl, atI_0, atI_1, atI_2, atI_3, fin0, List.nil_append, List.append_nil, List.cons_append, List.getElem?_cons_zero, List.getElem?_cons_succ, set_0, set_s, List.length_cons, List.length_nil, Option.some.injEq, Val.sh.injEq, Val.ow.injEq, D.int.injEq, D.tup.injEq, D.lst.injEq, D.bl.injEq, exists_eq_left', exists_eq_left, true_and, and_true, Nat.reduceAdd, Nat.reduceLeDiff, Nat.zero_add, if_true, if_false, Bool.false_eq_true, reduceCtorEq, decide_eq_true_eq, Bool.not_eq_true, ne_eq, not_false_eq_true, reduceIte, decide_true, decide_false, Bool.not_true, Bool.not_false, step_nil_eq]
      refine ⟨x, ha, x, ha, ?_⟩
      rw [hΓ]
      exact ⟨x, rfl, hx, by (rw [truQ_bl])⟩
    · try simp only [wpS, wpE, wpEs, wpPs, wpT, wpO, wpIfs, pk_var, pk_cst, pk_glc, pk_bin, pk_neg, pk_not, pk_cmp, pk_chain, pk_and, pk_or, pk_ife, pk_tup, pk_lst, pk_idx, pk_sl, pk_rev, pk_isi, pk_maxK, pk_call, pk_prim, pk_comp, rt_var, rt_cst, rt_glc, rt_bin, rt_neg, rt_not, rt_cmp, rt_chain, rt_and, rt_or, rt_ife, rt_tup, rt_lst, rt_idx, rt_sl, rt_rev, rt_isi, rt_maxK, rt_call, rt_prim, rt_comp, stD_var, stD_tup, tgD_var, tgD_tt, tgD_tl, tgsD_nil, tgsD_cons, bare, bareP, bares, barePs, bareO, give_nil, give_cons, gG_s, gG_n, giveV_sh, giveV_ow, data_eq, shr_eq, own_eq, gD_s, gS_s, gO_s, vd_sh, vd_ow, b_add, b_sub, b_mul, b_fdiv, b_mod, b_pow, b_addL, b_addT, b_mulL, x_t, x_l, s_l, s_t, p_lenT, p_lenL, p_abs, p_int, p_intb, p_listT, p_listL, p_tupT, p_tupL, p_gcd, p_min, p_max, p_sum, i_t, i_l, i_r1, i_r2, i_zt, i_zl, n_i, bo_b, in_i, tr_n, tr_b, tr_i, tr_t, tr_l, nn_n, nn_t, nn_l, nn_i, nn_b, isiD_eq, isD, au_a, au_s, wi_n, wi_c, cmpD_eq_int, cmpD_ne_int, cmpD_eq_bl, cmpD_ne_bl, cmpD_lt, cmpD_le, cmpD_gt, cmpD_ge, cmpD_is, cmpD_isnot, truQ_bl, atI_0, atI_1, atI_2, atI_3, fin0, List.nil_append, List.append_nil, List.cons_append, List.getElem?_cons_zero, List.getElem?_cons_succ, set_0, set_s, List.length_cons, List.length_nil, Option.some.injEq, Val.sh.injEq, Val.ow.injEq, D.int.injEq, D.tup.injEq, D.lst.injEq, D.bl.injEq, exists_eq_left', exists_eq_left, true_and, and_true, Nat.reduceAdd, Nat.reduceLeDiff, Nat.zero_add, if_true, if_false, Bool.false_eq_true, reduceCtorEq, decide_eq_true_eq, Bool.not_eq_true, ne_eq, not_false_eq_true, reduceIte, decide_true, decide_false, Bool.not_true, Bool.not_false, step_nil_eq]
      refine ⟨x, ha, x, ha, ?_⟩
      rw [hΓ]
      exact ⟨x, rfl, hx, by (rw [truQ_bl])⟩
  cases d with
  | int i =>
    refine step_cons ?_
    simp only [ent32, wpS, wpE, wpEs, wpPs, wpT, wpO, wpIfs, pk_var, pk_cst, pk_glc, pk_bin, pk_neg, pk_not, pk_cmp, pk_chain, pk_and, pk_or, pk_ife, pk_tup, pk_lst, pk_idx, pk_sl, pk_rev, pk_isi, pk_maxK, pk_call, pk_prim, pk_comp, rt_var, rt_cst, rt_glc, rt_bin, rt_neg, rt_not, rt_cmp, rt_chain, rt_and, rt_or, rt_ife, rt_tup, rt_lst, rt_idx, rt_sl, rt_rev, rt_isi, rt_maxK, rt_call, rt_prim, rt_comp, stD_var, stD_tup, tgD_var, tgD_tt, tgD_tl, tgsD_nil, tgsD_cons, bare, bareP, bares, barePs, bareO, give_nil, give_cons, gG_s, gG_n, giveV_sh, giveV_ow, data_eq, shr_eq, own_eq, gD_s, gS_s, gO_s, vd_sh, vd_ow, b_add, b_sub, b_mul, b_fdiv, b_mod, b_pow, b_addL, b_addT, b_mulL, x_t, x_l, s_l, s_t, p_lenT, p_lenL, p_abs, p_int, p_intb, p_listT, p_listL, p_tupT, p_tupL, p_gcd, p_min, p_max, p_sum, i_t, i_l, i_r1, i_r2, i_zt, i_zl, n_i, bo_b, in_i, tr_n, tr_b, tr_i, tr_t, tr_l, nn_n, nn_t, nn_l, nn_i, nn_b, isiD_eq, isD, au_a, au_s, wi_n, wi_c, cmpD_eq_int, cmpD_ne_int, cmpD_eq_bl, cmpD_ne_bl, cmpD_lt, cmpD_le, cmpD_gt, cmpD_ge, cmpD_is, cmpD_isnot, truQ_bl, atI_0, atI_1, atI_2, atI_3, fin0, List.nil_append, List.append_nil, List.cons_append, List.getElem?_cons_zero, List.getElem?_cons_succ, set_0, set_s, List.length_cons, List.length_nil, Option.some.injEq, Val.sh.injEq, Val.ow.injEq, D.int.injEq, D.tup.injEq, D.lst.injEq, D.bl.injEq, exists_eq_left', exists_eq_left, true_and, and_true, Nat.reduceAdd, Nat.reduceLeDiff, Nat.zero_add, if_true, if_false, Bool.false_eq_true, reduceCtorEq, decide_eq_true_eq, Bool.not_eq_true, ne_eq, not_false_eq_true, reduceIte, decide_true, decide_false, Bool.not_true, Bool.not_false, step_nil_eq]
    refine step_cons ?_
    try simp only [wpS, wpE, wpEs, wpPs, wpT, wpO, wpIfs, pk_var, pk_cst, pk_glc, pk_bin, pk_neg, pk_not, pk_cmp, pk_chain, pk_and, pk_or, pk_ife, pk_tup, pk_lst, pk_idx, pk_sl, pk_rev, pk_isi, pk_maxK, pk_call, pk_prim, pk_comp, rt_var, rt_cst, rt_glc, rt_bin, rt_neg, rt_not, rt_cmp, rt_chain, rt_and, rt_or, rt_ife, rt_tup, rt_lst, rt_idx, rt_sl, rt_rev, rt_isi, rt_maxK, rt_call, rt_prim, rt_comp, stD_var, stD_tup, tgD_var, tgD_tt, tgD_tl, tgsD_nil, tgsD_cons, bare, bareP, bares, barePs, bareO, give_nil, give_cons, gG_s, gG_n, giveV_sh, giveV_ow, data_eq, shr_eq, own_eq, gD_s, gS_s, gO_s, vd_sh, vd_ow, b_add, b_sub, b_mul, b_fdiv, b_mod, b_pow, b_addL, b_addT, b_mulL, x_t, x_l, s_l, s_t, p_lenT, p_lenL, p_abs, p_int, p_intb, p_listT, p_listL, p_tupT, p_tupL, p_gcd, p_min, p_max, p_sum, i_t, i_l, i_r1, i_r2, i_zt, i_zl, n_i, bo_b, in_i, tr_n, tr_b, tr_i, tr_t, tr_l, nn_n, nn_t, nn_l, nn_i, nn_b, isiD_eq, isD, au_a, au_s, wi_n, wi_c, cmpD_eq_int, cmpD_ne_int, cmpD_eq_bl, cmpD_ne_bl, cmpD_lt, cmpD_le, cmpD_gt, cmpD_ge, cmpD_is, cmpD_isnot, truQ_bl, atI_0, atI_1, atI_2, atI_3, fin0, List.nil_append, List.append_nil, List.cons_append, List.getElem?_cons_zero, List.getElem?_cons_succ, set_0, set_s, List.length_cons, List.length_nil, Option.some.injEq, Val.sh.injEq, Val.ow.injEq, D.int.injEq, D.tup.injEq, D.lst.injEq, D.bl.injEq, exists_eq_left', exists_eq_left, true_and, and_true, Nat.reduceAdd, Nat.reduceLeDiff, Nat.zero_add, if_true, if_false, Bool.false_eq_true, reduceCtorEq, decide_eq_true_eq, Bool.not_eq_true, ne_eq, not_false_eq_true, reduceIte, decide_true, decide_false, Bool.not_true, Bool.not_false, step_nil_eq]
    refine step_cons ?_
    try simp only [wpS, wpE, wpEs, wpPs, wpT, wpO, wpIfs, pk_var, pk_cst, pk_glc, pk_bin, pk_neg, pk_not, pk_cmp, pk_chain, pk_and, pk_or, pk_ife, pk_tup, pk_lst, pk_idx, pk_sl, pk_rev, pk_isi, pk_maxK, pk_call, pk_prim, pk_comp, rt_var, rt_cst, rt_glc, rt_bin, rt_neg, rt_not, rt_cmp, rt_chain, rt_and, rt_or, rt_ife, rt_tup, rt_lst, rt_idx, rt_sl, rt_rev, rt_isi, rt_maxK, rt_call, rt_prim, rt_comp, stD_var, stD_tup, tgD_var, tgD_tt, tgD_tl, tgsD_nil, tgsD_cons, bare, bareP, bares, barePs, bareO, give_nil, give_cons, gG_s, gG_n, giveV_sh, giveV_ow, data_eq, shr_eq, own_eq, gD_s, gS_s, gO_s, vd_sh, vd_ow, b_add, b_sub, b_mul, b_fdiv, b_mod, b_pow, b_addL, b_addT, b_mulL, x_t, x_l, s_l, s_t, p_lenT, p_lenL, p_abs, p_int, p_intb, p_listT, p_listL, p_tupT, p_tupL, p_gcd, p_min, p_max, p_sum, i_t, i_l, i_r1, i_r2, i_zt, i_zl, n_i, bo_b, in_i, tr_n, tr_b, tr_i, tr_t, tr_l, nn_n, nn_t, nn_l, nn_i, nn_b, isiD_eq, isD, au_a, au_s, wi_n, wi_c, cmpD_eq_int, cmpD_ne_int, cmpD_eq_bl, cmpD_ne_bl, cmpD_lt, cmpD_le, cmpD_gt, cmpD_ge, cmpD_is, cmpD_isnot, truQ_bl, atI_0, atI_1, atI_2, atI_3, fin0, List.nil_append, List.append_nil, List.cons_append, List.getElem?_cons_zero, List.getElem?_cons_succ, set_0, set_s, List.length_cons, List.length_nil, Option.some.injEq, Val.sh.injEq, Val.ow.injEq, D.int.injEq, D.tup.injEq, D.lst.injEq, D.bl.injEq, exists_eq_left', exists_eq_left, true_and, and_true, Nat.reduceAdd, Nat.reduceLeDiff, Nat.zero_add, if_true, if_false, Bool.false_eq_true, reduceCtorEq, decide_eq_true_eq, Bool.not_eq_true, ne_eq, not_false_eq_true, reduceIte, decide_true, decide_false, Bool.not_true, Bool.not_false, step_nil_eq]
    refine step_cons ?_
    try simp only [wpS, wpE, wpEs, wpPs, wpT, wpO, wpIfs, pk_var, pk_cst, pk_glc, pk_bin, pk_neg, pk_not, pk_cmp, pk_chain, pk_and, pk_or, pk_ife, pk_tup, pk_lst, pk_idx, pk_sl, pk_rev, pk_isi, pk_maxK, pk_call, pk_prim, pk_comp, rt_var, rt_cst, rt_glc, rt_bin, rt_neg, rt_not, rt_cmp, rt_chain, rt_and, rt_or, rt_ife, rt_tup, rt_lst, rt_idx, rt_sl, rt_rev, rt_isi, rt_maxK, rt_call, rt_prim, rt_comp, stD_var, stD_tup, tgD_var, tgD_tt, tgD_tl, tgsD_nil, tgsD_cons, bare, bareP, bares, barePs, bareO, give_nil, give_cons, gG_s, gG_n, giveV_sh, giveV_ow, data_eq, shr_eq, own_eq, gD_s, gS_s, gO_s, vd_sh, vd_ow, b_add, b_sub, b_mul, b_fdiv, b_mod, b_pow, b_addL, b_addT, b_mulL, x_t, x_l, s_l, s_t, p_lenT, p_lenL, p_abs, p_int, p_intb, p_listT, p_listL, p_tupT, p_tupL, p_gcd, p_min, p_max, p_sum, i_t, i_l, i_r1, i_r2, i_zt, i_zl, n_i, bo_b, in_i, tr_n, tr_b, tr_i, tr_t, tr_l, nn_n, nn_t, nn_l, nn_i, nn_b, isiD_eq, isD, au_a, au_s, wi_n, wi_c, cmpD_eq_int, cmpD_ne_int, cmpD_eq_bl, cmpD_ne_bl, cmpD_lt, cmpD_le, cmpD_gt, cmpD_ge, cmpD_is, cmpD_isnot, truQ_bl, atI_0, atI_1, atI_2, atI_3, fin0, List.nil_append, List.append_nil, List.cons_append, List.getElem?_cons_zero, List.getElem?_cons_succ, set_0, set_s, List.length_cons, List.length_nil, Option.some.injEq, Val.sh.injEq, Val.ow.injEq, D.int.injEq, D.tup.injEq, D.lst.injEq, D.bl.injEq, exists_eq_left', exists_eq_left, true_and, and_true, Nat.reduceAdd, Nat.reduceLeDiff, Nat.zero_add, if_true, if_false, Bool.false_eq_true, reduceCtorEq, decide_eq_true_eq, Bool.not_eq_true, ne_eq, not_false_eq_true, reduceIte, decide_true, decide_false, Bool.not_true, Bool.not_false, step_nil_eq]
    refine step_cons ?_
    try simp only [wpS, wpE, wpEs, wpPs, wpT, wpO, wpIfs, pk_var, pk_cst, pk_glc, pk_bin, pk_neg, pk_not, pk_cmp, pk_chain, pk_and, pk_or, pk_ife, pk_tup, pk_lst, pk_idx, pk_sl, pk_rev, pk_isi, pk_maxK, pk_call, pk_prim, pk_comp, rt_var, rt_cst, rt_glc, rt_bin, rt_neg, rt_not, rt_cmp, rt_chain, rt_and, rt_or, rt_ife, rt_tup, rt_lst, rt_idx, rt_sl, rt_rev, rt_isi, rt_maxK, rt_call, rt_prim, rt_comp, stD_var, stD_tup, tgD_var, tgD_tt, tgD_tl, tgsD_nil, tgsD_cons, bare, bareP, bares, barePs, bareO, give_nil, give_cons, gG_s, gG_n, giveV_sh, giveV_ow, data_eq, shr_eq, own_eq, gD_s, gS_s, gO_s, vd_sh, vd_ow, b_add, b_sub, b_mul, b_fdiv, b_mod, b_pow, b_addL, b_addT, b_mulL, x_t, x_l, s_l, s_t, p_lenT, p_lenL, p_abs, p_int, p_intb, p_listT, p_listL, p_tupT, p_tupL, p_gcd, p_min, p_max, p_sum, i_t, i_l, i_r1, i_r2, i_zt, i_zl, n_i, bo_b, in_i, tr_n, tr_b, tr_i, tr_t, tr_l, nn_n, nn_t, nn_l, nn_i, nn_b, isiD_eq, isD, au_a, au_s, wi_n, wi_c, cmpD_eq_int, cmpD_ne_int, cmpD_eq_bl, cmpD_ne_bl, cmpD_lt, cmpD_le, cmpD_gt, cmpD_ge, cmpD_is, cmpD_isnot, truQ_bl, atI_0, atI_1, atI_2, atI_3, fin0, List.nil_append, List.append_nil, List.cons_append, List.getElem?_cons_zero, List.getElem?_cons_succ, set_0, set_s, List.length_cons, List.length_nil, Option.some.injEq, Val.sh.injEq, Val.ow.injEq, D.int.injEq, D.tup.injEq, D.lst.injEq, D.bl.injEq, exists_eq_left', exists_eq_left, true_and, and_true, Nat.reduceAdd, Nat.reduceLeDiff, Nat.zero_add, if_true, if_false, Bool.false_eq_true, reduceCtorEq, decide_eq_true_eq, Bool.not_eq_true, ne_eq, not_false_eq_true, reduceIte, decide_true, decide_false, Bool.not_true, Bool.not_false, step_nil_eq]
    exact k
  | bl b =>
    refine step_cons ?_
    simp only [ent32, wpS, wpE, wpEs, wpPs, wpT, wpO, wpIfs, pk_var, pk_cst, pk_glc, pk_bin, pk_neg, pk_not, pk_cmp, pk_chain, pk_and, pk_or, pk_ife, pk_tup, pk_lst, pk_idx, pk_sl, pk_rev, pk_isi, pk_maxK, pk_call, pk_prim, pk_comp, rt_var, rt_cst, rt_glc, rt_bin, rt_neg, rt_not, rt_cmp, rt_chain, rt_and, rt_or, rt_ife, rt_tup, rt_lst, rt_idx, rt_sl, rt_rev, rt_isi, rt_maxK, rt_call, rt_prim, rt_comp, stD_var, stD_tup, tgD_var, tgD_tt, tgD_tl, tgsD_nil, tgsD_cons, bare, bareP, bares, barePs, bareO, give_nil, give_cons, gG_s, gG_n, giveV_sh, giveV_ow, data_eq, shr_eq, own_eq, gD_s, gS_s, gO_s, vd_sh, vd_ow, b_add, b_sub, b_mul, b_fdiv, b_mod, b_pow, b_addL, b_addT, b_mulL, x_t, x_l, s_l, s_t, p_lenT, p_lenL, p_abs, p_int, p_intb, p_listT, p_listL, p_tupT, p_tupL, p_gcd, p_min, p_max, p_sum, i_t, i_l, i_r1, i_r2, i_zt, i_zl, n_i, bo_b, in_i, tr_n, tr_b, tr_i, tr_t, tr_l, nn_n, nn_t, nn_l, nn_i, nn_b, isiD_eq, isD, au_a, au_s, wi_n, wi_c, cmpD_eq_int, cmpD_ne_int, cmpD_eq_bl, cmpD_ne_bl, cmpD_lt, cmpD_le, cmpD_gt, cmpD_ge, cmpD_is, cmpD_isnot, truQ_bl, atI_0, atI_1, atI_2, atI_3, fin0, List.nil_append, List.append_nil, List.cons_append, List.getElem?_cons_zero, List.getElem?_cons_succ, set_0, set_s, List.length_cons, List.length_nil, Option.some.injEq, Val.sh.injEq, Val.ow.injEq, D.int.injEq, D.tup.injEq, D.lst.injEq, D.bl.injEq, exists_eq_left', exists_eq_left, true_and, and_true, Nat.reduceAdd, Nat.reduceLeDiff, Nat.zero_add, if_true, if_false, Bool.false_eq_true, reduceCtorEq, decide_eq_true_eq, Bool.not_eq_true, ne_eq, not_false_eq_true, reduceIte, decide_true, decide_false, Bool.not_true, Bool.not_false, step_nil_eq]
    refine step_cons ?_
    try simp only [wpS, wpE, wpEs, wpPs, wpT, wpO, wpIfs, pk_var, pk_cst, pk_glc, pk_bin, pk_neg, pk_not, pk_cmp, pk_chain, pk_and, pk_or, pk_ife, pk_tup, pk_lst, pk_idx, pk_sl, pk_rev, pk_isi, pk_maxK, pk_call, pk_prim, pk_comp, rt_var, rt_cst, rt_glc, rt_bin, rt_neg, rt_not, rt_cmp, rt_chain, rt_and, rt_or, rt_ife, rt_tup, rt_lst, rt_idx, rt_sl, rt_rev, rt_isi, rt_maxK, rt_call, rt_prim, rt_comp, stD_var, stD_tup, tgD_var, tgD_tt, tgD_tl, tgsD_nil, tgsD_cons, bare, bareP, bares, barePs, bareO, give_nil, give_cons, gG_s, gG_n, giveV_sh, giveV_ow, data_eq, shr_eq, own_eq, gD_s, gS_s, gO_s, vd_sh, vd_ow, b_add, b_sub, b_mul, b_fdiv, b_mod, b_pow, b_addL, b_addT, b_mulL, x_t, x_l, s_l, s_t, p_lenT, p_lenL, p_abs, p_int, p_intb, p_listT, p_listL, p_tupT, p_tupL, p_gcd, p_min, p_max, p_sum, i_t, i_l, i_r1, i_r2, i_zt, i_zl, n_i, bo_b, in_i, tr_n, tr_b, tr_i, tr_t, tr_l, nn_n, nn_t, nn_l, nn_i, nn_b, isiD_eq, isD, au_a, au_s, wi_n, wi_c, cmpD_eq_int, cmpD_ne_int, cmpD_eq_bl, cmpD_ne_bl, cmpD_lt, cmpD_le, cmpD_gt, cmpD_ge, cmpD_is, cmpD_isnot, truQ_bl, atI_0, atI_1, atI_2, atI_3, fin0, List.nil_append, List.append_nil, List.cons_append, List.getElem?_cons_zero, List.getElem?_cons_succ, set_0, set_s, List.length_cons, List.length_nil, Option.some.injEq, Val.sh.injEq, Val.ow.injEq, D.int.injEq, D.tup.injEq, D.lst.injEq, D.bl.injEq, exists_eq_left', exists_eq_left, true_and, and_true, Nat.reduceAdd, Nat.reduceLeDiff, Nat.zero_add, if_true, if_false, Bool.false_eq_true, reduceCtorEq, decide_eq_true_eq, Bool.not_eq_true, ne_eq, not_false_eq_true, reduceIte, decide_true, decide_false, Bool.not_true, Bool.not_false, step_nil_eq]
    refine step_cons ?_
    try simp only [wpS, wpE, wpEs, wpPs, wpT, wpO, wpIfs, pk_var, pk_cst, pk_glc, pk_bin, pk_neg, pk_not, pk_cmp, pk_chain, pk_and, pk_or, pk_ife, pk_tup, pk_lst, pk_idx, pk_sl, pk_rev, pk_isi, pk_maxK, pk_call, pk_prim, pk_comp, rt_var, rt_cst, rt_glc, rt_bin, rt_neg, rt_not, rt_cmp, rt_chain, rt_and, rt_or, rt_ife, rt_tup, rt_lst, rt_idx, rt_sl, rt_rev, rt_isi, rt_maxK, rt_call, rt_prim, rt_comp, stD_var, stD_tup, tgD_var, tgD_tt, tgD_tl, tgsD_nil, tgsD_cons, bare, bareP, bares, barePs, bareO, give_nil, give_cons, gG_s, gG_n, giveV_sh, giveV_ow, data_eq, shr_eq, own_eq, gD_s, gS_s, gO_s, vd_sh, vd_ow, b_add, b_sub, b_mul, b_fdiv, b_mod, b_pow, b_addL, b_addT, b_mulL, x_t, x_l, s_l, s_t, p_lenT, p_lenL, p_abs, p_int, p_intb, p_listT, p_listL, p_tupT, p_tupL, p_gcd, p_min, p_max, p_sum, i_t, i_l, i_r1, i_r2, i_zt, i_zl, n_i, bo_b, in_i, tr_n, tr_b, tr_i, tr_t, tr_l, nn_n, nn_t, nn_l, nn_i, nn_b, isiD_eq, isD, au_a, au_s, wi_n, wi_c, cmpD_eq_int, cmpD_ne_int, cmpD_eq_bl, cmpD_ne_bl, cmpD_lt, cmpD_le, cmpD_gt, cmpD_ge, cmpD_is, cmpD_isnot, truQ_bl, atI_0, atI_1, atI_2, atI_3, fin0, List.nil_append, List.append_nil, List.cons_append, List.getElem?_cons_zero, List.getElem?_cons_succ, set_0, set_s, List.length_cons, List.length_nil, Option.some.injEq, Val.sh.injEq, Val.ow.injEq, D.int.injEq, D.tup.injEq, D.lst.injEq, D.bl.injEq, exists_eq_left', exists_eq_left, true_and, and_true, Nat.reduceAdd, Nat.reduceLeDiff, Nat.zero_add, if_true, if_false, Bool.false_eq_true, reduceCtorEq, decide_eq_true_eq, Bool.not_eq_true, ne_eq, not_false_eq_true, reduceIte, decide_true, decide_false, Bool.not_true, Bool.not_false, step_nil_eq]
    refine step_cons ?_
    try simp only [wpS, wpE, wpEs, wpPs, wpT, wpO, wpIfs, pk_var, pk_cst, pk_glc, pk_bin, pk_neg, pk_not, pk_cmp, pk_chain, pk_and, pk_or, pk_ife, pk_tup, pk_lst, pk_idx, pk_sl, pk_rev, pk_isi, pk_maxK, pk_call, pk_prim, pk_comp, rt_var, rt_cst, rt_glc, rt_bin, rt_neg, rt_not, rt_cmp, rt_chain, rt_and, rt_or, rt_ife, rt_tup, rt_lst, rt_idx, rt_sl, rt_rev, rt_isi, rt_maxK, rt_call, rt_prim, rt_comp, stD_var, stD_tup, tgD_var, tgD_tt, tgD_tl, tgsD_nil, tgsD_cons, bare, bareP, bares, barePs, bareO, give_nil, give_cons, gG_s, gG_n, giveV_sh, giveV_ow, data_eq, shr_eq, own_eq, gD_s, gS_s, gO_s, vd_sh, vd_ow, b_add, b_sub, b_mul, b_fdiv, b_mod, b_pow, b_addL, b_addT, b_mulL, x_t, x_l, s_l, s_t, p_lenT, p_lenL, p_abs, p_int, p_intb, p_listT, p_listL, p_tupT, p_tupL, p_gcd, p_min, p_max, p_sum, i_t, i_l, i_r1, i_r2, i_zt, i_zl, n_i, bo_b, in_i, tr_n, tr_b, tr_i, tr_t, tr_l, nn_n, nn_t, nn_l, nn_i, nn_b, isiD_eq, isD, au_a, au_s, wi_n, wi_c, cmpD_eq_int, cmpD_ne_int, cmpD_eq_bl, cmpD_ne_bl, cmpD_lt, cmpD_le, cmpD_gt, cmpD_ge, cmpD_is, cmpD_isnot, truQ_bl, atI_0, atI_1, atI_2, atI_3, fin0, List.nil_append, List.append_nil, List.cons_append, List.getElem?_cons_zero, List.getElem?_cons_succ, set_0, set_s, List.length_cons, List.length_nil, Option.some.injEq, Val.sh.injEq, Val.ow.injEq, D.int.injEq, D.tup.injEq, D.lst.injEq, D.bl.injEq, exists_eq_left', exists_eq_left, true_and, and_true, Nat.reduceAdd, Nat.reduceLeDiff, Nat.zero_add, if_true, if_false, Bool.false_eq_true, reduceCtorEq, decide_eq_true_eq, Bool.not_eq_true, ne_eq, not_false_eq_true, reduceIte, decide_true, decide_false, Bool.not_true, Bool.not_false, step_nil_eq]
    refine step_cons ?_
    try simp only [wpS, wpE, wpEs, wpPs, wpT, wpO, wpIfs, pk_var, pk_cst, pk_glc, pk_bin, pk_neg, pk_not, pk_cmp, pk_chain, pk_and, pk_or, pk_ife, pk_tup, pk_lst, pk_idx, pk_sl, pk_rev, pk_isi, pk_maxK, pk_call, pk_prim, pk_comp, rt_var, rt_cst, rt_glc, rt_bin, rt_neg, rt_not, rt_cmp, rt_chain, rt_and, rt_or, rt_ife, rt_tup, rt_lst, rt_idx, rt_sl, rt_rev, rt_isi, rt_maxK, rt_call, rt_prim, rt_comp, stD_var, stD_tup, tgD_var, tgD_tt, tgD_tl, tgsD_nil, tgsD_cons, bare, bareP, bares, barePs, bareO, give_nil, give_cons, gG_s, gG_n, giveV_sh, giveV_ow, data_eq, shr_eq, own_eq, gD_s, gS_s, gO_s, vd_sh, vd_ow, b_add, b_sub, b_mul, b_fdiv, b_mod, b_pow, b_addL, b_addT, b_mulL, x_t, x_l, s_l, s_t, p_lenT, p_lenL, p_abs, p_int, p_intb, p_listT, p_listL, p_tupT, p_tupL, p_gcd, p_min, p_max, p_sum, i_t, i_l, i_r1, i_r2, i_zt, i_zl, n_i, bo_b, in_i, tr_n, tr_b, tr_i, tr_t, tr_l, nn_n, nn_t, nn_l, nn_i, nn_b, isiD_eq, isD, au_a, au_s, wi_n, wi_c, cmpD_eq_int, cmpD_ne_int, cmpD_eq_bl, cmpD_ne_bl, cmpD_lt, cmpD_le, cmpD_gt, cmpD_ge, cmpD_is, cmpD_isnot, truQ_bl, atI_0, atI_1, atI_2, atI_3, fin0, List.nil_append, List.append_nil, List.cons_append, List.getElem?_cons_zero, List.getElem?_cons_succ, set_0, set_s, List.length_cons, List.length_nil, Option.some.injEq, Val.sh.injEq, Val.ow.injEq, D.int.injEq, D.tup.injEq, D.lst.injEq, D.bl.injEq, exists_eq_left', exists_eq_left, true_and, and_true, Nat.reduceAdd, Nat.reduceLeDiff, Nat.zero_add, if_true, if_false, Bool.false_eq_true, reduceCtorEq, decide_eq_true_eq, Bool.not_eq_true, ne_eq, not_false_eq_true, reduceIte, decide_true, decide_false, Bool.not_true, Bool.not_false, step_nil_eq]
    exact k
  | tup xs =>
    refine step_cons ?_
    simp only [ent32, wpS, wpE, wpEs, wpPs, wpT, wpO, wpIfs, pk_var, pk_cst, pk_glc, pk_bin, pk_neg, pk_not, pk_cmp, pk_chain, pk_and, pk_or, pk_ife, pk_tup, pk_lst, pk_idx, pk_sl, pk_rev, pk_isi, pk_maxK, pk_call, pk_prim, pk_comp, rt_var, rt_cst, rt_glc, rt_bin, rt_neg, rt_not, rt_cmp, rt_chain, rt_and, rt_or, rt_ife, rt_tup, rt_lst, rt_idx, rt_sl, rt_rev, rt_isi, rt_maxK, rt_call, rt_prim, rt_comp, stD_var, stD_tup, tgD_var, tgD_tt, tgD_tl, tgsD_nil, tgsD_cons, bare, bareP, bares, barePs, bareO, give_nil, give_cons, gG_s, gG_n, giveV_sh, giveV_ow, data_eq, shr_eq, own_eq, gD_s, gS_s, gO_s, vd_sh, vd_ow, b_add, b_sub, b_mul, b_fdiv, b_mod, b_pow, b_addL, b_addT, b_mulL, x_t, x_l, s_l, s_t, p_lenT, p_lenL, p_abs, p_int, p_intb, p_listT, p_listL, p_tupT, p_tupL, p_gcd, p_min, p_max, p_sum, i_t, i_l, i_r1, i_r2, i_zt, i_zl, n_i, bo_b, in_i, tr_n, tr_b, tr_i, tr_t, tr_l, nn_n, nn_t, nn_l, nn_i, nn_b, isiD_eq, isD, au_a, au_s, wi_n, wi_c, cmpD_eq_int, cmpD_ne_int, cmpD_eq_bl, cmpD_ne_bl, cmpD_lt, cmpD_le, cmpD_gt, cmpD_ge, cmpD_is, cmpD_isnot, truQ_bl, atI_0, atI_1, atI_2, atI_3, fin0, List.nil_append, List.append_nil, List.cons_append, List.getElem?_cons_zero, List.getElem?_cons_succ, set_0, set_s, List.length_cons, List.length_nil, Option.some.injEq, Val.sh.injEq, Val.ow.injEq, D.int.injEq, D.tup.injEq, D.lst.injEq, D.bl.injEq, exists_eq_left', exists_eq_left, true_and, and_true, Nat.reduceAdd, Nat.reduceLeDiff, Nat.zero_add, if_true, if_false, Bool.false_eq_true, reduceCtorEq, decide_eq_true_eq, Bool.not_eq_true, ne_eq, not_false_eq_true, reduceIte, decide_true, decide_false, Bool.not_true, Bool.not_false, step_nil_eq]
    refine step_cons ?_
    try simp only [wpS, wpE, wpEs, wpPs, wpT, wpO, wpIfs, pk_var, pk_cst, pk_glc, pk_bin, pk_neg, pk_not, pk_cmp, pk_chain, pk_and, pk_or, pk_ife, pk_tup, pk_lst, pk_idx, pk_sl, pk_rev, pk_isi, pk_maxK, pk_call, pk_prim, pk_comp, rt_var, rt_cst, rt_glc, rt_bin, rt_neg, rt_not, rt_cmp, rt_chain, rt_and, rt_or, rt_ife, rt_tup, rt_lst, rt_idx, rt_sl, rt_rev, rt_isi, rt_maxK, rt_call, rt_prim, rt_comp, stD_var, stD_tup, tgD_var, tgD_tt, tgD_tl, tgsD_nil, tgsD_cons, bare, bareP, bares, barePs, bareO, give_nil, give_cons, gG_s, gG_n, giveV_sh, giveV_ow, data_eq, shr_eq, own_eq, gD_s, gS_s, gO_s, vd_sh, vd_ow, b_add, b_sub, b_mul, b_fdiv, b_mod, b_pow, b_addL, b_addT, b_mulL, x_t, x_l, s_l, s_t, p_lenT, p_lenL, p_abs, p_int, p_intb, p_listT, p_listL, p_tupT, p_tupL, p_gcd, p_min, p_max, p_sum, i_t, i_l, i_r1, i_r2, i_zt, i_zl, n_i, bo_b, in_i, tr_n, tr_b, tr_i, tr_t, tr_l, nn_n, nn_t, nn_l, nn_i, nn_b, isiD_eq, isD, au_a, au_s, wi_n, wi_c, cmpD_eq_int, cmpD_ne_int, cmpD_eq_bl, cmpD_ne_bl, cmpD_lt, cmpD_le, cmpD_gt, cmpD_ge, cmpD_is, cmpD_isnot, truQ_bl, atI_0, atI_1, atI_2, atI_3, fin0, List.nil_append, List.append_nil, List.cons_append, List.getElem?_cons_zero, List.getElem?_cons_succ, set_0, set_s, List.length_cons, List.length_nil, Option.some.injEq, Val.sh.injEq, Val.ow.injEq, D.int.injEq, D.tup.injEq, D.lst.injEq, D.bl.injEq, exists_eq_left', exists_eq_left, true_and, and_true, Nat.reduceAdd, Nat.reduceLeDiff, Nat.zero_add, if_true, if_false, Bool.false_eq_true, reduceCtorEq, decide_eq_true_eq, Bool.not_eq_true, ne_eq, not_false_eq_true, reduceIte, decide_true, decide_false, Bool.not_true, Bool.not_false, step_nil_eq]
    refine step_cons ?_
    try simp only [wpS, wpE, wpEs, wpPs, wpT, wpO, wpIfs, pk_var, pk_cst, pk_glc, pk_bin, pk_neg, pk_not, pk_cmp, pk_chain, pk_and, pk_or, pk_ife, pk_tup, pk_lst, pk_idx, pk_sl, pk_rev, pk_isi, pk_maxK, pk_call, pk_prim, pk_comp, rt_var, rt_cst, rt_glc, rt_bin, rt_neg, rt_not, rt_cmp, rt_chain, rt_and, rt_or, rt_ife, rt_tup, rt_lst, rt_idx, rt_sl, rt_rev, rt_isi, rt_maxK, rt_call, rt_prim, rt_comp, stD_var, stD_tup, tgD_var, tgD_tt, tgD_tl, tgsD_nil, tgsD_cons, bare, bareP, bares, barePs, bareO, give_nil, give_cons, gG_s, gG_n, giveV_sh, giveV_ow, data_eq, shr_eq, own_eq, gD_s, gS_s, gO_s, vd_sh, vd_ow, b_add, b_sub, b_mul, b_fdiv, b_mod, b_pow, b_addL, b_addT, b_mulL, x_t, x_l, s_l, s_t, p_lenT, p_lenL, p_abs, p_int, p_intb, p_listT, p_listL, p_tupT, p_tupL, p_gcd, p_min, p_max, p_sum, i_t, i_l, i_r1, i_r2, i_zt, i_zl, n_i, bo_b, in_i, tr_n, tr_b, tr_i, tr_t, tr_l, nn_n, nn_t, nn_l, nn_i, nn_b, isiD_eq, isD, au_a, au_s, wi_n, wi_c, cmpD_eq_int, cmpD_ne_int, cmpD_eq_bl, cmpD_ne_bl, cmpD_lt, cmpD_le, cmpD_gt, cmpD_ge, cmpD_is, cmpD_isnot, truQ_bl, atI_0, atI_1, atI_2, atI_3, fin0, List.nil_append, List.append_nil, List.cons_append, List.getElem?_cons_zero, List.getElem?_cons_succ, set_0, set_s, List.length_cons, List.length_nil, Option.some.injEq, Val.sh.injEq, Val.ow.injEq, D.int.injEq, D.tup.injEq, D.lst.injEq, D.bl.injEq, exists_eq_left', exists_eq_left, true_and, and_true, Nat.reduceAdd, Nat.reduceLeDiff, Nat.zero_add, if_true, if_false, Bool.false_eq_true, reduceCtorEq, decide_eq_true_eq, Bool.not_eq_true, ne_eq, not_false_eq_true, reduceIte, decide_true, decide_false, Bool.not_true, Bool.not_false, step_nil_eq]
    exact eq_ret (n := n) (xs := xs) (.inl rfl) ok.1 (.inl (by simp [bare, bares, bareP])) (inn xs (.inl rfl) ok.2) hm k _
  | lst xs =>
    refine step_cons ?_
    simp only [ent32, wpS, wpE, wpEs, wpPs, wpT, wpO, wpIfs, pk_var, pk_cst, pk_glc, pk_bin, pk_neg, pk_not, pk_cmp, pk_chain, pk_and, pk_or, pk_ife, pk_tup, pk_lst, pk_idx, pk_sl, pk_rev, pk_isi, pk_maxK, pk_call, pk_prim, pk_comp, rt_var, rt_cst, rt_glc, rt_bin, rt_neg, rt_not, rt_cmp, rt_chain, rt_and, rt_or, rt_ife, rt_tup, rt_lst, rt_idx, rt_sl, rt_rev, rt_isi, rt_maxK, rt_call, rt_prim, rt_comp, stD_var, stD_tup, tgD_var, tgD_tt, tgD_tl, tgsD_nil, tgsD_cons, bare, bareP, bares, barePs, bareO, give_nil, give_cons, gG_s, gG_n, giveV_sh, giveV_ow, data_eq, shr_eq, own_eq, gD_s, gS_s, gO_s, vd_sh, vd_ow, b_add, b_sub, b_mul, b_fdiv, b_mod, b_pow, b_addL, b_addT, b_mulL, x_t, x_l, s_l, s_t, p_lenT, p_lenL, p_abs, p_int, p_intb, p_listT, p_listL, p_tupT, p_tupL, p_gcd, p_min, p_max, p_sum, i_t, i_l, i_r1, i_r2, i_zt, i_zl, n_i, bo_b, in_i, tr_n, tr_b, tr_i, tr_t, tr_l, nn_n, nn_t, nn_l, nn_i, nn_b, isiD_eq, isD, au_a, au_s, wi_n, wi_c, cmpD_eq_int, cmpD_ne_int, cmpD_eq_bl, cmpD_ne_bl, cmpD_lt, cmpD_le, cmpD_gt, cmpD_ge, cmpD_is, cmpD_isnot, truQ_bl, atI_0, atI_1, atI_2, atI_3, fin0, List.nil_append, List.append_nil, List.cons_append, List.getElem?_cons_zero, List.getElem?_cons_succ, set_0, set_s, List.length_cons, List.length_nil, Option.some.injEq, Val.sh.injEq, Val.ow.injEq, D.int.injEq, D.tup.injEq, D.lst.injEq, D.bl.injEq, exists_eq_left', exists_eq_left, true_and, and_true, Nat.reduceAdd, Nat.reduceLeDiff, Nat.zero_add, if_true, if_false, Bool.false_eq_true, reduceCtorEq, decide_eq_true_eq, Bool.not_eq_true, ne_eq, not_false_eq_true, reduceIte, decide_true, decide_false, Bool.not_true, Bool.not_false, step_nil_eq]
    refine step_cons ?_
    try simp only [wpS, wpE, wpEs, wpPs, wpT, wpO, wpIfs, pk_var, pk_cst, pk_glc, pk_bin, pk_neg, pk_not, pk_cmp, pk_chain, pk_and, pk_or, pk_ife, pk_tup, pk_lst, pk_idx, pk_sl, pk_rev, pk_isi, pk_maxK, pk_call, pk_prim, pk_comp, rt_var, rt_cst, rt_glc, rt_bin, rt_neg, rt_not, rt_cmp, rt_chain, rt_and, rt_or, rt_ife, rt_tup, rt_lst, rt_idx, rt_sl, rt_rev, rt_isi, rt_maxK, rt_call, rt_prim, rt_comp, stD_var, stD_tup, tgD_var, tgD_tt, tgD_tl, tgsD_nil, tgsD_cons, bare, bareP, bares, barePs, bareO, give_nil, give_cons, gG_s, gG_n, giveV_sh, giveV_ow, data_eq, shr_eq, own_eq, gD_s, gS_s, gO_s, vd_sh, vd_ow, b_add, b_sub, b_mul, b_fdiv, b_mod, b_pow, b_addL, b_addT, b_mulL, x_t, x_l, s_l, s_t, p_lenT, p_lenL, p_abs, p_int, p_intb, p_listT, p_listL, p_tupT, p_tupL, p_gcd, p_min, p_max, p_sum, i_t, i_l, i_r1, i_r2, i_zt, i_zl, n_i, bo_b, in_i, tr_n, tr_b, tr_i, tr_t, tr_l, nn_n, nn_t, nn_l, nn_i, nn_b, isiD_eq, isD, au_a, au_s, wi_n, wi_c, cmpD_eq_int, cmpD_ne_int, cmpD_eq_bl, cmpD_ne_bl, cmpD_lt, cmpD_le, cmpD_gt, cmpD_ge, cmpD_is, cmpD_isnot, truQ_bl, atI_0, atI_1, atI_2, atI_3, fin0, List.nil_append, List.append_nil, List.cons_append, List.getElem?_cons_zero, List.getElem?_cons_succ, set_0, set_s, List.length_cons, List.length_nil, Option.some.injEq, Val.sh.injEq, Val.ow.injEq, D.int.injEq, D.tup.injEq, D.lst.injEq, D.bl.injEq, exists_eq_left', exists_eq_left, true_and, and_true, Nat.reduceAdd, Nat.reduceLeDiff, Nat.zero_add, if_true, if_false, Bool.false_eq_true, reduceCtorEq, decide_eq_true_eq, Bool.not_eq_true, ne_eq, not_false_eq_true, reduceIte, decide_true, decide_false, Bool.not_true, Bool.not_false, step_nil_eq]
    refine step_cons ?_
    try simp only [wpS, wpE, wpEs, wpPs, wpT, wpO, wpIfs, pk_var, pk_cst, pk_glc, pk_bin, pk_neg, pk_not, pk_cmp, pk_chain, pk_and, pk_or, pk_ife, pk_tup, pk_lst, pk_idx, pk_sl, pk_rev, pk_isi, pk_maxK, pk_call, pk_prim, pk_comp, rt_var, rt_cst, rt_glc, rt_bin, rt_neg, rt_not, rt_cmp, rt_chain, rt_and, rt_or, rt_ife, rt_tup, rt_lst, rt_idx, rt_sl, rt_rev, rt_isi, rt_maxK, rt_call, rt_prim, rt_comp, stD_var, stD_tup, tgD_var, tgD_tt, tgD_tl, tgsD_nil, tgsD_cons, bare, bareP, bares, barePs, bareO, give_nil, give_cons, gG_s, gG_n, giveV_sh, giveV_ow, data_eq, shr_eq, own_eq, gD_s, gS_s, gO_s, vd_sh, vd_ow, b_add, b_sub, b_mul, b_fdiv, b_mod, b_pow, b_addL, b_addT, b_mulL, x_t, x_l, s_l, s_t, p_lenT, p_lenL, p_abs, p_int, p_intb, p_listT, p_listL, p_tupT, p_tupL, p_gcd, p_min, p_max, p_sum, i_t, i_l, i_r1, i_r2, i_zt, i_zl, n_i, bo_b, in_i, tr_n, tr_b, tr_i, tr_t, tr_l, nn_n, nn_t, nn_l, nn_i, nn_b, isiD_eq, isD, au_a, au_s, wi_n, wi_c, cmpD_eq_int, cmpD_ne_int, cmpD_eq_bl, cmpD_ne_bl, cmpD_lt, cmpD_le, cmpD_gt, cmpD_ge, cmpD_is, cmpD_isnot, truQ_bl, atI_0, atI_1, atI_2, atI_3, fin0, List.nil_append, List.append_nil, List.cons_append, List.getElem?_cons_zero, List.getElem?_cons_succ, set_0, set_s, List.length_cons, List.length_nil, Option.some.injEq, Val.sh.injEq, Val.ow.injEq, D.int.injEq, D.tup.injEq, D.lst.injEq, D.bl.injEq, exists_eq_left', exists_eq_left, true_and, and_true, Nat.reduceAdd, Nat.reduceLeDiff, Nat.zero_add, if_true, if_false, Bool.false_eq_true, reduceCtorEq, decide_eq_true_eq, Bool.not_eq_true, ne_eq, not_false_eq_true, reduceIte, decide_true, decide_false, Bool.not_true, Bool.not_false, step_nil_eq]
    exact eq_ret (n := n) (xs := xs) (.inr rfl) ok.1 (.inl (by simp [bare, bares, bareP])) (inn xs (.inr rfl) ok.2) hm k _
  | non => exact ok.elim
  | str _ => exact ok.elim
  | hd _ => exact ok.elim
end Lw
set_option maxHeartbeats 4000000
namespace Lw
open Gx
variable {Γ : Nat → Con} {G : Nat → D}
def conBack : Con := fun ds Q => ∃ a m : Int, ds = [.int a, .int m] ∧ 1 < m ∧ m < 10000000 ∧ Int.gcd a m = 1 ∧ ∀ s : Int, 0 ≤ s → s < m → m ∣ a * s - 1 → Q (.sh (.int s))
theorem ent52 (a b : D) : entry 5 [a, b] = [some (.sh a), some (.sh b), none, none, none] := rfl
/-- the reading of the steps -/
structure BkI (a m u x v y : Int) : Prop where
  u0 : 0 ≤ u
  v0 : 0 < v
  um : u < 10000000
  vm : v < 10000001
  du : m ∣ u - a * x
  dv : m ∣ v - a * y
  g : Int.gcd u v = 1
  sg : ∃ X Y : Int, 0 ≤ X ∧ 0 ≤ Y ∧ ((x = X ∧ y = -Y) ∨ (x = -X ∧ y = Y)) ∧ v * X + u * Y = m
theorem BkI.step {a m u x v y : Int} (h : BkI a m u x v y) (hu : 0 < u) : BkI a m (v - v / u * u) (y - v / u * x) u x := by
  have e : v - v / u * u = v % u := by rw [Int.emod_def, Int.mul_comm]
  have h1 : 0 ≤ v % u := Int.emod_nonneg _ (by omega)
  have h2 : v % u < u := Int.emod_lt_of_pos _ hu
  obtain ⟨X, Y, hX, hY, hs, hm⟩ := h.sg
  have hk : 0 ≤ v / u := Int.ediv_nonneg (by have := h.v0; omega) (by omega)
  refine ⟨by omega, hu, by have := h.um; omega, by have := h.um; omega, ?_, h.du, ?_, ?_⟩
  · have : v - v / u * u - a * (y - v / u * x) = (v - a * y) - v / u * (u - a * x) := by grind
    rw [this]
    exact Int.dvd_sub h.dv (Int.dvd_mul_of_dvd_right h.du)
  · rw [Int.gcd_sub_mul_right_left, Int.gcd_comm]; exact h.g
  · refine ⟨Y + v / u * X, X, Int.add_nonneg hY (Int.mul_nonneg hk hX), hX, ?_, ?_⟩
    · rcases hs with ⟨rfl, rfl⟩ | ⟨rfl, rfl⟩
      · right; constructor
        · grind
        · rfl
      · left; constructor
        · grind
        · rfl
    · grind
theorem BkI.small {a m u x v y : Int} (h : BkI a m u x v y) (hm : m < 10000000) : x.natAbs < 2 ^ 24 := by
  obtain ⟨X, Y, hX, hY, hs, hq⟩ := h.sg
  have h1 : X ≤ v * X := by
    have := Int.mul_le_mul_of_nonneg_right (show (1 : Int) ≤ v from h.v0) hX
    omega
  have h2 : 0 ≤ u * Y := Int.mul_nonneg h.u0 hY
  omega
theorem o_back {ds Q} (h : conBack ds Q) : wpB Γ G core_21_law_back (fin0 Q) (entry 5 ds) := by
  obtain ⟨a, m, rfl, m1, m2, hg, k⟩ := h
  refine step_cons ?_
  simp only [ent52, wpS, wpE, wpEs, wpPs, wpT, wpO, wpIfs, pk_var, pk_cst, pk_glc, pk_bin, pk_neg, pk_not, pk_cmp, pk_chain, pk_and, pk_or, pk_ife, pk_tup, pk_lst, pk_idx, pk_sl, pk_rev, pk_isi, pk_maxK, pk_call, pk_prim, pk_comp, rt_var, rt_cst, rt_glc, rt_bin, rt_neg, rt_not, rt_cmp, rt_chain, rt_and, rt_or, rt_ife, rt_tup, rt_lst, rt_idx, rt_sl, rt_rev, rt_isi, rt_maxK, rt_call, rt_prim, rt_comp, stD_var, stD_tup, tgD_var, tgD_tt, tgD_tl, tgsD_nil, tgsD_cons, bare, bareP, bares, barePs, bareO, give_nil, give_cons, gG_s, gG_n, giveV_sh, giveV_ow, data_eq, shr_eq, own_eq, gD_s, gS_s, gO_s, vd_sh, vd_ow, b_add, b_sub, b_mul, b_fdiv, b_mod, b_pow, b_addL, b_addT, b_mulL, x_t, x_l, s_l, s_t, p_lenT, p_lenL, p_abs, p_int, p_intb, p_listT, p_listL, p_tupT, p_tupL, p_gcd, p_min, p_max, p_sum, i_t, i_l, i_r1, i_r2, i_zt, i_zl, n_i, bo_b, in_i, tr_n, tr_b, tr_i, tr_t, tr_l, nn_n, nn_t, nn_l, nn_i, nn_b, isiD_eq, isD, au_a, au_s, wi_n, wi_c, cmpD_eq_int, cmpD_ne_int, cmpD_eq_bl, cmpD_ne_bl, cmpD_lt, cmpD_le, cmpD_gt, cmpD_ge, cmpD_is, cmpD_isnot, truQ_bl, atI_0, atI_1, atI_2, atI_3, fin0, List.nil_append, List.append_nil, List.cons_append, List.getElem?_cons_zero, List.getElem?_cons_succ, set_0, set_s, List.length_cons, List.length_nil, Option.some.injEq, Val.sh.injEq, Val.ow.injEq, D.int.injEq, D.tup.injEq, D.lst.injEq, D.bl.injEq, exists_eq_left', exists_eq_left, true_and, and_true, Nat.reduceAdd, Nat.reduceLeDiff, Nat.zero_add, if_true, if_false, Bool.false_eq_true, reduceCtorEq, decide_eq_true_eq, Bool.not_eq_true, ne_eq, not_false_eq_true, reduceIte, decide_true, decide_false, Bool.not_true, Bool.not_false, step_nil_eq]
  refine ⟨by omega, ?_⟩
  refine step_cons ?_
  simp only [wpS, wpE, wpEs, wpPs, wpT, wpO, wpIfs, pk_var, pk_cst, pk_glc, pk_bin, pk_neg, pk_not, pk_cmp, pk_chain, pk_and, pk_or, pk_ife, pk_tup, pk_lst, pk_idx, pk_sl, pk_rev, pk_isi, pk_maxK, pk_call, pk_prim, pk_comp, rt_var, rt_cst, rt_glc, rt_bin, rt_neg, rt_not, rt_cmp, rt_chain, rt_and, rt_or, rt_ife, rt_tup, rt_lst, rt_idx, rt_sl, rt_rev, rt_isi, rt_maxK, rt_call, rt_prim, rt_comp, stD_var, stD_tup, tgD_var, tgD_tt, tgD_tl, tgsD_nil, tgsD_cons, bare, bareP, bares, barePs, bareO, give_nil, give_cons, gG_s, gG_n, giveV_sh, giveV_ow, data_eq, shr_eq, own_eq, gD_s, gS_s, gO_s, vd_sh, vd_ow, b_add, b_sub, b_mul, b_fdiv, b_mod, b_pow, b_addL, b_addT, b_mulL, x_t, x_l, s_l, s_t, p_lenT, p_lenL, p_abs, p_int, p_intb, p_listT, p_listL, p_tupT, p_tupL, p_gcd, p_min, p_max, p_sum, i_t, i_l, i_r1, i_r2, i_zt, i_zl, n_i, bo_b, in_i, tr_n, tr_b, tr_i, tr_t, tr_l, nn_n, nn_t, nn_l, nn_i, nn_b, isiD_eq, isD, au_a, au_s, wi_n, wi_c, cmpD_eq_int, cmpD_ne_int, cmpD_eq_bl, cmpD_ne_bl, cmpD_lt, cmpD_le, cmpD_gt, cmpD_ge, cmpD_is, cmpD_isnot, truQ_bl, atI_0, atI_1, atI_2, atI_3, fin0, List.nil_append, List.append_nil, List.cons_append, List.getElem?_cons_zero, List.getElem?_cons_succ, set_0, set_s, List.length_cons, List.length_nil, Option.some.injEq, Val.sh.injEq, Val.ow.injEq, D.int.injEq, D.tup.injEq, D.lst.injEq, D.bl.injEq, exists_eq_left', exists_eq_left, true_and, and_true, Nat.reduceAdd, Nat.reduceLeDiff, Nat.zero_add, if_true, if_false, Bool.false_eq_true, reduceCtorEq, decide_eq_true_eq, Bool.not_eq_true, ne_eq, not_false_eq_true, reduceIte, decide_true, decide_false, Bool.not_true, Bool.not_false, step_nil_eq]
  refine ⟨fun n ρ => ∃ (u x v y : Int) (w : Option Val), ρ = [some (.sh (.int a)), some (.sh (.int m)), some (.sh (pr u x)), some (.sh (pr v y)), w] ∧ n = u.toNat ∧ BkI a m u x v y,
    ⟨_, _, _, _, _, _, rfl, rfl, ?_⟩, ?_⟩
  · rw [Int.fmod_eq_emod_of_nonneg _ (by omega)]
    refine ⟨Int.emod_nonneg _ (by omega), by omega, by have := Int.emod_lt_of_pos a (show 0 < m by omega); omega, by omega, ?_, ?_, ?_, 1, 0, by decide, by decide, .inl ⟨rfl, rfl⟩, by omega⟩
    · refine ⟨-(a / m), ?_⟩
      rw [Int.emod_def]; grind
    · exact ⟨1, by omega⟩
    · rw [Int.emod_def, Int.gcd_sub_mul_left_left]; exact hg
  · rintro n ρ ⟨u, x, v, y, w, rfl, rfl, I⟩
    simp only [pr, wpS, wpE, wpEs, wpPs, wpT, wpO, wpIfs, pk_var, pk_cst, pk_glc, pk_bin, pk_neg, pk_not, pk_cmp, pk_chain, pk_and, pk_or, pk_ife, pk_tup, pk_lst, pk_idx, pk_sl, pk_rev, pk_isi, pk_maxK, pk_call, pk_prim, pk_comp, rt_var, rt_cst, rt_glc, rt_bin, rt_neg, rt_not, rt_cmp, rt_chain, rt_and, rt_or, rt_ife, rt_tup, rt_lst, rt_idx, rt_sl, rt_rev, rt_isi, rt_maxK, rt_call, rt_prim, rt_comp, stD_var, stD_tup, tgD_var, tgD_tt, tgD_tl, tgsD_nil, tgsD_cons, bare, bareP, bares, barePs, bareO, give_nil, give_cons, gG_s, gG_n, giveV_sh, giveV_ow, data_eq, shr_eq, own_eq, gD_s, gS_s, gO_s, vd_sh, vd_ow, b_add, b_sub, b_mul, b_fdiv, b_mod, b_pow, b_addL, b_addT, b_mulL, x_t, x_l, s_l, s_t, p_lenT, p_lenL, p_abs, p_int, p_intb, p_listT, p_listL, p_tupT, p_tupL, p_gcd, p_min, p_max, p_sum, i_t, i_l, i_r1, i_r2, i_zt, i_zl, n_i, bo_b, in_i, tr_n, tr_b, tr_i, tr_t, tr_l, nn_n, nn_t, nn_l, nn_i, nn_b, isiD_eq, isD, au_a, au_s, wi_n, wi_c, cmpD_eq_int, cmpD_ne_int, cmpD_eq_bl, cmpD_ne_bl, cmpD_lt, cmpD_le, cmpD_gt, cmpD_ge, cmpD_is, cmpD_isnot, truQ_bl, atI_0, atI_1, atI_2, atI_3, fin0, List.nil_append, List.append_nil, List.cons_append, List.getElem?_cons_zero, List.getElem?_cons_succ, set_0, set_s, List.length_cons, List.length_nil, Option.some.injEq, Val.sh.injEq, Val.ow.injEq, D.int.injEq, D.tup.injEq, D.lst.injEq, D.bl.injEq, exists_eq_left', exists_eq_left, true_and, and_true, Nat.reduceAdd, Nat.reduceLeDiff, Nat.zero_add, if_true, if_false, Bool.false_eq_true, reduceCtorEq, decide_eq_true_eq, Bool.not_eq_true, ne_eq, not_false_eq_true, reduceIte, decide_true, decide_false, Bool.not_true, Bool.not_false, step_nil_eq]
    by_cases hu : 0 < u
    · rw [if_pos hu]
      have um := I.um
      have vm := I.vm
      have v0 := I.v0
      have hk0 : 0 ≤ v / u := Int.ediv_nonneg (by omega) (by omega)
      have hk1 : v / u ≤ v := Int.ediv_le_self _ (by omega)
      refine step_cons ?_
      simp only [wpS, wpE, wpEs, wpPs, wpT, wpO, wpIfs, pk_var, pk_cst, pk_glc, pk_bin, pk_neg, pk_not, pk_cmp, pk_chain, pk_and, pk_or, pk_ife, pk_tup, pk_lst, pk_idx, pk_sl, pk_rev, pk_isi, pk_maxK, pk_call, pk_prim, pk_comp, rt_var, rt_cst, rt_glc, rt_bin, rt_neg, rt_not, rt_cmp, rt_chain, rt_and, rt_or, rt_ife, rt_tup, rt_lst, rt_idx, rt_sl, rt_rev, rt_isi, rt_maxK, rt_call, rt_prim, rt_comp, stD_var, stD_tup, tgD_var, tgD_tt, tgD_tl, tgsD_nil, tgsD_cons, bare, bareP, bares, barePs, bareO, give_nil, give_cons, gG_s, gG_n, giveV_sh, giveV_ow, data_eq, shr_eq, own_eq, gD_s, gS_s, gO_s, vd_sh, vd_ow, b_add, b_sub, b_mul, b_fdiv, b_mod, b_pow, b_addL, b_addT, b_mulL, x_t, x_l, s_l, s_t, p_lenT, p_lenL, p_abs, p_int, p_intb, p_listT, p_listL, p_tupT, p_tupL, p_gcd, p_min, p_max, p_sum, i_t, i_l, i_r1, i_r2, i_zt, i_zl, n_i, bo_b, in_i, tr_n, tr_b, tr_i, tr_t, tr_l, nn_n, nn_t, nn_l, nn_i, nn_b, isiD_eq, isD, au_a, au_s, wi_n, wi_c, cmpD_eq_int, cmpD_ne_int, cmpD_eq_bl, cmpD_ne_bl, cmpD_lt, cmpD_le, cmpD_gt, cmpD_ge, cmpD_is, cmpD_isnot, truQ_bl, atI_0, atI_1, atI_2, atI_3, fin0, List.nil_append, List.append_nil, List.cons_append, List.getElem?_cons_zero, List.getElem?_cons_succ, set_0, set_s, List.length_cons, List.length_nil, Option.some.injEq, Val.sh.injEq, Val.ow.injEq, D.int.injEq, D.tup.injEq, D.lst.injEq, D.bl.injEq, exists_eq_left', exists_eq_left, true_and, and_true, Nat.reduceAdd, Nat.reduceLeDiff, Nat.zero_add, if_true, if_false, Bool.false_eq_true, reduceCtorEq, decide_eq_true_eq, Bool.not_eq_true, ne_eq, not_false_eq_true, reduceIte, decide_true, decide_false, Bool.not_true, Bool.not_false, step_nil_eq]
      refine ⟨divOk (n := 30) (by omega) (by omega) (by decide), ?_⟩
      refine step_cons ?_
      simp only [wpS, wpE, wpEs, wpPs, wpT, wpO, wpIfs, pk_var, pk_cst, pk_glc, pk_bin, pk_neg, pk_not, pk_cmp, pk_chain, pk_and, pk_or, pk_ife, pk_tup, pk_lst, pk_idx, pk_sl, pk_rev, pk_isi, pk_maxK, pk_call, pk_prim, pk_comp, rt_var, rt_cst, rt_glc, rt_bin, rt_neg, rt_not, rt_cmp, rt_chain, rt_and, rt_or, rt_ife, rt_tup, rt_lst, rt_idx, rt_sl, rt_rev, rt_isi, rt_maxK, rt_call, rt_prim, rt_comp, stD_var, stD_tup, tgD_var, tgD_tt, tgD_tl, tgsD_nil, tgsD_cons, bare, bareP, bares, barePs, bareO, give_nil, give_cons, gG_s, gG_n, giveV_sh, giveV_ow, data_eq, shr_eq, own_eq, gD_s, gS_s, gO_s, vd_sh, vd_ow, b_add, b_sub, b_mul, b_fdiv, b_mod, b_pow, b_addL, b_addT, b_mulL, x_t, x_l, s_l, s_t, p_lenT, p_lenL, p_abs, p_int, p_intb, p_listT, p_listL, p_tupT, p_tupL, p_gcd, p_min, p_max, p_sum, i_t, i_l, i_r1, i_r2, i_zt, i_zl, n_i, bo_b, in_i, tr_n, tr_b, tr_i, tr_t, tr_l, nn_n, nn_t, nn_l, nn_i, nn_b, isiD_eq, isD, au_a, au_s, wi_n, wi_c, cmpD_eq_int, cmpD_ne_int, cmpD_eq_bl, cmpD_ne_bl, cmpD_lt, cmpD_le, cmpD_gt, cmpD_ge, cmpD_is, cmpD_isnot, truQ_bl, atI_0, atI_1, atI_2, atI_3, fin0, List.nil_append, List.append_nil, List.cons_append, List.getElem?_cons_zero, List.getElem?_cons_succ, set_0, set_s, List.length_cons, List.length_nil, Option.some.injEq, Val.sh.injEq, Val.ow.injEq, D.int.injEq, D.tup.injEq, D.lst.injEq, D.bl.injEq, exists_eq_left', exists_eq_left, true_and, and_true, Nat.reduceAdd, Nat.reduceLeDiff, Nat.zero_add, if_true, if_false, Bool.false_eq_true, reduceCtorEq, decide_eq_true_eq, Bool.not_eq_true, ne_eq, not_false_eq_true, reduceIte, decide_true, decide_false, Bool.not_true, Bool.not_false, step_nil_eq]
      rw [Int.fdiv_eq_ediv_of_nonneg _ (by omega)]
      refine ⟨mulOk (n := 30) (m := 30) (by omega) (by omega) (by decide), mulOk (n := 30) (m := 24) (by omega) (I.small m2) (by decide), ?_⟩
      refine ⟨_, ?_, _, _, _, _, _, rfl, rfl, I.step hu⟩
      have e : v - v / u * u = v % u := by rw [Int.emod_def, Int.mul_comm]
      have h1 : 0 ≤ v % u := Int.emod_nonneg _ (by omega)
      have h2 : v % u < u := Int.emod_lt_of_pos _ hu
      omega
    · rw [if_neg hu]
      have e : u = 0 := by have := I.u0; omega
      subst e
      refine step_cons ?_
      simp only [wpS, wpE, wpEs, wpPs, wpT, wpO, wpIfs, pk_var, pk_cst, pk_glc, pk_bin, pk_neg, pk_not, pk_cmp, pk_chain, pk_and, pk_or, pk_ife, pk_tup, pk_lst, pk_idx, pk_sl, pk_rev, pk_isi, pk_maxK, pk_call, pk_prim, pk_comp, rt_var, rt_cst, rt_glc, rt_bin, rt_neg, rt_not, rt_cmp, rt_chain, rt_and, rt_or, rt_ife, rt_tup, rt_lst, rt_idx, rt_sl, rt_rev, rt_isi, rt_maxK, rt_call, rt_prim, rt_comp, stD_var, stD_tup, tgD_var, tgD_tt, tgD_tl, tgsD_nil, tgsD_cons, bare, bareP, bares, barePs, bareO, give_nil, give_cons, gG_s, gG_n, giveV_sh, giveV_ow, data_eq, shr_eq, own_eq, gD_s, gS_s, gO_s, vd_sh, vd_ow, b_add, b_sub, b_mul, b_fdiv, b_mod, b_pow, b_addL, b_addT, b_mulL, x_t, x_l, s_l, s_t, p_lenT, p_lenL, p_abs, p_int, p_intb, p_listT, p_listL, p_tupT, p_tupL, p_gcd, p_min, p_max, p_sum, i_t, i_l, i_r1, i_r2, i_zt, i_zl, n_i, bo_b, in_i, tr_n, tr_b, tr_i, tr_t, tr_l, nn_n, nn_t, nn_l, nn_i, nn_b, isiD_eq, isD, au_a, au_s, wi_n, wi_c, cmpD_eq_int, cmpD_ne_int, cmpD_eq_bl, cmpD_ne_bl, cmpD_lt, cmpD_le, cmpD_gt, cmpD_ge, cmpD_is, cmpD_isnot, truQ_bl, atI_0, atI_1, atI_2, atI_3, fin0, List.nil_append, List.append_nil, List.cons_append, List.getElem?_cons_zero, List.getElem?_cons_succ, set_0, set_s, List.length_cons, List.length_nil, Option.some.injEq, Val.sh.injEq, Val.ow.injEq, D.int.injEq, D.tup.injEq, D.lst.injEq, D.bl.injEq, exists_eq_left', exists_eq_left, true_and, and_true, Nat.reduceAdd, Nat.reduceLeDiff, Nat.zero_add, if_true, if_false, Bool.false_eq_true, reduceCtorEq, decide_eq_true_eq, Bool.not_eq_true, ne_eq, not_false_eq_true, reduceIte, decide_true, decide_false, Bool.not_true, Bool.not_false, step_nil_eq]
      refine ⟨by omega, ?_⟩
      have hv : v = 1 := by have := I.g; rw [Int.gcd_comm] at this; simp at this; have := I.v0; omega
      subst hv
      rw [Int.fmod_eq_emod_of_nonneg _ (by omega)]
      refine k _ (Int.emod_nonneg _ (by omega)) (Int.emod_lt_of_pos _ (by omega)) ?_
      have := I.dv
      obtain ⟨t, ht⟩ := this
      refine ⟨-t - a * (y / m), ?_⟩
      rw [Int.emod_def]; grind
/-! ### how far apart -/
def conApart : Con := fun ds Q => ∃ p q r s : Int, ds = [pr p q, pr r s] ∧ 0 < q ∧ 0 < s ∧ Sm 24 p ∧ Sm 24 q ∧ Sm 24 r ∧ Sm 24 s ∧ ∀ x : Rat, x * ((q * q * (s * s) : Int) : Rat) = (((p * s - r * q) * (p * s - r * q) - 1 : Int) : Rat) → Q (.sh (frD x))
theorem ent72 (a b : D) : entry 7 [a, b] = [some (.sh a), some (.sh b), none, none, none, none, none] := rfl
theorem sm_one (n : Nat) (h : 0 < n) : Sm n 1 := by
  show (1 : Int).natAbs < 2 ^ n
  have := Nat.lt_two_pow_self (n := n)
  have : (1 : Int).natAbs = 1 := rfl
  omega
theorem sm_mono {n m : Nat} {i : Int} (h : Sm n i) (hm : n ≤ m) : Sm m i := bit_mono h hm
theorem sm_zero_sub {n : Nat} {i : Int} (h : Sm n i) : Sm n (0 - i) := by
  unfold Sm at *; rw [Int.zero_sub, Int.natAbs_neg]; exact h
theorem bN {n : Nat} {x : Rat} (h : Bt n x) : Sm n x.num := h.1
theorem bD {n : Nat} {x : Rat} (h : Bt n x) : Sm n (x.den : Int) := by show (x.den : Int).natAbs < _; rw [Int.natAbs_natCast]; exact h.2
theorem bt_mono {n m : Nat} {x : Rat} (h : Bt n x) (hm : n ≤ m) : Bt m x := ⟨bit_mono h.1 hm, Nat.lt_of_lt_of_le h.2 (Nat.pow_le_pow_right (by decide) hm)⟩
theorem den_pos (x : Rat) : (0 : Int) < x.den := by have := x.den_nz; omega
theorem two_sq {q : Int} (h : 0 < q) : 0 < 2 * q * q := Int.mul_pos (Int.mul_pos (by decide) h) h
theorem sm_two_sq {q : Int} (h : Sm 24 q) : Sm 60 (2 * q * q) := sm_mono (bit_mul (bit_mul (n := 4) (by decide) h) h) (by decide)
theorem apart_alg (P Q R S A B U V : Rat) (hu : U * Q = P) (hv : V * S = R) (ha : A * (2 * Q * Q) = 1) (hb : B * (2 * S * S) = 1) :
    ((U - V) * (U - V) + (A - B) * (A - B) - (A + B) * (A + B)) * (Q * Q * (S * S)) = (P * S - R * Q) * (P * S - R * Q) - 1 := by grind
theorem o_apart {ds Q} (h : conApart ds Q) (h15 : Γ 15 = conAdd) (h16 : Γ 16 = conTimes) (h19 : Γ 19 = conCirc) : wpB Γ G core_20_law_apart (fin0 Q) (entry 7 ds) := by
  obtain ⟨p, q, r, s, rfl, q0, s0, hp, hq, hr, hs, k⟩ := h
  refine step_cons ?_
  simp only [ent72, wpS, wpE, wpEs, wpPs, wpT, wpO, wpIfs, pk_var, pk_cst, pk_glc, pk_bin, pk_neg, pk_not, pk_cmp, pk_chain, pk_and, pk_or, pk_ife, pk_tup, pk_lst, pk_idx, pk_sl, pk_rev, pk_isi, pk_maxK, pk_call, pk_prim, pk_comp, rt_var, rt_cst, rt_glc, rt_bin, rt_neg, rt_not, rt_cmp, rt_chain, rt_and, rt_or, rt_ife, rt_tup, rt_lst, rt_idx, rt_sl, rt_rev, rt_isi, rt_maxK, rt_call, rt_prim, rt_comp, stD_var, stD_tup, tgD_var, tgD_tt, tgD_tl, tgsD_nil, tgsD_cons, bare, bareP, bares, barePs, bareO, give_nil, give_cons, gG_s, gG_n, giveV_sh, giveV_ow, data_eq, shr_eq, own_eq, gD_s, gS_s, gO_s, vd_sh, vd_ow, b_add, b_sub, b_mul, b_fdiv, b_mod, b_pow, b_addL, b_addT, b_mulL, x_t, x_l, s_l, s_t, p_lenT, p_lenL, p_abs, p_int, p_intb, p_listT, p_listL, p_tupT, p_tupL, p_gcd, p_min, p_max, p_sum, i_t, i_l, i_r1, i_r2, i_zt, i_zl, n_i, bo_b, in_i, tr_n, tr_b, tr_i, tr_t, tr_l, nn_n, nn_t, nn_l, nn_i, nn_b, isiD_eq, isD, au_a, au_s, wi_n, wi_c, cmpD_eq_int, cmpD_ne_int, cmpD_eq_bl, cmpD_ne_bl, cmpD_lt, cmpD_le, cmpD_gt, cmpD_ge, cmpD_is, cmpD_isnot, truQ_bl, atI_0, atI_1, atI_2, atI_3, fin0, List.nil_append, List.append_nil, List.cons_append, List.getElem?_cons_zero, List.getElem?_cons_succ, set_0, set_s, List.length_cons, List.length_nil, Option.some.injEq, Val.sh.injEq, Val.ow.injEq, D.int.injEq, D.tup.injEq, D.lst.injEq, D.bl.injEq, exists_eq_left', exists_eq_left, true_and, and_true, Nat.reduceAdd, Nat.reduceLeDiff, Nat.zero_add, if_true, if_false, Bool.false_eq_true, reduceCtorEq, decide_eq_true_eq, Bool.not_eq_true, ne_eq, not_false_eq_true, reduceIte, decide_true, decide_false, Bool.not_true, Bool.not_false, step_nil_eq]
  refine step_cons ?_
  simp only [h19, wpS, wpE, wpEs, wpPs, wpT, wpO, wpIfs, pk_var, pk_cst, pk_glc, pk_bin, pk_neg, pk_not, pk_cmp, pk_chain, pk_and, pk_or, pk_ife, pk_tup, pk_lst, pk_idx, pk_sl, pk_rev, pk_isi, pk_maxK, pk_call, pk_prim, pk_comp, rt_var, rt_cst, rt_glc, rt_bin, rt_neg, rt_not, rt_cmp, rt_chain, rt_and, rt_or, rt_ife, rt_tup, rt_lst, rt_idx, rt_sl, rt_rev, rt_isi, rt_maxK, rt_call, rt_prim, rt_comp, stD_var, stD_tup, tgD_var, tgD_tt, tgD_tl, tgsD_nil, tgsD_cons, bare, bareP, bares, barePs, bareO, give_nil, give_cons, gG_s, gG_n, giveV_sh, giveV_ow, data_eq, shr_eq, own_eq, gD_s, gS_s, gO_s, vd_sh, vd_ow, b_add, b_sub, b_mul, b_fdiv, b_mod, b_pow, b_addL, b_addT, b_mulL, x_t, x_l, s_l, s_t, p_lenT, p_lenL, p_abs, p_int, p_intb, p_listT, p_listL, p_tupT, p_tupL, p_gcd, p_min, p_max, p_sum, i_t, i_l, i_r1, i_r2, i_zt, i_zl, n_i, bo_b, in_i, tr_n, tr_b, tr_i, tr_t, tr_l, nn_n, nn_t, nn_l, nn_i, nn_b, isiD_eq, isD, au_a, au_s, wi_n, wi_c, cmpD_eq_int, cmpD_ne_int, cmpD_eq_bl, cmpD_ne_bl, cmpD_lt, cmpD_le, cmpD_gt, cmpD_ge, cmpD_is, cmpD_isnot, truQ_bl, atI_0, atI_1, atI_2, atI_3, fin0, List.nil_append, List.append_nil, List.cons_append, List.getElem?_cons_zero, List.getElem?_cons_succ, set_0, set_s, List.length_cons, List.length_nil, Option.some.injEq, Val.sh.injEq, Val.ow.injEq, D.int.injEq, D.tup.injEq, D.lst.injEq, D.bl.injEq, exists_eq_left', exists_eq_left, true_and, and_true, Nat.reduceAdd, Nat.reduceLeDiff, Nat.zero_add, if_true, if_false, Bool.false_eq_true, reduceCtorEq, decide_eq_true_eq, Bool.not_eq_true, ne_eq, not_false_eq_true, reduceIte, decide_true, decide_false, Bool.not_true, Bool.not_false, step_nil_eq]
  refine ⟨p, q, 24, rfl, hq, by decide, ?_⟩
  simp only [circ, wpS, wpE, wpEs, wpPs, wpT, wpO, wpIfs, pk_var, pk_cst, pk_glc, pk_bin, pk_neg, pk_not, pk_cmp, pk_chain, pk_and, pk_or, pk_ife, pk_tup, pk_lst, pk_idx, pk_sl, pk_rev, pk_isi, pk_maxK, pk_call, pk_prim, pk_comp, rt_var, rt_cst, rt_glc, rt_bin, rt_neg, rt_not, rt_cmp, rt_chain, rt_and, rt_or, rt_ife, rt_tup, rt_lst, rt_idx, rt_sl, rt_rev, rt_isi, rt_maxK, rt_call, rt_prim, rt_comp, stD_var, stD_tup, tgD_var, tgD_tt, tgD_tl, tgsD_nil, tgsD_cons, bare, bareP, bares, barePs, bareO, give_nil, give_cons, gG_s, gG_n, giveV_sh, giveV_ow, data_eq, shr_eq, own_eq, gD_s, gS_s, gO_s, vd_sh, vd_ow, b_add, b_sub, b_mul, b_fdiv, b_mod, b_pow, b_addL, b_addT, b_mulL, x_t, x_l, s_l, s_t, p_lenT, p_lenL, p_abs, p_int, p_intb, p_listT, p_listL, p_tupT, p_tupL, p_gcd, p_min, p_max, p_sum, i_t, i_l, i_r1, i_r2, i_zt, i_zl, n_i, bo_b, in_i, tr_n, tr_b, tr_i, tr_t, tr_l, nn_n, nn_t, nn_l, nn_i, nn_b, isiD_eq, isD, au_a, au_s, wi_n, wi_c, cmpD_eq_int, cmpD_ne_int, cmpD_eq_bl, cmpD_ne_bl, cmpD_lt, cmpD_le, cmpD_gt, cmpD_ge, cmpD_is, cmpD_isnot, truQ_bl, atI_0, atI_1, atI_2, atI_3, fin0, List.nil_append, List.append_nil, List.cons_append, List.getElem?_cons_zero, List.getElem?_cons_succ, set_0, set_s, List.length_cons, List.length_nil, Option.some.injEq, Val.sh.injEq, Val.ow.injEq, D.int.injEq, D.tup.injEq, D.lst.injEq, D.bl.injEq, exists_eq_left', exists_eq_left, true_and, and_true, Nat.reduceAdd, Nat.reduceLeDiff, Nat.zero_add, if_true, if_false, Bool.false_eq_true, reduceCtorEq, decide_eq_true_eq, Bool.not_eq_true, ne_eq, not_false_eq_true, reduceIte, decide_true, decide_false, Bool.not_true, Bool.not_false, step_nil_eq]
  refine ⟨r, s, 24, rfl, hs, by decide, ?_⟩
  simp only [circ, wpS, wpE, wpEs, wpPs, wpT, wpO, wpIfs, pk_var, pk_cst, pk_glc, pk_bin, pk_neg, pk_not, pk_cmp, pk_chain, pk_and, pk_or, pk_ife, pk_tup, pk_lst, pk_idx, pk_sl, pk_rev, pk_isi, pk_maxK, pk_call, pk_prim, pk_comp, rt_var, rt_cst, rt_glc, rt_bin, rt_neg, rt_not, rt_cmp, rt_chain, rt_and, rt_or, rt_ife, rt_tup, rt_lst, rt_idx, rt_sl, rt_rev, rt_isi, rt_maxK, rt_call, rt_prim, rt_comp, stD_var, stD_tup, tgD_var, tgD_tt, tgD_tl, tgsD_nil, tgsD_cons, bare, bareP, bares, barePs, bareO, give_nil, give_cons, gG_s, gG_n, giveV_sh, giveV_ow, data_eq, shr_eq, own_eq, gD_s, gS_s, gO_s, vd_sh, vd_ow, b_add, b_sub, b_mul, b_fdiv, b_mod, b_pow, b_addL, b_addT, b_mulL, x_t, x_l, s_l, s_t, p_lenT, p_lenL, p_abs, p_int, p_intb, p_listT, p_listL, p_tupT, p_tupL, p_gcd, p_min, p_max, p_sum, i_t, i_l, i_r1, i_r2, i_zt, i_zl, n_i, bo_b, in_i, tr_n, tr_b, tr_i, tr_t, tr_l, nn_n, nn_t, nn_l, nn_i, nn_b, isiD_eq, isD, au_a, au_s, wi_n, wi_c, cmpD_eq_int, cmpD_ne_int, cmpD_eq_bl, cmpD_ne_bl, cmpD_lt, cmpD_le, cmpD_gt, cmpD_ge, cmpD_is, cmpD_isnot, truQ_bl, atI_0, atI_1, atI_2, atI_3, fin0, List.nil_append, List.append_nil, List.cons_append, List.getElem?_cons_zero, List.getElem?_cons_succ, set_0, set_s, List.length_cons, List.length_nil, Option.some.injEq, Val.sh.injEq, Val.ow.injEq, D.int.injEq, D.tup.injEq, D.lst.injEq, D.bl.injEq, exists_eq_left', exists_eq_left, true_and, and_true, Nat.reduceAdd, Nat.reduceLeDiff, Nat.zero_add, if_true, if_false, Bool.false_eq_true, reduceCtorEq, decide_eq_true_eq, Bool.not_eq_true, ne_eq, not_false_eq_true, reduceIte, decide_true, decide_false, Bool.not_true, Bool.not_false, step_nil_eq]
  have rq := ratpos q0
  have rs := ratpos s0
  refine ⟨fun i ρ => ∃ (x : Rat) (d3 d4 d6 : Option Val), ρ = [some (.sh (pr p q)), some (.sh (pr r s)), some (.sh (frD x)), d3, d4, none, d6] ∧
      (i = 0 → x = 0) ∧ (i = 1 → Bt 199 x ∧ x = ((p : Rat) / q - (r : Rat) / s) * ((p : Rat) / q - (r : Rat) / s)) ∧
      (2 ≤ i → Bt 490 x ∧ x = ((p : Rat) / q - (r : Rat) / s) * ((p : Rat) / q - (r : Rat) / s) + (((1 : Int) : Rat) / ((2 * q * q : Int) : Rat) - ((1 : Int) : Rat) / ((2 * s * s : Int) : Rat)) * (((1 : Int) : Rat) / ((2 * q * q : Int) : Rat) - ((1 : Int) : Rat) / ((2 * s * s : Int) : Rat))), ?_, ?_, ?_⟩
  · exact ⟨0, none, none, none, rfl, fun _ => rfl, fun h => by omega, fun h => by omega⟩
  · rintro i d ρ hi ⟨x, d3, d4, d6, rfl, i0, i1, i2⟩
    rcases i with _ | _ | i
    · have x0 := i0 rfl
      subst x0
      cases hi
      simp only [pr, wpS, wpE, wpEs, wpPs, wpT, wpO, wpIfs, pk_var, pk_cst, pk_glc, pk_bin, pk_neg, pk_not, pk_cmp, pk_chain, pk_and, pk_or, pk_ife, pk_tup, pk_lst, pk_idx, pk_sl, pk_rev, pk_isi, pk_maxK, pk_call, pk_prim, pk_comp, rt_var, rt_cst, rt_glc, rt_bin, rt_neg, rt_not, rt_cmp, rt_chain, rt_and, rt_or, rt_ife, rt_tup, rt_lst, rt_idx, rt_sl, rt_rev, rt_isi, rt_maxK, rt_call, rt_prim, rt_comp, stD_var, stD_tup, tgD_var, tgD_tt, tgD_tl, tgsD_nil, tgsD_cons, bare, bareP, bares, barePs, bareO, give_nil, give_cons, gG_s, gG_n, giveV_sh, giveV_ow, data_eq, shr_eq, own_eq, gD_s, gS_s, gO_s, vd_sh, vd_ow, b_add, b_sub, b_mul, b_fdiv, b_mod, b_pow, b_addL, b_addT, b_mulL, x_t, x_l, s_l, s_t, p_lenT, p_lenL, p_abs, p_int, p_intb, p_listT, p_listL, p_tupT, p_tupL, p_gcd, p_min, p_max, p_sum, i_t, i_l, i_r1, i_r2, i_zt, i_zl, n_i, bo_b, in_i, tr_n, tr_b, tr_i, tr_t, tr_l, nn_n, nn_t, nn_l, nn_i, nn_b, isiD_eq, isD, au_a, au_s, wi_n, wi_c, cmpD_eq_int, cmpD_ne_int, cmpD_eq_bl, cmpD_ne_bl, cmpD_lt, cmpD_le, cmpD_gt, cmpD_ge, cmpD_is, cmpD_isnot, truQ_bl, atI_0, atI_1, atI_2, atI_3, fin0, List.nil_append, List.append_nil, List.cons_append, List.getElem?_cons_zero, List.getElem?_cons_succ, set_0, set_s, List.length_cons, List.length_nil, Option.some.injEq, Val.sh.injEq, Val.ow.injEq, D.int.injEq, D.tup.injEq, D.lst.injEq, D.bl.injEq, exists_eq_left', exists_eq_left, true_and, and_true, Nat.reduceAdd, Nat.reduceLeDiff, Nat.zero_add, if_true, if_false, Bool.false_eq_true, reduceCtorEq, decide_eq_true_eq, Bool.not_eq_true, ne_eq, not_false_eq_true, reduceIte, decide_true, decide_false, Bool.not_true, Bool.not_false, step_nil_eq]
      refine step_cons ?_
      simp only [h15, wpS, wpE, wpEs, wpPs, wpT, wpO, wpIfs, pk_var, pk_cst, pk_glc, pk_bin, pk_neg, pk_not, pk_cmp, pk_chain, pk_and, pk_or, pk_ife, pk_tup, pk_lst, pk_idx, pk_sl, pk_rev, pk_isi, pk_maxK, pk_call, pk_prim, pk_comp, rt_var, rt_cst, rt_glc, rt_bin, rt_neg, rt_not, rt_cmp, rt_chain, rt_and, rt_or, rt_ife, rt_tup, rt_lst, rt_idx, rt_sl, rt_rev, rt_isi, rt_maxK, rt_call, rt_prim, rt_comp, stD_var, stD_tup, tgD_var, tgD_tt, tgD_tl, tgsD_nil, tgsD_cons, bare, bareP, bares, barePs, bareO, give_nil, give_cons, gG_s, gG_n, giveV_sh, giveV_ow, data_eq, shr_eq, own_eq, gD_s, gS_s, gO_s, vd_sh, vd_ow, b_add, b_sub, b_mul, b_fdiv, b_mod, b_pow, b_addL, b_addT, b_mulL, x_t, x_l, s_l, s_t, p_lenT, p_lenL, p_abs, p_int, p_intb, p_listT, p_listL, p_tupT, p_tupL, p_gcd, p_min, p_max, p_sum, i_t, i_l, i_r1, i_r2, i_zt, i_zl, n_i, bo_b, in_i, tr_n, tr_b, tr_i, tr_t, tr_l, nn_n, nn_t, nn_l, nn_i, nn_b, isiD_eq, isD, au_a, au_s, wi_n, wi_c, cmpD_eq_int, cmpD_ne_int, cmpD_eq_bl, cmpD_ne_bl, cmpD_lt, cmpD_le, cmpD_gt, cmpD_ge, cmpD_is, cmpD_isnot, truQ_bl, atI_0, atI_1, atI_2, atI_3, fin0, List.nil_append, List.append_nil, List.cons_append, List.getElem?_cons_zero, List.getElem?_cons_succ, set_0, set_s, List.length_cons, List.length_nil, Option.some.injEq, Val.sh.injEq, Val.ow.injEq, D.int.injEq, D.tup.injEq, D.lst.injEq, D.bl.injEq, exists_eq_left', exists_eq_left, true_and, and_true, Nat.reduceAdd, Nat.reduceLeDiff, Nat.zero_add, if_true, if_false, Bool.false_eq_true, reduceCtorEq, decide_eq_true_eq, Bool.not_eq_true, ne_eq, not_false_eq_true, reduceIte, decide_true, decide_false, Bool.not_true, Bool.not_false, step_nil_eq]
      refine ⟨p, q, 0 - r, s, 24, rfl, q0, s0, hp, hq, sm_zero_sub hr, hs, by decide, fun y ey by_ => ?_⟩
      refine step_cons ?_
      simp only [h15, h16, frD_pr, wpS, wpE, wpEs, wpPs, wpT, wpO, wpIfs, pk_var, pk_cst, pk_glc, pk_bin, pk_neg, pk_not, pk_cmp, pk_chain, pk_and, pk_or, pk_ife, pk_tup, pk_lst, pk_idx, pk_sl, pk_rev, pk_isi, pk_maxK, pk_call, pk_prim, pk_comp, rt_var, rt_cst, rt_glc, rt_bin, rt_neg, rt_not, rt_cmp, rt_chain, rt_and, rt_or, rt_ife, rt_tup, rt_lst, rt_idx, rt_sl, rt_rev, rt_isi, rt_maxK, rt_call, rt_prim, rt_comp, stD_var, stD_tup, tgD_var, tgD_tt, tgD_tl, tgsD_nil, tgsD_cons, bare, bareP, bares, barePs, bareO, give_nil, give_cons, gG_s, gG_n, giveV_sh, giveV_ow, data_eq, shr_eq, own_eq, gD_s, gS_s, gO_s, vd_sh, vd_ow, b_add, b_sub, b_mul, b_fdiv, b_mod, b_pow, b_addL, b_addT, b_mulL, x_t, x_l, s_l, s_t, p_lenT, p_lenL, p_abs, p_int, p_intb, p_listT, p_listL, p_tupT, p_tupL, p_gcd, p_min, p_max, p_sum, i_t, i_l, i_r1, i_r2, i_zt, i_zl, n_i, bo_b, in_i, tr_n, tr_b, tr_i, tr_t, tr_l, nn_n, nn_t, nn_l, nn_i, nn_b, isiD_eq, isD, au_a, au_s, wi_n, wi_c, cmpD_eq_int, cmpD_ne_int, cmpD_eq_bl, cmpD_ne_bl, cmpD_lt, cmpD_le, cmpD_gt, cmpD_ge, cmpD_is, cmpD_isnot, truQ_bl, atI_0, atI_1, atI_2, atI_3, fin0, List.nil_append, List.append_nil, List.cons_append, List.getElem?_cons_zero, List.getElem?_cons_succ, set_0, set_s, List.length_cons, List.length_nil, Option.some.injEq, Val.sh.injEq, Val.ow.injEq, D.int.injEq, D.tup.injEq, D.lst.injEq, D.bl.injEq, exists_eq_left', exists_eq_left, true_and, and_true, Nat.reduceAdd, Nat.reduceLeDiff, Nat.zero_add, if_true, if_false, Bool.false_eq_true, reduceCtorEq, decide_eq_true_eq, Bool.not_eq_true, ne_eq, not_false_eq_true, reduceIte, decide_true, decide_false, Bool.not_true, Bool.not_false, step_nil_eq]
      refine ⟨_, _, _, _, 49, rfl, den_pos y, den_pos y, (bN by_), (bD by_), (bN by_), (bD by_), by decide, fun z ez bz => ?_⟩
      simp only [frD_pr, wpS, wpE, wpEs, wpPs, wpT, wpO, wpIfs, pk_var, pk_cst, pk_glc, pk_bin, pk_neg, pk_not, pk_cmp, pk_chain, pk_and, pk_or, pk_ife, pk_tup, pk_lst, pk_idx, pk_sl, pk_rev, pk_isi, pk_maxK, pk_call, pk_prim, pk_comp, rt_var, rt_cst, rt_glc, rt_bin, rt_neg, rt_not, rt_cmp, rt_chain, rt_and, rt_or, rt_ife, rt_tup, rt_lst, rt_idx, rt_sl, rt_rev, rt_isi, rt_maxK, rt_call, rt_prim, rt_comp, stD_var, stD_tup, tgD_var, tgD_tt, tgD_tl, tgsD_nil, tgsD_cons, bare, bareP, bares, barePs, bareO, give_nil, give_cons, gG_s, gG_n, giveV_sh, giveV_ow, data_eq, shr_eq, own_eq, gD_s, gS_s, gO_s, vd_sh, vd_ow, b_add, b_sub, b_mul, b_fdiv, b_mod, b_pow, b_addL, b_addT, b_mulL, x_t, x_l, s_l, s_t, p_lenT, p_lenL, p_abs, p_int, p_intb, p_listT, p_listL, p_tupT, p_tupL, p_gcd, p_min, p_max, p_sum, i_t, i_l, i_r1, i_r2, i_zt, i_zl, n_i, bo_b, in_i, tr_n, tr_b, tr_i, tr_t, tr_l, nn_n, nn_t, nn_l, nn_i, nn_b, isiD_eq, isD, au_a, au_s, wi_n, wi_c, cmpD_eq_int, cmpD_ne_int, cmpD_eq_bl, cmpD_ne_bl, cmpD_lt, cmpD_le, cmpD_gt, cmpD_ge, cmpD_is, cmpD_isnot, truQ_bl, atI_0, atI_1, atI_2, atI_3, fin0, List.nil_append, List.append_nil, List.cons_append, List.getElem?_cons_zero, List.getElem?_cons_succ, set_0, set_s, List.length_cons, List.length_nil, Option.some.injEq, Val.sh.injEq, Val.ow.injEq, D.int.injEq, D.tup.injEq, D.lst.injEq, D.bl.injEq, exists_eq_left', exists_eq_left, true_and, and_true, Nat.reduceAdd, Nat.reduceLeDiff, Nat.zero_add, if_true, if_false, Bool.false_eq_true, reduceCtorEq, decide_eq_true_eq, Bool.not_eq_true, ne_eq, not_false_eq_true, reduceIte, decide_true, decide_false, Bool.not_true, Bool.not_false, step_nil_eq]
      refine ⟨_, _, _, _, 99, rfl, by decide, den_pos z, sm_mono (n := 1) (show ((0 : Rat).num).natAbs < 2 ^ 1 by decide) (by decide), sm_one _ (by decide), (bN bz), (bD bz), by decide, fun t et bt => ?_⟩
      refine ⟨t, _, _, _, rfl, fun h => absurd h (by simp), fun _ => ⟨bt, ?_⟩, fun h => absurd h (by simp)⟩
      rw [rat_parts y] at ez
      rw [rat_parts z] at et
      rw [et, ez, ey, cast_sub]
      have : (((0 : Rat).num : Int) : Rat) / ((((0 : Rat).den : Nat) : Int) : Rat) = 0 := rat_parts 0
      rw [this]
      grind
    · obtain ⟨bx, ex⟩ := i1 rfl
      cases hi
      simp only [pr, wpS, wpE, wpEs, wpPs, wpT, wpO, wpIfs, pk_var, pk_cst, pk_glc, pk_bin, pk_neg, pk_not, pk_cmp, pk_chain, pk_and, pk_or, pk_ife, pk_tup, pk_lst, pk_idx, pk_sl, pk_rev, pk_isi, pk_maxK, pk_call, pk_prim, pk_comp, rt_var, rt_cst, rt_glc, rt_bin, rt_neg, rt_not, rt_cmp, rt_chain, rt_and, rt_or, rt_ife, rt_tup, rt_lst, rt_idx, rt_sl, rt_rev, rt_isi, rt_maxK, rt_call, rt_prim, rt_comp, stD_var, stD_tup, tgD_var, tgD_tt, tgD_tl, tgsD_nil, tgsD_cons, bare, bareP, bares, barePs, bareO, give_nil, give_cons, gG_s, gG_n, giveV_sh, giveV_ow, data_eq, shr_eq, own_eq, gD_s, gS_s, gO_s, vd_sh, vd_ow, b_add, b_sub, b_mul, b_fdiv, b_mod, b_pow, b_addL, b_addT, b_mulL, x_t, x_l, s_l, s_t, p_lenT, p_lenL, p_abs, p_int, p_intb, p_listT, p_listL, p_tupT, p_tupL, p_gcd, p_min, p_max, p_sum, i_t, i_l, i_r1, i_r2, i_zt, i_zl, n_i, bo_b, in_i, tr_n, tr_b, tr_i, tr_t, tr_l, nn_n, nn_t, nn_l, nn_i, nn_b, isiD_eq, isD, au_a, au_s, wi_n, wi_c, cmpD_eq_int, cmpD_ne_int, cmpD_eq_bl, cmpD_ne_bl, cmpD_lt, cmpD_le, cmpD_gt, cmpD_ge, cmpD_is, cmpD_isnot, truQ_bl, atI_0, atI_1, atI_2, atI_3, fin0, List.nil_append, List.append_nil, List.cons_append, List.getElem?_cons_zero, List.getElem?_cons_succ, set_0, set_s, List.length_cons, List.length_nil, Option.some.injEq, Val.sh.injEq, Val.ow.injEq, D.int.injEq, D.tup.injEq, D.lst.injEq, D.bl.injEq, exists_eq_left', exists_eq_left, true_and, and_true, Nat.reduceAdd, Nat.reduceLeDiff, Nat.zero_add, if_true, if_false, Bool.false_eq_true, reduceCtorEq, decide_eq_true_eq, Bool.not_eq_true, ne_eq, not_false_eq_true, reduceIte, decide_true, decide_false, Bool.not_true, Bool.not_false, step_nil_eq]
      refine step_cons ?_
      simp only [h15, wpS, wpE, wpEs, wpPs, wpT, wpO, wpIfs, pk_var, pk_cst, pk_glc, pk_bin, pk_neg, pk_not, pk_cmp, pk_chain, pk_and, pk_or, pk_ife, pk_tup, pk_lst, pk_idx, pk_sl, pk_rev, pk_isi, pk_maxK, pk_call, pk_prim, pk_comp, rt_var, rt_cst, rt_glc, rt_bin, rt_neg, rt_not, rt_cmp, rt_chain, rt_and, rt_or, rt_ife, rt_tup, rt_lst, rt_idx, rt_sl, rt_rev, rt_isi, rt_maxK, rt_call, rt_prim, rt_comp, stD_var, stD_tup, tgD_var, tgD_tt, tgD_tl, tgsD_nil, tgsD_cons, bare, bareP, bares, barePs, bareO, give_nil, give_cons, gG_s, gG_n, giveV_sh, giveV_ow, data_eq, shr_eq, own_eq, gD_s, gS_s, gO_s, vd_sh, vd_ow, b_add, b_sub, b_mul, b_fdiv, b_mod, b_pow, b_addL, b_addT, b_mulL, x_t, x_l, s_l, s_t, p_lenT, p_lenL, p_abs, p_int, p_intb, p_listT, p_listL, p_tupT, p_tupL, p_gcd, p_min, p_max, p_sum, i_t, i_l, i_r1, i_r2, i_zt, i_zl, n_i, bo_b, in_i, tr_n, tr_b, tr_i, tr_t, tr_l, nn_n, nn_t, nn_l, nn_i, nn_b, isiD_eq, isD, au_a, au_s, wi_n, wi_c, cmpD_eq_int, cmpD_ne_int, cmpD_eq_bl, cmpD_ne_bl, cmpD_lt, cmpD_le, cmpD_gt, cmpD_ge, cmpD_is, cmpD_isnot, truQ_bl, atI_0, atI_1, atI_2, atI_3, fin0, List.nil_append, List.append_nil, List.cons_append, List.getElem?_cons_zero, List.getElem?_cons_succ, set_0, set_s, List.length_cons, List.length_nil, Option.some.injEq, Val.sh.injEq, Val.ow.injEq, D.int.injEq, D.tup.injEq, D.lst.injEq, D.bl.injEq, exists_eq_left', exists_eq_left, true_and, and_true, Nat.reduceAdd, Nat.reduceLeDiff, Nat.zero_add, if_true, if_false, Bool.false_eq_true, reduceCtorEq, decide_eq_true_eq, Bool.not_eq_true, ne_eq, not_false_eq_true, reduceIte, decide_true, decide_false, Bool.not_true, Bool.not_false, step_nil_eq]
      refine ⟨1, 2 * q * q, 0 - 1, 2 * s * s, 60, rfl, two_sq q0, two_sq s0, sm_one _ (by decide), sm_two_sq hq, sm_mono (n := 1) (show (0 - 1 : Int).natAbs < 2 ^ 1 by decide) (by decide), sm_two_sq hs, by decide, fun y ey by_ => ?_⟩
      refine step_cons ?_
      simp only [h15, h16, frD_pr, wpS, wpE, wpEs, wpPs, wpT, wpO, wpIfs, pk_var, pk_cst, pk_glc, pk_bin, pk_neg, pk_not, pk_cmp, pk_chain, pk_and, pk_or, pk_ife, pk_tup, pk_lst, pk_idx, pk_sl, pk_rev, pk_isi, pk_maxK, pk_call, pk_prim, pk_comp, rt_var, rt_cst, rt_glc, rt_bin, rt_neg, rt_not, rt_cmp, rt_chain, rt_and, rt_or, rt_ife, rt_tup, rt_lst, rt_idx, rt_sl, rt_rev, rt_isi, rt_maxK, rt_call, rt_prim, rt_comp, stD_var, stD_tup, tgD_var, tgD_tt, tgD_tl, tgsD_nil, tgsD_cons, bare, bareP, bares, barePs, bareO, give_nil, give_cons, gG_s, gG_n, giveV_sh, giveV_ow, data_eq, shr_eq, own_eq, gD_s, gS_s, gO_s, vd_sh, vd_ow, b_add, b_sub, b_mul, b_fdiv, b_mod, b_pow, b_addL, b_addT, b_mulL, x_t, x_l, s_l, s_t, p_lenT, p_lenL, p_abs, p_int, p_intb, p_listT, p_listL, p_tupT, p_tupL, p_gcd, p_min, p_max, p_sum, i_t, i_l, i_r1, i_r2, i_zt, i_zl, n_i, bo_b, in_i, tr_n, tr_b, tr_i, tr_t, tr_l, nn_n, nn_t, nn_l, nn_i, nn_b, isiD_eq, isD, au_a, au_s, wi_n, wi_c, cmpD_eq_int, cmpD_ne_int, cmpD_eq_bl, cmpD_ne_bl, cmpD_lt, cmpD_le, cmpD_gt, cmpD_ge, cmpD_is, cmpD_isnot, truQ_bl, atI_0, atI_1, atI_2, atI_3, fin0, List.nil_append, List.append_nil, List.cons_append, List.getElem?_cons_zero, List.getElem?_cons_succ, set_0, set_s, List.length_cons, List.length_nil, Option.some.injEq, Val.sh.injEq, Val.ow.injEq, D.int.injEq, D.tup.injEq, D.lst.injEq, D.bl.injEq, exists_eq_left', exists_eq_left, true_and, and_true, Nat.reduceAdd, Nat.reduceLeDiff, Nat.zero_add, if_true, if_false, Bool.false_eq_true, reduceCtorEq, decide_eq_true_eq, Bool.not_eq_true, ne_eq, not_false_eq_true, reduceIte, decide_true, decide_false, Bool.not_true, Bool.not_false, step_nil_eq]
      refine ⟨_, _, _, _, 121, rfl, den_pos y, den_pos y, (bN by_), (bD by_), (bN by_), (bD by_), by decide, fun z ez bz => ?_⟩
      simp only [frD_pr, wpS, wpE, wpEs, wpPs, wpT, wpO, wpIfs, pk_var, pk_cst, pk_glc, pk_bin, pk_neg, pk_not, pk_cmp, pk_chain, pk_and, pk_or, pk_ife, pk_tup, pk_lst, pk_idx, pk_sl, pk_rev, pk_isi, pk_maxK, pk_call, pk_prim, pk_comp, rt_var, rt_cst, rt_glc, rt_bin, rt_neg, rt_not, rt_cmp, rt_chain, rt_and, rt_or, rt_ife, rt_tup, rt_lst, rt_idx, rt_sl, rt_rev, rt_isi, rt_maxK, rt_call, rt_prim, rt_comp, stD_var, stD_tup, tgD_var, tgD_tt, tgD_tl, tgsD_nil, tgsD_cons, bare, bareP, bares, barePs, bareO, give_nil, give_cons, gG_s, gG_n, giveV_sh, giveV_ow, data_eq, shr_eq, own_eq, gD_s, gS_s, gO_s, vd_sh, vd_ow, b_add, b_sub, b_mul, b_fdiv, b_mod, b_pow, b_addL, b_addT, b_mulL, x_t, x_l, s_l, s_t, p_lenT, p_lenL, p_abs, p_int, p_intb, p_listT, p_listL, p_tupT, p_tupL, p_gcd, p_min, p_max, p_sum, i_t, i_l, i_r1, i_r2, i_zt, i_zl, n_i, bo_b, in_i, tr_n, tr_b, tr_i, tr_t, tr_l, nn_n, nn_t, nn_l, nn_i, nn_b, isiD_eq, isD, au_a, au_s, wi_n, wi_c, cmpD_eq_int, cmpD_ne_int, cmpD_eq_bl, cmpD_ne_bl, cmpD_lt, cmpD_le, cmpD_gt, cmpD_ge, cmpD_is, cmpD_isnot, truQ_bl, atI_0, atI_1, atI_2, atI_3, fin0, List.nil_append, List.append_nil, List.cons_append, List.getElem?_cons_zero, List.getElem?_cons_succ, set_0, set_s, List.length_cons, List.length_nil, Option.some.injEq, Val.sh.injEq, Val.ow.injEq, D.int.injEq, D.tup.injEq, D.lst.injEq, D.bl.injEq, exists_eq_left', exists_eq_left, true_and, and_true, Nat.reduceAdd, Nat.reduceLeDiff, Nat.zero_add, if_true, if_false, Bool.false_eq_true, reduceCtorEq, decide_eq_true_eq, Bool.not_eq_true, ne_eq, not_false_eq_true, reduceIte, decide_true, decide_false, Bool.not_true, Bool.not_false, step_nil_eq]
      refine ⟨_, _, _, _, 243, rfl, den_pos x, den_pos z, sm_mono (bN bx) (by decide), sm_mono (bD bx) (by decide), (bN bz), (bD bz), by decide, fun t et bt => ?_⟩
      refine ⟨t, _, _, _, rfl, fun h => absurd h (by simp), fun h => absurd h (by simp), fun _ => ⟨bt_mono bt (by decide), ?_⟩⟩
      rw [rat_parts y] at ez
      rw [rat_parts z, rat_parts x] at et
      rw [et, ez, ey, ex]
      have : (((0 - 1 : Int)) : Rat) = -(((1 : Int)) : Rat) := by rw [cast_sub]; grind
      rw [this]
      grind
    · simp at hi
  · rintro ρ ⟨x, d3, d4, d6, rfl, i0, i1, i2⟩
    obtain ⟨bx, ex⟩ := i2 (by simp)
    refine step_cons ?_
    simp only [h15, pr, wpS, wpE, wpEs, wpPs, wpT, wpO, wpIfs, pk_var, pk_cst, pk_glc, pk_bin, pk_neg, pk_not, pk_cmp, pk_chain, pk_and, pk_or, pk_ife, pk_tup, pk_lst, pk_idx, pk_sl, pk_rev, pk_isi, pk_maxK, pk_call, pk_prim, pk_comp, rt_var, rt_cst, rt_glc, rt_bin, rt_neg, rt_not, rt_cmp, rt_chain, rt_and, rt_or, rt_ife, rt_tup, rt_lst, rt_idx, rt_sl, rt_rev, rt_isi, rt_maxK, rt_call, rt_prim, rt_comp, stD_var, stD_tup, tgD_var, tgD_tt, tgD_tl, tgsD_nil, tgsD_cons, bare, bareP, bares, barePs, bareO, give_nil, give_cons, gG_s, gG_n, giveV_sh, giveV_ow, data_eq, shr_eq, own_eq, gD_s, gS_s, gO_s, vd_sh, vd_ow, b_add, b_sub, b_mul, b_fdiv, b_mod, b_pow, b_addL, b_addT, b_mulL, x_t, x_l, s_l, s_t, p_lenT, p_lenL, p_abs, p_int, p_intb, p_listT, p_listL, p_tupT, p_tupL, p_gcd, p_min, p_max, p_sum, i_t, i_l, i_r1, i_r2, i_zt, i_zl, n_i, bo_b, in_i, tr_n, tr_b, tr_i, tr_t, tr_l, nn_n, nn_t, nn_l, nn_i, nn_b, isiD_eq, isD, au_a, au_s, wi_n, wi_c, cmpD_eq_int, cmpD_ne_int, cmpD_eq_bl, cmpD_ne_bl, cmpD_lt, cmpD_le, cmpD_gt, cmpD_ge, cmpD_is, cmpD_isnot, truQ_bl, atI_0, atI_1, atI_2, atI_3, fin0, List.nil_append, List.append_nil, List.cons_append, List.getElem?_cons_zero, List.getElem?_cons_succ, set_0, set_s, List.length_cons, List.length_nil, Option.some.injEq, Val.sh.injEq, Val.ow.injEq, D.int.injEq, D.tup.injEq, D.lst.injEq, D.bl.injEq, exists_eq_left', exists_eq_left, true_and, and_true, Nat.reduceAdd, Nat.reduceLeDiff, Nat.zero_add, if_true, if_false, Bool.false_eq_true, reduceCtorEq, decide_eq_true_eq, Bool.not_eq_true, ne_eq, not_false_eq_true, reduceIte, decide_true, decide_false, Bool.not_true, Bool.not_false, step_nil_eq]
    refine ⟨mulOk (n := 4) (by decide) hq (by decide), mulOk (n := 28) (bit_mul (n := 4) (by decide) hq) hq (by decide), mulOk (n := 4) (by decide) hs (by decide), mulOk (n := 28) (bit_mul (n := 4) (by decide) hs) hs (by decide), 1, 2 * q * q, 1, 2 * s * s, 60, rfl, two_sq q0, two_sq s0, sm_one _ (by decide), sm_two_sq hq, sm_one _ (by decide), sm_two_sq hs, by decide, fun w ew bw => ?_⟩
    refine step_cons ?_
    simp only [h15, frD_pr, pr, wpS, wpE, wpEs, wpPs, wpT, wpO, wpIfs, pk_var, pk_cst, pk_glc, pk_bin, pk_neg, pk_not, pk_cmp, pk_chain, pk_and, pk_or, pk_ife, pk_tup, pk_lst, pk_idx, pk_sl, pk_rev, pk_isi, pk_maxK, pk_call, pk_prim, pk_comp, rt_var, rt_cst, rt_glc, rt_bin, rt_neg, rt_not, rt_cmp, rt_chain, rt_and, rt_or, rt_ife, rt_tup, rt_lst, rt_idx, rt_sl, rt_rev, rt_isi, rt_maxK, rt_call, rt_prim, rt_comp, stD_var, stD_tup, tgD_var, tgD_tt, tgD_tl, tgsD_nil, tgsD_cons, bare, bareP, bares, barePs, bareO, give_nil, give_cons, gG_s, gG_n, giveV_sh, giveV_ow, data_eq, shr_eq, own_eq, gD_s, gS_s, gO_s, vd_sh, vd_ow, b_add, b_sub, b_mul, b_fdiv, b_mod, b_pow, b_addL, b_addT, b_mulL, x_t, x_l, s_l, s_t, p_lenT, p_lenL, p_abs, p_int, p_intb, p_listT, p_listL, p_tupT, p_tupL, p_gcd, p_min, p_max, p_sum, i_t, i_l, i_r1, i_r2, i_zt, i_zl, n_i, bo_b, in_i, tr_n, tr_b, tr_i, tr_t, tr_l, nn_n, nn_t, nn_l, nn_i, nn_b, isiD_eq, isD, au_a, au_s, wi_n, wi_c, cmpD_eq_int, cmpD_ne_int, cmpD_eq_bl, cmpD_ne_bl, cmpD_lt, cmpD_le, cmpD_gt, cmpD_ge, cmpD_is, cmpD_isnot, truQ_bl, atI_0, atI_1, atI_2, atI_3, fin0, List.nil_append, List.append_nil, List.cons_append, List.getElem?_cons_zero, List.getElem?_cons_succ, set_0, set_s, List.length_cons, List.length_nil, Option.some.injEq, Val.sh.injEq, Val.ow.injEq, D.int.injEq, D.tup.injEq, D.lst.injEq, D.bl.injEq, exists_eq_left', exists_eq_left, true_and, and_true, Nat.reduceAdd, Nat.reduceLeDiff, Nat.zero_add, if_true, if_false, Bool.false_eq_true, reduceCtorEq, decide_eq_true_eq, Bool.not_eq_true, ne_eq, not_false_eq_true, reduceIte, decide_true, decide_false, Bool.not_true, Bool.not_false, step_nil_eq]
    refine ⟨mulOk (bN bw) (bN bw) (by decide), mulOk (bD bw) (bD bw) (by decide), _, _, _, _, 490, rfl, den_pos x, Int.mul_pos (den_pos w) (den_pos w), (bN bx), (bD bx), sm_zero_sub (sm_mono (bit_mul (bN bw) (bN bw)) (by decide)), sm_mono (bit_mul (bD bw) (bD bw)) (by decide), by decide, fun y ey by_ => k y ?_⟩
    rw [rat_parts x, cast_sub, cast_mul, cast_mul] at ey
    have dw := ratpos (den_pos w)
    have pw := rat_parts w
    have ey2 : y = x - w * w := by
      rw [ey]
      have e3 : (w.num : Rat) = w * ((w.den : Int) : Rat) := by
        rw [← Rat.div_mul_cancel (a := (w.num : Rat)) dw, pw]
      rw [e3]
      grind
    rw [ey2, ex, ew]
    have z1 := Rat.div_mul_cancel (a := (p : Rat)) rq
    have z2 := Rat.div_mul_cancel (a := (r : Rat)) rs
    have z3 := Rat.div_mul_cancel (a := ((1 : Int) : Rat)) (ratpos (two_sq q0))
    have z4 := Rat.div_mul_cancel (a := ((1 : Int) : Rat)) (ratpos (two_sq s0))
    generalize ((1 : Int) : Rat) / ((2 * q * q : Int) : Rat) = A at *
    generalize ((1 : Int) : Rat) / ((2 * s * s : Int) : Rat) = B at *
    generalize (p : Rat) / (q : Rat) = U at *
    generalize (r : Rat) / (s : Rat) = V at *
    simp only [cast_mul, cast_sub] at z3 z4 ⊢
    exact apart_alg _ _ _ _ A B U V z1 z2 z3 z4
end Lw
set_option maxHeartbeats 4000000
namespace Lw
open Gx
/-! ### the chain, plainly -/
theorem bez : ∀ m n : Nat, ∃ x y : Int, (m : Int) * x + (n : Int) * y = (Nat.gcd m n : Nat) := by
  intro m n
  induction m, n using Nat.gcd.induction with
  | H0 n => exact ⟨0, 1, by simp⟩
  | H1 m n hm ih =>
    obtain ⟨x, y, h⟩ := ih
    refine ⟨y - (n / m : Nat) * x, x, ?_⟩
    rw [Nat.gcd_rec, ← h]
    have := Nat.div_add_mod n m
    have e : ((n % m : Nat) : Int) = (n : Int) - (m : Int) * ((n / m : Nat) : Int) := by omega
    rw [e]; grind
def good (p q P Q : Int) (n : Nat) : Bool := decide ((1 + p * (1 + (n : Int))) % q = 0) && decide ((1 + p * (1 + (n : Int))) / q * Q ≤ P * (1 + (n : Int)))
def nbE (p q : Int) (n : Nat) : Int × Int := ((1 + p * (1 + (n : Int))) / q, 1 + (n : Int))
def nbL (p q P Q : Int) (M : Nat) : List (Int × Int) := ((List.range M).filter (good p q P Q)).map (nbE p q)
theorem nbL_succ (p q P Q : Int) (M : Nat) : nbL p q P Q (M + 1) = if good p q P Q M = true then nbL p q P Q M ++ [nbE p q M] else nbL p q P Q M := by
  unfold nbL
  rw [List.range_succ, List.filter_append, List.map_append]
  by_cases h : good p q P Q M = true
  · rw [if_pos h]; simp [h]
  · rw [if_neg h]; simp [h]
def mx (q Q : Int) : Int := if Q > q then Q else q
structure CI (P Q p q : Int) : Prop where
  q0 : 0 < q
  q1 : q ≤ 64
  Q0 : 0 < Q
  Q1 : Q ≤ 64
  P1 : P ≤ 400
  p0 : 0 ≤ p
  d : p * Q ≤ P * q
  g : Int.gcd p q = 1
  G : Int.gcd P Q = 1
def nx (x y : Int × Int) : Int × Int := (nbL x.1 x.2 y.1 y.2 (mx x.2 y.2).toNat).headD (0, 1)
/-- the smallest step that serves -/
structure Fst (P Q p q r s : Int) (n : Nat) : Prop where
  n1 : (n : Int) < mx q Q
  e : s = 1 + n
  rq : r * q = 1 + p * s
  le : r * Q ≤ P * s
  no : ∀ j : Nat, j < n → good p q P Q j = false
theorem goodI {p q P Q : Int} {n : Nat} (hq : 0 < q) : good p q P Q n = true ↔ ∃ r, r * q = 1 + p * (1 + (n : Int)) ∧ r * Q ≤ P * (1 + (n : Int)) := by
  unfold good
  rw [Bool.and_eq_true, decide_eq_true_eq, decide_eq_true_eq]
  constructor
  · rintro ⟨h1, h2⟩
    exact ⟨_, Int.ediv_mul_cancel (Int.dvd_of_emod_eq_zero h1), h2⟩
  · rintro ⟨r, h1, h2⟩
    rw [← h1]
    refine ⟨Int.mul_emod_left r q, ?_⟩
    rw [Int.mul_ediv_cancel _ (by omega)]; exact h2
theorem CI.fst {P Q p q : Int} (h : CI P Q p q) (hd : p * Q < P * q) : ∃ r s n, Fst P Q p q r s n := by
  have q0 := h.q0
  have Q0 := h.Q0
  -- some step serves
  obtain ⟨x, y, hxy⟩ := bez p.natAbs q.natAbs
  have hg : Nat.gcd p.natAbs q.natAbs = 1 := h.g
  rw [hg] at hxy
  have ep : (p.natAbs : Int) = p := by have := h.p0; omega
  have eq : (q.natAbs : Int) = q := by omega
  rw [ep, eq] at hxy
  have hN : q ≤ mx q Q ∧ Q ≤ mx q Q := by unfold mx; split <;> omega
  have m0 := Int.emod_nonneg (mx q Q + x) (show q ≠ 0 by omega)
  have m1 := Int.emod_lt_of_pos (mx q Q + x) q0
  have m2 := Int.emod_def (mx q Q + x) q
  have ex : ∃ n : Nat, (n : Int) < mx q Q ∧ good p q P Q n = true := by
    refine ⟨(mx q Q - (mx q Q + x) % q - 1).toNat, by omega, ?_⟩
    rw [goodI q0]
    have e1 : (1 : Int) + ((mx q Q - (mx q Q + x) % q - 1).toNat : Int) = q * ((mx q Q + x) / q) - x := by omega
    rw [e1]
    have e2 : 1 + p * (q * ((mx q Q + x) / q) - x) = (y + p * ((mx q Q + x) / q)) * q := by
      have : (1 : Int) = p * x + q * y := by rw [hxy]; rfl
      grind
    refine ⟨_, e2.symm, ?_⟩
    -- there is room
    have s1 : mx q Q - q < q * ((mx q Q + x) / q) - x := by omega
    generalize q * ((mx q Q + x) / q) - x = s at *
    generalize y + p * ((mx q Q + x) / q) = r at *
    have k1 : q * (P * s - r * Q) = (P * q - p * Q) * s - Q := by grind
    have k2 : s ≤ (P * q - p * Q) * s := by
      have := Int.mul_le_mul_of_nonneg_right (show (1 : Int) ≤ P * q - p * Q by omega) (show 0 ≤ s by omega)
      omega
    by_cases hc : r * Q ≤ P * s
    · exact hc
    · have k3 : P * s - r * Q ≤ -1 := by omega
      have k4 := Int.mul_le_mul_of_nonneg_left k3 (show 0 ≤ q by omega)
      omega
  cases hf : (List.range (mx q Q).toNat).find? (good p q P Q) with
  | none =>
    obtain ⟨n, hn, hgd⟩ := ex
    rw [List.find?_range_eq_none] at hf
    have := hf n (by omega)
    simp [hgd] at this
  | some n =>
    rw [List.find?_range_eq_some] at hf
    obtain ⟨h1, h2, h3⟩ := hf
    obtain ⟨r, e1, e2⟩ := (goodI q0).mp h1
    refine ⟨r, 1 + n, n, ⟨by have := List.mem_range.mp h2; omega, rfl, e1, e2, fun j hj => by have := h3 j hj; simpa using this⟩⟩
theorem Fst.s1 {P Q p q r s : Int} {n : Nat} (f : Fst P Q p q r s n) : 1 ≤ s := by have := f.e; omega
/-- a smaller step would not have served -/
theorem Fst.back {P Q p q r s : Int} {n : Nat} (f : Fst P Q p q r s n) (hq : 0 < q) (hs : q < s) : P * (s - q) < (r - p) * Q := by
  have e := f.e
  have h := f.no ((n : Int) - q).toNat (by omega)
  by_cases hc : (r - p) * Q ≤ P * (s - q)
  · have : good p q P Q ((n : Int) - q).toNat = true := by
      rw [goodI hq]
      have e1 : (1 : Int) + (((n : Int) - q).toNat : Int) = s - q := by omega
      rw [e1]
      refine ⟨r - p, ?_, hc⟩
      have := f.rq
      grind
    rw [this] at h; cases h
  · omega
def dd (P Q p q : Int) : Int := P * q - p * Q
theorem Fst.qd {P Q p q r s : Int} {n : Nat} (f : Fst P Q p q r s n) : q * dd P Q r s = dd P Q p q * s - Q := by
  have := f.rq
  unfold dd; grind
theorem Fst.lt {P Q p q r s : Int} {n : Nat} (f : Fst P Q p q r s n) (h : CI P Q p q) : dd P Q r s < dd P Q p q := by
  have q0 := h.q0
  have Q0 := h.Q0
  by_cases hs : q < s
  · have := f.back q0 hs
    unfold dd; grind
  · have k := f.qd
    have hd : 0 ≤ dd P Q p q := by have := h.d; unfold dd; omega
    have k2 : dd P Q p q * s ≤ dd P Q p q * q := Int.mul_le_mul_of_nonneg_left (by omega) hd
    have k3 : q * dd P Q r s < q * dd P Q p q := by rw [Int.mul_comm q (dd P Q p q)]; omega
    exact Int.lt_of_mul_lt_mul_left k3 (by omega)
theorem Fst.ci {P Q p q r s : Int} {n : Nat} (f : Fst P Q p q r s n) (h : CI P Q p q) : CI P Q r s := by
  have s1 := f.s1
  have q0 := h.q0
  have hN : mx q Q ≤ 64 := by have := h.q1; have := h.Q1; unfold mx; split <;> omega
  refine ⟨by omega, by have := f.n1; have := f.e; omega, h.Q0, h.Q1, h.P1, ?_, f.le, ?_, h.G⟩
  · have e := f.rq
    have : 0 ≤ p * s := Int.mul_nonneg h.p0 (by omega)
    by_cases hr : 0 ≤ r
    · exact hr
    · have := Int.mul_le_mul_of_nonneg_right (show r ≤ -1 by omega) (show 0 ≤ q by omega)
      omega
  · have e := f.rq
    have h1 : ((Int.gcd r s : Nat) : Int) ∣ 1 := by
      have a1 : ((Int.gcd r s : Nat) : Int) ∣ r * q := Int.dvd_mul_of_dvd_left (Int.gcd_dvd_left ..)
      have a2 : ((Int.gcd r s : Nat) : Int) ∣ p * s := Int.dvd_mul_of_dvd_right (Int.gcd_dvd_right ..)
      have := Int.dvd_sub a1 a2
      rw [e] at this
      simpa using this
    have := Int.eq_one_of_dvd_one (by omega) h1
    omega
/-- what falls -/
def mu (P Q p q : Int) : Int := if Q ≤ dd P Q p q then q + dd P Q p q / (Q * q) + Q else dd P Q p q
theorem Fst.mu_lt {P Q p q r s : Int} {n : Nat} (f : Fst P Q p q r s n) (h : CI P Q p q) : mu P Q r s < mu P Q p q := by
  have q0 := h.q0
  have Q0 := h.Q0
  have s1 := f.s1
  have lt := f.lt h
  have qd := f.qd
  have hd : 0 ≤ dd P Q p q := by have := h.d; unfold dd; omega
  have hd' : 0 ≤ dd P Q r s := by have := f.le; unfold dd; omega
  unfold mu
  by_cases c1 : Q ≤ dd P Q p q
  · rw [if_pos c1]
    have n0 : 0 ≤ dd P Q p q / (Q * q) := Int.ediv_nonneg hd (Int.le_of_lt (Int.mul_pos Q0 q0))
    by_cases c2 : Q ≤ dd P Q r s
    · rw [if_pos c2]
      have sq : s ≤ q := by
        by_cases hs : q < s
        · have b := f.back q0 hs
          have k : q * (P * (s - q) - (r - p) * Q) = dd P Q p q * (s - q) - Q := by
            have := f.rq
            unfold dd; grind
          have k2 : Q * 1 ≤ dd P Q p q * (s - q) := Int.mul_le_mul c1 (by omega) (by decide) hd
          have k3 := Int.mul_le_mul_of_nonneg_left (show P * (s - q) - (r - p) * Q ≤ -1 by omega) (show 0 ≤ q by omega)
          omega
        · omega
      by_cases c3 : s = q
      · subst c3
        have e : s ∣ 1 := ⟨r - p, by have := f.rq; grind⟩
        have e1 := Int.eq_one_of_dvd_one (by omega) e
        subst e1
        have : dd P Q r 1 = dd P Q p 1 - Q := by omega
        rw [this, Int.mul_one]
        have : (dd P Q p 1 - Q) / Q = dd P Q p 1 / Q - 1 := by
          rw [Int.sub_ediv_of_dvd _ (Int.dvd_refl Q), Int.ediv_self (by omega)]
        omega
      · have : dd P Q r s / (Q * s) ≤ dd P Q p q / (Q * q) := by
          rw [Int.le_ediv_iff_mul_le (Int.mul_pos Q0 q0)]
          have a1 := Int.ediv_mul_le (dd P Q r s) (show Q * s ≠ 0 from Int.ne_of_gt (Int.mul_pos Q0 (by omega)))
          generalize dd P Q r s / (Q * s) = k at *
          have a2 := Int.mul_le_mul_of_nonneg_left a1 (show 0 ≤ q by omega)
          have a3 : s * (k * (Q * q)) ≤ s * dd P Q p q := by grind
          exact Int.le_of_mul_le_mul_left a3 (by omega)
        omega
    · rw [if_neg c2]; omega
  · rw [if_neg c1, if_neg (by omega)]; exact lt
theorem mu_nonneg {P Q p q : Int} (h : CI P Q p q) : 0 ≤ mu P Q p q := by
  have q0 := h.q0
  have Q0 := h.Q0
  have hd : 0 ≤ dd P Q p q := by have := h.d; unfold dd; omega
  have n0 : 0 ≤ dd P Q p q / (Q * q) := Int.ediv_nonneg hd (Int.le_of_lt (Int.mul_pos Q0 q0))
  unfold mu; split <;> omega
theorem mu_le {P Q p q : Int} (h : CI P Q p q) : mu P Q p q ≤ 600 := by
  have q0 := h.q0
  have Q0 := h.Q0
  have q1 := h.q1
  have Q1 := h.Q1
  have hP := h.P1
  have hp := Int.mul_nonneg h.p0 (show 0 ≤ Q by omega)
  unfold mu
  split
  · have : dd P Q p q / (Q * q) ≤ 400 := by
      apply Int.le_of_lt_add_one
      rw [Int.ediv_lt_iff_lt_mul (Int.mul_pos Q0 q0)]
      unfold dd
      have a1 : P * q ≤ 400 * q := Int.mul_le_mul_of_nonneg_right hP (by omega)
      have a2 : 1 * q ≤ Q * q := Int.mul_le_mul_of_nonneg_right (by omega) (by omega)
      omega
    omega
  · omega
theorem dvd_cop {a b c : Int} (h : a ∣ b * c) (g : Int.gcd a b = 1) : a ∣ c := by
  have h1 : a.natAbs ∣ b.natAbs * c.natAbs := by rw [← Int.natAbs_mul]; exact Int.natAbs_dvd_natAbs.mpr h
  exact Int.natAbs_dvd_natAbs.mp (Nat.Coprime.dvd_of_dvd_mul_left g h1)
/-- at the goal -/
theorem CI.eq {P Q p q : Int} (h : CI P Q p q) (e : p * Q = P * q) : p = P ∧ q = Q := by
  have q0 := h.q0
  have Q0 := h.Q0
  have d1 : q ∣ Q := by
    have : q ∣ p * Q := ⟨P, by rw [e, Int.mul_comm]⟩
    exact dvd_cop this (by rw [Int.gcd_comm]; exact h.g)
  have d2 : Q ∣ q := by
    have : Q ∣ P * q := ⟨p, by rw [← e, Int.mul_comm]⟩
    exact dvd_cop this (by rw [Int.gcd_comm]; exact h.G)
  have : q = Q := Int.le_antisymm (Int.le_of_dvd Q0 d1) (Int.le_of_dvd q0 d2)
  subst this
  exact ⟨Int.eq_of_mul_eq_mul_right (by omega) e, rfl⟩
theorem CI.lt_of_ne {P Q p q : Int} (h : CI P Q p q) (e : (p, q) ≠ (P, Q)) : p * Q < P * q := by
  have := h.d
  by_cases c : p * Q = P * q
  · obtain ⟨rfl, rfl⟩ := h.eq c; exact absurd rfl e
  · omega
end Lw
set_option maxHeartbeats 4000000
namespace Lw
open Gx
variable {Γ : Nat → Con} {G : Nat → D}
def prp (z : Int × Int) : D := pr z.1 z.2
theorem prp_inj {a b : Int × Int} : prp a = prp b ↔ a = b := by
  unfold prp pr
  constructor
  · intro h; simp only [D.tup.injEq, List.cons.injEq, D.int.injEq, and_true] at h; exact Prod.ext h.1 h.2
  · rintro rfl; rfl
theorem prp_ok (z : Int × Int) : okI 1 (prp z) = true := by simp [prp, pr, okI, okIs]
theorem gcd_one {p q r s : Int} (e : r * q = 1 + p * s) : Int.gcd r s = 1 := by
  have h1 : ((Int.gcd r s : Nat) : Int) ∣ 1 := by
    have a1 : ((Int.gcd r s : Nat) : Int) ∣ r * q := Int.dvd_mul_of_dvd_left (Int.gcd_dvd_left ..)
    have a2 : ((Int.gcd r s : Nat) : Int) ∣ p * s := Int.dvd_mul_of_dvd_right (Int.gcd_dvd_right ..)
    have := Int.dvd_sub a1 a2
    rw [e] at this
    simpa using this
  have := Int.eq_one_of_dvd_one (by omega) h1
  omega
theorem frD_red {r s : Int} (hs : 0 < s) (g : Int.gcd r s = 1) : frD ((r : Rat) / (s : Rat)) = pr r s := by
  rw [← fr_of hs]
  have : Nat.gcd r.natAbs s.natAbs = 1 := g
  rw [this]
  show D.tup [.int (r.fdiv 1), .int (s.fdiv 1)] = _
  rw [Int.fdiv_one, Int.fdiv_one]; rfl
theorem CI.pB {P Q p q : Int} (h : CI P Q p q) : p ≤ 25600 := by
  have q0 := h.q0
  have Q0 := h.Q0
  have a1 : P * q ≤ 400 * q := Int.mul_le_mul_of_nonneg_right h.P1 (by omega)
  have a2 : p * 1 ≤ p * Q := Int.mul_le_mul_of_nonneg_left (by omega) h.p0
  have := h.d
  have := h.q1
  omega
theorem CI.P0 {P Q p q : Int} (h : CI P Q p q) : 0 ≤ P := by
  have q0 := h.q0
  by_cases c : 0 ≤ P
  · exact c
  · have a1 : P * q ≤ (-1) * q := Int.mul_le_mul_of_nonneg_right (by omega) (by omega)
    have a2 := Int.mul_nonneg h.p0 (show 0 ≤ Q by have := h.Q0; omega)
    have := h.d
    omega
theorem smI {i : Int} (h : -1000000 ≤ i) (h2 : i ≤ 1000000) : Sm 20 i := by unfold Sm; omega
theorem smJ {i : Int} (h : -1000000000 ≤ i) (h2 : i ≤ 1000000000) : Sm 30 i := by unfold Sm; omega
def conNei : Con := fun ds K => ∃ p q P Q : Int, ds = [pr p q, pr P Q] ∧ CI P Q p q ∧ K (.ow ((nbL p q P Q (mx q Q).toNat).map prp))
theorem mxN {P Q p q : Int} (h : CI P Q p q) : mx q Q ≤ 64 ∧ 0 < mx q Q := by
  have := h.q0; have := h.Q0; have := h.q1; have := h.Q1
  unfold mx; split <;> omega
theorem ps_small {P Q p q : Int} (h : CI P Q p q) {n : Nat} (hn : (n : Int) < mx q Q) : 0 ≤ p * (1 + (n : Int)) ∧ p * (1 + (n : Int)) ≤ 2000000 := by
  have := (mxN h).1
  have a1 : p * (1 + (n : Int)) ≤ p * 64 := Int.mul_le_mul_of_nonneg_left (by omega) h.p0
  have := h.pB
  have := Int.mul_nonneg h.p0 (show 0 ≤ 1 + (n : Int) by omega)
  omega
theorem rI {M : Nat} {f : Nat → D} {i : Nat} {d : D} (h : ((List.range M).map f)[i]? = some d) : i < M ∧ d = f i := by
  rw [List.getElem?_map] at h
  cases q : (List.range M)[i]? with
  | none => rw [q] at h; cases h
  | some j =>
    rw [q] at h; cases h
    obtain ⟨h1, h2⟩ := List.getElem?_eq_some_iff.mp q
    rw [List.length_range] at h1
    rw [List.getElem_range] at h2
    exact ⟨h1, by rw [h2]⟩
theorem o_nei {ds K} (h : conNei ds K) (h0 : Γ 0 = conLow) : wpB Γ G core_5_neighbours_to (fin0 K) (entry 5 ds) := by
  obtain ⟨p, q, P, Q, rfl, I, k⟩ := h
  have q0 := I.q0
  have Q0 := I.Q0
  have hm := mxN I
  have sp : Sm 20 p := smI (by have := I.p0; omega) (by have := I.pB; omega)
  have sP : Sm 20 P := smI (by have := I.P0; omega) (by have := I.P1; omega)
  have sq : Sm 20 q := smI (by omega) (by have := I.q1; omega)
  have sQ : Sm 20 Q := smI (by omega) (by have := I.Q1; omega)
  refine step_cons ?_
  simp only [ent52, pr, wpS, wpE, wpEs, wpPs, wpT, wpO, wpIfs, pk_var, pk_cst, pk_glc, pk_bin, pk_neg, pk_not, pk_cmp, pk_chain, pk_and, pk_or, pk_ife, pk_tup, pk_lst, pk_idx, pk_sl, pk_rev, pk_isi, pk_maxK, pk_call, pk_prim, pk_comp, rt_var, rt_cst, rt_glc, rt_bin, rt_neg, rt_not, rt_cmp, rt_chain, rt_and, rt_or, rt_ife, rt_tup, rt_lst, rt_idx, rt_sl, rt_rev, rt_isi, rt_maxK, rt_call, rt_prim, rt_comp, stD_var, stD_tup, tgD_var, tgD_tt, tgD_tl, tgsD_nil, tgsD_cons, bare, bareP, bares, barePs, bareO, give_nil, give_cons, gG_s, gG_n, giveV_sh, giveV_ow, data_eq, shr_eq, own_eq, gD_s, gS_s, gO_s, vd_sh, vd_ow, b_add, b_sub, b_mul, b_fdiv, b_mod, b_pow, b_addL, b_addT, b_mulL, x_t, x_l, s_l, s_t, p_lenT, p_lenL, p_abs, p_int, p_intb, p_listT, p_listL, p_tupT, p_tupL, p_gcd, p_min, p_max, p_sum, i_t, i_l, i_r1, i_r2, i_zt, i_zl, n_i, bo_b, in_i, tr_n, tr_b, tr_i, tr_t, tr_l, nn_n, nn_t, nn_l, nn_i, nn_b, isiD_eq, isD, au_a, au_s, wi_n, wi_c, cmpD_eq_int, cmpD_ne_int, cmpD_eq_bl, cmpD_ne_bl, cmpD_lt, cmpD_le, cmpD_gt, cmpD_ge, cmpD_is, cmpD_isnot, truQ_bl, atI_0, atI_1, atI_2, atI_3, fin0, List.nil_append, List.append_nil, List.cons_append, List.getElem?_cons_zero, List.getElem?_cons_succ, set_0, set_s, List.length_cons, List.length_nil, Option.some.injEq, Val.sh.injEq, Val.ow.injEq, D.int.injEq, D.tup.injEq, D.lst.injEq, D.bl.injEq, exists_eq_left', exists_eq_left, true_and, and_true, Nat.reduceAdd, Nat.reduceLeDiff, Nat.zero_add, if_true, if_false, Bool.false_eq_true, reduceCtorEq, decide_eq_true_eq, Bool.not_eq_true, ne_eq, not_false_eq_true, reduceIte, decide_true, decide_false, Bool.not_true, Bool.not_false, step_nil_eq]
  refine step_cons ?_
  simp only [wpS, wpE, wpEs, wpPs, wpT, wpO, wpIfs, pk_var, pk_cst, pk_glc, pk_bin, pk_neg, pk_not, pk_cmp, pk_chain, pk_and, pk_or, pk_ife, pk_tup, pk_lst, pk_idx, pk_sl, pk_rev, pk_isi, pk_maxK, pk_call, pk_prim, pk_comp, rt_var, rt_cst, rt_glc, rt_bin, rt_neg, rt_not, rt_cmp, rt_chain, rt_and, rt_or, rt_ife, rt_tup, rt_lst, rt_idx, rt_sl, rt_rev, rt_isi, rt_maxK, rt_call, rt_prim, rt_comp, stD_var, stD_tup, tgD_var, tgD_tt, tgD_tl, tgsD_nil, tgsD_cons, bare, bareP, bares, barePs, bareO, give_nil, give_cons, gG_s, gG_n, giveV_sh, giveV_ow, data_eq, shr_eq, own_eq, gD_s, gS_s, gO_s, vd_sh, vd_ow, b_add, b_sub, b_mul, b_fdiv, b_mod, b_pow, b_addL, b_addT, b_mulL, x_t, x_l, s_l, s_t, p_lenT, p_lenL, p_abs, p_int, p_intb, p_listT, p_listL, p_tupT, p_tupL, p_gcd, p_min, p_max, p_sum, i_t, i_l, i_r1, i_r2, i_zt, i_zl, n_i, bo_b, in_i, tr_n, tr_b, tr_i, tr_t, tr_l, nn_n, nn_t, nn_l, nn_i, nn_b, isiD_eq, isD, au_a, au_s, wi_n, wi_c, cmpD_eq_int, cmpD_ne_int, cmpD_eq_bl, cmpD_ne_bl, cmpD_lt, cmpD_le, cmpD_gt, cmpD_ge, cmpD_is, cmpD_isnot, truQ_bl, atI_0, atI_1, atI_2, atI_3, fin0, List.nil_append, List.append_nil, List.cons_append, List.getElem?_cons_zero, List.getElem?_cons_succ, set_0, set_s, List.length_cons, List.length_nil, Option.some.injEq, Val.sh.injEq, Val.ow.injEq, D.int.injEq, D.tup.injEq, D.lst.injEq, D.bl.injEq, exists_eq_left', exists_eq_left, true_and, and_true, Nat.reduceAdd, Nat.reduceLeDiff, Nat.zero_add, if_true, if_false, Bool.false_eq_true, reduceCtorEq, decide_eq_true_eq, Bool.not_eq_true, ne_eq, not_false_eq_true, reduceIte, decide_true, decide_false, Bool.not_true, Bool.not_false, step_nil_eq]
  have em : (if Q > q then Q else q) = mx q Q := rfl
  rw [em]
  have eM : (mx q Q + 1 - 1).toNat = (mx q Q).toNat := by congr 1; omega
  rw [eM]
  refine ⟨by omega, fun i ρ => ∃ d3 d4, ρ = [some (.sh (pr p q)), some (.sh (pr P Q)), some (.ow ((nbL p q P Q i).map prp)), d3, d4], ⟨none, none, rfl⟩, ?_, ?_⟩
  · rintro i d ρ hi ⟨d3, d4, rfl⟩
    obtain ⟨hi, rfl⟩ := rI hi
    have ss : Sm 20 (1 + (i : Int)) := smI (by omega) (by omega)
    have hps := ps_small I (n := i) (by omega)
    refine step_cons ?_
    simp only [pr, wpS, wpE, wpEs, wpPs, wpT, wpO, wpIfs, pk_var, pk_cst, pk_glc, pk_bin, pk_neg, pk_not, pk_cmp, pk_chain, pk_and, pk_or, pk_ife, pk_tup, pk_lst, pk_idx, pk_sl, pk_rev, pk_isi, pk_maxK, pk_call, pk_prim, pk_comp, rt_var, rt_cst, rt_glc, rt_bin, rt_neg, rt_not, rt_cmp, rt_chain, rt_and, rt_or, rt_ife, rt_tup, rt_lst, rt_idx, rt_sl, rt_rev, rt_isi, rt_maxK, rt_call, rt_prim, rt_comp, stD_var, stD_tup, tgD_var, tgD_tt, tgD_tl, tgsD_nil, tgsD_cons, bare, bareP, bares, barePs, bareO, give_nil, give_cons, gG_s, gG_n, giveV_sh, giveV_ow, data_eq, shr_eq, own_eq, gD_s, gS_s, gO_s, vd_sh, vd_ow, b_add, b_sub, b_mul, b_fdiv, b_mod, b_pow, b_addL, b_addT, b_mulL, x_t, x_l, s_l, s_t, p_lenT, p_lenL, p_abs, p_int, p_intb, p_listT, p_listL, p_tupT, p_tupL, p_gcd, p_min, p_max, p_sum, i_t, i_l, i_r1, i_r2, i_zt, i_zl, n_i, bo_b, in_i, tr_n, tr_b, tr_i, tr_t, tr_l, nn_n, nn_t, nn_l, nn_i, nn_b, isiD_eq, isD, au_a, au_s, wi_n, wi_c, cmpD_eq_int, cmpD_ne_int, cmpD_eq_bl, cmpD_ne_bl, cmpD_lt, cmpD_le, cmpD_gt, cmpD_ge, cmpD_is, cmpD_isnot, truQ_bl, atI_0, atI_1, atI_2, atI_3, fin0, List.nil_append, List.append_nil, List.cons_append, List.getElem?_cons_zero, List.getElem?_cons_succ, set_0, set_s, List.length_cons, List.length_nil, Option.some.injEq, Val.sh.injEq, Val.ow.injEq, D.int.injEq, D.tup.injEq, D.lst.injEq, D.bl.injEq, exists_eq_left', exists_eq_left, true_and, and_true, Nat.reduceAdd, Nat.reduceLeDiff, Nat.zero_add, if_true, if_false, Bool.false_eq_true, reduceCtorEq, decide_eq_true_eq, Bool.not_eq_true, ne_eq, not_false_eq_true, reduceIte, decide_true, decide_false, Bool.not_true, Bool.not_false, step_nil_eq]
    refine ⟨mulOk sp ss (by decide), by omega, ?_⟩
    rw [Int.fmod_eq_emod_of_nonneg _ (by omega)]
    by_cases c1 : (1 + p * (1 + (i : Int))) % q = 0
    · rw [if_pos c1]
      obtain ⟨r, hr⟩ : ∃ r, r * q = 1 + p * (1 + (i : Int)) := ⟨_, Int.ediv_mul_cancel (Int.dvd_of_emod_eq_zero c1)⟩
      have er : (1 + p * (1 + (i : Int))).fdiv q = r := by
        rw [Int.fdiv_eq_ediv_of_nonneg _ (by omega), ← hr, Int.mul_ediv_cancel _ (by omega)]
      have er2 : (1 + p * (1 + (i : Int))) / q = r := by rw [← hr, Int.mul_ediv_cancel _ (by omega)]
      have r0 : 0 ≤ r ∧ r ≤ 2000001 := by
        rw [← er2]
        exact ⟨Int.ediv_nonneg (by omega) (by omega), Int.le_trans (Int.ediv_le_self _ (by omega)) (by omega)⟩
      have sr : Sm 30 r := smJ (by omega) (by omega)
      refine step_cons ?_
      simp only [wpS, wpE, wpEs, wpPs, wpT, wpO, wpIfs, pk_var, pk_cst, pk_glc, pk_bin, pk_neg, pk_not, pk_cmp, pk_chain, pk_and, pk_or, pk_ife, pk_tup, pk_lst, pk_idx, pk_sl, pk_rev, pk_isi, pk_maxK, pk_call, pk_prim, pk_comp, rt_var, rt_cst, rt_glc, rt_bin, rt_neg, rt_not, rt_cmp, rt_chain, rt_and, rt_or, rt_ife, rt_tup, rt_lst, rt_idx, rt_sl, rt_rev, rt_isi, rt_maxK, rt_call, rt_prim, rt_comp, stD_var, stD_tup, tgD_var, tgD_tt, tgD_tl, tgsD_nil, tgsD_cons, bare, bareP, bares, barePs, bareO, give_nil, give_cons, gG_s, gG_n, giveV_sh, giveV_ow, data_eq, shr_eq, own_eq, gD_s, gS_s, gO_s, vd_sh, vd_ow, b_add, b_sub, b_mul, b_fdiv, b_mod, b_pow, b_addL, b_addT, b_mulL, x_t, x_l, s_l, s_t, p_lenT, p_lenL, p_abs, p_int, p_intb, p_listT, p_listL, p_tupT, p_tupL, p_gcd, p_min, p_max, p_sum, i_t, i_l, i_r1, i_r2, i_zt, i_zl, n_i, bo_b, in_i, tr_n, tr_b, tr_i, tr_t, tr_l, nn_n, nn_t, nn_l, nn_i, nn_b, isiD_eq, isD, au_a, au_s, wi_n, wi_c, cmpD_eq_int, cmpD_ne_int, cmpD_eq_bl, cmpD_ne_bl, cmpD_lt, cmpD_le, cmpD_gt, cmpD_ge, cmpD_is, cmpD_isnot, truQ_bl, atI_0, atI_1, atI_2, atI_3, fin0, List.nil_append, List.append_nil, List.cons_append, List.getElem?_cons_zero, List.getElem?_cons_succ, set_0, set_s, List.length_cons, List.length_nil, Option.some.injEq, Val.sh.injEq, Val.ow.injEq, D.int.injEq, D.tup.injEq, D.lst.injEq, D.bl.injEq, exists_eq_left', exists_eq_left, true_and, and_true, Nat.reduceAdd, Nat.reduceLeDiff, Nat.zero_add, if_true, if_false, Bool.false_eq_true, reduceCtorEq, decide_eq_true_eq, Bool.not_eq_true, ne_eq, not_false_eq_true, reduceIte, decide_true, decide_false, Bool.not_true, Bool.not_false, step_nil_eq]
      refine ⟨mulOk sp ss (by decide), divOk (by omega) sq (by decide), ?_⟩
      rw [er]
      refine step_cons ?_
      simp only [wpS, wpE, wpEs, wpPs, wpT, wpO, wpIfs, pk_var, pk_cst, pk_glc, pk_bin, pk_neg, pk_not, pk_cmp, pk_chain, pk_and, pk_or, pk_ife, pk_tup, pk_lst, pk_idx, pk_sl, pk_rev, pk_isi, pk_maxK, pk_call, pk_prim, pk_comp, rt_var, rt_cst, rt_glc, rt_bin, rt_neg, rt_not, rt_cmp, rt_chain, rt_and, rt_or, rt_ife, rt_tup, rt_lst, rt_idx, rt_sl, rt_rev, rt_isi, rt_maxK, rt_call, rt_prim, rt_comp, stD_var, stD_tup, tgD_var, tgD_tt, tgD_tl, tgsD_nil, tgsD_cons, bare, bareP, bares, barePs, bareO, give_nil, give_cons, gG_s, gG_n, giveV_sh, giveV_ow, data_eq, shr_eq, own_eq, gD_s, gS_s, gO_s, vd_sh, vd_ow, b_add, b_sub, b_mul, b_fdiv, b_mod, b_pow, b_addL, b_addT, b_mulL, x_t, x_l, s_l, s_t, p_lenT, p_lenL, p_abs, p_int, p_intb, p_listT, p_listL, p_tupT, p_tupL, p_gcd, p_min, p_max, p_sum, i_t, i_l, i_r1, i_r2, i_zt, i_zl, n_i, bo_b, in_i, tr_n, tr_b, tr_i, tr_t, tr_l, nn_n, nn_t, nn_l, nn_i, nn_b, isiD_eq, isD, au_a, au_s, wi_n, wi_c, cmpD_eq_int, cmpD_ne_int, cmpD_eq_bl, cmpD_ne_bl, cmpD_lt, cmpD_le, cmpD_gt, cmpD_ge, cmpD_is, cmpD_isnot, truQ_bl, atI_0, atI_1, atI_2, atI_3, fin0, List.nil_append, List.append_nil, List.cons_append, List.getElem?_cons_zero, List.getElem?_cons_succ, set_0, set_s, List.length_cons, List.length_nil, Option.some.injEq, Val.sh.injEq, Val.ow.injEq, D.int.injEq, D.tup.injEq, D.lst.injEq, D.bl.injEq, exists_eq_left', exists_eq_left, true_and, and_true, Nat.reduceAdd, Nat.reduceLeDiff, Nat.zero_add, if_true, if_false, Bool.false_eq_true, reduceCtorEq, decide_eq_true_eq, Bool.not_eq_true, ne_eq, not_false_eq_true, reduceIte, decide_true, decide_false, Bool.not_true, Bool.not_false, step_nil_eq]
      refine ⟨mulOk sr sQ (by decide), mulOk sP ss (by decide), ?_⟩
      by_cases c2 : r * Q ≤ P * (1 + (i : Int))
      · rw [if_pos c2]
        refine step_cons ?_
        simp only [h0, wpS, wpE, wpEs, wpPs, wpT, wpO, wpIfs, pk_var, pk_cst, pk_glc, pk_bin, pk_neg, pk_not, pk_cmp, pk_chain, pk_and, pk_or, pk_ife, pk_tup, pk_lst, pk_idx, pk_sl, pk_rev, pk_isi, pk_maxK, pk_call, pk_prim, pk_comp, rt_var, rt_cst, rt_glc, rt_bin, rt_neg, rt_not, rt_cmp, rt_chain, rt_and, rt_or, rt_ife, rt_tup, rt_lst, rt_idx, rt_sl, rt_rev, rt_isi, rt_maxK, rt_call, rt_prim, rt_comp, stD_var, stD_tup, tgD_var, tgD_tt, tgD_tl, tgsD_nil, tgsD_cons, bare, bareP, bares, barePs, bareO, give_nil, give_cons, gG_s, gG_n, giveV_sh, giveV_ow, data_eq, shr_eq, own_eq, gD_s, gS_s, gO_s, vd_sh, vd_ow, b_add, b_sub, b_mul, b_fdiv, b_mod, b_pow, b_addL, b_addT, b_mulL, x_t, x_l, s_l, s_t, p_lenT, p_lenL, p_abs, p_int, p_intb, p_listT, p_listL, p_tupT, p_tupL, p_gcd, p_min, p_max, p_sum, i_t, i_l, i_r1, i_r2, i_zt, i_zl, n_i, bo_b, in_i, tr_n, tr_b, tr_i, tr_t, tr_l, nn_n, nn_t, nn_l, nn_i, nn_b, isiD_eq, isD, au_a, au_s, wi_n, wi_c, cmpD_eq_int, cmpD_ne_int, cmpD_eq_bl, cmpD_ne_bl, cmpD_lt, cmpD_le, cmpD_gt, cmpD_ge, cmpD_is, cmpD_isnot, truQ_bl, atI_0, atI_1, atI_2, atI_3, fin0, List.nil_append, List.append_nil, List.cons_append, List.getElem?_cons_zero, List.getElem?_cons_succ, set_0, set_s, List.length_cons, List.length_nil, Option.some.injEq, Val.sh.injEq, Val.ow.injEq, D.int.injEq, D.tup.injEq, D.lst.injEq, D.bl.injEq, exists_eq_left', exists_eq_left, true_and, and_true, Nat.reduceAdd, Nat.reduceLeDiff, Nat.zero_add, if_true, if_false, Bool.false_eq_true, reduceCtorEq, decide_eq_true_eq, Bool.not_eq_true, ne_eq, not_false_eq_true, reduceIte, decide_true, decide_false, Bool.not_true, Bool.not_false, step_nil_eq]
        refine ⟨_, _, 30, rfl, by omega, sr, sm_mono ss (by decide), by decide, fun x ex bx => ?_⟩
        subst ex
        refine ⟨?_, ?_⟩
        · rw [List.length_map]
          have : (nbL p q P Q i).length ≤ i := by unfold nbL; rw [List.length_map]; exact Nat.le_trans (List.length_filter_le _ _) (by rw [List.length_range]; exact Nat.le_refl _)
          omega
        · refine ⟨some (.sh (.int (1 + (i : Int)))), some (.sh (.int r)), ?_⟩
          have hg : good p q P Q i = true := by unfold good; rw [er2]; simp [c1, c2]
          rw [nbL_succ, if_pos hg, List.map_append, frD_red (by omega) (gcd_one hr), vd_sh]
          have : nbE p q i = (r, 1 + (i : Int)) := by unfold nbE; rw [er2]
          rw [this]; rfl
      · rw [if_neg c2]
        have hg : ¬ good p q P Q i = true := by unfold good; rw [er2]; simp [c2]
        refine ⟨some (.sh (.int (1 + (i : Int)))), some (.sh (.int r)), ?_⟩
        rw [nbL_succ, if_neg hg]
    · rw [if_neg c1]
      have hg : ¬ good p q P Q i = true := by unfold good; simp [c1]
      refine ⟨some (.sh (.int (1 + (i : Int)))), d4, ?_⟩
      rw [nbL_succ, if_neg hg]
  · rintro ρ ⟨d3, d4, rfl⟩
    refine step_cons ?_
    simp only [List.length_map, List.length_range, wpS, wpE, wpEs, wpPs, wpT, wpO, wpIfs, pk_var, pk_cst, pk_glc, pk_bin, pk_neg, pk_not, pk_cmp, pk_chain, pk_and, pk_or, pk_ife, pk_tup, pk_lst, pk_idx, pk_sl, pk_rev, pk_isi, pk_maxK, pk_call, pk_prim, pk_comp, rt_var, rt_cst, rt_glc, rt_bin, rt_neg, rt_not, rt_cmp, rt_chain, rt_and, rt_or, rt_ife, rt_tup, rt_lst, rt_idx, rt_sl, rt_rev, rt_isi, rt_maxK, rt_call, rt_prim, rt_comp, stD_var, stD_tup, tgD_var, tgD_tt, tgD_tl, tgsD_nil, tgsD_cons, bare, bareP, bares, barePs, bareO, give_nil, give_cons, gG_s, gG_n, giveV_sh, giveV_ow, data_eq, shr_eq, own_eq, gD_s, gS_s, gO_s, vd_sh, vd_ow, b_add, b_sub, b_mul, b_fdiv, b_mod, b_pow, b_addL, b_addT, b_mulL, x_t, x_l, s_l, s_t, p_lenT, p_lenL, p_abs, p_int, p_intb, p_listT, p_listL, p_tupT, p_tupL, p_gcd, p_min, p_max, p_sum, i_t, i_l, i_r1, i_r2, i_zt, i_zl, n_i, bo_b, in_i, tr_n, tr_b, tr_i, tr_t, tr_l, nn_n, nn_t, nn_l, nn_i, nn_b, isiD_eq, isD, au_a, au_s, wi_n, wi_c, cmpD_eq_int, cmpD_ne_int, cmpD_eq_bl, cmpD_ne_bl, cmpD_lt, cmpD_le, cmpD_gt, cmpD_ge, cmpD_is, cmpD_isnot, truQ_bl, atI_0, atI_1, atI_2, atI_3, fin0, List.nil_append, List.append_nil, List.cons_append, List.getElem?_cons_zero, List.getElem?_cons_succ, set_0, set_s, List.length_cons, List.length_nil, Option.some.injEq, Val.sh.injEq, Val.ow.injEq, D.int.injEq, D.tup.injEq, D.lst.injEq, D.bl.injEq, exists_eq_left', exists_eq_left, true_and, and_true, Nat.reduceAdd, Nat.reduceLeDiff, Nat.zero_add, if_true, if_false, Bool.false_eq_true, reduceCtorEq, decide_eq_true_eq, Bool.not_eq_true, ne_eq, not_false_eq_true, reduceIte, decide_true, decide_false, Bool.not_true, Bool.not_false, step_nil_eq]
    exact k
end Lw
set_option maxHeartbeats 4000000
namespace Lw
open Gx
variable {Γ : Nat → Con} {G : Nat → D}
/-! ### the chains as lists -/
def itx (x y : Int × Int) : Nat → Int × Int
  | 0 => x
  | n + 1 => if itx x y n = y then itx x y n else nx (itx x y n) y
def chl (x y : Int × Int) : Nat → List (Int × Int)
  | 0 => [x]
  | n + 1 => if itx x y n = y then chl x y n else chl x y n ++ [nx (itx x y n) y]
abbrev CP (y x : Int × Int) : Prop := CI y.1 y.2 x.1 x.2
theorem nb_head {x y : Int × Int} (h : CP y x) (hne : x ≠ y) : ∃ n, Fst y.1 y.2 x.1 x.2 (nx x y).1 (nx x y).2 n ∧ (nbL x.1 x.2 y.1 y.2 (mx x.2 y.2).toNat).head? = some (nx x y) ∧ nx x y = nbE x.1 x.2 n := by
  obtain ⟨r, s, n, f⟩ := h.fst (h.lt_of_ne fun e => hne (Prod.ext (congrArg Prod.fst e) (congrArg Prod.snd e)))
  have hgd : good x.1 x.2 y.1 y.2 n = true := by
    rw [goodI h.q0]; exact ⟨r, by rw [← f.e]; exact f.rq, by rw [← f.e]; exact f.le⟩
  have hh : (nbL x.1 x.2 y.1 y.2 (mx x.2 y.2).toNat).head? = some (nbE x.1 x.2 n) := by
    unfold nbL
    rw [List.head?_map, List.head?_filter]
    have : (List.range (mx x.2 y.2).toNat).find? (good x.1 x.2 y.1 y.2) = some n := by
      rw [List.find?_range_eq_some]
      refine ⟨hgd, List.mem_range.mpr (by have := f.n1; omega), fun j hj => by rw [f.no j hj]; rfl⟩
    rw [this]; rfl
  have e : nx x y = nbE x.1 x.2 n := by
    unfold nx
    rw [List.headD_eq_head?_getD, hh]; rfl
  have e2 : nbE x.1 x.2 n = (r, s) := by
    unfold nbE
    rw [← f.e, ← f.rq, Int.mul_ediv_cancel _ (Int.ne_of_gt h.q0)]
  refine ⟨n, ?_, by rw [hh, e], e⟩
  rw [e, e2]; exact f
theorem nb_all {x y : Int × Int} {n : Nat} {r s : Int} (f : Fst y.1 y.2 x.1 x.2 r s n) {z : Int × Int} {M : Nat} (hz : z ∈ nbL x.1 x.2 y.1 y.2 M) : ∃ m, n ≤ m ∧ m < M ∧ z = nbE x.1 x.2 m ∧ good x.1 x.2 y.1 y.2 m = true := by
  unfold nbL at hz
  obtain ⟨m, hm, e⟩ := List.mem_map.mp hz
  obtain ⟨h1, h2⟩ := List.mem_filter.mp hm
  refine ⟨m, ?_, List.mem_range.mp h1, e.symm, h2⟩
  by_cases c : n ≤ m
  · exact c
  · rw [f.no m (by omega)] at h2; cases h2
theorem nbE_good {x y : Int × Int} {m : Nat} (hq : 0 < x.2) (h : good x.1 x.2 y.1 y.2 m = true) : (nbE x.1 x.2 m).1 * x.2 = 1 + x.1 * (nbE x.1 x.2 m).2 ∧ (nbE x.1 x.2 m).2 = 1 + m := by
  obtain ⟨r, e, _⟩ := (goodI hq).mp h
  unfold nbE
  refine ⟨?_, rfl⟩
  show (1 + x.1 * (1 + (m : Int))) / x.2 * x.2 = _
  rw [← e, Int.mul_ediv_cancel _ (by omega)]
/-- later ones are no greater -/
theorem nb_cross {p q r s r' s' : Int} (hq : 0 < q) (h1 : r * q = 1 + p * s) (h2 : r' * q = 1 + p * s') (hs : s ≤ s') : r' * s ≤ r * s' := by
  have : q * (r * s' - r' * s) = s' - s := by grind
  have k : 0 ≤ q * (r * s' - r' * s) := by omega
  by_cases c : r' * s ≤ r * s'
  · exact c
  · have := Int.mul_le_mul_of_nonneg_left (show r * s' - r' * s ≤ -1 by omega) (show 0 ≤ q by omega)
    omega
theorem key_le {r s r' s' : Int} (hs : 0 < s) (hs' : 0 < s') (h : r' * s ≤ r * s') : (r' * 1000000000).fdiv s' ≤ (r * 1000000000).fdiv s := by
  rw [Int.fdiv_eq_ediv_of_nonneg _ (by omega), Int.fdiv_eq_ediv_of_nonneg _ (by omega), Int.le_ediv_iff_mul_le hs]
  have a := Int.ediv_mul_le (r' * 1000000000) (show s' ≠ 0 by omega)
  generalize r' * 1000000000 / s' = k at *
  have b := Int.mul_le_mul_of_nonneg_right a (show 0 ≤ s by omega)
  have c : s' * (k * s) ≤ s' * (r * 1000000000) := by grind
  exact Int.le_of_mul_le_mul_left c hs'
theorem itx_ci {x y : Int × Int} (h : CP y x) : ∀ n, CP y (itx x y n)
  | 0 => h
  | n + 1 => by
    have ih := itx_ci h n
    unfold itx
    split
    · exact ih
    · rename_i hne
      obtain ⟨m, f, _⟩ := nb_head ih hne
      exact f.ci ih
theorem itx_mu {x y : Int × Int} (h : CP y x) : ∀ n : Nat, itx x y n = y ∨ mu y.1 y.2 (itx x y n).1 (itx x y n).2 + n ≤ mu y.1 y.2 x.1 x.2
  | 0 => .inr (by show _ + ((0 : Nat) : Int) ≤ _; rw [itx]; omega)
  | n + 1 => by
    have ih := itx_mu h n
    have ci := itx_ci h n
    by_cases e : itx x y n = y
    · left; rw [itx, if_pos e]; exact e
    · right
      rw [itx, if_neg e]
      obtain ⟨m, f, _⟩ := nb_head ci e
      have := f.mu_lt ci
      rcases ih with ih | ih
      · exact absurd ih e
      · omega
theorem itx_end {x y : Int × Int} (h : CP y x) : itx x y 700 = y := by
  rcases itx_mu h 700 with e | e
  · exact e
  · have := mu_le h
    have := mu_nonneg (itx_ci h 700)
    omega
theorem itx_stay {x y : Int × Int} {n : Nat} (e : itx x y n = y) : ∀ k, itx x y (n + k) = y ∧ chl x y (n + k) = chl x y n
  | 0 => ⟨e, rfl⟩
  | k + 1 => by
    obtain ⟨h1, h2⟩ := itx_stay e k
    rw [← Nat.add_assoc, itx, chl, if_pos h1, if_pos h1]
    exact ⟨h1, h2⟩
theorem chl_fin {x y : Int × Int} (h : CP y x) {n : Nat} (e : itx x y n = y) : chl x y n = chl x y 700 := by
  by_cases c : n ≤ 700
  · have := (itx_stay e (700 - n)).2
    rw [show n + (700 - n) = 700 by omega] at this
    exact this.symm
  · have := (itx_stay (itx_end h) (n - 700)).2
    rw [show 700 + (n - 700) = n by omega] at this
    exact this
theorem chl_len {x y : Int × Int} : ∀ n, (chl x y n).length ≤ n + 1
  | 0 => by simp [chl]
  | n + 1 => by
    have := chl_len (x := x) (y := y) n
    rw [chl]; split
    · omega
    · rw [List.length_append, List.length_singleton]; omega
theorem chl_last {x y : Int × Int} : ∀ n, (chl x y n).getLast? = some (itx x y n)
  | 0 => rfl
  | n + 1 => by
    rw [chl, itx]; split
    · exact chl_last n
    · rw [List.getLast?_concat]
theorem chl_all {x y : Int × Int} (h : CP y x) : ∀ n, ∀ z ∈ chl x y n, CP y z
  | 0, z, hz => by rw [chl, List.mem_singleton] at hz; rw [hz]; exact h
  | n + 1, z, hz => by
    rw [chl] at hz
    split at hz
    · exact chl_all h n z hz
    · rename_i hne
      rcases List.mem_append.mp hz with hz | hz
      · exact chl_all h n z hz
      · rw [List.mem_singleton] at hz
        have := itx_ci h (n + 1)
        rw [itx, if_neg hne, ← hz] at this
        exact this
theorem chl_pair {x y : Int × Int} (h : CP y x) : ∀ n (i : Nat) (a b : Int × Int), (chl x y n)[i]? = some a → (chl x y n)[i + 1]? = some b → b.1 * a.2 = 1 + a.1 * b.2
  | 0, i, a, b, h1, h2 => by simp [chl] at h2
  | n + 1, i, a, b, h1, h2 => by
    rw [chl] at h1 h2
    split at h1
    · rename_i e; rw [if_pos e] at h2; exact chl_pair h n i a b h1 h2
    · rename_i e
      rw [if_neg e] at h2
      by_cases c : i + 1 < (chl x y n).length
      · rw [List.getElem?_append_left (by omega)] at h1
        rw [List.getElem?_append_left c] at h2
        exact chl_pair h n i a b h1 h2
      · have l1 := (List.getElem?_eq_some_iff.mp h2).1
        rw [List.length_append, List.length_singleton] at l1
        have e1 : i + 1 = (chl x y n).length := by omega
        rw [e1, List.getElem?_concat_length] at h2
        cases h2
        have hl := chl_last (x := x) (y := y) n
        rw [List.getLast?_eq_getElem?, show (chl x y n).length - 1 = i by omega] at hl
        rw [List.getElem?_append_left (by omega), hl] at h1
        cases h1
        obtain ⟨m, f, _⟩ := nb_head (itx_ci h n) e
        exact f.rq
theorem last_map {x y : Int × Int} (n : Nat) : L2.atI ((chl x y n).map prp) (-1) = some (prp (itx x y n)) := atI_last (by rw [List.getLast?_map, chl_last]; rfl)
/-! ### the program's chain -/
def conChain : Con := fun ds K => ∃ x y : Int × Int, ds = [prp x, prp y] ∧ CP y x ∧ K (.ow ((chl x y 700).map prp))
theorem o_chain {ds K} (h : conChain ds K) (h1 : Γ 1 = conWorth) (h5 : Γ 5 = conNei) : wpB Γ G core_6_ford_chain (fin0 K) (entry 4 ds) := by
  obtain ⟨x, y, rfl, I, k⟩ := h
  refine step_cons ?_
  simp only [ent42, wpS, wpE, wpEs, wpPs, wpT, wpO, wpIfs, pk_var, pk_cst, pk_glc, pk_bin, pk_neg, pk_not, pk_cmp, pk_chain, pk_and, pk_or, pk_ife, pk_tup, pk_lst, pk_idx, pk_sl, pk_rev, pk_isi, pk_maxK, pk_call, pk_prim, pk_comp, rt_var, rt_cst, rt_glc, rt_bin, rt_neg, rt_not, rt_cmp, rt_chain, rt_and, rt_or, rt_ife, rt_tup, rt_lst, rt_idx, rt_sl, rt_rev, rt_isi, rt_maxK, rt_call, rt_prim, rt_comp, stD_var, stD_tup, tgD_var, tgD_tt, tgD_tl, tgsD_nil, tgsD_cons, bare, bareP, bares, barePs, bareO, give_nil, give_cons, gG_s, gG_n, giveV_sh, giveV_ow, data_eq, shr_eq, own_eq, gD_s, gS_s, gO_s, vd_sh, vd_ow, b_add, b_sub, b_mul, b_fdiv, b_mod, b_pow, b_addL, b_addT, b_mulL, x_t, x_l, s_l, s_t, p_lenT, p_lenL, p_abs, p_int, p_intb, p_listT, p_listL, p_tupT, p_tupL, p_gcd, p_min, p_max, p_sum, i_t, i_l, i_r1, i_r2, i_zt, i_zl, n_i, bo_b, in_i, tr_n, tr_b, tr_i, tr_t, tr_l, nn_n, nn_t, nn_l, nn_i, nn_b, isiD_eq, isD, au_a, au_s, wi_n, wi_c, cmpD_eq_int, cmpD_ne_int, cmpD_eq_bl, cmpD_ne_bl, cmpD_lt, cmpD_le, cmpD_gt, cmpD_ge, cmpD_is, cmpD_isnot, truQ_bl, atI_0, atI_1, atI_2, atI_3, fin0, List.nil_append, List.append_nil, List.cons_append, List.getElem?_cons_zero, List.getElem?_cons_succ, set_0, set_s, List.length_cons, List.length_nil, Option.some.injEq, Val.sh.injEq, Val.ow.injEq, D.int.injEq, D.tup.injEq, D.lst.injEq, D.bl.injEq, exists_eq_left', exists_eq_left, true_and, and_true, Nat.reduceAdd, Nat.reduceLeDiff, Nat.zero_add, if_true, if_false, Bool.false_eq_true, reduceCtorEq, decide_eq_true_eq, Bool.not_eq_true, ne_eq, not_false_eq_true, reduceIte, decide_true, decide_false, Bool.not_true, Bool.not_false, step_nil_eq]
  refine step_cons ?_
  simp only [wpS, wpE, wpEs, wpPs, wpT, wpO, wpIfs, pk_var, pk_cst, pk_glc, pk_bin, pk_neg, pk_not, pk_cmp, pk_chain, pk_and, pk_or, pk_ife, pk_tup, pk_lst, pk_idx, pk_sl, pk_rev, pk_isi, pk_maxK, pk_call, pk_prim, pk_comp, rt_var, rt_cst, rt_glc, rt_bin, rt_neg, rt_not, rt_cmp, rt_chain, rt_and, rt_or, rt_ife, rt_tup, rt_lst, rt_idx, rt_sl, rt_rev, rt_isi, rt_maxK, rt_call, rt_prim, rt_comp, stD_var, stD_tup, tgD_var, tgD_tt, tgD_tl, tgsD_nil, tgsD_cons, bare, bareP, bares, barePs, bareO, give_nil, give_cons, gG_s, gG_n, giveV_sh, giveV_ow, data_eq, shr_eq, own_eq, gD_s, gS_s, gO_s, vd_sh, vd_ow, b_add, b_sub, b_mul, b_fdiv, b_mod, b_pow, b_addL, b_addT, b_mulL, x_t, x_l, s_l, s_t, p_lenT, p_lenL, p_abs, p_int, p_intb, p_listT, p_listL, p_tupT, p_tupL, p_gcd, p_min, p_max, p_sum, i_t, i_l, i_r1, i_r2, i_zt, i_zl, n_i, bo_b, in_i, tr_n, tr_b, tr_i, tr_t, tr_l, nn_n, nn_t, nn_l, nn_i, nn_b, isiD_eq, isD, au_a, au_s, wi_n, wi_c, cmpD_eq_int, cmpD_ne_int, cmpD_eq_bl, cmpD_ne_bl, cmpD_lt, cmpD_le, cmpD_gt, cmpD_ge, cmpD_is, cmpD_isnot, truQ_bl, atI_0, atI_1, atI_2, atI_3, fin0, List.nil_append, List.append_nil, List.cons_append, List.getElem?_cons_zero, List.getElem?_cons_succ, set_0, set_s, List.length_cons, List.length_nil, Option.some.injEq, Val.sh.injEq, Val.ow.injEq, D.int.injEq, D.tup.injEq, D.lst.injEq, D.bl.injEq, exists_eq_left', exists_eq_left, true_and, and_true, Nat.reduceAdd, Nat.reduceLeDiff, Nat.zero_add, if_true, if_false, Bool.false_eq_true, reduceCtorEq, decide_eq_true_eq, Bool.not_eq_true, ne_eq, not_false_eq_true, reduceIte, decide_true, decide_false, Bool.not_true, Bool.not_false, step_nil_eq]
  refine ⟨fun m ρ => ∃ (i : Nat) (d3 : Option Val), ρ = [some (.sh (prp x)), some (.sh (prp y)), some (.ow ((chl x y i).map prp)), d3] ∧
    m = (if itx x y i = y then 0 else (mu y.1 y.2 (itx x y i).1 (itx x y i).2).toNat + 1), ⟨_, 0, none, rfl, rfl⟩, ?_⟩
  rintro m ρ ⟨i, d3, rfl, rfl⟩
  have ci := itx_ci I i
  simp only [wpS, wpE, wpEs, wpPs, wpT, wpO, wpIfs, pk_var, pk_cst, pk_glc, pk_bin, pk_neg, pk_not, pk_cmp, pk_chain, pk_and, pk_or, pk_ife, pk_tup, pk_lst, pk_idx, pk_sl, pk_rev, pk_isi, pk_maxK, pk_call, pk_prim, pk_comp, rt_var, rt_cst, rt_glc, rt_bin, rt_neg, rt_not, rt_cmp, rt_chain, rt_and, rt_or, rt_ife, rt_tup, rt_lst, rt_idx, rt_sl, rt_rev, rt_isi, rt_maxK, rt_call, rt_prim, rt_comp, stD_var, stD_tup, tgD_var, tgD_tt, tgD_tl, tgsD_nil, tgsD_cons, bare, bareP, bares, barePs, bareO, give_nil, give_cons, gG_s, gG_n, giveV_sh, giveV_ow, data_eq, shr_eq, own_eq, gD_s, gS_s, gO_s, vd_sh, vd_ow, b_add, b_sub, b_mul, b_fdiv, b_mod, b_pow, b_addL, b_addT, b_mulL, x_t, x_l, s_l, s_t, p_lenT, p_lenL, p_abs, p_int, p_intb, p_listT, p_listL, p_tupT, p_tupL, p_gcd, p_min, p_max, p_sum, i_t, i_l, i_r1, i_r2, i_zt, i_zl, n_i, bo_b, in_i, tr_n, tr_b, tr_i, tr_t, tr_l, nn_n, nn_t, nn_l, nn_i, nn_b, isiD_eq, isD, au_a, au_s, wi_n, wi_c, cmpD_eq_int, cmpD_ne_int, cmpD_eq_bl, cmpD_ne_bl, cmpD_lt, cmpD_le, cmpD_gt, cmpD_ge, cmpD_is, cmpD_isnot, truQ_bl, atI_0, atI_1, atI_2, atI_3, fin0, List.nil_append, List.append_nil, List.cons_append, List.getElem?_cons_zero, List.getElem?_cons_succ, set_0, set_s, List.length_cons, List.length_nil, Option.some.injEq, Val.sh.injEq, Val.ow.injEq, D.int.injEq, D.tup.injEq, D.lst.injEq, D.bl.injEq, exists_eq_left', exists_eq_left, true_and, and_true, Nat.reduceAdd, Nat.reduceLeDiff, Nat.zero_add, if_true, if_false, Bool.false_eq_true, reduceCtorEq, decide_eq_true_eq, Bool.not_eq_true, ne_eq, not_false_eq_true, reduceIte, decide_true, decide_false, Bool.not_true, Bool.not_false, step_nil_eq]
  refine ⟨_, last_map i, cmp_neI (prp_ok _) (prp_ok _) (k := fun b hb => ?_)⟩
  by_cases e : itx x y i = y
  · have : b = false := by
      cases b
      · rfl
      · exact absurd (congrArg prp e) (hb.mp rfl)
    subst this
    simp only [Bool.false_eq_true, if_false]
    refine step_cons ?_
    simp only [wpS, wpE, wpEs, wpPs, wpT, wpO, wpIfs, pk_var, pk_cst, pk_glc, pk_bin, pk_neg, pk_not, pk_cmp, pk_chain, pk_and, pk_or, pk_ife, pk_tup, pk_lst, pk_idx, pk_sl, pk_rev, pk_isi, pk_maxK, pk_call, pk_prim, pk_comp, rt_var, rt_cst, rt_glc, rt_bin, rt_neg, rt_not, rt_cmp, rt_chain, rt_and, rt_or, rt_ife, rt_tup, rt_lst, rt_idx, rt_sl, rt_rev, rt_isi, rt_maxK, rt_call, rt_prim, rt_comp, stD_var, stD_tup, tgD_var, tgD_tt, tgD_tl, tgsD_nil, tgsD_cons, bare, bareP, bares, barePs, bareO, give_nil, give_cons, gG_s, gG_n, giveV_sh, giveV_ow, data_eq, shr_eq, own_eq, gD_s, gS_s, gO_s, vd_sh, vd_ow, b_add, b_sub, b_mul, b_fdiv, b_mod, b_pow, b_addL, b_addT, b_mulL, x_t, x_l, s_l, s_t, p_lenT, p_lenL, p_abs, p_int, p_intb, p_listT, p_listL, p_tupT, p_tupL, p_gcd, p_min, p_max, p_sum, i_t, i_l, i_r1, i_r2, i_zt, i_zl, n_i, bo_b, in_i, tr_n, tr_b, tr_i, tr_t, tr_l, nn_n, nn_t, nn_l, nn_i, nn_b, isiD_eq, isD, au_a, au_s, wi_n, wi_c, cmpD_eq_int, cmpD_ne_int, cmpD_eq_bl, cmpD_ne_bl, cmpD_lt, cmpD_le, cmpD_gt, cmpD_ge, cmpD_is, cmpD_isnot, truQ_bl, atI_0, atI_1, atI_2, atI_3, fin0, List.nil_append, List.append_nil, List.cons_append, List.getElem?_cons_zero, List.getElem?_cons_succ, set_0, set_s, List.length_cons, List.length_nil, Option.some.injEq, Val.sh.injEq, Val.ow.injEq, D.int.injEq, D.tup.injEq, D.lst.injEq, D.bl.injEq, exists_eq_left', exists_eq_left, true_and, and_true, Nat.reduceAdd, Nat.reduceLeDiff, Nat.zero_add, if_true, if_false, Bool.false_eq_true, reduceCtorEq, decide_eq_true_eq, Bool.not_eq_true, ne_eq, not_false_eq_true, reduceIte, decide_true, decide_false, Bool.not_true, Bool.not_false, step_nil_eq]
    rw [chl_fin I e]
    exact k
  · have : b = true := hb.mpr fun z => e (prp_inj.mp z)
    subst this
    obtain ⟨n, f, hh, en⟩ := nb_head ci e
    simp only [if_true]
    refine step_cons ?_
    simp only [h5, wpS, wpE, wpEs, wpPs, wpT, wpO, wpIfs, pk_var, pk_cst, pk_glc, pk_bin, pk_neg, pk_not, pk_cmp, pk_chain, pk_and, pk_or, pk_ife, pk_tup, pk_lst, pk_idx, pk_sl, pk_rev, pk_isi, pk_maxK, pk_call, pk_prim, pk_comp, rt_var, rt_cst, rt_glc, rt_bin, rt_neg, rt_not, rt_cmp, rt_chain, rt_and, rt_or, rt_ife, rt_tup, rt_lst, rt_idx, rt_sl, rt_rev, rt_isi, rt_maxK, rt_call, rt_prim, rt_comp, stD_var, stD_tup, tgD_var, tgD_tt, tgD_tl, tgsD_nil, tgsD_cons, bare, bareP, bares, barePs, bareO, give_nil, give_cons, gG_s, gG_n, giveV_sh, giveV_ow, data_eq, shr_eq, own_eq, gD_s, gS_s, gO_s, vd_sh, vd_ow, b_add, b_sub, b_mul, b_fdiv, b_mod, b_pow, b_addL, b_addT, b_mulL, x_t, x_l, s_l, s_t, p_lenT, p_lenL, p_abs, p_int, p_intb, p_listT, p_listL, p_tupT, p_tupL, p_gcd, p_min, p_max, p_sum, i_t, i_l, i_r1, i_r2, i_zt, i_zl, n_i, bo_b, in_i, tr_n, tr_b, tr_i, tr_t, tr_l, nn_n, nn_t, nn_l, nn_i, nn_b, isiD_eq, isD, au_a, au_s, wi_n, wi_c, cmpD_eq_int, cmpD_ne_int, cmpD_eq_bl, cmpD_ne_bl, cmpD_lt, cmpD_le, cmpD_gt, cmpD_ge, cmpD_is, cmpD_isnot, truQ_bl, atI_0, atI_1, atI_2, atI_3, fin0, List.nil_append, List.append_nil, List.cons_append, List.getElem?_cons_zero, List.getElem?_cons_succ, set_0, set_s, List.length_cons, List.length_nil, Option.some.injEq, Val.sh.injEq, Val.ow.injEq, D.int.injEq, D.tup.injEq, D.lst.injEq, D.bl.injEq, exists_eq_left', exists_eq_left, true_and, and_true, Nat.reduceAdd, Nat.reduceLeDiff, Nat.zero_add, if_true, if_false, Bool.false_eq_true, reduceCtorEq, decide_eq_true_eq, Bool.not_eq_true, ne_eq, not_false_eq_true, reduceIte, decide_true, decide_false, Bool.not_true, Bool.not_false, step_nil_eq]
    refine ⟨_, last_map i, _, _, _, _, rfl, ci, ?_⟩
    refine step_cons ?_
    simp only [h1, wpS, wpE, wpEs, wpPs, wpT, wpO, wpIfs, pk_var, pk_cst, pk_glc, pk_bin, pk_neg, pk_not, pk_cmp, pk_chain, pk_and, pk_or, pk_ife, pk_tup, pk_lst, pk_idx, pk_sl, pk_rev, pk_isi, pk_maxK, pk_call, pk_prim, pk_comp, rt_var, rt_cst, rt_glc, rt_bin, rt_neg, rt_not, rt_cmp, rt_chain, rt_and, rt_or, rt_ife, rt_tup, rt_lst, rt_idx, rt_sl, rt_rev, rt_isi, rt_maxK, rt_call, rt_prim, rt_comp, stD_var, stD_tup, tgD_var, tgD_tt, tgD_tl, tgsD_nil, tgsD_cons, bare, bareP, bares, barePs, bareO, give_nil, give_cons, gG_s, gG_n, giveV_sh, giveV_ow, data_eq, shr_eq, own_eq, gD_s, gS_s, gO_s, vd_sh, vd_ow, b_add, b_sub, b_mul, b_fdiv, b_mod, b_pow, b_addL, b_addT, b_mulL, x_t, x_l, s_l, s_t, p_lenT, p_lenL, p_abs, p_int, p_intb, p_listT, p_listL, p_tupT, p_tupL, p_gcd, p_min, p_max, p_sum, i_t, i_l, i_r1, i_r2, i_zt, i_zl, n_i, bo_b, in_i, tr_n, tr_b, tr_i, tr_t, tr_l, nn_n, nn_t, nn_l, nn_i, nn_b, isiD_eq, isD, au_a, au_s, wi_n, wi_c, cmpD_eq_int, cmpD_ne_int, cmpD_eq_bl, cmpD_ne_bl, cmpD_lt, cmpD_le, cmpD_gt, cmpD_ge, cmpD_is, cmpD_isnot, truQ_bl, atI_0, atI_1, atI_2, atI_3, fin0, List.nil_append, List.append_nil, List.cons_append, List.getElem?_cons_zero, List.getElem?_cons_succ, set_0, set_s, List.length_cons, List.length_nil, Option.some.injEq, Val.sh.injEq, Val.ow.injEq, D.int.injEq, D.tup.injEq, D.lst.injEq, D.bl.injEq, exists_eq_left', exists_eq_left, true_and, and_true, Nat.reduceAdd, Nat.reduceLeDiff, Nat.zero_add, if_true, if_false, Bool.false_eq_true, reduceCtorEq, decide_eq_true_eq, Bool.not_eq_true, ne_eq, not_false_eq_true, reduceIte, decide_true, decide_false, Bool.not_true, Bool.not_false, step_nil_eq]
    refine ⟨_, fun j => ((((nbL (itx x y i).1 (itx x y i).2 y.1 y.2 (mx (itx x y i).2 y.2).toNat).map fun z => (z.1 * 1000000000).fdiv z.2)[j]?).getD 0), rfl, ?_, fun j d hj => ?_, fun j d hj hbest => ?_⟩
    · rw [List.length_map]
      cases hnb : nbL (itx x y i).1 (itx x y i).2 y.1 y.2 (mx (itx x y i).2 y.2).toNat with
      | nil => rw [hnb] at hh; cases hh
      | cons a r => exact Nat.succ_pos _
    · rw [List.getElem?_map] at hj
      cases hz : (nbL (itx x y i).1 (itx x y i).2 y.1 y.2 (mx (itx x y i).2 y.2).toNat)[j]? with
      | none => rw [hz] at hj; cases hj
      | some z =>
        rw [hz] at hj; cases hj
        obtain ⟨m, m1, m2, rfl, hgd⟩ := nb_all f (List.mem_of_getElem? hz)
        obtain ⟨e1, e2⟩ := nbE_good ci.q0 hgd
        have hps := ps_small ci (n := m) (by omega)
        have hmx := mxN ci
        rw [e2] at e1
        refine ⟨_, _, 30, rfl, by rw [e2]; omega, ?_, smJ (by rw [e2]; omega) (by rw [e2]; omega), by decide, ?_⟩
        · have q0 := ci.q0
          refine smJ ?_ ?_
          · by_cases c : -1000000000 ≤ (nbE (itx x y i).1 (itx x y i).2 m).1
            · exact c
            · have := Int.mul_le_mul_of_nonneg_right (show (nbE (itx x y i).1 (itx x y i).2 m).1 ≤ 0 by omega) (show 0 ≤ (itx x y i).2 by omega)
              omega
          · have := Int.mul_le_mul_of_nonneg_left (show 1 ≤ (itx x y i).2 by omega) (show 0 ≤ (nbE (itx x y i).1 (itx x y i).2 m).1 by
              by_cases c : 0 ≤ (nbE (itx x y i).1 (itx x y i).2 m).1
              · exact c
              · have := Int.mul_le_mul_of_nonneg_right (show (nbE (itx x y i).1 (itx x y i).2 m).1 ≤ 0 by omega) (show 0 ≤ (itx x y i).2 by omega)
                omega)
            omega
        · dsimp only
          rw [List.getElem?_map, hz]; rfl
    · -- the first is the greatest
      have j0 : j = 0 := by
        by_cases c : j = 0
        · exact c
        · have hl : j < ((nbL (itx x y i).1 (itx x y i).2 y.1 y.2 (mx (itx x y i).2 y.2).toNat).map prp).length := (List.getElem?_eq_some_iff.mp hj).1
          have hb0 := (hbest 0 (by omega)).2 (by omega)
          rw [List.length_map] at hl
          have z0 : (nbL (itx x y i).1 (itx x y i).2 y.1 y.2 (mx (itx x y i).2 y.2).toNat)[0]? = some (nx (itx x y i) y) := by rw [← List.head?_eq_getElem?]; exact hh
          have zj := List.getElem?_eq_getElem hl
          obtain ⟨m, m1, m2, ez, hgd⟩ := nb_all f (List.mem_of_getElem? zj)
          simp only [List.getElem?_map, z0, zj, Option.map_some, Option.getD_some, ez] at hb0
          obtain ⟨e1, e2⟩ := nbE_good ci.q0 hgd
          have s1 := f.s1
          have := key_le (show 0 < (nx (itx x y i) y).2 by omega) (show 0 < (nbE (itx x y i).1 (itx x y i).2 m).2 by omega) (nb_cross ci.q0 f.rq e1 (by have := f.e; omega))
          omega
      subst j0
      rw [List.getElem?_map, ← List.head?_eq_getElem?, hh] at hj
      cases hj
      refine ⟨?_, ?_⟩
      · rw [List.length_map]
        have l1 := chl_len (x := x) (y := y) i
        have l2 := mu_nonneg ci
        have l3 := mu_le I
        rcases itx_mu I i with z | z
        · exact absurd z e
        · omega
      · refine ⟨_, ?_, i + 1, some (.ow ((nbL (itx x y i).1 (itx x y i).2 y.1 y.2 (mx (itx x y i).2 y.2).toNat).map prp)), ?_, rfl⟩
        · rw [itx, if_neg e, if_neg e]
          have lt := f.mu_lt ci
          have nn := mu_nonneg (f.ci ci)
          split <;> omega
        · rw [chl, if_neg e, List.map_append]; rfl
end Lw
set_option maxHeartbeats 4000000
namespace Lw
open Gx
variable {Γ : Nat → Con} {G : Nat → D}
/-! ### the law's own chain -/
theorem ent92 (a b : D) : entry 9 [a, b] = [some (.sh a), some (.sh b), none, none, none, none, none, none, none] := rfl
/-- the best so far -/
def bst (l : List (Int × Int)) : D := match l.head? with
  | none => .non
  | some z => prp z
theorem bst_nil {l : List (Int × Int)} (h : l = []) : bst l = .non := by rw [h]; rfl
theorem bst_some {l : List (Int × Int)} {z : Int × Int} (h : l.head? = some z) : bst l = prp z := by unfold bst; rw [h]
theorem o_lchain {ds K} (h : conChain ds K) : wpB Γ G core_22_law_chain (fin0 K) (entry 9 ds) := by
  obtain ⟨x, y, rfl, I, k⟩ := h
  refine step_cons ?_
  simp only [ent92, wpS, wpE, wpEs, wpPs, wpT, wpO, wpIfs, pk_var, pk_cst, pk_glc, pk_bin, pk_neg, pk_not, pk_cmp, pk_chain, pk_and, pk_or, pk_ife, pk_tup, pk_lst, pk_idx, pk_sl, pk_rev, pk_isi, pk_maxK, pk_call, pk_prim, pk_comp, rt_var, rt_cst, rt_glc, rt_bin, rt_neg, rt_not, rt_cmp, rt_chain, rt_and, rt_or, rt_ife, rt_tup, rt_lst, rt_idx, rt_sl, rt_rev, rt_isi, rt_maxK, rt_call, rt_prim, rt_comp, stD_var, stD_tup, tgD_var, tgD_tt, tgD_tl, tgsD_nil, tgsD_cons, bare, bareP, bares, barePs, bareO, give_nil, give_cons, gG_s, gG_n, giveV_sh, giveV_ow, data_eq, shr_eq, own_eq, gD_s, gS_s, gO_s, vd_sh, vd_ow, b_add, b_sub, b_mul, b_fdiv, b_mod, b_pow, b_addL, b_addT, b_mulL, x_t, x_l, s_l, s_t, p_lenT, p_lenL, p_abs, p_int, p_intb, p_listT, p_listL, p_tupT, p_tupL, p_gcd, p_min, p_max, p_sum, i_t, i_l, i_r1, i_r2, i_zt, i_zl, n_i, bo_b, in_i, tr_n, tr_b, tr_i, tr_t, tr_l, nn_n, nn_t, nn_l, nn_i, nn_b, isiD_eq, isD, au_a, au_s, wi_n, wi_c, cmpD_eq_int, cmpD_ne_int, cmpD_eq_bl, cmpD_ne_bl, cmpD_lt, cmpD_le, cmpD_gt, cmpD_ge, cmpD_is, cmpD_isnot, truQ_bl, atI_0, atI_1, atI_2, atI_3, fin0, List.nil_append, List.append_nil, List.cons_append, List.getElem?_cons_zero, List.getElem?_cons_succ, set_0, set_s, List.length_cons, List.length_nil, Option.some.injEq, Val.sh.injEq, Val.ow.injEq, D.int.injEq, D.tup.injEq, D.lst.injEq, D.bl.injEq, exists_eq_left', exists_eq_left, true_and, and_true, Nat.reduceAdd, Nat.reduceLeDiff, Nat.zero_add, if_true, if_false, Bool.false_eq_true, reduceCtorEq, decide_eq_true_eq, Bool.not_eq_true, ne_eq, not_false_eq_true, reduceIte, decide_true, decide_false, Bool.not_true, Bool.not_false, step_nil_eq]
  refine step_cons ?_
  simp only [wpS, wpE, wpEs, wpPs, wpT, wpO, wpIfs, pk_var, pk_cst, pk_glc, pk_bin, pk_neg, pk_not, pk_cmp, pk_chain, pk_and, pk_or, pk_ife, pk_tup, pk_lst, pk_idx, pk_sl, pk_rev, pk_isi, pk_maxK, pk_call, pk_prim, pk_comp, rt_var, rt_cst, rt_glc, rt_bin, rt_neg, rt_not, rt_cmp, rt_chain, rt_and, rt_or, rt_ife, rt_tup, rt_lst, rt_idx, rt_sl, rt_rev, rt_isi, rt_maxK, rt_call, rt_prim, rt_comp, stD_var, stD_tup, tgD_var, tgD_tt, tgD_tl, tgsD_nil, tgsD_cons, bare, bareP, bares, barePs, bareO, give_nil, give_cons, gG_s, gG_n, giveV_sh, giveV_ow, data_eq, shr_eq, own_eq, gD_s, gS_s, gO_s, vd_sh, vd_ow, b_add, b_sub, b_mul, b_fdiv, b_mod, b_pow, b_addL, b_addT, b_mulL, x_t, x_l, s_l, s_t, p_lenT, p_lenL, p_abs, p_int, p_intb, p_listT, p_listL, p_tupT, p_tupL, p_gcd, p_min, p_max, p_sum, i_t, i_l, i_r1, i_r2, i_zt, i_zl, n_i, bo_b, in_i, tr_n, tr_b, tr_i, tr_t, tr_l, nn_n, nn_t, nn_l, nn_i, nn_b, isiD_eq, isD, au_a, au_s, wi_n, wi_c, cmpD_eq_int, cmpD_ne_int, cmpD_eq_bl, cmpD_ne_bl, cmpD_lt, cmpD_le, cmpD_gt, cmpD_ge, cmpD_is, cmpD_isnot, truQ_bl, atI_0, atI_1, atI_2, atI_3, fin0, List.nil_append, List.append_nil, List.cons_append, List.getElem?_cons_zero, List.getElem?_cons_succ, set_0, set_s, List.length_cons, List.length_nil, Option.some.injEq, Val.sh.injEq, Val.ow.injEq, D.int.injEq, D.tup.injEq, D.lst.injEq, D.bl.injEq, exists_eq_left', exists_eq_left, true_and, and_true, Nat.reduceAdd, Nat.reduceLeDiff, Nat.zero_add, if_true, if_false, Bool.false_eq_true, reduceCtorEq, decide_eq_true_eq, Bool.not_eq_true, ne_eq, not_false_eq_true, reduceIte, decide_true, decide_false, Bool.not_true, Bool.not_false, step_nil_eq]
  refine ⟨by decide, fun i ρ => ∃ (d3 d4 d5 d6 d7 d8 : Option Val), ρ = [some (.sh (prp x)), some (.sh (prp y)), some (.ow ((chl x y i).map prp)), d3, d4, d5, d6, d7, d8], ⟨none, none, none, none, none, none, rfl⟩, ?_, ?_⟩
  · rintro i d ρ hi ⟨d3, d4, d5, d6, d7, d8, rfl⟩
    obtain ⟨hi, rfl⟩ := rI hi
    have ci := itx_ci I i
    refine step_cons ?_
    simp only [wpS, wpE, wpEs, wpPs, wpT, wpO, wpIfs, pk_var, pk_cst, pk_glc, pk_bin, pk_neg, pk_not, pk_cmp, pk_chain, pk_and, pk_or, pk_ife, pk_tup, pk_lst, pk_idx, pk_sl, pk_rev, pk_isi, pk_maxK, pk_call, pk_prim, pk_comp, rt_var, rt_cst, rt_glc, rt_bin, rt_neg, rt_not, rt_cmp, rt_chain, rt_and, rt_or, rt_ife, rt_tup, rt_lst, rt_idx, rt_sl, rt_rev, rt_isi, rt_maxK, rt_call, rt_prim, rt_comp, stD_var, stD_tup, tgD_var, tgD_tt, tgD_tl, tgsD_nil, tgsD_cons, bare, bareP, bares, barePs, bareO, give_nil, give_cons, gG_s, gG_n, giveV_sh, giveV_ow, data_eq, shr_eq, own_eq, gD_s, gS_s, gO_s, vd_sh, vd_ow, b_add, b_sub, b_mul, b_fdiv, b_mod, b_pow, b_addL, b_addT, b_mulL, x_t, x_l, s_l, s_t, p_lenT, p_lenL, p_abs, p_int, p_intb, p_listT, p_listL, p_tupT, p_tupL, p_gcd, p_min, p_max, p_sum, i_t, i_l, i_r1, i_r2, i_zt, i_zl, n_i, bo_b, in_i, tr_n, tr_b, tr_i, tr_t, tr_l, nn_n, nn_t, nn_l, nn_i, nn_b, isiD_eq, isD, au_a, au_s, wi_n, wi_c, cmpD_eq_int, cmpD_ne_int, cmpD_eq_bl, cmpD_ne_bl, cmpD_lt, cmpD_le, cmpD_gt, cmpD_ge, cmpD_is, cmpD_isnot, truQ_bl, atI_0, atI_1, atI_2, atI_3, fin0, List.nil_append, List.append_nil, List.cons_append, List.getElem?_cons_zero, List.getElem?_cons_succ, set_0, set_s, List.length_cons, List.length_nil, Option.some.injEq, Val.sh.injEq, Val.ow.injEq, D.int.injEq, D.tup.injEq, D.lst.injEq, D.bl.injEq, exists_eq_left', exists_eq_left, true_and, and_true, Nat.reduceAdd, Nat.reduceLeDiff, Nat.zero_add, if_true, if_false, Bool.false_eq_true, reduceCtorEq, decide_eq_true_eq, Bool.not_eq_true, ne_eq, not_false_eq_true, reduceIte, decide_true, decide_false, Bool.not_true, Bool.not_false, step_nil_eq]
    refine ⟨_, last_map i, cmp_neI (prp_ok _) (prp_ok _) (k := fun b hb => ?_)⟩
    by_cases e : itx x y i = y
    · have : b = false := by
        cases b
        · rfl
        · exact absurd (congrArg prp e) (hb.mp rfl)
      subst this
      simp only [wpS, wpE, wpEs, wpPs, wpT, wpO, wpIfs, pk_var, pk_cst, pk_glc, pk_bin, pk_neg, pk_not, pk_cmp, pk_chain, pk_and, pk_or, pk_ife, pk_tup, pk_lst, pk_idx, pk_sl, pk_rev, pk_isi, pk_maxK, pk_call, pk_prim, pk_comp, rt_var, rt_cst, rt_glc, rt_bin, rt_neg, rt_not, rt_cmp, rt_chain, rt_and, rt_or, rt_ife, rt_tup, rt_lst, rt_idx, rt_sl, rt_rev, rt_isi, rt_maxK, rt_call, rt_prim, rt_comp, stD_var, stD_tup, tgD_var, tgD_tt, tgD_tl, tgsD_nil, tgsD_cons, bare, bareP, bares, barePs, bareO, give_nil, give_cons, gG_s, gG_n, giveV_sh, giveV_ow, data_eq, shr_eq, own_eq, gD_s, gS_s, gO_s, vd_sh, vd_ow, b_add, b_sub, b_mul, b_fdiv, b_mod, b_pow, b_addL, b_addT, b_mulL, x_t, x_l, s_l, s_t, p_lenT, p_lenL, p_abs, p_int, p_intb, p_listT, p_listL, p_tupT, p_tupL, p_gcd, p_min, p_max, p_sum, i_t, i_l, i_r1, i_r2, i_zt, i_zl, n_i, bo_b, in_i, tr_n, tr_b, tr_i, tr_t, tr_l, nn_n, nn_t, nn_l, nn_i, nn_b, isiD_eq, isD, au_a, au_s, wi_n, wi_c, cmpD_eq_int, cmpD_ne_int, cmpD_eq_bl, cmpD_ne_bl, cmpD_lt, cmpD_le, cmpD_gt, cmpD_ge, cmpD_is, cmpD_isnot, truQ_bl, atI_0, atI_1, atI_2, atI_3, fin0, List.nil_append, List.append_nil, List.cons_append, List.getElem?_cons_zero, List.getElem?_cons_succ, set_0, set_s, List.length_cons, List.length_nil, Option.some.injEq, Val.sh.injEq, Val.ow.injEq, D.int.injEq, D.tup.injEq, D.lst.injEq, D.bl.injEq, exists_eq_left', exists_eq_left, true_and, and_true, Nat.reduceAdd, Nat.reduceLeDiff, Nat.zero_add, if_true, if_false, Bool.false_eq_true, reduceCtorEq, decide_eq_true_eq, Bool.not_eq_true, ne_eq, not_false_eq_true, reduceIte, decide_true, decide_false, Bool.not_true, Bool.not_false, step_nil_eq]
      rw [chl, if_pos e]
      exact ⟨_, _, _, _, _, _, rfl⟩
    · have : b = true := hb.mpr fun z => e (prp_inj.mp z)
      subst this
      obtain ⟨n, f, hh, en⟩ := nb_head ci e
      simp only [wpS, wpE, wpEs, wpPs, wpT, wpO, wpIfs, pk_var, pk_cst, pk_glc, pk_bin, pk_neg, pk_not, pk_cmp, pk_chain, pk_and, pk_or, pk_ife, pk_tup, pk_lst, pk_idx, pk_sl, pk_rev, pk_isi, pk_maxK, pk_call, pk_prim, pk_comp, rt_var, rt_cst, rt_glc, rt_bin, rt_neg, rt_not, rt_cmp, rt_chain, rt_and, rt_or, rt_ife, rt_tup, rt_lst, rt_idx, rt_sl, rt_rev, rt_isi, rt_maxK, rt_call, rt_prim, rt_comp, stD_var, stD_tup, tgD_var, tgD_tt, tgD_tl, tgsD_nil, tgsD_cons, bare, bareP, bares, barePs, bareO, give_nil, give_cons, gG_s, gG_n, giveV_sh, giveV_ow, data_eq, shr_eq, own_eq, gD_s, gS_s, gO_s, vd_sh, vd_ow, b_add, b_sub, b_mul, b_fdiv, b_mod, b_pow, b_addL, b_addT, b_mulL, x_t, x_l, s_l, s_t, p_lenT, p_lenL, p_abs, p_int, p_intb, p_listT, p_listL, p_tupT, p_tupL, p_gcd, p_min, p_max, p_sum, i_t, i_l, i_r1, i_r2, i_zt, i_zl, n_i, bo_b, in_i, tr_n, tr_b, tr_i, tr_t, tr_l, nn_n, nn_t, nn_l, nn_i, nn_b, isiD_eq, isD, au_a, au_s, wi_n, wi_c, cmpD_eq_int, cmpD_ne_int, cmpD_eq_bl, cmpD_ne_bl, cmpD_lt, cmpD_le, cmpD_gt, cmpD_ge, cmpD_is, cmpD_isnot, truQ_bl, atI_0, atI_1, atI_2, atI_3, fin0, List.nil_append, List.append_nil, List.cons_append, List.getElem?_cons_zero, List.getElem?_cons_succ, set_0, set_s, List.length_cons, List.length_nil, Option.some.injEq, Val.sh.injEq, Val.ow.injEq, D.int.injEq, D.tup.injEq, D.lst.injEq, D.bl.injEq, exists_eq_left', exists_eq_left, true_and, and_true, Nat.reduceAdd, Nat.reduceLeDiff, Nat.zero_add, if_true, if_false, Bool.false_eq_true, reduceCtorEq, decide_eq_true_eq, Bool.not_eq_true, ne_eq, not_false_eq_true, reduceIte, decide_true, decide_false, Bool.not_true, Bool.not_false, step_nil_eq]
      have tl := last_map (x := x) (y := y) i
      refine step_cons ?_
      simp only [wpS, wpE, wpEs, wpPs, wpT, wpO, wpIfs, pk_var, pk_cst, pk_glc, pk_bin, pk_neg, pk_not, pk_cmp, pk_chain, pk_and, pk_or, pk_ife, pk_tup, pk_lst, pk_idx, pk_sl, pk_rev, pk_isi, pk_maxK, pk_call, pk_prim, pk_comp, rt_var, rt_cst, rt_glc, rt_bin, rt_neg, rt_not, rt_cmp, rt_chain, rt_and, rt_or, rt_ife, rt_tup, rt_lst, rt_idx, rt_sl, rt_rev, rt_isi, rt_maxK, rt_call, rt_prim, rt_comp, stD_var, stD_tup, tgD_var, tgD_tt, tgD_tl, tgsD_nil, tgsD_cons, bare, bareP, bares, barePs, bareO, give_nil, give_cons, gG_s, gG_n, giveV_sh, giveV_ow, data_eq, shr_eq, own_eq, gD_s, gS_s, gO_s, vd_sh, vd_ow, b_add, b_sub, b_mul, b_fdiv, b_mod, b_pow, b_addL, b_addT, b_mulL, x_t, x_l, s_l, s_t, p_lenT, p_lenL, p_abs, p_int, p_intb, p_listT, p_listL, p_tupT, p_tupL, p_gcd, p_min, p_max, p_sum, i_t, i_l, i_r1, i_r2, i_zt, i_zl, n_i, bo_b, in_i, tr_n, tr_b, tr_i, tr_t, tr_l, nn_n, nn_t, nn_l, nn_i, nn_b, isiD_eq, isD, au_a, au_s, wi_n, wi_c, cmpD_eq_int, cmpD_ne_int, cmpD_eq_bl, cmpD_ne_bl, cmpD_lt, cmpD_le, cmpD_gt, cmpD_ge, cmpD_is, cmpD_isnot, truQ_bl, atI_0, atI_1, atI_2, atI_3, fin0, List.nil_append, List.append_nil, List.cons_append, List.getElem?_cons_zero, List.getElem?_cons_succ, set_0, set_s, List.length_cons, List.length_nil, Option.some.injEq, Val.sh.injEq, Val.ow.injEq, D.int.injEq, D.tup.injEq, D.lst.injEq, D.bl.injEq, exists_eq_left', exists_eq_left, true_and, and_true, Nat.reduceAdd, Nat.reduceLeDiff, Nat.zero_add, if_true, if_false, Bool.false_eq_true, reduceCtorEq, decide_eq_true_eq, Bool.not_eq_true, ne_eq, not_false_eq_true, reduceIte, decide_true, decide_false, Bool.not_true, Bool.not_false, step_nil_eq]
      refine ⟨_, tl, ?_⟩
      have lenI := chl_len (x := x) (y := y) i
      generalize hz : itx x y i = z at *
      generalize hL : (chl x y i).map prp = L at *
      obtain ⟨p, q⟩ := z
      obtain ⟨P, Q⟩ := y
      simp only [prp, pr, wpS, wpE, wpEs, wpPs, wpT, wpO, wpIfs, pk_var, pk_cst, pk_glc, pk_bin, pk_neg, pk_not, pk_cmp, pk_chain, pk_and, pk_or, pk_ife, pk_tup, pk_lst, pk_idx, pk_sl, pk_rev, pk_isi, pk_maxK, pk_call, pk_prim, pk_comp, rt_var, rt_cst, rt_glc, rt_bin, rt_neg, rt_not, rt_cmp, rt_chain, rt_and, rt_or, rt_ife, rt_tup, rt_lst, rt_idx, rt_sl, rt_rev, rt_isi, rt_maxK, rt_call, rt_prim, rt_comp, stD_var, stD_tup, tgD_var, tgD_tt, tgD_tl, tgsD_nil, tgsD_cons, bare, bareP, bares, barePs, bareO, give_nil, give_cons, gG_s, gG_n, giveV_sh, giveV_ow, data_eq, shr_eq, own_eq, gD_s, gS_s, gO_s, vd_sh, vd_ow, b_add, b_sub, b_mul, b_fdiv, b_mod, b_pow, b_addL, b_addT, b_mulL, x_t, x_l, s_l, s_t, p_lenT, p_lenL, p_abs, p_int, p_intb, p_listT, p_listL, p_tupT, p_tupL, p_gcd, p_min, p_max, p_sum, i_t, i_l, i_r1, i_r2, i_zt, i_zl, n_i, bo_b, in_i, tr_n, tr_b, tr_i, tr_t, tr_l, nn_n, nn_t, nn_l, nn_i, nn_b, isiD_eq, isD, au_a, au_s, wi_n, wi_c, cmpD_eq_int, cmpD_ne_int, cmpD_eq_bl, cmpD_ne_bl, cmpD_lt, cmpD_le, cmpD_gt, cmpD_ge, cmpD_is, cmpD_isnot, truQ_bl, atI_0, atI_1, atI_2, atI_3, fin0, List.nil_append, List.append_nil, List.cons_append, List.getElem?_cons_zero, List.getElem?_cons_succ, set_0, set_s, List.length_cons, List.length_nil, Option.some.injEq, Val.sh.injEq, Val.ow.injEq, D.int.injEq, D.tup.injEq, D.lst.injEq, D.bl.injEq, exists_eq_left', exists_eq_left, true_and, and_true, Nat.reduceAdd, Nat.reduceLeDiff, Nat.zero_add, if_true, if_false, Bool.false_eq_true, reduceCtorEq, decide_eq_true_eq, Bool.not_eq_true, ne_eq, not_false_eq_true, reduceIte, decide_true, decide_false, Bool.not_true, Bool.not_false, step_nil_eq]
      refine step_cons ?_
      simp only [wpS, wpE, wpEs, wpPs, wpT, wpO, wpIfs, pk_var, pk_cst, pk_glc, pk_bin, pk_neg, pk_not, pk_cmp, pk_chain, pk_and, pk_or, pk_ife, pk_tup, pk_lst, pk_idx, pk_sl, pk_rev, pk_isi, pk_maxK, pk_call, pk_prim, pk_comp, rt_var, rt_cst, rt_glc, rt_bin, rt_neg, rt_not, rt_cmp, rt_chain, rt_and, rt_or, rt_ife, rt_tup, rt_lst, rt_idx, rt_sl, rt_rev, rt_isi, rt_maxK, rt_call, rt_prim, rt_comp, stD_var, stD_tup, tgD_var, tgD_tt, tgD_tl, tgsD_nil, tgsD_cons, bare, bareP, bares, barePs, bareO, give_nil, give_cons, gG_s, gG_n, giveV_sh, giveV_ow, data_eq, shr_eq, own_eq, gD_s, gS_s, gO_s, vd_sh, vd_ow, b_add, b_sub, b_mul, b_fdiv, b_mod, b_pow, b_addL, b_addT, b_mulL, x_t, x_l, s_l, s_t, p_lenT, p_lenL, p_abs, p_int, p_intb, p_listT, p_listL, p_tupT, p_tupL, p_gcd, p_min, p_max, p_sum, i_t, i_l, i_r1, i_r2, i_zt, i_zl, n_i, bo_b, in_i, tr_n, tr_b, tr_i, tr_t, tr_l, nn_n, nn_t, nn_l, nn_i, nn_b, isiD_eq, isD, au_a, au_s, wi_n, wi_c, cmpD_eq_int, cmpD_ne_int, cmpD_eq_bl, cmpD_ne_bl, cmpD_lt, cmpD_le, cmpD_gt, cmpD_ge, cmpD_is, cmpD_isnot, truQ_bl, atI_0, atI_1, atI_2, atI_3, fin0, List.nil_append, List.append_nil, List.cons_append, List.getElem?_cons_zero, List.getElem?_cons_succ, set_0, set_s, List.length_cons, List.length_nil, Option.some.injEq, Val.sh.injEq, Val.ow.injEq, D.int.injEq, D.tup.injEq, D.lst.injEq, D.bl.injEq, exists_eq_left', exists_eq_left, true_and, and_true, Nat.reduceAdd, Nat.reduceLeDiff, Nat.zero_add, if_true, if_false, Bool.false_eq_true, reduceCtorEq, decide_eq_true_eq, Bool.not_eq_true, ne_eq, not_false_eq_true, reduceIte, decide_true, decide_false, Bool.not_true, Bool.not_false, step_nil_eq]
      refine step_cons ?_
      simp only [wpS, wpE, wpEs, wpPs, wpT, wpO, wpIfs, pk_var, pk_cst, pk_glc, pk_bin, pk_neg, pk_not, pk_cmp, pk_chain, pk_and, pk_or, pk_ife, pk_tup, pk_lst, pk_idx, pk_sl, pk_rev, pk_isi, pk_maxK, pk_call, pk_prim, pk_comp, rt_var, rt_cst, rt_glc, rt_bin, rt_neg, rt_not, rt_cmp, rt_chain, rt_and, rt_or, rt_ife, rt_tup, rt_lst, rt_idx, rt_sl, rt_rev, rt_isi, rt_maxK, rt_call, rt_prim, rt_comp, stD_var, stD_tup, tgD_var, tgD_tt, tgD_tl, tgsD_nil, tgsD_cons, bare, bareP, bares, barePs, bareO, give_nil, give_cons, gG_s, gG_n, giveV_sh, giveV_ow, data_eq, shr_eq, own_eq, gD_s, gS_s, gO_s, vd_sh, vd_ow, b_add, b_sub, b_mul, b_fdiv, b_mod, b_pow, b_addL, b_addT, b_mulL, x_t, x_l, s_l, s_t, p_lenT, p_lenL, p_abs, p_int, p_intb, p_listT, p_listL, p_tupT, p_tupL, p_gcd, p_min, p_max, p_sum, i_t, i_l, i_r1, i_r2, i_zt, i_zl, n_i, bo_b, in_i, tr_n, tr_b, tr_i, tr_t, tr_l, nn_n, nn_t, nn_l, nn_i, nn_b, isiD_eq, isD, au_a, au_s, wi_n, wi_c, cmpD_eq_int, cmpD_ne_int, cmpD_eq_bl, cmpD_ne_bl, cmpD_lt, cmpD_le, cmpD_gt, cmpD_ge, cmpD_is, cmpD_isnot, truQ_bl, atI_0, atI_1, atI_2, atI_3, fin0, List.nil_append, List.append_nil, List.cons_append, List.getElem?_cons_zero, List.getElem?_cons_succ, set_0, set_s, List.length_cons, List.length_nil, Option.some.injEq, Val.sh.injEq, Val.ow.injEq, D.int.injEq, D.tup.injEq, D.lst.injEq, D.bl.injEq, exists_eq_left', exists_eq_left, true_and, and_true, Nat.reduceAdd, Nat.reduceLeDiff, Nat.zero_add, if_true, if_false, Bool.false_eq_true, reduceCtorEq, decide_eq_true_eq, Bool.not_eq_true, ne_eq, not_false_eq_true, reduceIte, decide_true, decide_false, Bool.not_true, Bool.not_false, step_nil_eq]
      have q0 : 0 < q := ci.q0
      have Q0 : 0 < Q := ci.Q0
      have hm := mxN ci
      have sp : Sm 20 p := smI (by have := ci.p0; dsimp only at this; omega) (by have := ci.pB; dsimp only at this; omega)
      have sP : Sm 20 P := smI (by have := ci.P0; dsimp only at this; omega) (by have := ci.P1; dsimp only at this; omega)
      have sq : Sm 20 q := smI (by omega) (by have := ci.q1; dsimp only at this; omega)
      have sQ : Sm 20 Q := smI (by omega) (by have := ci.Q1; dsimp only at this; omega)
      have em : (if Q > q then Q else q) = mx q Q := rfl
      rw [em]
      have eM : (mx q Q + 1 - 1).toNat = (mx q Q).toNat := by congr 1; omega
      rw [eM]
      dsimp only at hm hh f en
      refine ⟨by omega, fun j ρ => ∃ (d7 d8 : Option Val), ρ = [some (.sh (prp x)), some (.sh (pr P Q)), some (.ow L), some (.sh (.int i)), some (.sh (.int p)), some (.sh (.int q)), some (.sh (bst (nbL p q P Q j))), d7, d8], ⟨_, _, rfl⟩, ?_, ?_⟩
      · rintro j d ρ hj ⟨d7, d8, rfl⟩
        obtain ⟨hj, rfl⟩ := rI hj
        have ss : Sm 20 (1 + (j : Int)) := smI (by omega) (by omega)
        have hps := ps_small ci (n := j) (by dsimp only; omega)
        dsimp only at hps
        refine step_cons ?_
        simp only [pr, wpS, wpE, wpEs, wpPs, wpT, wpO, wpIfs, pk_var, pk_cst, pk_glc, pk_bin, pk_neg, pk_not, pk_cmp, pk_chain, pk_and, pk_or, pk_ife, pk_tup, pk_lst, pk_idx, pk_sl, pk_rev, pk_isi, pk_maxK, pk_call, pk_prim, pk_comp, rt_var, rt_cst, rt_glc, rt_bin, rt_neg, rt_not, rt_cmp, rt_chain, rt_and, rt_or, rt_ife, rt_tup, rt_lst, rt_idx, rt_sl, rt_rev, rt_isi, rt_maxK, rt_call, rt_prim, rt_comp, stD_var, stD_tup, tgD_var, tgD_tt, tgD_tl, tgsD_nil, tgsD_cons, bare, bareP, bares, barePs, bareO, give_nil, give_cons, gG_s, gG_n, giveV_sh, giveV_ow, data_eq, shr_eq, own_eq, gD_s, gS_s, gO_s, vd_sh, vd_ow, b_add, b_sub, b_mul, b_fdiv, b_mod, b_pow, b_addL, b_addT, b_mulL, x_t, x_l, s_l, s_t, p_lenT, p_lenL, p_abs, p_int, p_intb, p_listT, p_listL, p_tupT, p_tupL, p_gcd, p_min, p_max, p_sum, i_t, i_l, i_r1, i_r2, i_zt, i_zl, n_i, bo_b, in_i, tr_n, tr_b, tr_i, tr_t, tr_l, nn_n, nn_t, nn_l, nn_i, nn_b, isiD_eq, isD, au_a, au_s, wi_n, wi_c, cmpD_eq_int, cmpD_ne_int, cmpD_eq_bl, cmpD_ne_bl, cmpD_lt, cmpD_le, cmpD_gt, cmpD_ge, cmpD_is, cmpD_isnot, truQ_bl, atI_0, atI_1, atI_2, atI_3, fin0, List.nil_append, List.append_nil, List.cons_append, List.getElem?_cons_zero, List.getElem?_cons_succ, set_0, set_s, List.length_cons, List.length_nil, Option.some.injEq, Val.sh.injEq, Val.ow.injEq, D.int.injEq, D.tup.injEq, D.lst.injEq, D.bl.injEq, exists_eq_left', exists_eq_left, true_and, and_true, Nat.reduceAdd, Nat.reduceLeDiff, Nat.zero_add, if_true, if_false, Bool.false_eq_true, reduceCtorEq, decide_eq_true_eq, Bool.not_eq_true, ne_eq, not_false_eq_true, reduceIte, decide_true, decide_false, Bool.not_true, Bool.not_false, step_nil_eq]
        refine ⟨mulOk sp ss (by decide), by omega, ?_⟩
        rw [Int.fmod_eq_emod_of_nonneg _ (by omega)]
        by_cases c1 : (1 + p * (1 + (j : Int))) % q = 0
        · rw [if_pos c1]
          obtain ⟨r, hr⟩ : ∃ r, r * q = 1 + p * (1 + (j : Int)) := ⟨_, Int.ediv_mul_cancel (Int.dvd_of_emod_eq_zero c1)⟩
          have er : (1 + p * (1 + (j : Int))).fdiv q = r := by
            rw [Int.fdiv_eq_ediv_of_nonneg _ (by omega), ← hr, Int.mul_ediv_cancel _ (by omega)]
          have er2 : (1 + p * (1 + (j : Int))) / q = r := by rw [← hr, Int.mul_ediv_cancel _ (by omega)]
          have r0 : 0 ≤ r ∧ r ≤ 2000001 := by
            rw [← er2]
            exact ⟨Int.ediv_nonneg (by omega) (by omega), Int.le_trans (Int.ediv_le_self _ (by omega)) (by omega)⟩
          have sr : Sm 30 r := smJ (by omega) (by omega)
          refine step_cons ?_
          simp only [wpS, wpE, wpEs, wpPs, wpT, wpO, wpIfs, pk_var, pk_cst, pk_glc, pk_bin, pk_neg, pk_not, pk_cmp, pk_chain, pk_and, pk_or, pk_ife, pk_tup, pk_lst, pk_idx, pk_sl, pk_rev, pk_isi, pk_maxK, pk_call, pk_prim, pk_comp, rt_var, rt_cst, rt_glc, rt_bin, rt_neg, rt_not, rt_cmp, rt_chain, rt_and, rt_or, rt_ife, rt_tup, rt_lst, rt_idx, rt_sl, rt_rev, rt_isi, rt_maxK, rt_call, rt_prim, rt_comp, stD_var, stD_tup, tgD_var, tgD_tt, tgD_tl, tgsD_nil, tgsD_cons, bare, bareP, bares, barePs, bareO, give_nil, give_cons, gG_s, gG_n, giveV_sh, giveV_ow, data_eq, shr_eq, own_eq, gD_s, gS_s, gO_s, vd_sh, vd_ow, b_add, b_sub, b_mul, b_fdiv, b_mod, b_pow, b_addL, b_addT, b_mulL, x_t, x_l, s_l, s_t, p_lenT, p_lenL, p_abs, p_int, p_intb, p_listT, p_listL, p_tupT, p_tupL, p_gcd, p_min, p_max, p_sum, i_t, i_l, i_r1, i_r2, i_zt, i_zl, n_i, bo_b, in_i, tr_n, tr_b, tr_i, tr_t, tr_l, nn_n, nn_t, nn_l, nn_i, nn_b, isiD_eq, isD, au_a, au_s, wi_n, wi_c, cmpD_eq_int, cmpD_ne_int, cmpD_eq_bl, cmpD_ne_bl, cmpD_lt, cmpD_le, cmpD_gt, cmpD_ge, cmpD_is, cmpD_isnot, truQ_bl, atI_0, atI_1, atI_2, atI_3, fin0, List.nil_append, List.append_nil, List.cons_append, List.getElem?_cons_zero, List.getElem?_cons_succ, set_0, set_s, List.length_cons, List.length_nil, Option.some.injEq, Val.sh.injEq, Val.ow.injEq, D.int.injEq, D.tup.injEq, D.lst.injEq, D.bl.injEq, exists_eq_left', exists_eq_left, true_and, and_true, Nat.reduceAdd, Nat.reduceLeDiff, Nat.zero_add, if_true, if_false, Bool.false_eq_true, reduceCtorEq, decide_eq_true_eq, Bool.not_eq_true, ne_eq, not_false_eq_true, reduceIte, decide_true, decide_false, Bool.not_true, Bool.not_false, step_nil_eq]
          refine ⟨mulOk sp ss (by decide), divOk (by omega) sq (by decide), ?_⟩
          rw [er]
          refine step_cons ?_
          simp only [wpS, wpE, wpEs, wpPs, wpT, wpO, wpIfs, pk_var, pk_cst, pk_glc, pk_bin, pk_neg, pk_not, pk_cmp, pk_chain, pk_and, pk_or, pk_ife, pk_tup, pk_lst, pk_idx, pk_sl, pk_rev, pk_isi, pk_maxK, pk_call, pk_prim, pk_comp, rt_var, rt_cst, rt_glc, rt_bin, rt_neg, rt_not, rt_cmp, rt_chain, rt_and, rt_or, rt_ife, rt_tup, rt_lst, rt_idx, rt_sl, rt_rev, rt_isi, rt_maxK, rt_call, rt_prim, rt_comp, stD_var, stD_tup, tgD_var, tgD_tt, tgD_tl, tgsD_nil, tgsD_cons, bare, bareP, bares, barePs, bareO, give_nil, give_cons, gG_s, gG_n, giveV_sh, giveV_ow, data_eq, shr_eq, own_eq, gD_s, gS_s, gO_s, vd_sh, vd_ow, b_add, b_sub, b_mul, b_fdiv, b_mod, b_pow, b_addL, b_addT, b_mulL, x_t, x_l, s_l, s_t, p_lenT, p_lenL, p_abs, p_int, p_intb, p_listT, p_listL, p_tupT, p_tupL, p_gcd, p_min, p_max, p_sum, i_t, i_l, i_r1, i_r2, i_zt, i_zl, n_i, bo_b, in_i, tr_n, tr_b, tr_i, tr_t, tr_l, nn_n, nn_t, nn_l, nn_i, nn_b, isiD_eq, isD, au_a, au_s, wi_n, wi_c, cmpD_eq_int, cmpD_ne_int, cmpD_eq_bl, cmpD_ne_bl, cmpD_lt, cmpD_le, cmpD_gt, cmpD_ge, cmpD_is, cmpD_isnot, truQ_bl, atI_0, atI_1, atI_2, atI_3, fin0, List.nil_append, List.append_nil, List.cons_append, List.getElem?_cons_zero, List.getElem?_cons_succ, set_0, set_s, List.length_cons, List.length_nil, Option.some.injEq, Val.sh.injEq, Val.ow.injEq, D.int.injEq, D.tup.injEq, D.lst.injEq, D.bl.injEq, exists_eq_left', exists_eq_left, true_and, and_true, Nat.reduceAdd, Nat.reduceLeDiff, Nat.zero_add, if_true, if_false, Bool.false_eq_true, reduceCtorEq, decide_eq_true_eq, Bool.not_eq_true, ne_eq, not_false_eq_true, reduceIte, decide_true, decide_false, Bool.not_true, Bool.not_false, step_nil_eq]
          refine ⟨mulOk sr sQ (by decide), mulOk sP ss (by decide), ?_⟩
          have en : nbE p q j = (r, 1 + (j : Int)) := by unfold nbE; rw [er2]
          by_cases c2 : r * Q ≤ P * (1 + (j : Int))
          · rw [if_pos c2]
            have hg : good p q P Q j = true := by unfold good; rw [er2]; simp [c1, c2]
            cases hb : (nbL p q P Q j).head? with
            | none =>
              have e0 : nbL p q P Q j = [] := List.head?_eq_none_iff.mp hb
              rw [bst_nil e0]
              simp only [wpS, wpE, wpEs, wpPs, wpT, wpO, wpIfs, pk_var, pk_cst, pk_glc, pk_bin, pk_neg, pk_not, pk_cmp, pk_chain, pk_and, pk_or, pk_ife, pk_tup, pk_lst, pk_idx, pk_sl, pk_rev, pk_isi, pk_maxK, pk_call, pk_prim, pk_comp, rt_var, rt_cst, rt_glc, rt_bin, rt_neg, rt_not, rt_cmp, rt_chain, rt_and, rt_or, rt_ife, rt_tup, rt_lst, rt_idx, rt_sl, rt_rev, rt_isi, rt_maxK, rt_call, rt_prim, rt_comp, stD_var, stD_tup, tgD_var, tgD_tt, tgD_tl, tgsD_nil, tgsD_cons, bare, bareP, bares, barePs, bareO, give_nil, give_cons, gG_s, gG_n, giveV_sh, giveV_ow, data_eq, shr_eq, own_eq, gD_s, gS_s, gO_s, vd_sh, vd_ow, b_add, b_sub, b_mul, b_fdiv, b_mod, b_pow, b_addL, b_addT, b_mulL, x_t, x_l, s_l, s_t, p_lenT, p_lenL, p_abs, p_int, p_intb, p_listT, p_listL, p_tupT, p_tupL, p_gcd, p_min, p_max, p_sum, i_t, i_l, i_r1, i_r2, i_zt, i_zl, n_i, bo_b, in_i, tr_n, tr_b, tr_i, tr_t, tr_l, nn_n, nn_t, nn_l, nn_i, nn_b, isiD_eq, isD, au_a, au_s, wi_n, wi_c, cmpD_eq_int, cmpD_ne_int, cmpD_eq_bl, cmpD_ne_bl, cmpD_lt, cmpD_le, cmpD_gt, cmpD_ge, cmpD_is, cmpD_isnot, truQ_bl, atI_0, atI_1, atI_2, atI_3, fin0, List.nil_append, List.append_nil, List.cons_append, List.getElem?_cons_zero, List.getElem?_cons_succ, set_0, set_s, List.length_cons, List.length_nil, Option.some.injEq, Val.sh.injEq, Val.ow.injEq, D.int.injEq, D.tup.injEq, D.lst.injEq, D.bl.injEq, exists_eq_left', exists_eq_left, true_and, and_true, Nat.reduceAdd, Nat.reduceLeDiff, Nat.zero_add, if_true, if_false, Bool.false_eq_true, reduceCtorEq, decide_eq_true_eq, Bool.not_eq_true, ne_eq, not_false_eq_true, reduceIte, decide_true, decide_false, Bool.not_true, Bool.not_false, step_nil_eq]
              refine step_cons ?_
              simp only [wpS, wpE, wpEs, wpPs, wpT, wpO, wpIfs, pk_var, pk_cst, pk_glc, pk_bin, pk_neg, pk_not, pk_cmp, pk_chain, pk_and, pk_or, pk_ife, pk_tup, pk_lst, pk_idx, pk_sl, pk_rev, pk_isi, pk_maxK, pk_call, pk_prim, pk_comp, rt_var, rt_cst, rt_glc, rt_bin, rt_neg, rt_not, rt_cmp, rt_chain, rt_and, rt_or, rt_ife, rt_tup, rt_lst, rt_idx, rt_sl, rt_rev, rt_isi, rt_maxK, rt_call, rt_prim, rt_comp, stD_var, stD_tup, tgD_var, tgD_tt, tgD_tl, tgsD_nil, tgsD_cons, bare, bareP, bares, barePs, bareO, give_nil, give_cons, gG_s, gG_n, giveV_sh, giveV_ow, data_eq, shr_eq, own_eq, gD_s, gS_s, gO_s, vd_sh, vd_ow, b_add, b_sub, b_mul, b_fdiv, b_mod, b_pow, b_addL, b_addT, b_mulL, x_t, x_l, s_l, s_t, p_lenT, p_lenL, p_abs, p_int, p_intb, p_listT, p_listL, p_tupT, p_tupL, p_gcd, p_min, p_max, p_sum, i_t, i_l, i_r1, i_r2, i_zt, i_zl, n_i, bo_b, in_i, tr_n, tr_b, tr_i, tr_t, tr_l, nn_n, nn_t, nn_l, nn_i, nn_b, isiD_eq, isD, au_a, au_s, wi_n, wi_c, cmpD_eq_int, cmpD_ne_int, cmpD_eq_bl, cmpD_ne_bl, cmpD_lt, cmpD_le, cmpD_gt, cmpD_ge, cmpD_is, cmpD_isnot, truQ_bl, atI_0, atI_1, atI_2, atI_3, fin0, List.nil_append, List.append_nil, List.cons_append, List.getElem?_cons_zero, List.getElem?_cons_succ, set_0, set_s, List.length_cons, List.length_nil, Option.some.injEq, Val.sh.injEq, Val.ow.injEq, D.int.injEq, D.tup.injEq, D.lst.injEq, D.bl.injEq, exists_eq_left', exists_eq_left, true_and, and_true, Nat.reduceAdd, Nat.reduceLeDiff, Nat.zero_add, if_true, if_false, Bool.false_eq_true, reduceCtorEq, decide_eq_true_eq, Bool.not_eq_true, ne_eq, not_false_eq_true, reduceIte, decide_true, decide_false, Bool.not_true, Bool.not_false, step_nil_eq]
              rw [nbL_succ, if_pos hg, e0, en]
              exact ⟨_, _, rfl⟩
            | some w =>
              rw [bst_some hb]
              obtain ⟨m, m1, m2, ew, hgm⟩ := nb_all (x := (p, q)) (y := (P, Q)) f (List.mem_of_mem_head? hb)
              obtain ⟨e1, e2⟩ := nbE_good (x := (p, q)) (y := (P, Q)) q0 hgm
              dsimp only at e1 e2 ew
              rw [← ew] at e1 e2
              have hpm := ps_small ci (n := m) (by dsimp only; omega)
              dsimp only at hpm
              have cr := nb_cross q0 e1 hr (by omega)
              have w1 : w.1 = (1 + p * (1 + (m : Int))) / q := by rw [ew]; rfl
              have w0 : 0 ≤ w.1 ∧ w.1 ≤ 2000001 := by
                rw [w1]
                exact ⟨Int.ediv_nonneg (by omega) (by omega), Int.le_trans (Int.ediv_le_self _ (by omega)) (by omega)⟩
              simp only [prp, pr, wpS, wpE, wpEs, wpPs, wpT, wpO, wpIfs, pk_var, pk_cst, pk_glc, pk_bin, pk_neg, pk_not, pk_cmp, pk_chain, pk_and, pk_or, pk_ife, pk_tup, pk_lst, pk_idx, pk_sl, pk_rev, pk_isi, pk_maxK, pk_call, pk_prim, pk_comp, rt_var, rt_cst, rt_glc, rt_bin, rt_neg, rt_not, rt_cmp, rt_chain, rt_and, rt_or, rt_ife, rt_tup, rt_lst, rt_idx, rt_sl, rt_rev, rt_isi, rt_maxK, rt_call, rt_prim, rt_comp, stD_var, stD_tup, tgD_var, tgD_tt, tgD_tl, tgsD_nil, tgsD_cons, bare, bareP, bares, barePs, bareO, give_nil, give_cons, gG_s, gG_n, giveV_sh, giveV_ow, data_eq, shr_eq, own_eq, gD_s, gS_s, gO_s, vd_sh, vd_ow, b_add, b_sub, b_mul, b_fdiv, b_mod, b_pow, b_addL, b_addT, b_mulL, x_t, x_l, s_l, s_t, p_lenT, p_lenL, p_abs, p_int, p_intb, p_listT, p_listL, p_tupT, p_tupL, p_gcd, p_min, p_max, p_sum, i_t, i_l, i_r1, i_r2, i_zt, i_zl, n_i, bo_b, in_i, tr_n, tr_b, tr_i, tr_t, tr_l, nn_n, nn_t, nn_l, nn_i, nn_b, isiD_eq, isD, au_a, au_s, wi_n, wi_c, cmpD_eq_int, cmpD_ne_int, cmpD_eq_bl, cmpD_ne_bl, cmpD_lt, cmpD_le, cmpD_gt, cmpD_ge, cmpD_is, cmpD_isnot, truQ_bl, atI_0, atI_1, atI_2, atI_3, fin0, List.nil_append, List.append_nil, List.cons_append, List.getElem?_cons_zero, List.getElem?_cons_succ, set_0, set_s, List.length_cons, List.length_nil, Option.some.injEq, Val.sh.injEq, Val.ow.injEq, D.int.injEq, D.tup.injEq, D.lst.injEq, D.bl.injEq, exists_eq_left', exists_eq_left, true_and, and_true, Nat.reduceAdd, Nat.reduceLeDiff, Nat.zero_add, if_true, if_false, Bool.false_eq_true, reduceCtorEq, decide_eq_true_eq, Bool.not_eq_true, ne_eq, not_false_eq_true, reduceIte, decide_true, decide_false, Bool.not_true, Bool.not_false, step_nil_eq]
              refine ⟨mulOk sr (smJ (i := w.2) (by omega) (by omega)) (by decide), mulOk (smJ (i := w.1) (by omega) (by omega)) ss (by decide), ?_⟩
              rw [if_neg (by omega)]
              rw [bst_some (l := nbL p q P Q (j + 1)) (z := w) (by rw [nbL_succ, if_pos hg, List.head?_append, hb]; rfl)]
              exact ⟨_, _, rfl⟩
          · rw [if_neg c2]
            have hg : ¬ good p q P Q j = true := by unfold good; rw [er2]; simp [c2]
            rw [nbL_succ, if_neg hg]
            exact ⟨_, _, rfl⟩
        · rw [if_neg c1]
          have hg : ¬ good p q P Q j = true := by unfold good; simp [c1]
          rw [nbL_succ, if_neg hg]
          exact ⟨_, _, rfl⟩
      · rintro ρ ⟨d7, d8, rfl⟩
        rw [List.length_map, List.length_range, bst_some hh]
        refine step_cons ?_
        simp only [prp, pr, wpS, wpE, wpEs, wpPs, wpT, wpO, wpIfs, pk_var, pk_cst, pk_glc, pk_bin, pk_neg, pk_not, pk_cmp, pk_chain, pk_and, pk_or, pk_ife, pk_tup, pk_lst, pk_idx, pk_sl, pk_rev, pk_isi, pk_maxK, pk_call, pk_prim, pk_comp, rt_var, rt_cst, rt_glc, rt_bin, rt_neg, rt_not, rt_cmp, rt_chain, rt_and, rt_or, rt_ife, rt_tup, rt_lst, rt_idx, rt_sl, rt_rev, rt_isi, rt_maxK, rt_call, rt_prim, rt_comp, stD_var, stD_tup, tgD_var, tgD_tt, tgD_tl, tgsD_nil, tgsD_cons, bare, bareP, bares, barePs, bareO, give_nil, give_cons, gG_s, gG_n, giveV_sh, giveV_ow, data_eq, shr_eq, own_eq, gD_s, gS_s, gO_s, vd_sh, vd_ow, b_add, b_sub, b_mul, b_fdiv, b_mod, b_pow, b_addL, b_addT, b_mulL, x_t, x_l, s_l, s_t, p_lenT, p_lenL, p_abs, p_int, p_intb, p_listT, p_listL, p_tupT, p_tupL, p_gcd, p_min, p_max, p_sum, i_t, i_l, i_r1, i_r2, i_zt, i_zl, n_i, bo_b, in_i, tr_n, tr_b, tr_i, tr_t, tr_l, nn_n, nn_t, nn_l, nn_i, nn_b, isiD_eq, isD, au_a, au_s, wi_n, wi_c, cmpD_eq_int, cmpD_ne_int, cmpD_eq_bl, cmpD_ne_bl, cmpD_lt, cmpD_le, cmpD_gt, cmpD_ge, cmpD_is, cmpD_isnot, truQ_bl, atI_0, atI_1, atI_2, atI_3, fin0, List.nil_append, List.append_nil, List.cons_append, List.getElem?_cons_zero, List.getElem?_cons_succ, set_0, set_s, List.length_cons, List.length_nil, Option.some.injEq, Val.sh.injEq, Val.ow.injEq, D.int.injEq, D.tup.injEq, D.lst.injEq, D.bl.injEq, exists_eq_left', exists_eq_left, true_and, and_true, Nat.reduceAdd, Nat.reduceLeDiff, Nat.zero_add, if_true, if_false, Bool.false_eq_true, reduceCtorEq, decide_eq_true_eq, Bool.not_eq_true, ne_eq, not_false_eq_true, reduceIte, decide_true, decide_false, Bool.not_true, Bool.not_false, step_nil_eq]
        refine ⟨?_, ?_⟩
        · rw [← hL, List.length_map]
          omega
        · rw [chl, hz, if_neg e, List.map_append, hL]
          exact ⟨_, _, _, _, _, _, rfl⟩
  · rintro ρ ⟨d3, d4, d5, d6, d7, d8, rfl⟩
    refine step_cons ?_
    simp only [List.length_map, List.length_range, wpS, wpE, wpEs, wpPs, wpT, wpO, wpIfs, pk_var, pk_cst, pk_glc, pk_bin, pk_neg, pk_not, pk_cmp, pk_chain, pk_and, pk_or, pk_ife, pk_tup, pk_lst, pk_idx, pk_sl, pk_rev, pk_isi, pk_maxK, pk_call, pk_prim, pk_comp, rt_var, rt_cst, rt_glc, rt_bin, rt_neg, rt_not, rt_cmp, rt_chain, rt_and, rt_or, rt_ife, rt_tup, rt_lst, rt_idx, rt_sl, rt_rev, rt_isi, rt_maxK, rt_call, rt_prim, rt_comp, stD_var, stD_tup, tgD_var, tgD_tt, tgD_tl, tgsD_nil, tgsD_cons, bare, bareP, bares, barePs, bareO, give_nil, give_cons, gG_s, gG_n, giveV_sh, giveV_ow, data_eq, shr_eq, own_eq, gD_s, gS_s, gO_s, vd_sh, vd_ow, b_add, b_sub, b_mul, b_fdiv, b_mod, b_pow, b_addL, b_addT, b_mulL, x_t, x_l, s_l, s_t, p_lenT, p_lenL, p_abs, p_int, p_intb, p_listT, p_listL, p_tupT, p_tupL, p_gcd, p_min, p_max, p_sum, i_t, i_l, i_r1, i_r2, i_zt, i_zl, n_i, bo_b, in_i, tr_n, tr_b, tr_i, tr_t, tr_l, nn_n, nn_t, nn_l, nn_i, nn_b, isiD_eq, isD, au_a, au_s, wi_n, wi_c, cmpD_eq_int, cmpD_ne_int, cmpD_eq_bl, cmpD_ne_bl, cmpD_lt, cmpD_le, cmpD_gt, cmpD_ge, cmpD_is, cmpD_isnot, truQ_bl, atI_0, atI_1, atI_2, atI_3, fin0, List.nil_append, List.append_nil, List.cons_append, List.getElem?_cons_zero, List.getElem?_cons_succ, set_0, set_s, List.length_cons, List.length_nil, Option.some.injEq, Val.sh.injEq, Val.ow.injEq, D.int.injEq, D.tup.injEq, D.lst.injEq, D.bl.injEq, exists_eq_left', exists_eq_left, true_and, and_true, Nat.reduceAdd, Nat.reduceLeDiff, Nat.zero_add, if_true, if_false, Bool.false_eq_true, reduceCtorEq, decide_eq_true_eq, Bool.not_eq_true, ne_eq, not_false_eq_true, reduceIte, decide_true, decide_false, Bool.not_true, Bool.not_false, step_nil_eq]
    have : chl x y 2000 = chl x y 700 := (itx_stay (itx_end I) 1300).2
    have e2000 : (2000 : Int).toNat = 2000 := rfl
    rw [e2000, this]
    exact k
end Lw
set_option maxHeartbeats 8000000
namespace Lw
open Gx
variable {Γ : Nat → Con} {G : Nat → D}
/-- the defs' contracts -/
def Γt (j : Nat) : Con :=
  match j with
  | 0 => conLow | 1 => conWorth | 2 => conFord | 3 => conTouch | 4 => conBetween | 5 => conNei | 6 => conChain | 7 => conDraw | 8 => conPick
  | 9 => conEq 1 | 10 => conEq 2 | 11 => conEq 3 | 12 => conEq 4 | 13 => conEq 5 | 14 => conLow | 15 => conAdd | 16 => conTimes | 17 => conLess | 18 => conDrawn
  | 19 => conCirc | 20 => conApart | 21 => conBack | 22 => conChain | _ => fun _ _ => False
theorem g2 : Γt 2 = conFord := rfl
theorem g3 : Γt 3 = conTouch := rfl
theorem g4 : Γt 4 = conBetween := rfl
theorem g6 : Γt 6 = conChain := rfl
theorem g7 : Γt 7 = conDraw := rfl
theorem g8 : Γt 8 = conPick := rfl
theorem g13 : Γt 13 = conEq 5 := rfl
theorem g14 : Γt 14 = conLow := rfl
theorem g17 : Γt 17 = conLess := rfl
theorem g18 : Γt 18 = conDrawn := rfl
theorem g19 : Γt 19 = conCirc := rfl
theorem g20 : Γt 20 = conApart := rfl
theorem g21 : Γt 21 = conBack := rfl
theorem g22 : Γt 22 = conChain := rfl
/-! ### the law's mathematics -/
/-- a fraction as the law draws them -/
structure Fq (B p q : Int) : Prop where
  q0 : 0 < q
  q1 : q ≤ B
  p0 : -B ≤ p
  p1 : p ≤ B
  g : Int.gcd p q = 1
theorem Fq.sm {p q : Int} (h : Fq 1000000 p q) : Sm 24 p ∧ Sm 24 q := by
  have := h.q0; have := h.q1; have := h.p0; have := h.p1
  constructor <;> (unfold Sm; omega)
theorem Fq.ne {A B p q r s : Int} (h : Fq A p q) (h2 : Fq B r s) (e : p * s = r * q) : p = r ∧ q = s := by
  have q0 := h.q0
  have s0 := h2.q0
  have d1 : q ∣ s := dvd_cop (b := p) ⟨r, by rw [e, Int.mul_comm]⟩ (by rw [Int.gcd_comm]; exact h.g)
  have d2 : s ∣ q := dvd_cop (b := r) ⟨p, by rw [← e, Int.mul_comm]⟩ (by rw [Int.gcd_comm]; exact h2.g)
  have : q = s := Int.le_antisymm (Int.le_of_dvd s0 d1) (Int.le_of_dvd q0 d2)
  subst this
  exact ⟨Int.eq_of_mul_eq_mul_right (by omega) e, rfl⟩
theorem sq_ge {t : Int} (h : t ≠ 0) : 0 ≤ t * t - 1 := by
  rcases Int.lt_or_gt_of_ne h with h | h
  · have := Int.mul_le_mul_of_nonneg_left (show 1 ≤ -t by omega) (show 0 ≤ -t by omega)
    rw [Int.neg_mul_neg] at this
    omega
  · have := Int.mul_le_mul_of_nonneg_left (show 1 ≤ t by omega) (show 0 ≤ t by omega)
    omega
theorem sq_one {t : Int} : t * t - 1 = 0 ↔ t = 1 ∨ t = -1 := by
  constructor
  · intro h
    have : (t - 1) * (t + 1) = 0 := by grind
    rcases Int.mul_eq_zero.mp this with h | h <;> omega
  · rintro (rfl | rfl) <;> rfl
/-- the gap's sign -/
theorem gap {g : Rat} {m t : Int} (hm : 0 < m) (h : g * (m : Rat) = (t : Rat)) (ht : 0 ≤ t) : 0 ≤ g.num ∧ (g.num = 0 ↔ t = 0) := by
  have m0 := ratpos hm
  have mp : (0 : Rat) < (m : Rat) := Rat.intCast_pos.mpr hm
  constructor
  · rw [Rat.num_nonneg]
    rcases Rat.le_total (a := 0) (b := g) with h1 | h1
    · exact h1
    · by_cases e : g = 0
      · rw [e]; exact Rat.le_refl
      · exfalso
        have h2 : g < 0 := Rat.lt_of_le_of_ne h1 e
        have h3 : g * (m : Rat) < 0 := by
          rw [Rat.mul_neg_iff_of_pos_right mp]; exact h2
        rw [h] at h3
        have h4 := Rat.intCast_nonneg.mpr ht
        exact absurd (Rat.not_lt.mpr h4) (by simpa using h3)
  · rw [rat_eq0]
    constructor
    · intro e; rw [e, Rat.zero_mul] at h
      have : ((0 : Int) : Rat) = (t : Rat) := h
      exact (Rat.intCast_inj.mp this).symm
    · intro e; rw [e] at h
      rcases Rat.mul_eq_zero.mp h with h | h
      · exact h
      · exact absurd h m0
theorem ok_circ (n : Nat) (p q : Int) : OkE (n + 4) (circ p q) := by
  simp [circ, pr, OkE]
end Lw
set_option maxHeartbeats 8000000
namespace Lw
open Gx
variable {G : Nat → D}
/-! ### two circles: touching, between -/
abbrev sTouch : CS := CS.fr (CT.var 11) IK.seq [CE.tup [CE.var 6, CE.var 10]]
          [CS.ife ((CE.cmp CO.isnot (CE.var 11) (CE.cst D.non)).and (CE.cmp CO.ne (CE.var 11) (CE.var 5)))
              [CS.asg (CT.var 16) (CE.call 20 [CE.var 5, CE.var 11]),
                CS.asg (CT.var 17)
                  (CE.cmp CO.eq ((CE.var 16).idx (CE.cst (D.int 0))) (CE.cst (D.int 0))),
                CS.ife
                  ((CE.cmp CO.lt ((CE.var 16).idx (CE.cst (D.int 0))) (CE.cst (D.int 0))).or
                    (CE.call 13
                        [CE.lst [CE.call 3 [CE.var 5, CE.var 11], CE.call 3 [CE.var 11, CE.var 5]],
                          CE.bin BO.mul (CE.lst [CE.var 17]) (CE.cst (D.int 2))]).not)
                  [CS.ret (CE.cst (D.bl false))] [],
                CS.ife (CE.var 17)
                  [CS.asg (CT.tup [CT.var 12, CT.var 13])
                      ((CE.call 17 [CE.var 5, CE.var 11]).ife (CE.tup [CE.var 5, CE.var 11])
                        (CE.tup [CE.var 11, CE.var 5])),
                    CS.asg (CT.var 19) (CE.call 4 [CE.var 12, CE.var 13]),
                    CS.asg (CT.var 20)
                      (CE.call 14
                        [CE.bin BO.add ((CE.var 5).idx (CE.cst (D.int 0)))
                            ((CE.var 11).idx (CE.cst (D.int 0))),
                          CE.bin BO.add ((CE.var 5).idx (CE.cst (D.int 1)))
                            ((CE.var 11).idx (CE.cst (D.int 1)))]),
                    CS.ife
                      ((CE.call 13 [CE.prim PK.tuple [CE.var 19], CE.var 20]).not.or
                        ((CE.cmp CO.ne ((CE.call 20 [CE.var 20, CE.var 5]).idx (CE.cst (D.int 0)))
                              (CE.cst (D.int 0))).or
                          ((CE.cmp CO.ne ((CE.call 20 [CE.var 20, CE.var 11]).idx (CE.cst (D.int 0)))
                                (CE.cst (D.int 0))).or
                            ((CE.call 17 [CE.var 12, CE.var 20]).not.or (CE.call 17 [CE.var 20, CE.var 13]).not))))
                      [CS.ret (CE.cst (D.bl false))] []]
                  []]
              []]
/-- nothing, or a fraction -/
def Smt (d : D) : Prop := d = .non ∨ ∃ r s, d = pr r s ∧ Fq 1000000 r s
theorem s_touch {p q : Int} (hp : Fq 1000000 p q) {d6' d10' : D} (h6 : Smt d6') (h10 : Smt d10') {k : Gx.Fin} (kn : ∀ (d2 d3 d4 d5 d6 d7 d8 d9 d10 d11 d12 d13 d14 d15 d16 d17 d18 d19 d20 d21 : Option Val), k.nx [none, some (.sh (.hd 0)), d2, d3, d4, d5, d6, d7, d8, d9, d10, d11, d12, d13, d14, d15, d16, d17, d18, d19, d20, d21])
    (d2 d3 d4 d7 d8 d9 d11 d12 d13 d14 d15 d16 d17 d18 d19 d20 d21 : Option Val) : wpS Γt G sTouch k [none, some (.sh (.hd 0)), d2, d3, d4, some (.sh (pr p q)), some (.sh d6'), d7, d8, d9, some (.sh d10'), d11, d12, d13, d14, d15, d16, d17, d18, d19, d20, d21] := by
  simp only [wpS, wpE, wpEs, wpPs, wpT, wpO, wpIfs, pk_var, pk_cst, pk_glc, pk_bin, pk_neg, pk_not, pk_cmp, pk_chain, pk_and, pk_or, pk_ife, pk_tup, pk_lst, pk_idx, pk_sl, pk_rev, pk_isi, pk_maxK, pk_call, pk_prim, pk_comp, rt_var, rt_cst, rt_glc, rt_bin, rt_neg, rt_not, rt_cmp, rt_chain, rt_and, rt_or, rt_ife, rt_tup, rt_lst, rt_idx, rt_sl, rt_rev, rt_isi, rt_maxK, rt_call, rt_prim, rt_comp, stD_var, stD_tup, tgD_var, tgD_tt, tgD_tl, tgsD_nil, tgsD_cons, bare, bareP, bares, barePs, bareO, give_nil, give_cons, gG_s, gG_n, giveV_sh, giveV_ow, data_eq, shr_eq, own_eq, gD_s, gS_s, gO_s, vd_sh, vd_ow, b_add, b_sub, b_mul, b_fdiv, b_mod, b_pow, b_addL, b_addT, b_mulL, x_t, x_l, s_l, s_t, p_lenT, p_lenL, p_abs, p_int, p_intb, p_listT, p_listL, p_tupT, p_tupL, p_gcd, p_min, p_max, p_sum, i_t, i_l, i_r1, i_r2, i_zt, i_zl, n_i, bo_b, in_i, tr_n, tr_b, tr_i, tr_t, tr_l, nn_n, nn_t, nn_l, nn_i, nn_b, isiD_eq, isD, au_a, au_s, wi_n, wi_c, cmpD_eq_int, cmpD_ne_int, cmpD_eq_bl, cmpD_ne_bl, cmpD_lt, cmpD_le, cmpD_gt, cmpD_ge, cmpD_is, cmpD_isnot, truQ_bl, atI_0, atI_1, atI_2, atI_3, fin0, List.nil_append, List.append_nil, List.cons_append, List.getElem?_cons_zero, List.getElem?_cons_succ, set_0, set_s, List.length_cons, List.length_nil, Option.some.injEq, Val.sh.injEq, Val.ow.injEq, D.int.injEq, D.tup.injEq, D.lst.injEq, D.bl.injEq, exists_eq_left', exists_eq_left, true_and, and_true, Nat.reduceAdd, Nat.reduceLeDiff, Nat.zero_add, if_true, if_false, Bool.false_eq_true, reduceCtorEq, decide_eq_true_eq, Bool.not_eq_true, ne_eq, not_false_eq_true, reduceIte, decide_true, decide_false, Bool.not_true, Bool.not_false, step_nil_eq]
  refine ⟨fun i ρ => ∃ (d2 d3 d4 d6 d7 d8 d9 d10 d11 d12 d13 d14 d15 d16 d17 d18 d19 d20 d21 : Option Val), ρ = [none, some (.sh (.hd 0)), d2, d3, d4, some (.sh (pr p q)), d6, d7, d8, d9, d10, d11, d12, d13, d14, d15, d16, d17, d18, d19, d20, d21], ⟨_, _, _, _, _, _, _, _, _, _, _, _, _, _, _, _, _, _, _, rfl⟩, ?_, ?_⟩
  · rintro i d ρ hi ⟨d2, d3, d4, d6, d7, d8, d9, d10, d11, d12, d13, d14, d15, d16, d17, d18, d19, d20, d21, rfl⟩
    have hd : Smt d := by
      rcases i with _ | _ | i
      · cases hi; exact h6
      · cases hi; exact h10
      · simp at hi
    simp only [wpS, wpE, wpEs, wpPs, wpT, wpO, wpIfs, pk_var, pk_cst, pk_glc, pk_bin, pk_neg, pk_not, pk_cmp, pk_chain, pk_and, pk_or, pk_ife, pk_tup, pk_lst, pk_idx, pk_sl, pk_rev, pk_isi, pk_maxK, pk_call, pk_prim, pk_comp, rt_var, rt_cst, rt_glc, rt_bin, rt_neg, rt_not, rt_cmp, rt_chain, rt_and, rt_or, rt_ife, rt_tup, rt_lst, rt_idx, rt_sl, rt_rev, rt_isi, rt_maxK, rt_call, rt_prim, rt_comp, stD_var, stD_tup, tgD_var, tgD_tt, tgD_tl, tgsD_nil, tgsD_cons, bare, bareP, bares, barePs, bareO, give_nil, give_cons, gG_s, gG_n, giveV_sh, giveV_ow, data_eq, shr_eq, own_eq, gD_s, gS_s, gO_s, vd_sh, vd_ow, b_add, b_sub, b_mul, b_fdiv, b_mod, b_pow, b_addL, b_addT, b_mulL, x_t, x_l, s_l, s_t, p_lenT, p_lenL, p_abs, p_int, p_intb, p_listT, p_listL, p_tupT, p_tupL, p_gcd, p_min, p_max, p_sum, i_t, i_l, i_r1, i_r2, i_zt, i_zl, n_i, bo_b, in_i, tr_n, tr_b, tr_i, tr_t, tr_l, nn_n, nn_t, nn_l, nn_i, nn_b, isiD_eq, isD, au_a, au_s, wi_n, wi_c, cmpD_eq_int, cmpD_ne_int, cmpD_eq_bl, cmpD_ne_bl, cmpD_lt, cmpD_le, cmpD_gt, cmpD_ge, cmpD_is, cmpD_isnot, truQ_bl, atI_0, atI_1, atI_2, atI_3, fin0, List.nil_append, List.append_nil, List.cons_append, List.getElem?_cons_zero, List.getElem?_cons_succ, set_0, set_s, List.length_cons, List.length_nil, Option.some.injEq, Val.sh.injEq, Val.ow.injEq, D.int.injEq, D.tup.injEq, D.lst.injEq, D.bl.injEq, exists_eq_left', exists_eq_left, true_and, and_true, Nat.reduceAdd, Nat.reduceLeDiff, Nat.zero_add, if_true, if_false, Bool.false_eq_true, reduceCtorEq, decide_eq_true_eq, Bool.not_eq_true, ne_eq, not_false_eq_true, reduceIte, decide_true, decide_false, Bool.not_true, Bool.not_false, step_nil_eq]
    refine step_cons ?_
    rcases hd with rfl | ⟨r, s, rfl, hr⟩
    · simp only [wpS, wpE, wpEs, wpPs, wpT, wpO, wpIfs, pk_var, pk_cst, pk_glc, pk_bin, pk_neg, pk_not, pk_cmp, pk_chain, pk_and, pk_or, pk_ife, pk_tup, pk_lst, pk_idx, pk_sl, pk_rev, pk_isi, pk_maxK, pk_call, pk_prim, pk_comp, rt_var, rt_cst, rt_glc, rt_bin, rt_neg, rt_not, rt_cmp, rt_chain, rt_and, rt_or, rt_ife, rt_tup, rt_lst, rt_idx, rt_sl, rt_rev, rt_isi, rt_maxK, rt_call, rt_prim, rt_comp, stD_var, stD_tup, tgD_var, tgD_tt, tgD_tl, tgsD_nil, tgsD_cons, bare, bareP, bares, barePs, bareO, give_nil, give_cons, gG_s, gG_n, giveV_sh, giveV_ow, data_eq, shr_eq, own_eq, gD_s, gS_s, gO_s, vd_sh, vd_ow, b_add, b_sub, b_mul, b_fdiv, b_mod, b_pow, b_addL, b_addT, b_mulL, x_t, x_l, s_l, s_t, p_lenT, p_lenL, p_abs, p_int, p_intb, p_listT, p_listL, p_tupT, p_tupL, p_gcd, p_min, p_max, p_sum, i_t, i_l, i_r1, i_r2, i_zt, i_zl, n_i, bo_b, in_i, tr_n, tr_b, tr_i, tr_t, tr_l, nn_n, nn_t, nn_l, nn_i, nn_b, isiD_eq, isD, au_a, au_s, wi_n, wi_c, cmpD_eq_int, cmpD_ne_int, cmpD_eq_bl, cmpD_ne_bl, cmpD_lt, cmpD_le, cmpD_gt, cmpD_ge, cmpD_is, cmpD_isnot, truQ_bl, atI_0, atI_1, atI_2, atI_3, fin0, List.nil_append, List.append_nil, List.cons_append, List.getElem?_cons_zero, List.getElem?_cons_succ, set_0, set_s, List.length_cons, List.length_nil, Option.some.injEq, Val.sh.injEq, Val.ow.injEq, D.int.injEq, D.tup.injEq, D.lst.injEq, D.bl.injEq, exists_eq_left', exists_eq_left, true_and, and_true, Nat.reduceAdd, Nat.reduceLeDiff, Nat.zero_add, if_true, if_false, Bool.false_eq_true, reduceCtorEq, decide_eq_true_eq, Bool.not_eq_true, ne_eq, not_false_eq_true, reduceIte, decide_true, decide_false, Bool.not_true, Bool.not_false, step_nil_eq]
      exact ⟨_, _, _, _, _, _, _, _, _, _, _, _, _, _, _, _, _, _, _, rfl⟩
    · simp only [pr, wpS, wpE, wpEs, wpPs, wpT, wpO, wpIfs, pk_var, pk_cst, pk_glc, pk_bin, pk_neg, pk_not, pk_cmp, pk_chain, pk_and, pk_or, pk_ife, pk_tup, pk_lst, pk_idx, pk_sl, pk_rev, pk_isi, pk_maxK, pk_call, pk_prim, pk_comp, rt_var, rt_cst, rt_glc, rt_bin, rt_neg, rt_not, rt_cmp, rt_chain, rt_and, rt_or, rt_ife, rt_tup, rt_lst, rt_idx, rt_sl, rt_rev, rt_isi, rt_maxK, rt_call, rt_prim, rt_comp, stD_var, stD_tup, tgD_var, tgD_tt, tgD_tl, tgsD_nil, tgsD_cons, bare, bareP, bares, barePs, bareO, give_nil, give_cons, gG_s, gG_n, giveV_sh, giveV_ow, data_eq, shr_eq, own_eq, gD_s, gS_s, gO_s, vd_sh, vd_ow, b_add, b_sub, b_mul, b_fdiv, b_mod, b_pow, b_addL, b_addT, b_mulL, x_t, x_l, s_l, s_t, p_lenT, p_lenL, p_abs, p_int, p_intb, p_listT, p_listL, p_tupT, p_tupL, p_gcd, p_min, p_max, p_sum, i_t, i_l, i_r1, i_r2, i_zt, i_zl, n_i, bo_b, in_i, tr_n, tr_b, tr_i, tr_t, tr_l, nn_n, nn_t, nn_l, nn_i, nn_b, isiD_eq, isD, au_a, au_s, wi_n, wi_c, cmpD_eq_int, cmpD_ne_int, cmpD_eq_bl, cmpD_ne_bl, cmpD_lt, cmpD_le, cmpD_gt, cmpD_ge, cmpD_is, cmpD_isnot, truQ_bl, atI_0, atI_1, atI_2, atI_3, fin0, List.nil_append, List.append_nil, List.cons_append, List.getElem?_cons_zero, List.getElem?_cons_succ, set_0, set_s, List.length_cons, List.length_nil, Option.some.injEq, Val.sh.injEq, Val.ow.injEq, D.int.injEq, D.tup.injEq, D.lst.injEq, D.bl.injEq, exists_eq_left', exists_eq_left, true_and, and_true, Nat.reduceAdd, Nat.reduceLeDiff, Nat.zero_add, if_true, if_false, Bool.false_eq_true, reduceCtorEq, decide_eq_true_eq, Bool.not_eq_true, ne_eq, not_false_eq_true, reduceIte, decide_true, decide_false, Bool.not_true, Bool.not_false, step_nil_eq]
      refine cmp_neI (n := 1) (m := 1) (by simp [okI, okIs]) (by simp [okI, okIs]) (k := fun b hb => ?_)
      by_cases e : r = p ∧ s = q
      · obtain ⟨rfl, rfl⟩ := e
        have : b = false := by
          cases b
          · rfl
          · exact absurd rfl (hb.mp rfl)
        subst this
        simp only [wpS, wpE, wpEs, wpPs, wpT, wpO, wpIfs, pk_var, pk_cst, pk_glc, pk_bin, pk_neg, pk_not, pk_cmp, pk_chain, pk_and, pk_or, pk_ife, pk_tup, pk_lst, pk_idx, pk_sl, pk_rev, pk_isi, pk_maxK, pk_call, pk_prim, pk_comp, rt_var, rt_cst, rt_glc, rt_bin, rt_neg, rt_not, rt_cmp, rt_chain, rt_and, rt_or, rt_ife, rt_tup, rt_lst, rt_idx, rt_sl, rt_rev, rt_isi, rt_maxK, rt_call, rt_prim, rt_comp, stD_var, stD_tup, tgD_var, tgD_tt, tgD_tl, tgsD_nil, tgsD_cons, bare, bareP, bares, barePs, bareO, give_nil, give_cons, gG_s, gG_n, giveV_sh, giveV_ow, data_eq, shr_eq, own_eq, gD_s, gS_s, gO_s, vd_sh, vd_ow, b_add, b_sub, b_mul, b_fdiv, b_mod, b_pow, b_addL, b_addT, b_mulL, x_t, x_l, s_l, s_t, p_lenT, p_lenL, p_abs, p_int, p_intb, p_listT, p_listL, p_tupT, p_tupL, p_gcd, p_min, p_max, p_sum, i_t, i_l, i_r1, i_r2, i_zt, i_zl, n_i, bo_b, in_i, tr_n, tr_b, tr_i, tr_t, tr_l, nn_n, nn_t, nn_l, nn_i, nn_b, isiD_eq, isD, au_a, au_s, wi_n, wi_c, cmpD_eq_int, cmpD_ne_int, cmpD_eq_bl, cmpD_ne_bl, cmpD_lt, cmpD_le, cmpD_gt, cmpD_ge, cmpD_is, cmpD_isnot, truQ_bl, atI_0, atI_1, atI_2, atI_3, fin0, List.nil_append, List.append_nil, List.cons_append, List.getElem?_cons_zero, List.getElem?_cons_succ, set_0, set_s, List.length_cons, List.length_nil, Option.some.injEq, Val.sh.injEq, Val.ow.injEq, D.int.injEq, D.tup.injEq, D.lst.injEq, D.bl.injEq, exists_eq_left', exists_eq_left, true_and, and_true, Nat.reduceAdd, Nat.reduceLeDiff, Nat.zero_add, if_true, if_false, Bool.false_eq_true, reduceCtorEq, decide_eq_true_eq, Bool.not_eq_true, ne_eq, not_false_eq_true, reduceIte, decide_true, decide_false, Bool.not_true, Bool.not_false, step_nil_eq]
        exact ⟨_, _, _, _, _, _, _, _, _, _, _, _, _, _, _, _, _, _, _, rfl⟩
      · have : b = true := hb.mpr fun z => e (by simpa using z)
        subst this
        simp only [wpS, wpE, wpEs, wpPs, wpT, wpO, wpIfs, pk_var, pk_cst, pk_glc, pk_bin, pk_neg, pk_not, pk_cmp, pk_chain, pk_and, pk_or, pk_ife, pk_tup, pk_lst, pk_idx, pk_sl, pk_rev, pk_isi, pk_maxK, pk_call, pk_prim, pk_comp, rt_var, rt_cst, rt_glc, rt_bin, rt_neg, rt_not, rt_cmp, rt_chain, rt_and, rt_or, rt_ife, rt_tup, rt_lst, rt_idx, rt_sl, rt_rev, rt_isi, rt_maxK, rt_call, rt_prim, rt_comp, stD_var, stD_tup, tgD_var, tgD_tt, tgD_tl, tgsD_nil, tgsD_cons, bare, bareP, bares, barePs, bareO, give_nil, give_cons, gG_s, gG_n, giveV_sh, giveV_ow, data_eq, shr_eq, own_eq, gD_s, gS_s, gO_s, vd_sh, vd_ow, b_add, b_sub, b_mul, b_fdiv, b_mod, b_pow, b_addL, b_addT, b_mulL, x_t, x_l, s_l, s_t, p_lenT, p_lenL, p_abs, p_int, p_intb, p_listT, p_listL, p_tupT, p_tupL, p_gcd, p_min, p_max, p_sum, i_t, i_l, i_r1, i_r2, i_zt, i_zl, n_i, bo_b, in_i, tr_n, tr_b, tr_i, tr_t, tr_l, nn_n, nn_t, nn_l, nn_i, nn_b, isiD_eq, isD, au_a, au_s, wi_n, wi_c, cmpD_eq_int, cmpD_ne_int, cmpD_eq_bl, cmpD_ne_bl, cmpD_lt, cmpD_le, cmpD_gt, cmpD_ge, cmpD_is, cmpD_isnot, truQ_bl, atI_0, atI_1, atI_2, atI_3, fin0, List.nil_append, List.append_nil, List.cons_append, List.getElem?_cons_zero, List.getElem?_cons_succ, set_0, set_s, List.length_cons, List.length_nil, Option.some.injEq, Val.sh.injEq, Val.ow.injEq, D.int.injEq, D.tup.injEq, D.lst.injEq, D.bl.injEq, exists_eq_left', exists_eq_left, true_and, and_true, Nat.reduceAdd, Nat.reduceLeDiff, Nat.zero_add, if_true, if_false, Bool.false_eq_true, reduceCtorEq, decide_eq_true_eq, Bool.not_eq_true, ne_eq, not_false_eq_true, reduceIte, decide_true, decide_false, Bool.not_true, Bool.not_false, step_nil_eq]
        have t0 : p * s - r * q ≠ 0 := fun z => by
          obtain ⟨a, b⟩ := Fq.ne hp hr (by omega)
          exact e ⟨a.symm, b.symm⟩
        obtain ⟨sp, sq⟩ := hp.sm
        obtain ⟨sr, ss⟩ := hr.sm
        refine step_cons ?_
        simp only [g20, wpS, wpE, wpEs, wpPs, wpT, wpO, wpIfs, pk_var, pk_cst, pk_glc, pk_bin, pk_neg, pk_not, pk_cmp, pk_chain, pk_and, pk_or, pk_ife, pk_tup, pk_lst, pk_idx, pk_sl, pk_rev, pk_isi, pk_maxK, pk_call, pk_prim, pk_comp, rt_var, rt_cst, rt_glc, rt_bin, rt_neg, rt_not, rt_cmp, rt_chain, rt_and, rt_or, rt_ife, rt_tup, rt_lst, rt_idx, rt_sl, rt_rev, rt_isi, rt_maxK, rt_call, rt_prim, rt_comp, stD_var, stD_tup, tgD_var, tgD_tt, tgD_tl, tgsD_nil, tgsD_cons, bare, bareP, bares, barePs, bareO, give_nil, give_cons, gG_s, gG_n, giveV_sh, giveV_ow, data_eq, shr_eq, own_eq, gD_s, gS_s, gO_s, vd_sh, vd_ow, b_add, b_sub, b_mul, b_fdiv, b_mod, b_pow, b_addL, b_addT, b_mulL, x_t, x_l, s_l, s_t, p_lenT, p_lenL, p_abs, p_int, p_intb, p_listT, p_listL, p_tupT, p_tupL, p_gcd, p_min, p_max, p_sum, i_t, i_l, i_r1, i_r2, i_zt, i_zl, n_i, bo_b, in_i, tr_n, tr_b, tr_i, tr_t, tr_l, nn_n, nn_t, nn_l, nn_i, nn_b, isiD_eq, isD, au_a, au_s, wi_n, wi_c, cmpD_eq_int, cmpD_ne_int, cmpD_eq_bl, cmpD_ne_bl, cmpD_lt, cmpD_le, cmpD_gt, cmpD_ge, cmpD_is, cmpD_isnot, truQ_bl, atI_0, atI_1, atI_2, atI_3, fin0, List.nil_append, List.append_nil, List.cons_append, List.getElem?_cons_zero, List.getElem?_cons_succ, set_0, set_s, List.length_cons, List.length_nil, Option.some.injEq, Val.sh.injEq, Val.ow.injEq, D.int.injEq, D.tup.injEq, D.lst.injEq, D.bl.injEq, exists_eq_left', exists_eq_left, true_and, and_true, Nat.reduceAdd, Nat.reduceLeDiff, Nat.zero_add, if_true, if_false, Bool.false_eq_true, reduceCtorEq, decide_eq_true_eq, Bool.not_eq_true, ne_eq, not_false_eq_true, reduceIte, decide_true, decide_false, Bool.not_true, Bool.not_false, step_nil_eq]
        refine ⟨p, q, r, s, rfl, hp.q0, hr.q0, sp, sq, sr, ss, fun g hg => ?_⟩
        obtain ⟨gn, ge⟩ := gap (Int.mul_pos (Int.mul_pos hp.q0 hp.q0) (Int.mul_pos hr.q0 hr.q0)) hg (sq_ge t0)
        rw [sq_one] at ge
        refine step_cons ?_
        simp only [frD_pr, pr, wpS, wpE, wpEs, wpPs, wpT, wpO, wpIfs, pk_var, pk_cst, pk_glc, pk_bin, pk_neg, pk_not, pk_cmp, pk_chain, pk_and, pk_or, pk_ife, pk_tup, pk_lst, pk_idx, pk_sl, pk_rev, pk_isi, pk_maxK, pk_call, pk_prim, pk_comp, rt_var, rt_cst, rt_glc, rt_bin, rt_neg, rt_not, rt_cmp, rt_chain, rt_and, rt_or, rt_ife, rt_tup, rt_lst, rt_idx, rt_sl, rt_rev, rt_isi, rt_maxK, rt_call, rt_prim, rt_comp, stD_var, stD_tup, tgD_var, tgD_tt, tgD_tl, tgsD_nil, tgsD_cons, bare, bareP, bares, barePs, bareO, give_nil, give_cons, gG_s, gG_n, giveV_sh, giveV_ow, data_eq, shr_eq, own_eq, gD_s, gS_s, gO_s, vd_sh, vd_ow, b_add, b_sub, b_mul, b_fdiv, b_mod, b_pow, b_addL, b_addT, b_mulL, x_t, x_l, s_l, s_t, p_lenT, p_lenL, p_abs, p_int, p_intb, p_listT, p_listL, p_tupT, p_tupL, p_gcd, p_min, p_max, p_sum, i_t, i_l, i_r1, i_r2, i_zt, i_zl, n_i, bo_b, in_i, tr_n, tr_b, tr_i, tr_t, tr_l, nn_n, nn_t, nn_l, nn_i, nn_b, isiD_eq, isD, au_a, au_s, wi_n, wi_c, cmpD_eq_int, cmpD_ne_int, cmpD_eq_bl, cmpD_ne_bl, cmpD_lt, cmpD_le, cmpD_gt, cmpD_ge, cmpD_is, cmpD_isnot, truQ_bl, atI_0, atI_1, atI_2, atI_3, fin0, List.nil_append, List.append_nil, List.cons_append, List.getElem?_cons_zero, List.getElem?_cons_succ, set_0, set_s, List.length_cons, List.length_nil, Option.some.injEq, Val.sh.injEq, Val.ow.injEq, D.int.injEq, D.tup.injEq, D.lst.injEq, D.bl.injEq, exists_eq_left', exists_eq_left, true_and, and_true, Nat.reduceAdd, Nat.reduceLeDiff, Nat.zero_add, if_true, if_false, Bool.false_eq_true, reduceCtorEq, decide_eq_true_eq, Bool.not_eq_true, ne_eq, not_false_eq_true, reduceIte, decide_true, decide_false, Bool.not_true, Bool.not_false, step_nil_eq]
        refine step_cons ?_
        simp only [g13, g3, wpS, wpE, wpEs, wpPs, wpT, wpO, wpIfs, pk_var, pk_cst, pk_glc, pk_bin, pk_neg, pk_not, pk_cmp, pk_chain, pk_and, pk_or, pk_ife, pk_tup, pk_lst, pk_idx, pk_sl, pk_rev, pk_isi, pk_maxK, pk_call, pk_prim, pk_comp, rt_var, rt_cst, rt_glc, rt_bin, rt_neg, rt_not, rt_cmp, rt_chain, rt_and, rt_or, rt_ife, rt_tup, rt_lst, rt_idx, rt_sl, rt_rev, rt_isi, rt_maxK, rt_call, rt_prim, rt_comp, stD_var, stD_tup, tgD_var, tgD_tt, tgD_tl, tgsD_nil, tgsD_cons, bare, bareP, bares, barePs, bareO, give_nil, give_cons, gG_s, gG_n, giveV_sh, giveV_ow, data_eq, shr_eq, own_eq, gD_s, gS_s, gO_s, vd_sh, vd_ow, b_add, b_sub, b_mul, b_fdiv, b_mod, b_pow, b_addL, b_addT, b_mulL, x_t, x_l, s_l, s_t, p_lenT, p_lenL, p_abs, p_int, p_intb, p_listT, p_listL, p_tupT, p_tupL, p_gcd, p_min, p_max, p_sum, i_t, i_l, i_r1, i_r2, i_zt, i_zl, n_i, bo_b, in_i, tr_n, tr_b, tr_i, tr_t, tr_l, nn_n, nn_t, nn_l, nn_i, nn_b, isiD_eq, isD, au_a, au_s, wi_n, wi_c, cmpD_eq_int, cmpD_ne_int, cmpD_eq_bl, cmpD_ne_bl, cmpD_lt, cmpD_le, cmpD_gt, cmpD_ge, cmpD_is, cmpD_isnot, truQ_bl, atI_0, atI_1, atI_2, atI_3, fin0, List.nil_append, List.append_nil, List.cons_append, List.getElem?_cons_zero, List.getElem?_cons_succ, set_0, set_s, List.length_cons, List.length_nil, Option.some.injEq, Val.sh.injEq, Val.ow.injEq, D.int.injEq, D.tup.injEq, D.lst.injEq, D.bl.injEq, exists_eq_left', exists_eq_left, true_and, and_true, Nat.reduceAdd, Nat.reduceLeDiff, Nat.zero_add, if_true, if_false, Bool.false_eq_true, reduceCtorEq, decide_eq_true_eq, Bool.not_eq_true, ne_eq, not_false_eq_true, reduceIte, decide_true, decide_false, Bool.not_true, Bool.not_false, step_nil_eq]
        rw [if_neg (by omega)]
        refine ⟨p, q, r, s, 24, rfl, sp, sq, sr, ss, by decide, ?_⟩
        refine ⟨r, s, p, q, 24, rfl, sr, ss, sp, sq, by decide, ?_⟩
        simp only [wpS, wpE, wpEs, wpPs, wpT, wpO, wpIfs, pk_var, pk_cst, pk_glc, pk_bin, pk_neg, pk_not, pk_cmp, pk_chain, pk_and, pk_or, pk_ife, pk_tup, pk_lst, pk_idx, pk_sl, pk_rev, pk_isi, pk_maxK, pk_call, pk_prim, pk_comp, rt_var, rt_cst, rt_glc, rt_bin, rt_neg, rt_not, rt_cmp, rt_chain, rt_and, rt_or, rt_ife, rt_tup, rt_lst, rt_idx, rt_sl, rt_rev, rt_isi, rt_maxK, rt_call, rt_prim, rt_comp, stD_var, stD_tup, tgD_var, tgD_tt, tgD_tl, tgsD_nil, tgsD_cons, bare, bareP, bares, barePs, bareO, give_nil, give_cons, gG_s, gG_n, giveV_sh, giveV_ow, data_eq, shr_eq, own_eq, gD_s, gS_s, gO_s, vd_sh, vd_ow, b_add, b_sub, b_mul, b_fdiv, b_mod, b_pow, b_addL, b_addT, b_mulL, x_t, x_l, s_l, s_t, p_lenT, p_lenL, p_abs, p_int, p_intb, p_listT, p_listL, p_tupT, p_tupL, p_gcd, p_min, p_max, p_sum, i_t, i_l, i_r1, i_r2, i_zt, i_zl, n_i, bo_b, in_i, tr_n, tr_b, tr_i, tr_t, tr_l, nn_n, nn_t, nn_l, nn_i, nn_b, isiD_eq, isD, au_a, au_s, wi_n, wi_c, cmpD_eq_int, cmpD_ne_int, cmpD_eq_bl, cmpD_ne_bl, cmpD_lt, cmpD_le, cmpD_gt, cmpD_ge, cmpD_is, cmpD_isnot, truQ_bl, atI_0, atI_1, atI_2, atI_3, fin0, List.nil_append, List.append_nil, List.cons_append, List.getElem?_cons_zero, List.getElem?_cons_succ, set_0, set_s, List.length_cons, List.length_nil, Option.some.injEq, Val.sh.injEq, Val.ow.injEq, D.int.injEq, D.tup.injEq, D.lst.injEq, D.bl.injEq, exists_eq_left', exists_eq_left, true_and, and_true, Nat.reduceAdd, Nat.reduceLeDiff, Nat.zero_add, if_true, if_false, Bool.false_eq_true, reduceCtorEq, decide_eq_true_eq, Bool.not_eq_true, ne_eq, not_false_eq_true, reduceIte, decide_true, decide_false, Bool.not_true, Bool.not_false, step_nil_eq]
        refine ⟨⟨by decide, by decide, by decide⟩, ?_⟩
        have e1 : decide (p * s - q * r = 1 ∨ p * s - q * r = -1) = decide (g.num = 0) := decide_eq_decide.mpr (by rw [ge, Int.mul_comm q r])
        have e2 : decide (r * q - s * p = 1 ∨ r * q - s * p = -1) = decide (g.num = 0) := decide_eq_decide.mpr (by rw [ge, Int.mul_comm s p]; omega)
        rw [e1, e2]
        refine ⟨_, rfl, by simp [OkE], ?_⟩
        simp only [wpS, wpE, wpEs, wpPs, wpT, wpO, wpIfs, pk_var, pk_cst, pk_glc, pk_bin, pk_neg, pk_not, pk_cmp, pk_chain, pk_and, pk_or, pk_ife, pk_tup, pk_lst, pk_idx, pk_sl, pk_rev, pk_isi, pk_maxK, pk_call, pk_prim, pk_comp, rt_var, rt_cst, rt_glc, rt_bin, rt_neg, rt_not, rt_cmp, rt_chain, rt_and, rt_or, rt_ife, rt_tup, rt_lst, rt_idx, rt_sl, rt_rev, rt_isi, rt_maxK, rt_call, rt_prim, rt_comp, stD_var, stD_tup, tgD_var, tgD_tt, tgD_tl, tgsD_nil, tgsD_cons, bare, bareP, bares, barePs, bareO, give_nil, give_cons, gG_s, gG_n, giveV_sh, giveV_ow, data_eq, shr_eq, own_eq, gD_s, gS_s, gO_s, vd_sh, vd_ow, b_add, b_sub, b_mul, b_fdiv, b_mod, b_pow, b_addL, b_addT, b_mulL, x_t, x_l, s_l, s_t, p_lenT, p_lenL, p_abs, p_int, p_intb, p_listT, p_listL, p_tupT, p_tupL, p_gcd, p_min, p_max, p_sum, i_t, i_l, i_r1, i_r2, i_zt, i_zl, n_i, bo_b, in_i, tr_n, tr_b, tr_i, tr_t, tr_l, nn_n, nn_t, nn_l, nn_i, nn_b, isiD_eq, isD, au_a, au_s, wi_n, wi_c, cmpD_eq_int, cmpD_ne_int, cmpD_eq_bl, cmpD_ne_bl, cmpD_lt, cmpD_le, cmpD_gt, cmpD_ge, cmpD_is, cmpD_isnot, truQ_bl, atI_0, atI_1, atI_2, atI_3, fin0, List.nil_append, List.append_nil, List.cons_append, List.getElem?_cons_zero, List.getElem?_cons_succ, set_0, set_s, List.length_cons, List.length_nil, Option.some.injEq, Val.sh.injEq, Val.ow.injEq, D.int.injEq, D.tup.injEq, D.lst.injEq, D.bl.injEq, exists_eq_left', exists_eq_left, true_and, and_true, Nat.reduceAdd, Nat.reduceLeDiff, Nat.zero_add, if_true, if_false, Bool.false_eq_true, reduceCtorEq, decide_eq_true_eq, Bool.not_eq_true, ne_eq, not_false_eq_true, reduceIte, decide_true, decide_false, Bool.not_true, Bool.not_false, step_nil_eq]
        refine step_cons ?_
        simp only [wpS, wpE, wpEs, wpPs, wpT, wpO, wpIfs, pk_var, pk_cst, pk_glc, pk_bin, pk_neg, pk_not, pk_cmp, pk_chain, pk_and, pk_or, pk_ife, pk_tup, pk_lst, pk_idx, pk_sl, pk_rev, pk_isi, pk_maxK, pk_call, pk_prim, pk_comp, rt_var, rt_cst, rt_glc, rt_bin, rt_neg, rt_not, rt_cmp, rt_chain, rt_and, rt_or, rt_ife, rt_tup, rt_lst, rt_idx, rt_sl, rt_rev, rt_isi, rt_maxK, rt_call, rt_prim, rt_comp, stD_var, stD_tup, tgD_var, tgD_tt, tgD_tl, tgsD_nil, tgsD_cons, bare, bareP, bares, barePs, bareO, give_nil, give_cons, gG_s, gG_n, giveV_sh, giveV_ow, data_eq, shr_eq, own_eq, gD_s, gS_s, gO_s, vd_sh, vd_ow, b_add, b_sub, b_mul, b_fdiv, b_mod, b_pow, b_addL, b_addT, b_mulL, x_t, x_l, s_l, s_t, p_lenT, p_lenL, p_abs, p_int, p_intb, p_listT, p_listL, p_tupT, p_tupL, p_gcd, p_min, p_max, p_sum, i_t, i_l, i_r1, i_r2, i_zt, i_zl, n_i, bo_b, in_i, tr_n, tr_b, tr_i, tr_t, tr_l, nn_n, nn_t, nn_l, nn_i, nn_b, isiD_eq, isD, au_a, au_s, wi_n, wi_c, cmpD_eq_int, cmpD_ne_int, cmpD_eq_bl, cmpD_ne_bl, cmpD_lt, cmpD_le, cmpD_gt, cmpD_ge, cmpD_is, cmpD_isnot, truQ_bl, atI_0, atI_1, atI_2, atI_3, fin0, List.nil_append, List.append_nil, List.cons_append, List.getElem?_cons_zero, List.getElem?_cons_succ, set_0, set_s, List.length_cons, List.length_nil, Option.some.injEq, Val.sh.injEq, Val.ow.injEq, D.int.injEq, D.tup.injEq, D.lst.injEq, D.bl.injEq, exists_eq_left', exists_eq_left, true_and, and_true, Nat.reduceAdd, Nat.reduceLeDiff, Nat.zero_add, if_true, if_false, Bool.false_eq_true, reduceCtorEq, decide_eq_true_eq, Bool.not_eq_true, ne_eq, not_false_eq_true, reduceIte, decide_true, decide_false, Bool.not_true, Bool.not_false, step_nil_eq]
        by_cases ht : g.num = 0
        · rw [if_pos ht]
          have ht := ge.mp ht
          refine step_cons ?_
          simp only [g17, wpS, wpE, wpEs, wpPs, wpT, wpO, wpIfs, pk_var, pk_cst, pk_glc, pk_bin, pk_neg, pk_not, pk_cmp, pk_chain, pk_and, pk_or, pk_ife, pk_tup, pk_lst, pk_idx, pk_sl, pk_rev, pk_isi, pk_maxK, pk_call, pk_prim, pk_comp, rt_var, rt_cst, rt_glc, rt_bin, rt_neg, rt_not, rt_cmp, rt_chain, rt_and, rt_or, rt_ife, rt_tup, rt_lst, rt_idx, rt_sl, rt_rev, rt_isi, rt_maxK, rt_call, rt_prim, rt_comp, stD_var, stD_tup, tgD_var, tgD_tt, tgD_tl, tgsD_nil, tgsD_cons, bare, bareP, bares, barePs, bareO, give_nil, give_cons, gG_s, gG_n, giveV_sh, giveV_ow, data_eq, shr_eq, own_eq, gD_s, gS_s, gO_s, vd_sh, vd_ow, b_add, b_sub, b_mul, b_fdiv, b_mod, b_pow, b_addL, b_addT, b_mulL, x_t, x_l, s_l, s_t, p_lenT, p_lenL, p_abs, p_int, p_intb, p_listT, p_listL, p_tupT, p_tupL, p_gcd, p_min, p_max, p_sum, i_t, i_l, i_r1, i_r2, i_zt, i_zl, n_i, bo_b, in_i, tr_n, tr_b, tr_i, tr_t, tr_l, nn_n, nn_t, nn_l, nn_i, nn_b, isiD_eq, isD, au_a, au_s, wi_n, wi_c, cmpD_eq_int, cmpD_ne_int, cmpD_eq_bl, cmpD_ne_bl, cmpD_lt, cmpD_le, cmpD_gt, cmpD_ge, cmpD_is, cmpD_isnot, truQ_bl, atI_0, atI_1, atI_2, atI_3, fin0, List.nil_append, List.append_nil, List.cons_append, List.getElem?_cons_zero, List.getElem?_cons_succ, set_0, set_s, List.length_cons, List.length_nil, Option.some.injEq, Val.sh.injEq, Val.ow.injEq, D.int.injEq, D.tup.injEq, D.lst.injEq, D.bl.injEq, exists_eq_left', exists_eq_left, true_and, and_true, Nat.reduceAdd, Nat.reduceLeDiff, Nat.zero_add, if_true, if_false, Bool.false_eq_true, reduceCtorEq, decide_eq_true_eq, Bool.not_eq_true, ne_eq, not_false_eq_true, reduceIte, decide_true, decide_false, Bool.not_true, Bool.not_false, step_nil_eq]
          refine ⟨p, q, r, s, 24, rfl, sp, sq, sr, ss, by decide, ?_⟩
          have hgc : Int.gcd (p + r) (q + s) = 1 := by
            have h1 : ((Int.gcd (p + r) (q + s) : Nat) : Int) ∣ p * s - r * q := by
              have a1 : ((Int.gcd (p + r) (q + s) : Nat) : Int) ∣ (p + r) * s := Int.dvd_mul_of_dvd_left (Int.gcd_dvd_left ..)
              have a2 : ((Int.gcd (p + r) (q + s) : Nat) : Int) ∣ r * (q + s) := Int.dvd_mul_of_dvd_right (Int.gcd_dvd_right ..)
              have := Int.dvd_sub a1 a2
              have e3 : (p + r) * s - r * (q + s) = p * s - r * q := by grind
              rwa [e3] at this
            have h2 : ((Int.gcd (p + r) (q + s) : Nat) : Int) ∣ 1 := by
              rcases ht with ht | ht
              · rw [ht] at h1; exact h1
              · rw [ht] at h1; exact Int.dvd_neg.mp h1
            have := Int.eq_one_of_dvd_one (by omega) h2
            omega
          have hdue : Sm 24 (p + r) ∧ Sm 24 (q + s) := by
            have := hp.q0; have := hp.q1; have := hp.p0; have := hp.p1
            have := hr.q0; have := hr.q1; have := hr.p0; have := hr.p1
            constructor <;> (unfold Sm; omega)
          have qs0 : 0 < q + s := by have := hp.q0; have := hr.q0; omega
          have fin : ∀ (lo hi lo' hi' : Int), (lo = p ∧ lo' = q ∧ hi = r ∧ hi' = s ∨ lo = r ∧ lo' = s ∧ hi = p ∧ hi' = q) → lo * hi' < hi * lo' → ∀ (d2 d3 d4 d6 d7 d8 d9 d10 d14 d15 d16 d17 d18 d19 d20 d21 : Option Val), 
              wpB Γt G [CS.asg (CT.var 19) (CE.call 4 [CE.var 12, CE.var 13]),
                    CS.asg (CT.var 20)
                      (CE.call 14
                        [CE.bin BO.add ((CE.var 5).idx (CE.cst (D.int 0)))
                            ((CE.var 11).idx (CE.cst (D.int 0))),
                          CE.bin BO.add ((CE.var 5).idx (CE.cst (D.int 1)))
                            ((CE.var 11).idx (CE.cst (D.int 1)))]),
                    CS.ife
                      ((CE.call 13 [CE.prim PK.tuple [CE.var 19], CE.var 20]).not.or
                        ((CE.cmp CO.ne ((CE.call 20 [CE.var 20, CE.var 5]).idx (CE.cst (D.int 0)))
                              (CE.cst (D.int 0))).or
                          ((CE.cmp CO.ne ((CE.call 20 [CE.var 20, CE.var 11]).idx (CE.cst (D.int 0)))
                                (CE.cst (D.int 0))).or
                            ((CE.call 17 [CE.var 12, CE.var 20]).not.or (CE.call 17 [CE.var 20, CE.var 13]).not))))
                      [CS.ret (CE.cst (D.bl false))] []] 
                { nx := fun ρ => ∃ (d2 d3 d4 d6 d7 d8 d9 d10 d11 d12 d13 d14 d15 d16 d17 d18 d19 d20 d21 : Option Val), ρ = [none, some (.sh (.hd 0)), d2, d3, d4, some (.sh (pr p q)), d6, d7, d8, d9, d10, d11, d12, d13, d14, d15, d16, d17, d18, d19, d20, d21], rt := k.rt, bk := k.nx, ct := fun ρ => ∃ (d2 d3 d4 d6 d7 d8 d9 d10 d11 d12 d13 d14 d15 d16 d17 d18 d19 d20 d21 : Option Val), ρ = [none, some (.sh (.hd 0)), d2, d3, d4, some (.sh (pr p q)), d6, d7, d8, d9, d10, d11, d12, d13, d14, d15, d16, d17, d18, d19, d20, d21] }
                [none, some (.sh (.hd 0)), d2, d3, d4, some (.sh (pr p q)), d6, d7, d8, d9, d10, some (.sh (pr r s)), some (.sh (pr lo lo')), some (.sh (pr hi hi')), d14, d15, d16, d17, d18, d19, d20, d21] := by
            intro lo hi lo' hi' hlh hlt d2 d3 d4 d6 d7 d8 d9 d10 d14 d15 d16 d17 d18 d19 d20 d21
            have eb : pr (lo + hi) (lo' + hi') = pr (p + r) (q + s) := by
              rcases hlh with ⟨rfl, rfl, rfl, rfl⟩ | ⟨rfl, rfl, rfl, rfl⟩
              · rfl
              · rw [Int.add_comm lo, Int.add_comm lo']
            have slo : Sm 24 lo ∧ Sm 24 lo' ∧ Sm 24 hi ∧ Sm 24 hi' := by
              rcases hlh with ⟨rfl, rfl, rfl, rfl⟩ | ⟨rfl, rfl, rfl, rfl⟩
              · exact ⟨sp, sq, sr, ss⟩
              · exact ⟨sr, ss, sp, sq⟩
            have l1 : lo * (q + s) < (p + r) * lo' := by
              rcases hlh with ⟨rfl, rfl, rfl, rfl⟩ | ⟨rfl, rfl, rfl, rfl⟩
              · grind
              · grind
            have l2 : (p + r) * hi' < hi * (q + s) := by
              rcases hlh with ⟨rfl, rfl, rfl, rfl⟩ | ⟨rfl, rfl, rfl, rfl⟩
              · grind
              · grind
            refine step_cons ?_
            simp only [g4, wpS, wpE, wpEs, wpPs, wpT, wpO, wpIfs, pk_var, pk_cst, pk_glc, pk_bin, pk_neg, pk_not, pk_cmp, pk_chain, pk_and, pk_or, pk_ife, pk_tup, pk_lst, pk_idx, pk_sl, pk_rev, pk_isi, pk_maxK, pk_call, pk_prim, pk_comp, rt_var, rt_cst, rt_glc, rt_bin, rt_neg, rt_not, rt_cmp, rt_chain, rt_and, rt_or, rt_ife, rt_tup, rt_lst, rt_idx, rt_sl, rt_rev, rt_isi, rt_maxK, rt_call, rt_prim, rt_comp, stD_var, stD_tup, tgD_var, tgD_tt, tgD_tl, tgsD_nil, tgsD_cons, bare, bareP, bares, barePs, bareO, give_nil, give_cons, gG_s, gG_n, giveV_sh, giveV_ow, data_eq, shr_eq, own_eq, gD_s, gS_s, gO_s, vd_sh, vd_ow, b_add, b_sub, b_mul, b_fdiv, b_mod, b_pow, b_addL, b_addT, b_mulL, x_t, x_l, s_l, s_t, p_lenT, p_lenL, p_abs, p_int, p_intb, p_listT, p_listL, p_tupT, p_tupL, p_gcd, p_min, p_max, p_sum, i_t, i_l, i_r1, i_r2, i_zt, i_zl, n_i, bo_b, in_i, tr_n, tr_b, tr_i, tr_t, tr_l, nn_n, nn_t, nn_l, nn_i, nn_b, isiD_eq, isD, au_a, au_s, wi_n, wi_c, cmpD_eq_int, cmpD_ne_int, cmpD_eq_bl, cmpD_ne_bl, cmpD_lt, cmpD_le, cmpD_gt, cmpD_ge, cmpD_is, cmpD_isnot, truQ_bl, atI_0, atI_1, atI_2, atI_3, fin0, List.nil_append, List.append_nil, List.cons_append, List.getElem?_cons_zero, List.getElem?_cons_succ, set_0, set_s, List.length_cons, List.length_nil, Option.some.injEq, Val.sh.injEq, Val.ow.injEq, D.int.injEq, D.tup.injEq, D.lst.injEq, D.bl.injEq, exists_eq_left', exists_eq_left, true_and, and_true, Nat.reduceAdd, Nat.reduceLeDiff, Nat.zero_add, if_true, if_false, Bool.false_eq_true, reduceCtorEq, decide_eq_true_eq, Bool.not_eq_true, ne_eq, not_false_eq_true, reduceIte, decide_true, decide_false, Bool.not_true, Bool.not_false, step_nil_eq]
            refine ⟨lo, lo', hi, hi', rfl, ?_⟩
            rw [eb]
            refine step_cons ?_
            simp only [g14, pr, wpS, wpE, wpEs, wpPs, wpT, wpO, wpIfs, pk_var, pk_cst, pk_glc, pk_bin, pk_neg, pk_not, pk_cmp, pk_chain, pk_and, pk_or, pk_ife, pk_tup, pk_lst, pk_idx, pk_sl, pk_rev, pk_isi, pk_maxK, pk_call, pk_prim, pk_comp, rt_var, rt_cst, rt_glc, rt_bin, rt_neg, rt_not, rt_cmp, rt_chain, rt_and, rt_or, rt_ife, rt_tup, rt_lst, rt_idx, rt_sl, rt_rev, rt_isi, rt_maxK, rt_call, rt_prim, rt_comp, stD_var, stD_tup, tgD_var, tgD_tt, tgD_tl, tgsD_nil, tgsD_cons, bare, bareP, bares, barePs, bareO, give_nil, give_cons, gG_s, gG_n, giveV_sh, giveV_ow, data_eq, shr_eq, own_eq, gD_s, gS_s, gO_s, vd_sh, vd_ow, b_add, b_sub, b_mul, b_fdiv, b_mod, b_pow, b_addL, b_addT, b_mulL, x_t, x_l, s_l, s_t, p_lenT, p_lenL, p_abs, p_int, p_intb, p_listT, p_listL, p_tupT, p_tupL, p_gcd, p_min, p_max, p_sum, i_t, i_l, i_r1, i_r2, i_zt, i_zl, n_i, bo_b, in_i, tr_n, tr_b, tr_i, tr_t, tr_l, nn_n, nn_t, nn_l, nn_i, nn_b, isiD_eq, isD, au_a, au_s, wi_n, wi_c, cmpD_eq_int, cmpD_ne_int, cmpD_eq_bl, cmpD_ne_bl, cmpD_lt, cmpD_le, cmpD_gt, cmpD_ge, cmpD_is, cmpD_isnot, truQ_bl, atI_0, atI_1, atI_2, atI_3, fin0, List.nil_append, List.append_nil, List.cons_append, List.getElem?_cons_zero, List.getElem?_cons_succ, set_0, set_s, List.length_cons, List.length_nil, Option.some.injEq, Val.sh.injEq, Val.ow.injEq, D.int.injEq, D.tup.injEq, D.lst.injEq, D.bl.injEq, exists_eq_left', exists_eq_left, true_and, and_true, Nat.reduceAdd, Nat.reduceLeDiff, Nat.zero_add, if_true, if_false, Bool.false_eq_true, reduceCtorEq, decide_eq_true_eq, Bool.not_eq_true, ne_eq, not_false_eq_true, reduceIte, decide_true, decide_false, Bool.not_true, Bool.not_false, step_nil_eq]
            refine ⟨_, _, 24, rfl, qs0, hdue.1, hdue.2, by decide, fun x ex bx => ?_⟩
            subst ex
            rw [frD_red qs0 hgc]
            refine step_cons ?_
            simp only [g13, g17, g20, pr, wpS, wpE, wpEs, wpPs, wpT, wpO, wpIfs, pk_var, pk_cst, pk_glc, pk_bin, pk_neg, pk_not, pk_cmp, pk_chain, pk_and, pk_or, pk_ife, pk_tup, pk_lst, pk_idx, pk_sl, pk_rev, pk_isi, pk_maxK, pk_call, pk_prim, pk_comp, rt_var, rt_cst, rt_glc, rt_bin, rt_neg, rt_not, rt_cmp, rt_chain, rt_and, rt_or, rt_ife, rt_tup, rt_lst, rt_idx, rt_sl, rt_rev, rt_isi, rt_maxK, rt_call, rt_prim, rt_comp, stD_var, stD_tup, tgD_var, tgD_tt, tgD_tl, tgsD_nil, tgsD_cons, bare, bareP, bares, barePs, bareO, give_nil, give_cons, gG_s, gG_n, giveV_sh, giveV_ow, data_eq, shr_eq, own_eq, gD_s, gS_s, gO_s, vd_sh, vd_ow, b_add, b_sub, b_mul, b_fdiv, b_mod, b_pow, b_addL, b_addT, b_mulL, x_t, x_l, s_l, s_t, p_lenT, p_lenL, p_abs, p_int, p_intb, p_listT, p_listL, p_tupT, p_tupL, p_gcd, p_min, p_max, p_sum, i_t, i_l, i_r1, i_r2, i_zt, i_zl, n_i, bo_b, in_i, tr_n, tr_b, tr_i, tr_t, tr_l, nn_n, nn_t, nn_l, nn_i, nn_b, isiD_eq, isD, au_a, au_s, wi_n, wi_c, cmpD_eq_int, cmpD_ne_int, cmpD_eq_bl, cmpD_ne_bl, cmpD_lt, cmpD_le, cmpD_gt, cmpD_ge, cmpD_is, cmpD_isnot, truQ_bl, atI_0, atI_1, atI_2, atI_3, fin0, List.nil_append, List.append_nil, List.cons_append, List.getElem?_cons_zero, List.getElem?_cons_succ, set_0, set_s, List.length_cons, List.length_nil, Option.some.injEq, Val.sh.injEq, Val.ow.injEq, D.int.injEq, D.tup.injEq, D.lst.injEq, D.bl.injEq, exists_eq_left', exists_eq_left, true_and, and_true, Nat.reduceAdd, Nat.reduceLeDiff, Nat.zero_add, if_true, if_false, Bool.false_eq_true, reduceCtorEq, decide_eq_true_eq, Bool.not_eq_true, ne_eq, not_false_eq_true, reduceIte, decide_true, decide_false, Bool.not_true, Bool.not_false, step_nil_eq]
            refine ⟨_, rfl, by simp [OkE], ?_⟩
            simp only [wpS, wpE, wpEs, wpPs, wpT, wpO, wpIfs, pk_var, pk_cst, pk_glc, pk_bin, pk_neg, pk_not, pk_cmp, pk_chain, pk_and, pk_or, pk_ife, pk_tup, pk_lst, pk_idx, pk_sl, pk_rev, pk_isi, pk_maxK, pk_call, pk_prim, pk_comp, rt_var, rt_cst, rt_glc, rt_bin, rt_neg, rt_not, rt_cmp, rt_chain, rt_and, rt_or, rt_ife, rt_tup, rt_lst, rt_idx, rt_sl, rt_rev, rt_isi, rt_maxK, rt_call, rt_prim, rt_comp, stD_var, stD_tup, tgD_var, tgD_tt, tgD_tl, tgsD_nil, tgsD_cons, bare, bareP, bares, barePs, bareO, give_nil, give_cons, gG_s, gG_n, giveV_sh, giveV_ow, data_eq, shr_eq, own_eq, gD_s, gS_s, gO_s, vd_sh, vd_ow, b_add, b_sub, b_mul, b_fdiv, b_mod, b_pow, b_addL, b_addT, b_mulL, x_t, x_l, s_l, s_t, p_lenT, p_lenL, p_abs, p_int, p_intb, p_listT, p_listL, p_tupT, p_tupL, p_gcd, p_min, p_max, p_sum, i_t, i_l, i_r1, i_r2, i_zt, i_zl, n_i, bo_b, in_i, tr_n, tr_b, tr_i, tr_t, tr_l, nn_n, nn_t, nn_l, nn_i, nn_b, isiD_eq, isD, au_a, au_s, wi_n, wi_c, cmpD_eq_int, cmpD_ne_int, cmpD_eq_bl, cmpD_ne_bl, cmpD_lt, cmpD_le, cmpD_gt, cmpD_ge, cmpD_is, cmpD_isnot, truQ_bl, atI_0, atI_1, atI_2, atI_3, fin0, List.nil_append, List.append_nil, List.cons_append, List.getElem?_cons_zero, List.getElem?_cons_succ, set_0, set_s, List.length_cons, List.length_nil, Option.some.injEq, Val.sh.injEq, Val.ow.injEq, D.int.injEq, D.tup.injEq, D.lst.injEq, D.bl.injEq, exists_eq_left', exists_eq_left, true_and, and_true, Nat.reduceAdd, Nat.reduceLeDiff, Nat.zero_add, if_true, if_false, Bool.false_eq_true, reduceCtorEq, decide_eq_true_eq, Bool.not_eq_true, ne_eq, not_false_eq_true, reduceIte, decide_true, decide_false, Bool.not_true, Bool.not_false, step_nil_eq]
            refine ⟨p + r, q + s, p, q, rfl, qs0, hp.q0, hdue.1, hdue.2, sp, sq, fun g1 h1 => ?_⟩
            have z1 : g1.num = 0 := by
              refine (gap (Int.mul_pos (Int.mul_pos qs0 qs0) (Int.mul_pos hp.q0 hp.q0)) h1 ?_).2.mpr ?_ <;>
              · rw [show (p + r) * q - p * (q + s) = -(p * s - r * q) by grind]
                rcases ht with ht | ht <;> rw [ht] <;> decide
            simp only [frD, wpS, wpE, wpEs, wpPs, wpT, wpO, wpIfs, pk_var, pk_cst, pk_glc, pk_bin, pk_neg, pk_not, pk_cmp, pk_chain, pk_and, pk_or, pk_ife, pk_tup, pk_lst, pk_idx, pk_sl, pk_rev, pk_isi, pk_maxK, pk_call, pk_prim, pk_comp, rt_var, rt_cst, rt_glc, rt_bin, rt_neg, rt_not, rt_cmp, rt_chain, rt_and, rt_or, rt_ife, rt_tup, rt_lst, rt_idx, rt_sl, rt_rev, rt_isi, rt_maxK, rt_call, rt_prim, rt_comp, stD_var, stD_tup, tgD_var, tgD_tt, tgD_tl, tgsD_nil, tgsD_cons, bare, bareP, bares, barePs, bareO, give_nil, give_cons, gG_s, gG_n, giveV_sh, giveV_ow, data_eq, shr_eq, own_eq, gD_s, gS_s, gO_s, vd_sh, vd_ow, b_add, b_sub, b_mul, b_fdiv, b_mod, b_pow, b_addL, b_addT, b_mulL, x_t, x_l, s_l, s_t, p_lenT, p_lenL, p_abs, p_int, p_intb, p_listT, p_listL, p_tupT, p_tupL, p_gcd, p_min, p_max, p_sum, i_t, i_l, i_r1, i_r2, i_zt, i_zl, n_i, bo_b, in_i, tr_n, tr_b, tr_i, tr_t, tr_l, nn_n, nn_t, nn_l, nn_i, nn_b, isiD_eq, isD, au_a, au_s, wi_n, wi_c, cmpD_eq_int, cmpD_ne_int, cmpD_eq_bl, cmpD_ne_bl, cmpD_lt, cmpD_le, cmpD_gt, cmpD_ge, cmpD_is, cmpD_isnot, truQ_bl, atI_0, atI_1, atI_2, atI_3, fin0, List.nil_append, List.append_nil, List.cons_append, List.getElem?_cons_zero, List.getElem?_cons_succ, set_0, set_s, List.length_cons, List.length_nil, Option.some.injEq, Val.sh.injEq, Val.ow.injEq, D.int.injEq, D.tup.injEq, D.lst.injEq, D.bl.injEq, exists_eq_left', exists_eq_left, true_and, and_true, Nat.reduceAdd, Nat.reduceLeDiff, Nat.zero_add, if_true, if_false, Bool.false_eq_true, reduceCtorEq, decide_eq_true_eq, Bool.not_eq_true, ne_eq, not_false_eq_true, reduceIte, decide_true, decide_false, Bool.not_true, Bool.not_false, step_nil_eq]
            rw [if_neg (by simp [z1])]
            refine ⟨p + r, q + s, r, s, rfl, qs0, hr.q0, hdue.1, hdue.2, sr, ss, fun g2 h2 => ?_⟩
            have z2 : g2.num = 0 := by
              refine (gap (Int.mul_pos (Int.mul_pos qs0 qs0) (Int.mul_pos hr.q0 hr.q0)) h2 ?_).2.mpr ?_ <;>
              · rw [show (p + r) * s - r * (q + s) = (p * s - r * q) by grind]
                rcases ht with ht | ht <;> rw [ht] <;> decide
            simp only [frD, wpS, wpE, wpEs, wpPs, wpT, wpO, wpIfs, pk_var, pk_cst, pk_glc, pk_bin, pk_neg, pk_not, pk_cmp, pk_chain, pk_and, pk_or, pk_ife, pk_tup, pk_lst, pk_idx, pk_sl, pk_rev, pk_isi, pk_maxK, pk_call, pk_prim, pk_comp, rt_var, rt_cst, rt_glc, rt_bin, rt_neg, rt_not, rt_cmp, rt_chain, rt_and, rt_or, rt_ife, rt_tup, rt_lst, rt_idx, rt_sl, rt_rev, rt_isi, rt_maxK, rt_call, rt_prim, rt_comp, stD_var, stD_tup, tgD_var, tgD_tt, tgD_tl, tgsD_nil, tgsD_cons, bare, bareP, bares, barePs, bareO, give_nil, give_cons, gG_s, gG_n, giveV_sh, giveV_ow, data_eq, shr_eq, own_eq, gD_s, gS_s, gO_s, vd_sh, vd_ow, b_add, b_sub, b_mul, b_fdiv, b_mod, b_pow, b_addL, b_addT, b_mulL, x_t, x_l, s_l, s_t, p_lenT, p_lenL, p_abs, p_int, p_intb, p_listT, p_listL, p_tupT, p_tupL, p_gcd, p_min, p_max, p_sum, i_t, i_l, i_r1, i_r2, i_zt, i_zl, n_i, bo_b, in_i, tr_n, tr_b, tr_i, tr_t, tr_l, nn_n, nn_t, nn_l, nn_i, nn_b, isiD_eq, isD, au_a, au_s, wi_n, wi_c, cmpD_eq_int, cmpD_ne_int, cmpD_eq_bl, cmpD_ne_bl, cmpD_lt, cmpD_le, cmpD_gt, cmpD_ge, cmpD_is, cmpD_isnot, truQ_bl, atI_0, atI_1, atI_2, atI_3, fin0, List.nil_append, List.append_nil, List.cons_append, List.getElem?_cons_zero, List.getElem?_cons_succ, set_0, set_s, List.length_cons, List.length_nil, Option.some.injEq, Val.sh.injEq, Val.ow.injEq, D.int.injEq, D.tup.injEq, D.lst.injEq, D.bl.injEq, exists_eq_left', exists_eq_left, true_and, and_true, Nat.reduceAdd, Nat.reduceLeDiff, Nat.zero_add, if_true, if_false, Bool.false_eq_true, reduceCtorEq, decide_eq_true_eq, Bool.not_eq_true, ne_eq, not_false_eq_true, reduceIte, decide_true, decide_false, Bool.not_true, Bool.not_false, step_nil_eq]
            rw [if_neg (by simp [z2])]
            refine ⟨lo, lo', p + r, q + s, 24, rfl, slo.1, slo.2.1, hdue.1, hdue.2, by decide, ?_⟩
            simp only [l1, wpS, wpE, wpEs, wpPs, wpT, wpO, wpIfs, pk_var, pk_cst, pk_glc, pk_bin, pk_neg, pk_not, pk_cmp, pk_chain, pk_and, pk_or, pk_ife, pk_tup, pk_lst, pk_idx, pk_sl, pk_rev, pk_isi, pk_maxK, pk_call, pk_prim, pk_comp, rt_var, rt_cst, rt_glc, rt_bin, rt_neg, rt_not, rt_cmp, rt_chain, rt_and, rt_or, rt_ife, rt_tup, rt_lst, rt_idx, rt_sl, rt_rev, rt_isi, rt_maxK, rt_call, rt_prim, rt_comp, stD_var, stD_tup, tgD_var, tgD_tt, tgD_tl, tgsD_nil, tgsD_cons, bare, bareP, bares, barePs, bareO, give_nil, give_cons, gG_s, gG_n, giveV_sh, giveV_ow, data_eq, shr_eq, own_eq, gD_s, gS_s, gO_s, vd_sh, vd_ow, b_add, b_sub, b_mul, b_fdiv, b_mod, b_pow, b_addL, b_addT, b_mulL, x_t, x_l, s_l, s_t, p_lenT, p_lenL, p_abs, p_int, p_intb, p_listT, p_listL, p_tupT, p_tupL, p_gcd, p_min, p_max, p_sum, i_t, i_l, i_r1, i_r2, i_zt, i_zl, n_i, bo_b, in_i, tr_n, tr_b, tr_i, tr_t, tr_l, nn_n, nn_t, nn_l, nn_i, nn_b, isiD_eq, isD, au_a, au_s, wi_n, wi_c, cmpD_eq_int, cmpD_ne_int, cmpD_eq_bl, cmpD_ne_bl, cmpD_lt, cmpD_le, cmpD_gt, cmpD_ge, cmpD_is, cmpD_isnot, truQ_bl, atI_0, atI_1, atI_2, atI_3, fin0, List.nil_append, List.append_nil, List.cons_append, List.getElem?_cons_zero, List.getElem?_cons_succ, set_0, set_s, List.length_cons, List.length_nil, Option.some.injEq, Val.sh.injEq, Val.ow.injEq, D.int.injEq, D.tup.injEq, D.lst.injEq, D.bl.injEq, exists_eq_left', exists_eq_left, true_and, and_true, Nat.reduceAdd, Nat.reduceLeDiff, Nat.zero_add, if_true, if_false, Bool.false_eq_true, reduceCtorEq, decide_eq_true_eq, Bool.not_eq_true, ne_eq, not_false_eq_true, reduceIte, decide_true, decide_false, Bool.not_true, Bool.not_false, step_nil_eq]
            refine ⟨p + r, q + s, hi, hi', 24, rfl, hdue.1, hdue.2, slo.2.2.1, slo.2.2.2, by decide, ?_⟩
            simp only [l2, wpS, wpE, wpEs, wpPs, wpT, wpO, wpIfs, pk_var, pk_cst, pk_glc, pk_bin, pk_neg, pk_not, pk_cmp, pk_chain, pk_and, pk_or, pk_ife, pk_tup, pk_lst, pk_idx, pk_sl, pk_rev, pk_isi, pk_maxK, pk_call, pk_prim, pk_comp, rt_var, rt_cst, rt_glc, rt_bin, rt_neg, rt_not, rt_cmp, rt_chain, rt_and, rt_or, rt_ife, rt_tup, rt_lst, rt_idx, rt_sl, rt_rev, rt_isi, rt_maxK, rt_call, rt_prim, rt_comp, stD_var, stD_tup, tgD_var, tgD_tt, tgD_tl, tgsD_nil, tgsD_cons, bare, bareP, bares, barePs, bareO, give_nil, give_cons, gG_s, gG_n, giveV_sh, giveV_ow, data_eq, shr_eq, own_eq, gD_s, gS_s, gO_s, vd_sh, vd_ow, b_add, b_sub, b_mul, b_fdiv, b_mod, b_pow, b_addL, b_addT, b_mulL, x_t, x_l, s_l, s_t, p_lenT, p_lenL, p_abs, p_int, p_intb, p_listT, p_listL, p_tupT, p_tupL, p_gcd, p_min, p_max, p_sum, i_t, i_l, i_r1, i_r2, i_zt, i_zl, n_i, bo_b, in_i, tr_n, tr_b, tr_i, tr_t, tr_l, nn_n, nn_t, nn_l, nn_i, nn_b, isiD_eq, isD, au_a, au_s, wi_n, wi_c, cmpD_eq_int, cmpD_ne_int, cmpD_eq_bl, cmpD_ne_bl, cmpD_lt, cmpD_le, cmpD_gt, cmpD_ge, cmpD_is, cmpD_isnot, truQ_bl, atI_0, atI_1, atI_2, atI_3, fin0, List.nil_append, List.append_nil, List.cons_append, List.getElem?_cons_zero, List.getElem?_cons_succ, set_0, set_s, List.length_cons, List.length_nil, Option.some.injEq, Val.sh.injEq, Val.ow.injEq, D.int.injEq, D.tup.injEq, D.lst.injEq, D.bl.injEq, exists_eq_left', exists_eq_left, true_and, and_true, Nat.reduceAdd, Nat.reduceLeDiff, Nat.zero_add, if_true, if_false, Bool.false_eq_true, reduceCtorEq, decide_eq_true_eq, Bool.not_eq_true, ne_eq, not_false_eq_true, reduceIte, decide_true, decide_false, Bool.not_true, Bool.not_false, step_nil_eq]
            exact ⟨_, _, _, _, _, _, _, _, _, _, _, _, _, _, _, _, _, _, _, rfl⟩
          by_cases hl : p * s < r * q
          · simp only [hl, wpS, wpE, wpEs, wpPs, wpT, wpO, wpIfs, pk_var, pk_cst, pk_glc, pk_bin, pk_neg, pk_not, pk_cmp, pk_chain, pk_and, pk_or, pk_ife, pk_tup, pk_lst, pk_idx, pk_sl, pk_rev, pk_isi, pk_maxK, pk_call, pk_prim, pk_comp, rt_var, rt_cst, rt_glc, rt_bin, rt_neg, rt_not, rt_cmp, rt_chain, rt_and, rt_or, rt_ife, rt_tup, rt_lst, rt_idx, rt_sl, rt_rev, rt_isi, rt_maxK, rt_call, rt_prim, rt_comp, stD_var, stD_tup, tgD_var, tgD_tt, tgD_tl, tgsD_nil, tgsD_cons, bare, bareP, bares, barePs, bareO, give_nil, give_cons, gG_s, gG_n, giveV_sh, giveV_ow, data_eq, shr_eq, own_eq, gD_s, gS_s, gO_s, vd_sh, vd_ow, b_add, b_sub, b_mul, b_fdiv, b_mod, b_pow, b_addL, b_addT, b_mulL, x_t, x_l, s_l, s_t, p_lenT, p_lenL, p_abs, p_int, p_intb, p_listT, p_listL, p_tupT, p_tupL, p_gcd, p_min, p_max, p_sum, i_t, i_l, i_r1, i_r2, i_zt, i_zl, n_i, bo_b, in_i, tr_n, tr_b, tr_i, tr_t, tr_l, nn_n, nn_t, nn_l, nn_i, nn_b, isiD_eq, isD, au_a, au_s, wi_n, wi_c, cmpD_eq_int, cmpD_ne_int, cmpD_eq_bl, cmpD_ne_bl, cmpD_lt, cmpD_le, cmpD_gt, cmpD_ge, cmpD_is, cmpD_isnot, truQ_bl, atI_0, atI_1, atI_2, atI_3, fin0, List.nil_append, List.append_nil, List.cons_append, List.getElem?_cons_zero, List.getElem?_cons_succ, set_0, set_s, List.length_cons, List.length_nil, Option.some.injEq, Val.sh.injEq, Val.ow.injEq, D.int.injEq, D.tup.injEq, D.lst.injEq, D.bl.injEq, exists_eq_left', exists_eq_left, true_and, and_true, Nat.reduceAdd, Nat.reduceLeDiff, Nat.zero_add, if_true, if_false, Bool.false_eq_true, reduceCtorEq, decide_eq_true_eq, Bool.not_eq_true, ne_eq, not_false_eq_true, reduceIte, decide_true, decide_false, Bool.not_true, Bool.not_false, step_nil_eq]
            exact fin p r q s (.inl ⟨rfl, rfl, rfl, rfl⟩) hl _ _ _ _ _ _ _ _ _ _ _ _ _ _ _ _
          · simp only [hl, wpS, wpE, wpEs, wpPs, wpT, wpO, wpIfs, pk_var, pk_cst, pk_glc, pk_bin, pk_neg, pk_not, pk_cmp, pk_chain, pk_and, pk_or, pk_ife, pk_tup, pk_lst, pk_idx, pk_sl, pk_rev, pk_isi, pk_maxK, pk_call, pk_prim, pk_comp, rt_var, rt_cst, rt_glc, rt_bin, rt_neg, rt_not, rt_cmp, rt_chain, rt_and, rt_or, rt_ife, rt_tup, rt_lst, rt_idx, rt_sl, rt_rev, rt_isi, rt_maxK, rt_call, rt_prim, rt_comp, stD_var, stD_tup, tgD_var, tgD_tt, tgD_tl, tgsD_nil, tgsD_cons, bare, bareP, bares, barePs, bareO, give_nil, give_cons, gG_s, gG_n, giveV_sh, giveV_ow, data_eq, shr_eq, own_eq, gD_s, gS_s, gO_s, vd_sh, vd_ow, b_add, b_sub, b_mul, b_fdiv, b_mod, b_pow, b_addL, b_addT, b_mulL, x_t, x_l, s_l, s_t, p_lenT, p_lenL, p_abs, p_int, p_intb, p_listT, p_listL, p_tupT, p_tupL, p_gcd, p_min, p_max, p_sum, i_t, i_l, i_r1, i_r2, i_zt, i_zl, n_i, bo_b, in_i, tr_n, tr_b, tr_i, tr_t, tr_l, nn_n, nn_t, nn_l, nn_i, nn_b, isiD_eq, isD, au_a, au_s, wi_n, wi_c, cmpD_eq_int, cmpD_ne_int, cmpD_eq_bl, cmpD_ne_bl, cmpD_lt, cmpD_le, cmpD_gt, cmpD_ge, cmpD_is, cmpD_isnot, truQ_bl, atI_0, atI_1, atI_2, atI_3, fin0, List.nil_append, List.append_nil, List.cons_append, List.getElem?_cons_zero, List.getElem?_cons_succ, set_0, set_s, List.length_cons, List.length_nil, Option.some.injEq, Val.sh.injEq, Val.ow.injEq, D.int.injEq, D.tup.injEq, D.lst.injEq, D.bl.injEq, exists_eq_left', exists_eq_left, true_and, and_true, Nat.reduceAdd, Nat.reduceLeDiff, Nat.zero_add, if_true, if_false, Bool.false_eq_true, reduceCtorEq, decide_eq_true_eq, Bool.not_eq_true, ne_eq, not_false_eq_true, reduceIte, decide_true, decide_false, Bool.not_true, Bool.not_false, step_nil_eq]
            exact fin r p s q (.inr ⟨rfl, rfl, rfl, rfl⟩) (by omega) _ _ _ _ _ _ _ _ _ _ _ _ _ _ _ _
        · rw [if_neg ht]
          try simp only [wpS, wpE, wpEs, wpPs, wpT, wpO, wpIfs, pk_var, pk_cst, pk_glc, pk_bin, pk_neg, pk_not, pk_cmp, pk_chain, pk_and, pk_or, pk_ife, pk_tup, pk_lst, pk_idx, pk_sl, pk_rev, pk_isi, pk_maxK, pk_call, pk_prim, pk_comp, rt_var, rt_cst, rt_glc, rt_bin, rt_neg, rt_not, rt_cmp, rt_chain, rt_and, rt_or, rt_ife, rt_tup, rt_lst, rt_idx, rt_sl, rt_rev, rt_isi, rt_maxK, rt_call, rt_prim, rt_comp, stD_var, stD_tup, tgD_var, tgD_tt, tgD_tl, tgsD_nil, tgsD_cons, bare, bareP, bares, barePs, bareO, give_nil, give_cons, gG_s, gG_n, giveV_sh, giveV_ow, data_eq, shr_eq, own_eq, gD_s, gS_s, gO_s, vd_sh, vd_ow, b_add, b_sub, b_mul, b_fdiv, b_mod, b_pow, b_addL, b_addT, b_mulL, x_t, x_l, s_l, s_t, p_lenT, p_lenL, p_abs, p_int, p_intb, p_listT, p_listL, p_tupT, p_tupL, p_gcd, p_min, p_max, p_sum, i_t, i_l, i_r1, i_r2, i_zt, i_zl, n_i, bo_b, in_i, tr_n, tr_b, tr_i, tr_t, tr_l, nn_n, nn_t, nn_l, nn_i, nn_b, isiD_eq, isD, au_a, au_s, wi_n, wi_c, cmpD_eq_int, cmpD_ne_int, cmpD_eq_bl, cmpD_ne_bl, cmpD_lt, cmpD_le, cmpD_gt, cmpD_ge, cmpD_is, cmpD_isnot, truQ_bl, atI_0, atI_1, atI_2, atI_3, fin0, List.nil_append, List.append_nil, List.cons_append, List.getElem?_cons_zero, List.getElem?_cons_succ, set_0, set_s, List.length_cons, List.length_nil, Option.some.injEq, Val.sh.injEq, Val.ow.injEq, D.int.injEq, D.tup.injEq, D.lst.injEq, D.bl.injEq, exists_eq_left', exists_eq_left, true_and, and_true, Nat.reduceAdd, Nat.reduceLeDiff, Nat.zero_add, if_true, if_false, Bool.false_eq_true, reduceCtorEq, decide_eq_true_eq, Bool.not_eq_true, ne_eq, not_false_eq_true, reduceIte, decide_true, decide_false, Bool.not_true, Bool.not_false, step_nil_eq]
          exact ⟨_, _, _, _, _, _, _, _, _, _, _, _, _, _, _, _, _, _, _, rfl⟩
  · rintro ρ ⟨d2, d3, d4, d6, d7, d8, d9, d10, d11, d12, d13, d14, d15, d16, d17, d18, d19, d20, d21, rfl⟩
    exact kn _ _ _ _ _ _ _ _ _ _ _ _ _ _ _ _ _ _ _ _
end Lw
set_option maxHeartbeats 400000
namespace Lw
open Gx
variable {G : Nat → D}
theorem mono_t : ConMono Γt := by
  intro f ds Q Q' h w
  unfold Γt at w ⊢
  split at w
  · obtain ⟨p, q, n, e, h1, h2, h3, h4, k⟩ := w; exact ⟨p, q, n, e, h1, h2, h3, h4, fun x e b => h _ (k x e b)⟩
  · obtain ⟨a, b, n, e, h1, h2, h3, h4, k⟩ := w; exact ⟨a, b, n, e, h1, h2, h3, h4, h _ k⟩
  · obtain ⟨p, q, n, e, h1, h2, k⟩ := w; exact ⟨p, q, n, e, h1, h2, h _ k⟩
  · obtain ⟨a, b, c, d, n, e, h1, h2, h3, h4, h5, k⟩ := w; exact ⟨a, b, c, d, n, e, h1, h2, h3, h4, h5, h _ k⟩
  · obtain ⟨a, b, c, d, e, k⟩ := w; exact ⟨a, b, c, d, e, h _ k⟩
  · obtain ⟨a, b, c, d, e, h1, k⟩ := w; exact ⟨a, b, c, d, e, h1, h _ k⟩
  · obtain ⟨a, b, e, h1, k⟩ := w; exact ⟨a, b, e, h1, h _ k⟩
  · obtain ⟨m, e, h1, h2, k⟩ := w; exact ⟨m, e, h1, h2, fun d a b => h _ (k d a b)⟩
  · obtain ⟨m, e, h1, h2, k⟩ := w; exact ⟨m, e, h1, h2, fun d a b => h _ (k d a b)⟩
  · obtain ⟨d, e, h1, k⟩ := w; exact ⟨d, e, h1, h _ k⟩
  · obtain ⟨d, e, h1, k⟩ := w; exact ⟨d, e, h1, h _ k⟩
  · obtain ⟨d, e, h1, k⟩ := w; exact ⟨d, e, h1, h _ k⟩
  · obtain ⟨d, e, h1, k⟩ := w; exact ⟨d, e, h1, h _ k⟩
  · obtain ⟨d, e, h1, k⟩ := w; exact ⟨d, e, h1, h _ k⟩
  · obtain ⟨p, q, n, e, h1, h2, h3, h4, k⟩ := w; exact ⟨p, q, n, e, h1, h2, h3, h4, fun x e b => h _ (k x e b)⟩
  · obtain ⟨a, b, c, d, n, e, h1, h2, h3, h4, h5, h6, h7, k⟩ := w; exact ⟨a, b, c, d, n, e, h1, h2, h3, h4, h5, h6, h7, fun x e b => h _ (k x e b)⟩
  · obtain ⟨a, b, c, d, n, e, h1, h2, h3, h4, h5, h6, h7, k⟩ := w; exact ⟨a, b, c, d, n, e, h1, h2, h3, h4, h5, h6, h7, fun x e b => h _ (k x e b)⟩
  · obtain ⟨a, b, c, d, n, e, h1, h2, h3, h4, h5, k⟩ := w; exact ⟨a, b, c, d, n, e, h1, h2, h3, h4, h5, h _ k⟩
  · obtain ⟨m, e, h1, h2, k⟩ := w; exact ⟨m, e, h1, h2, fun d a b => h _ (k d a b)⟩
  · obtain ⟨p, q, n, e, h1, h2, k⟩ := w; exact ⟨p, q, n, e, h1, h2, h _ k⟩
  · obtain ⟨p, q, r, s, e, h1, h2, h3, h4, h5, h6, k⟩ := w; exact ⟨p, q, r, s, e, h1, h2, h3, h4, h5, h6, fun x e => h _ (k x e)⟩
  · obtain ⟨a, m, e, h1, h2, h3, k⟩ := w; exact ⟨a, m, e, h1, h2, h3, fun x a b c => h _ (k x a b c)⟩
  · obtain ⟨a, b, e, h1, k⟩ := w; exact ⟨a, b, e, h1, h _ k⟩
  · exact w.elim
theorem ok_prp (n : Nat) (l : List (Int × Int)) (h : l.length ≤ 10000) : OkE (n + 3) (.lst (l.map prp)) := by
  refine ⟨by rw [List.length_map]; exact h, fun x hx => ?_⟩
  obtain ⟨z, _, rfl⟩ := List.mem_map.mp hx
  simp [prp, pr, OkE]
/-! ### the chains' part -/
abbrev sChain : CS := CS.ife (CE.cmp CO.ne (CE.var 5) (CE.var 6))
          [CS.asg (CT.tup [CT.var 12, CT.var 13])
              ((CE.call 17 [CE.var 5, CE.var 6]).ife (CE.tup [CE.var 5, CE.var 6]) (CE.tup [CE.var 6, CE.var 5])),
            CS.asg (CT.var 3)
              (CE.comp [21] (CE.prim PK.tuple [CE.var 21]) (CT.var 21) IK.seq [CE.call 6 [CE.var 12, CE.var 13]] []),
            CS.ife (CE.call 13 [CE.var 3, CE.call 22 [CE.var 12, CE.var 13]]).not [CS.ret (CE.cst (D.bl false))] [],
            CS.fr (CT.tup [CT.var 14, CT.var 15]) IK.zip
              [CE.var 3, (CE.var 3).sl (some (CE.cst (D.int 1))) none]
              [CS.ife ((CE.call 17 [CE.var 14, CE.var 15]).not.or (CE.call 3 [CE.var 14, CE.var 15]).not)
                  [CS.ret (CE.cst (D.bl false))] []]]
          []
/-- a fraction of the chains' draws -/
structure Fr (p q : Int) : Prop where
  q0 : 0 < q
  q1 : q ≤ 64
  p0 : 0 ≤ p
  p1 : p ≤ 400
  g : Int.gcd p q = 1
theorem Fr.sm {p q : Int} (h : Fr p q) : Sm 24 p ∧ Sm 24 q := by
  have := h.q0; have := h.q1; have := h.p0; have := h.p1
  constructor <;> (unfold Sm; omega)
theorem Fr.ci {p q r s : Int} (h : Fr p q) (h2 : Fr r s) (e : p * s < r * q) : CI r s p q :=
  ⟨h.q0, h.q1, h2.q0, h2.q1, h2.p1, h.p0, by omega, h.g, h2.g⟩
theorem Fr.ne {p q r s : Int} (h : Fr p q) (h2 : Fr r s) (e : p * s = r * q) : p = r ∧ q = s :=
  Fq.ne (A := 400) (B := 400) ⟨h.q0, by have := h.q1; omega, by have := h.p0; omega, h.p1, h.g⟩ ⟨h2.q0, by have := h2.q1; omega, by have := h2.p0; omega, h2.p1, h2.g⟩ e
theorem mapTup (l : List (Int × Int)) (i : Nat) (d : D) (h : (l.map prp)[i]? = some d) : ∃ z, l[i]? = some z ∧ d = prp z := by
  rw [List.getElem?_map] at h
  cases q : l[i]? with
  | none => rw [q] at h; cases h
  | some z => rw [q] at h; cases h; exact ⟨z, rfl, rfl⟩
theorem cut1 (xs : List D) : cutD xs (some 1) none = xs.drop 1 := by
  unfold cutD
  rw [show HT.sIx xs.length 0 (some 1) = min 1 xs.length from HT.sIx_nat xs.length 0 1, HT.sIx_none]
  cases xs with
  | nil => rfl
  | cons x r =>
    rw [show min 1 (x :: r).length = 1 by rw [List.length_cons]; omega]
    show (List.take ((x :: r).length - 1) r) = r
    rw [List.length_cons, Nat.add_sub_cancel]
    exact List.take_length
theorem zipI {l : List (Int × Int)} {i : Nat} {d : D} (h : (List.zipWith (fun a b => D.tup [a, b]) (l.map prp) ((l.map prp).drop 1))[i]? = some d) : ∃ a b, l[i]? = some a ∧ l[i + 1]? = some b ∧ d = .tup [prp a, prp b] := by
  rw [List.getElem?_zipWith] at h
  cases h1 : (l.map prp)[i]? with
  | none => rw [h1] at h; cases h
  | some x =>
    cases h2 : ((l.map prp).drop 1)[i]? with
    | none => rw [h1, h2] at h; cases h
    | some y =>
      rw [h1, h2] at h
      cases h
      rw [List.getElem?_drop, Nat.add_comm] at h2
      obtain ⟨a, ha, rfl⟩ := mapTup l i x h1
      obtain ⟨b, hb, rfl⟩ := mapTup l (i + 1) y h2
      exact ⟨a, b, ha, hb, rfl⟩
theorem s_chain {p q r s : Int} (hp : Fr p q) (hr : Fr r s) {k : Gx.Fin} (kn : ∀ (d2 d3 d4 d5 d6 d7 d8 d9 d10 d11 d12 d13 d14 d15 d16 d17 d18 d19 d20 d21 : Option Val), k.nx [none, some (.sh (.hd 0)), d2, d3, d4, d5, d6, d7, d8, d9, d10, d11, d12, d13, d14, d15, d16, d17, d18, d19, d20, d21])
    (d2 d3 d4 d7 d8 d9 d10 d11 d12 d13 d14 d15 d16 d17 d18 d19 d20 d21 : Option Val) : wpS Γt G sChain k [none, some (.sh (.hd 0)), d2, d3, d4, some (.sh (pr p q)), some (.sh (pr r s)), d7, d8, d9, d10, d11, d12, d13, d14, d15, d16, d17, d18, d19, d20, d21] := by
  simp only [pr, wpS, wpE, wpEs, wpPs, wpT, wpO, wpIfs, pk_var, pk_cst, pk_glc, pk_bin, pk_neg, pk_not, pk_cmp, pk_chain, pk_and, pk_or, pk_ife, pk_tup, pk_lst, pk_idx, pk_sl, pk_rev, pk_isi, pk_maxK, pk_call, pk_prim, pk_comp, rt_var, rt_cst, rt_glc, rt_bin, rt_neg, rt_not, rt_cmp, rt_chain, rt_and, rt_or, rt_ife, rt_tup, rt_lst, rt_idx, rt_sl, rt_rev, rt_isi, rt_maxK, rt_call, rt_prim, rt_comp, stD_var, stD_tup, tgD_var, tgD_tt, tgD_tl, tgsD_nil, tgsD_cons, bare, bareP, bares, barePs, bareO, give_nil, give_cons, gG_s, gG_n, giveV_sh, giveV_ow, data_eq, shr_eq, own_eq, gD_s, gS_s, gO_s, vd_sh, vd_ow, b_add, b_sub, b_mul, b_fdiv, b_mod, b_pow, b_addL, b_addT, b_mulL, x_t, x_l, s_l, s_t, p_lenT, p_lenL, p_abs, p_int, p_intb, p_listT, p_listL, p_tupT, p_tupL, p_gcd, p_min, p_max, p_sum, i_t, i_l, i_r1, i_r2, i_zt, i_zl, n_i, bo_b, in_i, tr_n, tr_b, tr_i, tr_t, tr_l, nn_n, nn_t, nn_l, nn_i, nn_b, isiD_eq, isD, au_a, au_s, wi_n, wi_c, cmpD_eq_int, cmpD_ne_int, cmpD_eq_bl, cmpD_ne_bl, cmpD_lt, cmpD_le, cmpD_gt, cmpD_ge, cmpD_is, cmpD_isnot, truQ_bl, atI_0, atI_1, atI_2, atI_3, fin0, List.nil_append, List.append_nil, List.cons_append, List.getElem?_cons_zero, List.getElem?_cons_succ, set_0, set_s, List.length_cons, List.length_nil, Option.some.injEq, Val.sh.injEq, Val.ow.injEq, D.int.injEq, D.tup.injEq, D.lst.injEq, D.bl.injEq, exists_eq_left', exists_eq_left, true_and, and_true, Nat.reduceAdd, Nat.reduceLeDiff, Nat.zero_add, if_true, if_false, Bool.false_eq_true, reduceCtorEq, decide_eq_true_eq, Bool.not_eq_true, ne_eq, not_false_eq_true, reduceIte, decide_true, decide_false, Bool.not_true, Bool.not_false, step_nil_eq]
  refine cmp_neI (n := 1) (m := 1) (by simp [okI, okIs]) (by simp [okI, okIs]) (k := fun b hb => ?_)
  by_cases e : p = r ∧ q = s
  · obtain ⟨rfl, rfl⟩ := e
    have : b = false := by
      cases b
      · rfl
      · exact absurd rfl (hb.mp rfl)
    subst this
    simp only [wpS, wpE, wpEs, wpPs, wpT, wpO, wpIfs, pk_var, pk_cst, pk_glc, pk_bin, pk_neg, pk_not, pk_cmp, pk_chain, pk_and, pk_or, pk_ife, pk_tup, pk_lst, pk_idx, pk_sl, pk_rev, pk_isi, pk_maxK, pk_call, pk_prim, pk_comp, rt_var, rt_cst, rt_glc, rt_bin, rt_neg, rt_not, rt_cmp, rt_chain, rt_and, rt_or, rt_ife, rt_tup, rt_lst, rt_idx, rt_sl, rt_rev, rt_isi, rt_maxK, rt_call, rt_prim, rt_comp, stD_var, stD_tup, tgD_var, tgD_tt, tgD_tl, tgsD_nil, tgsD_cons, bare, bareP, bares, barePs, bareO, give_nil, give_cons, gG_s, gG_n, giveV_sh, giveV_ow, data_eq, shr_eq, own_eq, gD_s, gS_s, gO_s, vd_sh, vd_ow, b_add, b_sub, b_mul, b_fdiv, b_mod, b_pow, b_addL, b_addT, b_mulL, x_t, x_l, s_l, s_t, p_lenT, p_lenL, p_abs, p_int, p_intb, p_listT, p_listL, p_tupT, p_tupL, p_gcd, p_min, p_max, p_sum, i_t, i_l, i_r1, i_r2, i_zt, i_zl, n_i, bo_b, in_i, tr_n, tr_b, tr_i, tr_t, tr_l, nn_n, nn_t, nn_l, nn_i, nn_b, isiD_eq, isD, au_a, au_s, wi_n, wi_c, cmpD_eq_int, cmpD_ne_int, cmpD_eq_bl, cmpD_ne_bl, cmpD_lt, cmpD_le, cmpD_gt, cmpD_ge, cmpD_is, cmpD_isnot, truQ_bl, atI_0, atI_1, atI_2, atI_3, fin0, List.nil_append, List.append_nil, List.cons_append, List.getElem?_cons_zero, List.getElem?_cons_succ, set_0, set_s, List.length_cons, List.length_nil, Option.some.injEq, Val.sh.injEq, Val.ow.injEq, D.int.injEq, D.tup.injEq, D.lst.injEq, D.bl.injEq, exists_eq_left', exists_eq_left, true_and, and_true, Nat.reduceAdd, Nat.reduceLeDiff, Nat.zero_add, if_true, if_false, Bool.false_eq_true, reduceCtorEq, decide_eq_true_eq, Bool.not_eq_true, ne_eq, not_false_eq_true, reduceIte, decide_true, decide_false, Bool.not_true, Bool.not_false, step_nil_eq]
    exact kn _ _ _ _ _ _ _ _ _ _ _ _ _ _ _ _ _ _ _ _
  · have : b = true := hb.mpr fun z => e (by simpa using z)
    subst this
    simp only [wpS, wpE, wpEs, wpPs, wpT, wpO, wpIfs, pk_var, pk_cst, pk_glc, pk_bin, pk_neg, pk_not, pk_cmp, pk_chain, pk_and, pk_or, pk_ife, pk_tup, pk_lst, pk_idx, pk_sl, pk_rev, pk_isi, pk_maxK, pk_call, pk_prim, pk_comp, rt_var, rt_cst, rt_glc, rt_bin, rt_neg, rt_not, rt_cmp, rt_chain, rt_and, rt_or, rt_ife, rt_tup, rt_lst, rt_idx, rt_sl, rt_rev, rt_isi, rt_maxK, rt_call, rt_prim, rt_comp, stD_var, stD_tup, tgD_var, tgD_tt, tgD_tl, tgsD_nil, tgsD_cons, bare, bareP, bares, barePs, bareO, give_nil, give_cons, gG_s, gG_n, giveV_sh, giveV_ow, data_eq, shr_eq, own_eq, gD_s, gS_s, gO_s, vd_sh, vd_ow, b_add, b_sub, b_mul, b_fdiv, b_mod, b_pow, b_addL, b_addT, b_mulL, x_t, x_l, s_l, s_t, p_lenT, p_lenL, p_abs, p_int, p_intb, p_listT, p_listL, p_tupT, p_tupL, p_gcd, p_min, p_max, p_sum, i_t, i_l, i_r1, i_r2, i_zt, i_zl, n_i, bo_b, in_i, tr_n, tr_b, tr_i, tr_t, tr_l, nn_n, nn_t, nn_l, nn_i, nn_b, isiD_eq, isD, au_a, au_s, wi_n, wi_c, cmpD_eq_int, cmpD_ne_int, cmpD_eq_bl, cmpD_ne_bl, cmpD_lt, cmpD_le, cmpD_gt, cmpD_ge, cmpD_is, cmpD_isnot, truQ_bl, atI_0, atI_1, atI_2, atI_3, fin0, List.nil_append, List.append_nil, List.cons_append, List.getElem?_cons_zero, List.getElem?_cons_succ, set_0, set_s, List.length_cons, List.length_nil, Option.some.injEq, Val.sh.injEq, Val.ow.injEq, D.int.injEq, D.tup.injEq, D.lst.injEq, D.bl.injEq, exists_eq_left', exists_eq_left, true_and, and_true, Nat.reduceAdd, Nat.reduceLeDiff, Nat.zero_add, if_true, if_false, Bool.false_eq_true, reduceCtorEq, decide_eq_true_eq, Bool.not_eq_true, ne_eq, not_false_eq_true, reduceIte, decide_true, decide_false, Bool.not_true, Bool.not_false, step_nil_eq]
    obtain ⟨sp, sq⟩ := hp.sm
    obtain ⟨sr, ss⟩ := hr.sm
    have t0 : p * s ≠ r * q := fun z => e (Fr.ne hp hr z)
    have fin : ∀ (x y : Int × Int), CP y x → ∀ (d2 d3 d4 d5 d6 d7 d8 d9 d10 d11 d14 d15 d16 d17 d18 d19 d20 d21 : Option Val),
        wpB Γt G [CS.asg (CT.var 3)
              (CE.comp [21] (CE.prim PK.tuple [CE.var 21]) (CT.var 21) IK.seq [CE.call 6 [CE.var 12, CE.var 13]] []),
            CS.ife (CE.call 13 [CE.var 3, CE.call 22 [CE.var 12, CE.var 13]]).not [CS.ret (CE.cst (D.bl false))] [],
            CS.fr (CT.tup [CT.var 14, CT.var 15]) IK.zip
              [CE.var 3, (CE.var 3).sl (some (CE.cst (D.int 1))) none]
              [CS.ife ((CE.call 17 [CE.var 14, CE.var 15]).not.or (CE.call 3 [CE.var 14, CE.var 15]).not)
                  [CS.ret (CE.cst (D.bl false))] []]] k [none, some (.sh (.hd 0)), d2, d3, d4, d5, d6, d7, d8, d9, d10, d11, some (.sh (prp x)), some (.sh (prp y)), d14, d15, d16, d17, d18, d19, d20, d21] := by
      intro x y I d2 d3 d4 d5 d6 d7 d8 d9 d10 d11 d14 d15 d16 d17 d18 d19 d20 d21
      have hl : (chl x y 700).length ≤ 701 := chl_len 700
      have hall := chl_all I 700
      have hpr := chl_pair I 700
      generalize hL : chl x y 700 = L at hl hall hpr
      refine step_cons ?_
      simp only [g6, wpS, wpE, wpEs, wpPs, wpT, wpO, wpIfs, pk_var, pk_cst, pk_glc, pk_bin, pk_neg, pk_not, pk_cmp, pk_chain, pk_and, pk_or, pk_ife, pk_tup, pk_lst, pk_idx, pk_sl, pk_rev, pk_isi, pk_maxK, pk_call, pk_prim, pk_comp, rt_var, rt_cst, rt_glc, rt_bin, rt_neg, rt_not, rt_cmp, rt_chain, rt_and, rt_or, rt_ife, rt_tup, rt_lst, rt_idx, rt_sl, rt_rev, rt_isi, rt_maxK, rt_call, rt_prim, rt_comp, stD_var, stD_tup, tgD_var, tgD_tt, tgD_tl, tgsD_nil, tgsD_cons, bare, bareP, bares, barePs, bareO, give_nil, give_cons, gG_s, gG_n, giveV_sh, giveV_ow, data_eq, shr_eq, own_eq, gD_s, gS_s, gO_s, vd_sh, vd_ow, b_add, b_sub, b_mul, b_fdiv, b_mod, b_pow, b_addL, b_addT, b_mulL, x_t, x_l, s_l, s_t, p_lenT, p_lenL, p_abs, p_int, p_intb, p_listT, p_listL, p_tupT, p_tupL, p_gcd, p_min, p_max, p_sum, i_t, i_l, i_r1, i_r2, i_zt, i_zl, n_i, bo_b, in_i, tr_n, tr_b, tr_i, tr_t, tr_l, nn_n, nn_t, nn_l, nn_i, nn_b, isiD_eq, isD, au_a, au_s, wi_n, wi_c, cmpD_eq_int, cmpD_ne_int, cmpD_eq_bl, cmpD_ne_bl, cmpD_lt, cmpD_le, cmpD_gt, cmpD_ge, cmpD_is, cmpD_isnot, truQ_bl, atI_0, atI_1, atI_2, atI_3, fin0, List.nil_append, List.append_nil, List.cons_append, List.getElem?_cons_zero, List.getElem?_cons_succ, set_0, set_s, List.length_cons, List.length_nil, Option.some.injEq, Val.sh.injEq, Val.ow.injEq, D.int.injEq, D.tup.injEq, D.lst.injEq, D.bl.injEq, exists_eq_left', exists_eq_left, true_and, and_true, Nat.reduceAdd, Nat.reduceLeDiff, Nat.zero_add, if_true, if_false, Bool.false_eq_true, reduceCtorEq, decide_eq_true_eq, Bool.not_eq_true, ne_eq, not_false_eq_true, reduceIte, decide_true, decide_false, Bool.not_true, Bool.not_false, step_nil_eq]
      refine ⟨x, y, rfl, I, ?_⟩
      rw [hL]
      simp only [wpS, wpE, wpEs, wpPs, wpT, wpO, wpIfs, pk_var, pk_cst, pk_glc, pk_bin, pk_neg, pk_not, pk_cmp, pk_chain, pk_and, pk_or, pk_ife, pk_tup, pk_lst, pk_idx, pk_sl, pk_rev, pk_isi, pk_maxK, pk_call, pk_prim, pk_comp, rt_var, rt_cst, rt_glc, rt_bin, rt_neg, rt_not, rt_cmp, rt_chain, rt_and, rt_or, rt_ife, rt_tup, rt_lst, rt_idx, rt_sl, rt_rev, rt_isi, rt_maxK, rt_call, rt_prim, rt_comp, stD_var, stD_tup, tgD_var, tgD_tt, tgD_tl, tgsD_nil, tgsD_cons, bare, bareP, bares, barePs, bareO, give_nil, give_cons, gG_s, gG_n, giveV_sh, giveV_ow, data_eq, shr_eq, own_eq, gD_s, gS_s, gO_s, vd_sh, vd_ow, b_add, b_sub, b_mul, b_fdiv, b_mod, b_pow, b_addL, b_addT, b_mulL, x_t, x_l, s_l, s_t, p_lenT, p_lenL, p_abs, p_int, p_intb, p_listT, p_listL, p_tupT, p_tupL, p_gcd, p_min, p_max, p_sum, i_t, i_l, i_r1, i_r2, i_zt, i_zl, n_i, bo_b, in_i, tr_n, tr_b, tr_i, tr_t, tr_l, nn_n, nn_t, nn_l, nn_i, nn_b, isiD_eq, isD, au_a, au_s, wi_n, wi_c, cmpD_eq_int, cmpD_ne_int, cmpD_eq_bl, cmpD_ne_bl, cmpD_lt, cmpD_le, cmpD_gt, cmpD_ge, cmpD_is, cmpD_isnot, truQ_bl, atI_0, atI_1, atI_2, atI_3, fin0, List.nil_append, List.append_nil, List.cons_append, List.getElem?_cons_zero, List.getElem?_cons_succ, set_0, set_s, List.length_cons, List.length_nil, Option.some.injEq, Val.sh.injEq, Val.ow.injEq, D.int.injEq, D.tup.injEq, D.lst.injEq, D.bl.injEq, exists_eq_left', exists_eq_left, true_and, and_true, Nat.reduceAdd, Nat.reduceLeDiff, Nat.zero_add, if_true, if_false, Bool.false_eq_true, reduceCtorEq, decide_eq_true_eq, Bool.not_eq_true, ne_eq, not_false_eq_true, reduceIte, decide_true, decide_false, Bool.not_true, Bool.not_false, step_nil_eq]
      refine ⟨by rw [List.length_map]; omega, fun i acc => acc = (L.map prp).take i, rfl, ?_, ?_⟩
      · rintro i d acc hi rfl
        obtain ⟨z, hz, rfl⟩ := mapTup _ _ _ hi
        simp only [prp, pr, wpS, wpE, wpEs, wpPs, wpT, wpO, wpIfs, pk_var, pk_cst, pk_glc, pk_bin, pk_neg, pk_not, pk_cmp, pk_chain, pk_and, pk_or, pk_ife, pk_tup, pk_lst, pk_idx, pk_sl, pk_rev, pk_isi, pk_maxK, pk_call, pk_prim, pk_comp, rt_var, rt_cst, rt_glc, rt_bin, rt_neg, rt_not, rt_cmp, rt_chain, rt_and, rt_or, rt_ife, rt_tup, rt_lst, rt_idx, rt_sl, rt_rev, rt_isi, rt_maxK, rt_call, rt_prim, rt_comp, stD_var, stD_tup, tgD_var, tgD_tt, tgD_tl, tgsD_nil, tgsD_cons, bare, bareP, bares, barePs, bareO, give_nil, give_cons, gG_s, gG_n, giveV_sh, giveV_ow, data_eq, shr_eq, own_eq, gD_s, gS_s, gO_s, vd_sh, vd_ow, b_add, b_sub, b_mul, b_fdiv, b_mod, b_pow, b_addL, b_addT, b_mulL, x_t, x_l, s_l, s_t, p_lenT, p_lenL, p_abs, p_int, p_intb, p_listT, p_listL, p_tupT, p_tupL, p_gcd, p_min, p_max, p_sum, i_t, i_l, i_r1, i_r2, i_zt, i_zl, n_i, bo_b, in_i, tr_n, tr_b, tr_i, tr_t, tr_l, nn_n, nn_t, nn_l, nn_i, nn_b, isiD_eq, isD, au_a, au_s, wi_n, wi_c, cmpD_eq_int, cmpD_ne_int, cmpD_eq_bl, cmpD_ne_bl, cmpD_lt, cmpD_le, cmpD_gt, cmpD_ge, cmpD_is, cmpD_isnot, truQ_bl, atI_0, atI_1, atI_2, atI_3, fin0, List.nil_append, List.append_nil, List.cons_append, List.getElem?_cons_zero, List.getElem?_cons_succ, set_0, set_s, List.length_cons, List.length_nil, Option.some.injEq, Val.sh.injEq, Val.ow.injEq, D.int.injEq, D.tup.injEq, D.lst.injEq, D.bl.injEq, exists_eq_left', exists_eq_left, true_and, and_true, Nat.reduceAdd, Nat.reduceLeDiff, Nat.zero_add, if_true, if_false, Bool.false_eq_true, reduceCtorEq, decide_eq_true_eq, Bool.not_eq_true, ne_eq, not_false_eq_true, reduceIte, decide_true, decide_false, Bool.not_true, Bool.not_false, step_nil_eq]
        rw [List.take_succ, hi]; rfl
      · rintro acc rfl
        rw [List.take_length]
        refine step_cons ?_
        simp only [g13, g22, wpS, wpE, wpEs, wpPs, wpT, wpO, wpIfs, pk_var, pk_cst, pk_glc, pk_bin, pk_neg, pk_not, pk_cmp, pk_chain, pk_and, pk_or, pk_ife, pk_tup, pk_lst, pk_idx, pk_sl, pk_rev, pk_isi, pk_maxK, pk_call, pk_prim, pk_comp, rt_var, rt_cst, rt_glc, rt_bin, rt_neg, rt_not, rt_cmp, rt_chain, rt_and, rt_or, rt_ife, rt_tup, rt_lst, rt_idx, rt_sl, rt_rev, rt_isi, rt_maxK, rt_call, rt_prim, rt_comp, stD_var, stD_tup, tgD_var, tgD_tt, tgD_tl, tgsD_nil, tgsD_cons, bare, bareP, bares, barePs, bareO, give_nil, give_cons, gG_s, gG_n, giveV_sh, giveV_ow, data_eq, shr_eq, own_eq, gD_s, gS_s, gO_s, vd_sh, vd_ow, b_add, b_sub, b_mul, b_fdiv, b_mod, b_pow, b_addL, b_addT, b_mulL, x_t, x_l, s_l, s_t, p_lenT, p_lenL, p_abs, p_int, p_intb, p_listT, p_listL, p_tupT, p_tupL, p_gcd, p_min, p_max, p_sum, i_t, i_l, i_r1, i_r2, i_zt, i_zl, n_i, bo_b, in_i, tr_n, tr_b, tr_i, tr_t, tr_l, nn_n, nn_t, nn_l, nn_i, nn_b, isiD_eq, isD, au_a, au_s, wi_n, wi_c, cmpD_eq_int, cmpD_ne_int, cmpD_eq_bl, cmpD_ne_bl, cmpD_lt, cmpD_le, cmpD_gt, cmpD_ge, cmpD_is, cmpD_isnot, truQ_bl, atI_0, atI_1, atI_2, atI_3, fin0, List.nil_append, List.append_nil, List.cons_append, List.getElem?_cons_zero, List.getElem?_cons_succ, set_0, set_s, List.length_cons, List.length_nil, Option.some.injEq, Val.sh.injEq, Val.ow.injEq, D.int.injEq, D.tup.injEq, D.lst.injEq, D.bl.injEq, exists_eq_left', exists_eq_left, true_and, and_true, Nat.reduceAdd, Nat.reduceLeDiff, Nat.zero_add, if_true, if_false, Bool.false_eq_true, reduceCtorEq, decide_eq_true_eq, Bool.not_eq_true, ne_eq, not_false_eq_true, reduceIte, decide_true, decide_false, Bool.not_true, Bool.not_false, step_nil_eq]
        refine ⟨x, y, rfl, I, ?_⟩
        rw [hL]
        refine ⟨_, rfl, ok_prp 2 _ (by omega), ?_⟩
        simp only [wpS, wpE, wpEs, wpPs, wpT, wpO, wpIfs, pk_var, pk_cst, pk_glc, pk_bin, pk_neg, pk_not, pk_cmp, pk_chain, pk_and, pk_or, pk_ife, pk_tup, pk_lst, pk_idx, pk_sl, pk_rev, pk_isi, pk_maxK, pk_call, pk_prim, pk_comp, rt_var, rt_cst, rt_glc, rt_bin, rt_neg, rt_not, rt_cmp, rt_chain, rt_and, rt_or, rt_ife, rt_tup, rt_lst, rt_idx, rt_sl, rt_rev, rt_isi, rt_maxK, rt_call, rt_prim, rt_comp, stD_var, stD_tup, tgD_var, tgD_tt, tgD_tl, tgsD_nil, tgsD_cons, bare, bareP, bares, barePs, bareO, give_nil, give_cons, gG_s, gG_n, giveV_sh, giveV_ow, data_eq, shr_eq, own_eq, gD_s, gS_s, gO_s, vd_sh, vd_ow, b_add, b_sub, b_mul, b_fdiv, b_mod, b_pow, b_addL, b_addT, b_mulL, x_t, x_l, s_l, s_t, p_lenT, p_lenL, p_abs, p_int, p_intb, p_listT, p_listL, p_tupT, p_tupL, p_gcd, p_min, p_max, p_sum, i_t, i_l, i_r1, i_r2, i_zt, i_zl, n_i, bo_b, in_i, tr_n, tr_b, tr_i, tr_t, tr_l, nn_n, nn_t, nn_l, nn_i, nn_b, isiD_eq, isD, au_a, au_s, wi_n, wi_c, cmpD_eq_int, cmpD_ne_int, cmpD_eq_bl, cmpD_ne_bl, cmpD_lt, cmpD_le, cmpD_gt, cmpD_ge, cmpD_is, cmpD_isnot, truQ_bl, atI_0, atI_1, atI_2, atI_3, fin0, List.nil_append, List.append_nil, List.cons_append, List.getElem?_cons_zero, List.getElem?_cons_succ, set_0, set_s, List.length_cons, List.length_nil, Option.some.injEq, Val.sh.injEq, Val.ow.injEq, D.int.injEq, D.tup.injEq, D.lst.injEq, D.bl.injEq, exists_eq_left', exists_eq_left, true_and, and_true, Nat.reduceAdd, Nat.reduceLeDiff, Nat.zero_add, if_true, if_false, Bool.false_eq_true, reduceCtorEq, decide_eq_true_eq, Bool.not_eq_true, ne_eq, not_false_eq_true, reduceIte, decide_true, decide_false, Bool.not_true, Bool.not_false, step_nil_eq]
        refine step_cons ?_
        simp only [cut1, wpS, wpE, wpEs, wpPs, wpT, wpO, wpIfs, pk_var, pk_cst, pk_glc, pk_bin, pk_neg, pk_not, pk_cmp, pk_chain, pk_and, pk_or, pk_ife, pk_tup, pk_lst, pk_idx, pk_sl, pk_rev, pk_isi, pk_maxK, pk_call, pk_prim, pk_comp, rt_var, rt_cst, rt_glc, rt_bin, rt_neg, rt_not, rt_cmp, rt_chain, rt_and, rt_or, rt_ife, rt_tup, rt_lst, rt_idx, rt_sl, rt_rev, rt_isi, rt_maxK, rt_call, rt_prim, rt_comp, stD_var, stD_tup, tgD_var, tgD_tt, tgD_tl, tgsD_nil, tgsD_cons, bare, bareP, bares, barePs, bareO, give_nil, give_cons, gG_s, gG_n, giveV_sh, giveV_ow, data_eq, shr_eq, own_eq, gD_s, gS_s, gO_s, vd_sh, vd_ow, b_add, b_sub, b_mul, b_fdiv, b_mod, b_pow, b_addL, b_addT, b_mulL, x_t, x_l, s_l, s_t, p_lenT, p_lenL, p_abs, p_int, p_intb, p_listT, p_listL, p_tupT, p_tupL, p_gcd, p_min, p_max, p_sum, i_t, i_l, i_r1, i_r2, i_zt, i_zl, n_i, bo_b, in_i, tr_n, tr_b, tr_i, tr_t, tr_l, nn_n, nn_t, nn_l, nn_i, nn_b, isiD_eq, isD, au_a, au_s, wi_n, wi_c, cmpD_eq_int, cmpD_ne_int, cmpD_eq_bl, cmpD_ne_bl, cmpD_lt, cmpD_le, cmpD_gt, cmpD_ge, cmpD_is, cmpD_isnot, truQ_bl, atI_0, atI_1, atI_2, atI_3, fin0, List.nil_append, List.append_nil, List.cons_append, List.getElem?_cons_zero, List.getElem?_cons_succ, set_0, set_s, List.length_cons, List.length_nil, Option.some.injEq, Val.sh.injEq, Val.ow.injEq, D.int.injEq, D.tup.injEq, D.lst.injEq, D.bl.injEq, exists_eq_left', exists_eq_left, true_and, and_true, Nat.reduceAdd, Nat.reduceLeDiff, Nat.zero_add, if_true, if_false, Bool.false_eq_true, reduceCtorEq, decide_eq_true_eq, Bool.not_eq_true, ne_eq, not_false_eq_true, reduceIte, decide_true, decide_false, Bool.not_true, Bool.not_false, step_nil_eq]
        refine ⟨fun i ρ => ∃ (d2 d3 d4 d5 d6 d7 d8 d9 d10 d11 d12 d13 d14 d15 d16 d17 d18 d19 d20 d21 : Option Val), ρ = [none, some (.sh (.hd 0)), d2, d3, d4, d5, d6, d7, d8, d9, d10, d11, d12, d13, d14, d15, d16, d17, d18, d19, d20, d21], ⟨_, _, _, _, _, _, _, _, _, _, _, _, _, _, _, _, _, _, _, _, rfl⟩, ?_, ?_⟩
        · rintro i d ρ hi ⟨d2, d3, d4, d5, d6, d7, d8, d9, d10, d11, d12, d13, d14, d15, d16, d17, d18, d19, d20, d21, rfl⟩
          obtain ⟨a, b, ha, hb, rfl⟩ := zipI hi
          have ca := hall a (List.mem_of_getElem? ha)
          have cb := hall b (List.mem_of_getElem? hb)
          have hpair := hpr i a b ha hb
          have sa : Sm 24 a.1 ∧ Sm 24 a.2 := by
            have := ca.pB; have := ca.p0; have := ca.q0; have := ca.q1
            constructor <;> (unfold Sm; omega)
          have sb : Sm 24 b.1 ∧ Sm 24 b.2 := by
            have := cb.pB; have := cb.p0; have := cb.q0; have := cb.q1
            constructor <;> (unfold Sm; omega)
          simp only [wpS, wpE, wpEs, wpPs, wpT, wpO, wpIfs, pk_var, pk_cst, pk_glc, pk_bin, pk_neg, pk_not, pk_cmp, pk_chain, pk_and, pk_or, pk_ife, pk_tup, pk_lst, pk_idx, pk_sl, pk_rev, pk_isi, pk_maxK, pk_call, pk_prim, pk_comp, rt_var, rt_cst, rt_glc, rt_bin, rt_neg, rt_not, rt_cmp, rt_chain, rt_and, rt_or, rt_ife, rt_tup, rt_lst, rt_idx, rt_sl, rt_rev, rt_isi, rt_maxK, rt_call, rt_prim, rt_comp, stD_var, stD_tup, tgD_var, tgD_tt, tgD_tl, tgsD_nil, tgsD_cons, bare, bareP, bares, barePs, bareO, give_nil, give_cons, gG_s, gG_n, giveV_sh, giveV_ow, data_eq, shr_eq, own_eq, gD_s, gS_s, gO_s, vd_sh, vd_ow, b_add, b_sub, b_mul, b_fdiv, b_mod, b_pow, b_addL, b_addT, b_mulL, x_t, x_l, s_l, s_t, p_lenT, p_lenL, p_abs, p_int, p_intb, p_listT, p_listL, p_tupT, p_tupL, p_gcd, p_min, p_max, p_sum, i_t, i_l, i_r1, i_r2, i_zt, i_zl, n_i, bo_b, in_i, tr_n, tr_b, tr_i, tr_t, tr_l, nn_n, nn_t, nn_l, nn_i, nn_b, isiD_eq, isD, au_a, au_s, wi_n, wi_c, cmpD_eq_int, cmpD_ne_int, cmpD_eq_bl, cmpD_ne_bl, cmpD_lt, cmpD_le, cmpD_gt, cmpD_ge, cmpD_is, cmpD_isnot, truQ_bl, atI_0, atI_1, atI_2, atI_3, fin0, List.nil_append, List.append_nil, List.cons_append, List.getElem?_cons_zero, List.getElem?_cons_succ, set_0, set_s, List.length_cons, List.length_nil, Option.some.injEq, Val.sh.injEq, Val.ow.injEq, D.int.injEq, D.tup.injEq, D.lst.injEq, D.bl.injEq, exists_eq_left', exists_eq_left, true_and, and_true, Nat.reduceAdd, Nat.reduceLeDiff, Nat.zero_add, if_true, if_false, Bool.false_eq_true, reduceCtorEq, decide_eq_true_eq, Bool.not_eq_true, ne_eq, not_false_eq_true, reduceIte, decide_true, decide_false, Bool.not_true, Bool.not_false, step_nil_eq]
          refine step_cons ?_
          simp only [g3, g17, prp, wpS, wpE, wpEs, wpPs, wpT, wpO, wpIfs, pk_var, pk_cst, pk_glc, pk_bin, pk_neg, pk_not, pk_cmp, pk_chain, pk_and, pk_or, pk_ife, pk_tup, pk_lst, pk_idx, pk_sl, pk_rev, pk_isi, pk_maxK, pk_call, pk_prim, pk_comp, rt_var, rt_cst, rt_glc, rt_bin, rt_neg, rt_not, rt_cmp, rt_chain, rt_and, rt_or, rt_ife, rt_tup, rt_lst, rt_idx, rt_sl, rt_rev, rt_isi, rt_maxK, rt_call, rt_prim, rt_comp, stD_var, stD_tup, tgD_var, tgD_tt, tgD_tl, tgsD_nil, tgsD_cons, bare, bareP, bares, barePs, bareO, give_nil, give_cons, gG_s, gG_n, giveV_sh, giveV_ow, data_eq, shr_eq, own_eq, gD_s, gS_s, gO_s, vd_sh, vd_ow, b_add, b_sub, b_mul, b_fdiv, b_mod, b_pow, b_addL, b_addT, b_mulL, x_t, x_l, s_l, s_t, p_lenT, p_lenL, p_abs, p_int, p_intb, p_listT, p_listL, p_tupT, p_tupL, p_gcd, p_min, p_max, p_sum, i_t, i_l, i_r1, i_r2, i_zt, i_zl, n_i, bo_b, in_i, tr_n, tr_b, tr_i, tr_t, tr_l, nn_n, nn_t, nn_l, nn_i, nn_b, isiD_eq, isD, au_a, au_s, wi_n, wi_c, cmpD_eq_int, cmpD_ne_int, cmpD_eq_bl, cmpD_ne_bl, cmpD_lt, cmpD_le, cmpD_gt, cmpD_ge, cmpD_is, cmpD_isnot, truQ_bl, atI_0, atI_1, atI_2, atI_3, fin0, List.nil_append, List.append_nil, List.cons_append, List.getElem?_cons_zero, List.getElem?_cons_succ, set_0, set_s, List.length_cons, List.length_nil, Option.some.injEq, Val.sh.injEq, Val.ow.injEq, D.int.injEq, D.tup.injEq, D.lst.injEq, D.bl.injEq, exists_eq_left', exists_eq_left, true_and, and_true, Nat.reduceAdd, Nat.reduceLeDiff, Nat.zero_add, if_true, if_false, Bool.false_eq_true, reduceCtorEq, decide_eq_true_eq, Bool.not_eq_true, ne_eq, not_false_eq_true, reduceIte, decide_true, decide_false, Bool.not_true, Bool.not_false, step_nil_eq]
          refine ⟨a.1, a.2, b.1, b.2, 24, rfl, sa.1, sa.2, sb.1, sb.2, by decide, ?_⟩
          have l1 : a.1 * b.2 < b.1 * a.2 := by omega
          simp only [l1, wpS, wpE, wpEs, wpPs, wpT, wpO, wpIfs, pk_var, pk_cst, pk_glc, pk_bin, pk_neg, pk_not, pk_cmp, pk_chain, pk_and, pk_or, pk_ife, pk_tup, pk_lst, pk_idx, pk_sl, pk_rev, pk_isi, pk_maxK, pk_call, pk_prim, pk_comp, rt_var, rt_cst, rt_glc, rt_bin, rt_neg, rt_not, rt_cmp, rt_chain, rt_and, rt_or, rt_ife, rt_tup, rt_lst, rt_idx, rt_sl, rt_rev, rt_isi, rt_maxK, rt_call, rt_prim, rt_comp, stD_var, stD_tup, tgD_var, tgD_tt, tgD_tl, tgsD_nil, tgsD_cons, bare, bareP, bares, barePs, bareO, give_nil, give_cons, gG_s, gG_n, giveV_sh, giveV_ow, data_eq, shr_eq, own_eq, gD_s, gS_s, gO_s, vd_sh, vd_ow, b_add, b_sub, b_mul, b_fdiv, b_mod, b_pow, b_addL, b_addT, b_mulL, x_t, x_l, s_l, s_t, p_lenT, p_lenL, p_abs, p_int, p_intb, p_listT, p_listL, p_tupT, p_tupL, p_gcd, p_min, p_max, p_sum, i_t, i_l, i_r1, i_r2, i_zt, i_zl, n_i, bo_b, in_i, tr_n, tr_b, tr_i, tr_t, tr_l, nn_n, nn_t, nn_l, nn_i, nn_b, isiD_eq, isD, au_a, au_s, wi_n, wi_c, cmpD_eq_int, cmpD_ne_int, cmpD_eq_bl, cmpD_ne_bl, cmpD_lt, cmpD_le, cmpD_gt, cmpD_ge, cmpD_is, cmpD_isnot, truQ_bl, atI_0, atI_1, atI_2, atI_3, fin0, List.nil_append, List.append_nil, List.cons_append, List.getElem?_cons_zero, List.getElem?_cons_succ, set_0, set_s, List.length_cons, List.length_nil, Option.some.injEq, Val.sh.injEq, Val.ow.injEq, D.int.injEq, D.tup.injEq, D.lst.injEq, D.bl.injEq, exists_eq_left', exists_eq_left, true_and, and_true, Nat.reduceAdd, Nat.reduceLeDiff, Nat.zero_add, if_true, if_false, Bool.false_eq_true, reduceCtorEq, decide_eq_true_eq, Bool.not_eq_true, ne_eq, not_false_eq_true, reduceIte, decide_true, decide_false, Bool.not_true, Bool.not_false, step_nil_eq]
          refine ⟨a.1, a.2, b.1, b.2, 24, rfl, sa.1, sa.2, sb.1, sb.2, by decide, ?_⟩
          have l2 : (a.1 * b.2 - a.2 * b.1 = 1 ∨ a.1 * b.2 - a.2 * b.1 = -1) := by right; rw [Int.mul_comm a.2 b.1]; omega
          simp only [l2, wpS, wpE, wpEs, wpPs, wpT, wpO, wpIfs, pk_var, pk_cst, pk_glc, pk_bin, pk_neg, pk_not, pk_cmp, pk_chain, pk_and, pk_or, pk_ife, pk_tup, pk_lst, pk_idx, pk_sl, pk_rev, pk_isi, pk_maxK, pk_call, pk_prim, pk_comp, rt_var, rt_cst, rt_glc, rt_bin, rt_neg, rt_not, rt_cmp, rt_chain, rt_and, rt_or, rt_ife, rt_tup, rt_lst, rt_idx, rt_sl, rt_rev, rt_isi, rt_maxK, rt_call, rt_prim, rt_comp, stD_var, stD_tup, tgD_var, tgD_tt, tgD_tl, tgsD_nil, tgsD_cons, bare, bareP, bares, barePs, bareO, give_nil, give_cons, gG_s, gG_n, giveV_sh, giveV_ow, data_eq, shr_eq, own_eq, gD_s, gS_s, gO_s, vd_sh, vd_ow, b_add, b_sub, b_mul, b_fdiv, b_mod, b_pow, b_addL, b_addT, b_mulL, x_t, x_l, s_l, s_t, p_lenT, p_lenL, p_abs, p_int, p_intb, p_listT, p_listL, p_tupT, p_tupL, p_gcd, p_min, p_max, p_sum, i_t, i_l, i_r1, i_r2, i_zt, i_zl, n_i, bo_b, in_i, tr_n, tr_b, tr_i, tr_t, tr_l, nn_n, nn_t, nn_l, nn_i, nn_b, isiD_eq, isD, au_a, au_s, wi_n, wi_c, cmpD_eq_int, cmpD_ne_int, cmpD_eq_bl, cmpD_ne_bl, cmpD_lt, cmpD_le, cmpD_gt, cmpD_ge, cmpD_is, cmpD_isnot, truQ_bl, atI_0, atI_1, atI_2, atI_3, fin0, List.nil_append, List.append_nil, List.cons_append, List.getElem?_cons_zero, List.getElem?_cons_succ, set_0, set_s, List.length_cons, List.length_nil, Option.some.injEq, Val.sh.injEq, Val.ow.injEq, D.int.injEq, D.tup.injEq, D.lst.injEq, D.bl.injEq, exists_eq_left', exists_eq_left, true_and, and_true, Nat.reduceAdd, Nat.reduceLeDiff, Nat.zero_add, if_true, if_false, Bool.false_eq_true, reduceCtorEq, decide_eq_true_eq, Bool.not_eq_true, ne_eq, not_false_eq_true, reduceIte, decide_true, decide_false, Bool.not_true, Bool.not_false, step_nil_eq]
          exact ⟨_, _, _, _, _, _, _, _, _, _, _, _, _, _, _, _, _, _, _, _, rfl⟩
        · rintro ρ ⟨d2, d3, d4, d5, d6, d7, d8, d9, d10, d11, d12, d13, d14, d15, d16, d17, d18, d19, d20, d21, rfl⟩
          exact kn _ _ _ _ _ _ _ _ _ _ _ _ _ _ _ _ _ _ _ _
    refine step_cons ?_
    simp only [g17, wpS, wpE, wpEs, wpPs, wpT, wpO, wpIfs, pk_var, pk_cst, pk_glc, pk_bin, pk_neg, pk_not, pk_cmp, pk_chain, pk_and, pk_or, pk_ife, pk_tup, pk_lst, pk_idx, pk_sl, pk_rev, pk_isi, pk_maxK, pk_call, pk_prim, pk_comp, rt_var, rt_cst, rt_glc, rt_bin, rt_neg, rt_not, rt_cmp, rt_chain, rt_and, rt_or, rt_ife, rt_tup, rt_lst, rt_idx, rt_sl, rt_rev, rt_isi, rt_maxK, rt_call, rt_prim, rt_comp, stD_var, stD_tup, tgD_var, tgD_tt, tgD_tl, tgsD_nil, tgsD_cons, bare, bareP, bares, barePs, bareO, give_nil, give_cons, gG_s, gG_n, giveV_sh, giveV_ow, data_eq, shr_eq, own_eq, gD_s, gS_s, gO_s, vd_sh, vd_ow, b_add, b_sub, b_mul, b_fdiv, b_mod, b_pow, b_addL, b_addT, b_mulL, x_t, x_l, s_l, s_t, p_lenT, p_lenL, p_abs, p_int, p_intb, p_listT, p_listL, p_tupT, p_tupL, p_gcd, p_min, p_max, p_sum, i_t, i_l, i_r1, i_r2, i_zt, i_zl, n_i, bo_b, in_i, tr_n, tr_b, tr_i, tr_t, tr_l, nn_n, nn_t, nn_l, nn_i, nn_b, isiD_eq, isD, au_a, au_s, wi_n, wi_c, cmpD_eq_int, cmpD_ne_int, cmpD_eq_bl, cmpD_ne_bl, cmpD_lt, cmpD_le, cmpD_gt, cmpD_ge, cmpD_is, cmpD_isnot, truQ_bl, atI_0, atI_1, atI_2, atI_3, fin0, List.nil_append, List.append_nil, List.cons_append, List.getElem?_cons_zero, List.getElem?_cons_succ, set_0, set_s, List.length_cons, List.length_nil, Option.some.injEq, Val.sh.injEq, Val.ow.injEq, D.int.injEq, D.tup.injEq, D.lst.injEq, D.bl.injEq, exists_eq_left', exists_eq_left, true_and, and_true, Nat.reduceAdd, Nat.reduceLeDiff, Nat.zero_add, if_true, if_false, Bool.false_eq_true, reduceCtorEq, decide_eq_true_eq, Bool.not_eq_true, ne_eq, not_false_eq_true, reduceIte, decide_true, decide_false, Bool.not_true, Bool.not_false, step_nil_eq]
    refine ⟨p, q, r, s, 24, rfl, sp, sq, sr, ss, by decide, ?_⟩
    by_cases hl : p * s < r * q
    · simp only [hl, wpS, wpE, wpEs, wpPs, wpT, wpO, wpIfs, pk_var, pk_cst, pk_glc, pk_bin, pk_neg, pk_not, pk_cmp, pk_chain, pk_and, pk_or, pk_ife, pk_tup, pk_lst, pk_idx, pk_sl, pk_rev, pk_isi, pk_maxK, pk_call, pk_prim, pk_comp, rt_var, rt_cst, rt_glc, rt_bin, rt_neg, rt_not, rt_cmp, rt_chain, rt_and, rt_or, rt_ife, rt_tup, rt_lst, rt_idx, rt_sl, rt_rev, rt_isi, rt_maxK, rt_call, rt_prim, rt_comp, stD_var, stD_tup, tgD_var, tgD_tt, tgD_tl, tgsD_nil, tgsD_cons, bare, bareP, bares, barePs, bareO, give_nil, give_cons, gG_s, gG_n, giveV_sh, giveV_ow, data_eq, shr_eq, own_eq, gD_s, gS_s, gO_s, vd_sh, vd_ow, b_add, b_sub, b_mul, b_fdiv, b_mod, b_pow, b_addL, b_addT, b_mulL, x_t, x_l, s_l, s_t, p_lenT, p_lenL, p_abs, p_int, p_intb, p_listT, p_listL, p_tupT, p_tupL, p_gcd, p_min, p_max, p_sum, i_t, i_l, i_r1, i_r2, i_zt, i_zl, n_i, bo_b, in_i, tr_n, tr_b, tr_i, tr_t, tr_l, nn_n, nn_t, nn_l, nn_i, nn_b, isiD_eq, isD, au_a, au_s, wi_n, wi_c, cmpD_eq_int, cmpD_ne_int, cmpD_eq_bl, cmpD_ne_bl, cmpD_lt, cmpD_le, cmpD_gt, cmpD_ge, cmpD_is, cmpD_isnot, truQ_bl, atI_0, atI_1, atI_2, atI_3, fin0, List.nil_append, List.append_nil, List.cons_append, List.getElem?_cons_zero, List.getElem?_cons_succ, set_0, set_s, List.length_cons, List.length_nil, Option.some.injEq, Val.sh.injEq, Val.ow.injEq, D.int.injEq, D.tup.injEq, D.lst.injEq, D.bl.injEq, exists_eq_left', exists_eq_left, true_and, and_true, Nat.reduceAdd, Nat.reduceLeDiff, Nat.zero_add, if_true, if_false, Bool.false_eq_true, reduceCtorEq, decide_eq_true_eq, Bool.not_eq_true, ne_eq, not_false_eq_true, reduceIte, decide_true, decide_false, Bool.not_true, Bool.not_false, step_nil_eq]
      exact fin (p, q) (r, s) (hp.ci hr hl) _ _ _ _ _ _ _ _ _ _ _ _ _ _ _ _ _ _
    · simp only [hl, wpS, wpE, wpEs, wpPs, wpT, wpO, wpIfs, pk_var, pk_cst, pk_glc, pk_bin, pk_neg, pk_not, pk_cmp, pk_chain, pk_and, pk_or, pk_ife, pk_tup, pk_lst, pk_idx, pk_sl, pk_rev, pk_isi, pk_maxK, pk_call, pk_prim, pk_comp, rt_var, rt_cst, rt_glc, rt_bin, rt_neg, rt_not, rt_cmp, rt_chain, rt_and, rt_or, rt_ife, rt_tup, rt_lst, rt_idx, rt_sl, rt_rev, rt_isi, rt_maxK, rt_call, rt_prim, rt_comp, stD_var, stD_tup, tgD_var, tgD_tt, tgD_tl, tgsD_nil, tgsD_cons, bare, bareP, bares, barePs, bareO, give_nil, give_cons, gG_s, gG_n, giveV_sh, giveV_ow, data_eq, shr_eq, own_eq, gD_s, gS_s, gO_s, vd_sh, vd_ow, b_add, b_sub, b_mul, b_fdiv, b_mod, b_pow, b_addL, b_addT, b_mulL, x_t, x_l, s_l, s_t, p_lenT, p_lenL, p_abs, p_int, p_intb, p_listT, p_listL, p_tupT, p_tupL, p_gcd, p_min, p_max, p_sum, i_t, i_l, i_r1, i_r2, i_zt, i_zl, n_i, bo_b, in_i, tr_n, tr_b, tr_i, tr_t, tr_l, nn_n, nn_t, nn_l, nn_i, nn_b, isiD_eq, isD, au_a, au_s, wi_n, wi_c, cmpD_eq_int, cmpD_ne_int, cmpD_eq_bl, cmpD_ne_bl, cmpD_lt, cmpD_le, cmpD_gt, cmpD_ge, cmpD_is, cmpD_isnot, truQ_bl, atI_0, atI_1, atI_2, atI_3, fin0, List.nil_append, List.append_nil, List.cons_append, List.getElem?_cons_zero, List.getElem?_cons_succ, set_0, set_s, List.length_cons, List.length_nil, Option.some.injEq, Val.sh.injEq, Val.ow.injEq, D.int.injEq, D.tup.injEq, D.lst.injEq, D.bl.injEq, exists_eq_left', exists_eq_left, true_and, and_true, Nat.reduceAdd, Nat.reduceLeDiff, Nat.zero_add, if_true, if_false, Bool.false_eq_true, reduceCtorEq, decide_eq_true_eq, Bool.not_eq_true, ne_eq, not_false_eq_true, reduceIte, decide_true, decide_false, Bool.not_true, Bool.not_false, step_nil_eq]
      have h2 : r * q < p * s := by omega
      exact fin (r, s) (p, q) (hr.ci hp h2) _ _ _ _ _ _ _ _ _ _ _ _ _ _ _ _ _ _
end Lw
set_option maxHeartbeats 400000
namespace Lw
open Gx
variable {G : Nat → D}
theorem rat_g (x : Rat) : Int.gcd x.num (x.den : Int) = 1 := by
  have := x.reduced
  rw [Int.gcd, Int.natAbs_natCast]; exact this
theorem pick3 {i : Nat} {x : D} {a b c : Int} (h : [D.int a, D.int b, D.int c][i]? = some x) : x = .int a ∨ x = .int b ∨ x = .int c := by
  rcases i with _ | _ | _ | i
  · cases h; exact .inl rfl
  · cases h; exact .inr (.inl rfl)
  · cases h; exact .inr (.inr rfl)
  · simp at h
theorem pick2 {i : Nat} {x : D} {a b : Int} (h : [D.int a, D.int b][i]? = some x) : x = .int a ∨ x = .int b := by
  rcases i with _ | _ | i
  · cases h; exact .inl rfl
  · cases h; exact .inr rfl
  · simp at h
/-! ### a turn -/
abbrev bTurn : List CS := [CS.asg (CT.var 4)
          (CE.call 8
            [CE.var 1,
              CE.lst [CE.cst (D.int 6), CE.cst (D.int 60), CE.cst (D.int 1000000)]]),
        CS.asg (CT.tup [CT.var 5, CT.var 6]) (CE.tup [CE.call 18 [CE.var 1, CE.var 4], CE.call 18 [CE.var 1, CE.var 4]]),
        CS.ife
          (CE.call 13
              [CE.lst
                  [CE.call 2
                      [(CE.var 5).idx (CE.cst (D.int 0)), (CE.var 5).idx (CE.cst (D.int 1))],
                    CE.call 2
                      [(CE.var 6).idx (CE.cst (D.int 0)), (CE.var 6).idx (CE.cst (D.int 1))]],
                CE.lst [CE.call 19 [CE.var 5], CE.call 19 [CE.var 6]]]).not
          [CS.ret (CE.cst (D.bl false))] [],
        CS.asg (CT.tup [CT.var 7, CT.var 8]) (CE.var 5),
        CS.asg (CT.var 9)
          ((CE.cmp CO.gt (CE.var 8) (CE.cst (D.int 1))).ife
            (CE.call 21 [CE.bin BO.sub (CE.cst (D.int 0)) (CE.var 7), CE.var 8])
            (CE.bin BO.add (CE.cst (D.int 1)) (CE.call 7 [CE.var 1, CE.cst (D.int 9)]))),
        CS.asg (CT.var 10)
          (((CE.cmp CO.gt (CE.var 9) (CE.cst (D.int 0))).and
                (CE.cmp CO.le
                  (CE.prim PK.abs
                    [CE.prim PK.int
                        [CE.bin BO.fdiv
                            (CE.bin BO.add (CE.cst (D.int 1)) (CE.bin BO.mul (CE.var 7) (CE.var 9)))
                            (CE.var 8)]])
                  (CE.bin BO.pow (CE.cst (D.int 10)) (CE.cst (D.int 6))))).ife
            (CE.call 14
              [CE.prim PK.int
                  [CE.bin BO.fdiv (CE.bin BO.add (CE.cst (D.int 1)) (CE.bin BO.mul (CE.var 7) (CE.var 9)))
                      (CE.var 8)],
                CE.var 9])
            (CE.cst D.non)),
        sTouch,
        CS.asg (CT.tup [CT.var 5, CT.var 6])
          (CE.comp [18]
            (CE.call 14
              [CE.call 7
                  [CE.var 1,
                    CE.call 8 [CE.var 1, CE.lst [CE.cst (D.int 30), CE.cst (D.int 300)]]],
                CE.bin BO.add (CE.cst (D.int 1))
                  (CE.call 7
                    [CE.var 1,
                      CE.call 8 [CE.var 1, CE.lst [CE.cst (D.int 8), CE.cst (D.int 60)]]])])
            (CT.var 18) IK.range [CE.cst (D.int 2)] []),
        sChain]
abbrev tailT : List CS := bTurn.drop 6
theorem t_tail {k : Gx.Fin} (kn : ∀ (d2 d3 d4 d5 d6 d7 d8 d9 d10 d11 d12 d13 d14 d15 d16 d17 d18 d19 d20 d21 : Option Val), k.nx [none, some (.sh (.hd 0)), d2, d3, d4, d5, d6, d7, d8, d9, d10, d11, d12, d13, d14, d15, d16, d17, d18, d19, d20, d21]) {p q : Int} (hp : Fq 1000000 p q) {d6' d10' : D} (h6 : Smt d6') (h10 : Smt d10') (d2 d3 d4 d7 d8 d9 d11 d12 d13 d14 d15 d16 d17 d18 d19 d20 d21 : Option Val) :
    wpB Γt G tailT k [none, some (.sh (.hd 0)), d2, d3, d4, some (.sh (pr p q)), some (.sh d6'), d7, d8, d9, some (.sh d10'), d11, d12, d13, d14, d15, d16, d17, d18, d19, d20, d21] := by
  refine step_cons ?_
  refine s_touch hp h6 h10 (fun d2 d3 d4 d5 d6 d7 d8 d9 d10 d11 d12 d13 d14 d15 d16 d17 d18 d19 d20 d21 => ?_) _ _ _ _ _ _ _ _ _ _ _ _ _ _ _ _ _
  refine step_cons ?_
  simp only [g7, g8, g14, conDraw, wpS, wpE, wpEs, wpPs, wpT, wpO, wpIfs, pk_var, pk_cst, pk_glc, pk_bin, pk_neg, pk_not, pk_cmp, pk_chain, pk_and, pk_or, pk_ife, pk_tup, pk_lst, pk_idx, pk_sl, pk_rev, pk_isi, pk_maxK, pk_call, pk_prim, pk_comp, rt_var, rt_cst, rt_glc, rt_bin, rt_neg, rt_not, rt_cmp, rt_chain, rt_and, rt_or, rt_ife, rt_tup, rt_lst, rt_idx, rt_sl, rt_rev, rt_isi, rt_maxK, rt_call, rt_prim, rt_comp, stD_var, stD_tup, tgD_var, tgD_tt, tgD_tl, tgsD_nil, tgsD_cons, bare, bareP, bares, barePs, bareO, give_nil, give_cons, gG_s, gG_n, giveV_sh, giveV_ow, data_eq, shr_eq, own_eq, gD_s, gS_s, gO_s, vd_sh, vd_ow, b_add, b_sub, b_mul, b_fdiv, b_mod, b_pow, b_addL, b_addT, b_mulL, x_t, x_l, s_l, s_t, p_lenT, p_lenL, p_abs, p_int, p_intb, p_listT, p_listL, p_tupT, p_tupL, p_gcd, p_min, p_max, p_sum, i_t, i_l, i_r1, i_r2, i_zt, i_zl, n_i, bo_b, in_i, tr_n, tr_b, tr_i, tr_t, tr_l, nn_n, nn_t, nn_l, nn_i, nn_b, isiD_eq, isD, au_a, au_s, wi_n, wi_c, cmpD_eq_int, cmpD_ne_int, cmpD_eq_bl, cmpD_ne_bl, cmpD_lt, cmpD_le, cmpD_gt, cmpD_ge, cmpD_is, cmpD_isnot, truQ_bl, atI_0, atI_1, atI_2, atI_3, fin0, List.nil_append, List.append_nil, List.cons_append, List.getElem?_cons_zero, List.getElem?_cons_succ, set_0, set_s, List.length_cons, List.length_nil, Option.some.injEq, Val.sh.injEq, Val.ow.injEq, D.int.injEq, D.tup.injEq, D.lst.injEq, D.bl.injEq, exists_eq_left', exists_eq_left, true_and, and_true, Nat.reduceAdd, Nat.reduceLeDiff, Nat.zero_add, if_true, if_false, Bool.false_eq_true, reduceCtorEq, decide_eq_true_eq, Bool.not_eq_true, ne_eq, not_false_eq_true, reduceIte, decide_true, decide_false, Bool.not_true, Bool.not_false, step_nil_eq]
  refine ⟨⟨by decide, by decide⟩, by simp, fun i acc => acc.length = i ∧ ∀ d ∈ acc, ∃ r s, d = pr r s ∧ Fr r s, ⟨rfl, fun d h => absurd h (by simp)⟩, ?_, ?_⟩
  · rintro i d acc hi ⟨hl, hall⟩
    refine ⟨_, rfl, by decide, by decide, fun j z hz => ?_⟩
    rcases pick2 hz with rfl | rfl
    all_goals
      try simp only [wpS, wpE, wpEs, wpPs, wpT, wpO, wpIfs, pk_var, pk_cst, pk_glc, pk_bin, pk_neg, pk_not, pk_cmp, pk_chain, pk_and, pk_or, pk_ife, pk_tup, pk_lst, pk_idx, pk_sl, pk_rev, pk_isi, pk_maxK, pk_call, pk_prim, pk_comp, rt_var, rt_cst, rt_glc, rt_bin, rt_neg, rt_not, rt_cmp, rt_chain, rt_and, rt_or, rt_ife, rt_tup, rt_lst, rt_idx, rt_sl, rt_rev, rt_isi, rt_maxK, rt_call, rt_prim, rt_comp, stD_var, stD_tup, tgD_var, tgD_tt, tgD_tl, tgsD_nil, tgsD_cons, bare, bareP, bares, barePs, bareO, give_nil, give_cons, gG_s, gG_n, giveV_sh, giveV_ow, data_eq, shr_eq, own_eq, gD_s, gS_s, gO_s, vd_sh, vd_ow, b_add, b_sub, b_mul, b_fdiv, b_mod, b_pow, b_addL, b_addT, b_mulL, x_t, x_l, s_l, s_t, p_lenT, p_lenL, p_abs, p_int, p_intb, p_listT, p_listL, p_tupT, p_tupL, p_gcd, p_min, p_max, p_sum, i_t, i_l, i_r1, i_r2, i_zt, i_zl, n_i, bo_b, in_i, tr_n, tr_b, tr_i, tr_t, tr_l, nn_n, nn_t, nn_l, nn_i, nn_b, isiD_eq, isD, au_a, au_s, wi_n, wi_c, cmpD_eq_int, cmpD_ne_int, cmpD_eq_bl, cmpD_ne_bl, cmpD_lt, cmpD_le, cmpD_gt, cmpD_ge, cmpD_is, cmpD_isnot, truQ_bl, atI_0, atI_1, atI_2, atI_3, fin0, List.nil_append, List.append_nil, List.cons_append, List.getElem?_cons_zero, List.getElem?_cons_succ, set_0, set_s, List.length_cons, List.length_nil, Option.some.injEq, Val.sh.injEq, Val.ow.injEq, D.int.injEq, D.tup.injEq, D.lst.injEq, D.bl.injEq, exists_eq_left', exists_eq_left, true_and, and_true, Nat.reduceAdd, Nat.reduceLeDiff, Nat.zero_add, if_true, if_false, Bool.false_eq_true, reduceCtorEq, decide_eq_true_eq, Bool.not_eq_true, ne_eq, not_false_eq_true, reduceIte, decide_true, decide_false, Bool.not_true, Bool.not_false, step_nil_eq]
      refine ⟨_, rfl, by decide, by decide, fun a a0 a1 => ?_⟩
      try simp only [wpS, wpE, wpEs, wpPs, wpT, wpO, wpIfs, pk_var, pk_cst, pk_glc, pk_bin, pk_neg, pk_not, pk_cmp, pk_chain, pk_and, pk_or, pk_ife, pk_tup, pk_lst, pk_idx, pk_sl, pk_rev, pk_isi, pk_maxK, pk_call, pk_prim, pk_comp, rt_var, rt_cst, rt_glc, rt_bin, rt_neg, rt_not, rt_cmp, rt_chain, rt_and, rt_or, rt_ife, rt_tup, rt_lst, rt_idx, rt_sl, rt_rev, rt_isi, rt_maxK, rt_call, rt_prim, rt_comp, stD_var, stD_tup, tgD_var, tgD_tt, tgD_tl, tgsD_nil, tgsD_cons, bare, bareP, bares, barePs, bareO, give_nil, give_cons, gG_s, gG_n, giveV_sh, giveV_ow, data_eq, shr_eq, own_eq, gD_s, gS_s, gO_s, vd_sh, vd_ow, b_add, b_sub, b_mul, b_fdiv, b_mod, b_pow, b_addL, b_addT, b_mulL, x_t, x_l, s_l, s_t, p_lenT, p_lenL, p_abs, p_int, p_intb, p_listT, p_listL, p_tupT, p_tupL, p_gcd, p_min, p_max, p_sum, i_t, i_l, i_r1, i_r2, i_zt, i_zl, n_i, bo_b, in_i, tr_n, tr_b, tr_i, tr_t, tr_l, nn_n, nn_t, nn_l, nn_i, nn_b, isiD_eq, isD, au_a, au_s, wi_n, wi_c, cmpD_eq_int, cmpD_ne_int, cmpD_eq_bl, cmpD_ne_bl, cmpD_lt, cmpD_le, cmpD_gt, cmpD_ge, cmpD_is, cmpD_isnot, truQ_bl, atI_0, atI_1, atI_2, atI_3, fin0, List.nil_append, List.append_nil, List.cons_append, List.getElem?_cons_zero, List.getElem?_cons_succ, set_0, set_s, List.length_cons, List.length_nil, Option.some.injEq, Val.sh.injEq, Val.ow.injEq, D.int.injEq, D.tup.injEq, D.lst.injEq, D.bl.injEq, exists_eq_left', exists_eq_left, true_and, and_true, Nat.reduceAdd, Nat.reduceLeDiff, Nat.zero_add, if_true, if_false, Bool.false_eq_true, reduceCtorEq, decide_eq_true_eq, Bool.not_eq_true, ne_eq, not_false_eq_true, reduceIte, decide_true, decide_false, Bool.not_true, Bool.not_false, step_nil_eq]
      refine ⟨_, rfl, by decide, by decide, fun j z hz => ?_⟩
      rcases pick2 hz with rfl | rfl
      all_goals
        try simp only [wpS, wpE, wpEs, wpPs, wpT, wpO, wpIfs, pk_var, pk_cst, pk_glc, pk_bin, pk_neg, pk_not, pk_cmp, pk_chain, pk_and, pk_or, pk_ife, pk_tup, pk_lst, pk_idx, pk_sl, pk_rev, pk_isi, pk_maxK, pk_call, pk_prim, pk_comp, rt_var, rt_cst, rt_glc, rt_bin, rt_neg, rt_not, rt_cmp, rt_chain, rt_and, rt_or, rt_ife, rt_tup, rt_lst, rt_idx, rt_sl, rt_rev, rt_isi, rt_maxK, rt_call, rt_prim, rt_comp, stD_var, stD_tup, tgD_var, tgD_tt, tgD_tl, tgsD_nil, tgsD_cons, bare, bareP, bares, barePs, bareO, give_nil, give_cons, gG_s, gG_n, giveV_sh, giveV_ow, data_eq, shr_eq, own_eq, gD_s, gS_s, gO_s, vd_sh, vd_ow, b_add, b_sub, b_mul, b_fdiv, b_mod, b_pow, b_addL, b_addT, b_mulL, x_t, x_l, s_l, s_t, p_lenT, p_lenL, p_abs, p_int, p_intb, p_listT, p_listL, p_tupT, p_tupL, p_gcd, p_min, p_max, p_sum, i_t, i_l, i_r1, i_r2, i_zt, i_zl, n_i, bo_b, in_i, tr_n, tr_b, tr_i, tr_t, tr_l, nn_n, nn_t, nn_l, nn_i, nn_b, isiD_eq, isD, au_a, au_s, wi_n, wi_c, cmpD_eq_int, cmpD_ne_int, cmpD_eq_bl, cmpD_ne_bl, cmpD_lt, cmpD_le, cmpD_gt, cmpD_ge, cmpD_is, cmpD_isnot, truQ_bl, atI_0, atI_1, atI_2, atI_3, fin0, List.nil_append, List.append_nil, List.cons_append, List.getElem?_cons_zero, List.getElem?_cons_succ, set_0, set_s, List.length_cons, List.length_nil, Option.some.injEq, Val.sh.injEq, Val.ow.injEq, D.int.injEq, D.tup.injEq, D.lst.injEq, D.bl.injEq, exists_eq_left', exists_eq_left, true_and, and_true, Nat.reduceAdd, Nat.reduceLeDiff, Nat.zero_add, if_true, if_false, Bool.false_eq_true, reduceCtorEq, decide_eq_true_eq, Bool.not_eq_true, ne_eq, not_false_eq_true, reduceIte, decide_true, decide_false, Bool.not_true, Bool.not_false, step_nil_eq]
        refine ⟨_, rfl, by decide, by decide, fun b b0 b1 => ?_⟩
        try simp only [wpS, wpE, wpEs, wpPs, wpT, wpO, wpIfs, pk_var, pk_cst, pk_glc, pk_bin, pk_neg, pk_not, pk_cmp, pk_chain, pk_and, pk_or, pk_ife, pk_tup, pk_lst, pk_idx, pk_sl, pk_rev, pk_isi, pk_maxK, pk_call, pk_prim, pk_comp, rt_var, rt_cst, rt_glc, rt_bin, rt_neg, rt_not, rt_cmp, rt_chain, rt_and, rt_or, rt_ife, rt_tup, rt_lst, rt_idx, rt_sl, rt_rev, rt_isi, rt_maxK, rt_call, rt_prim, rt_comp, stD_var, stD_tup, tgD_var, tgD_tt, tgD_tl, tgsD_nil, tgsD_cons, bare, bareP, bares, barePs, bareO, give_nil, give_cons, gG_s, gG_n, giveV_sh, giveV_ow, data_eq, shr_eq, own_eq, gD_s, gS_s, gO_s, vd_sh, vd_ow, b_add, b_sub, b_mul, b_fdiv, b_mod, b_pow, b_addL, b_addT, b_mulL, x_t, x_l, s_l, s_t, p_lenT, p_lenL, p_abs, p_int, p_intb, p_listT, p_listL, p_tupT, p_tupL, p_gcd, p_min, p_max, p_sum, i_t, i_l, i_r1, i_r2, i_zt, i_zl, n_i, bo_b, in_i, tr_n, tr_b, tr_i, tr_t, tr_l, nn_n, nn_t, nn_l, nn_i, nn_b, isiD_eq, isD, au_a, au_s, wi_n, wi_c, cmpD_eq_int, cmpD_ne_int, cmpD_eq_bl, cmpD_ne_bl, cmpD_lt, cmpD_le, cmpD_gt, cmpD_ge, cmpD_is, cmpD_isnot, truQ_bl, atI_0, atI_1, atI_2, atI_3, fin0, List.nil_append, List.append_nil, List.cons_append, List.getElem?_cons_zero, List.getElem?_cons_succ, set_0, set_s, List.length_cons, List.length_nil, Option.some.injEq, Val.sh.injEq, Val.ow.injEq, D.int.injEq, D.tup.injEq, D.lst.injEq, D.bl.injEq, exists_eq_left', exists_eq_left, true_and, and_true, Nat.reduceAdd, Nat.reduceLeDiff, Nat.zero_add, if_true, if_false, Bool.false_eq_true, reduceCtorEq, decide_eq_true_eq, Bool.not_eq_true, ne_eq, not_false_eq_true, reduceIte, decide_true, decide_false, Bool.not_true, Bool.not_false, step_nil_eq]
        refine ⟨a, 1 + b, 24, rfl, by omega, by (unfold Sm; omega), by (unfold Sm; omega), by decide, fun x ex bx => ?_⟩
        refine ⟨by rw [List.length_append, hl]; rfl, fun d hd => ?_⟩
        rcases List.mem_append.mp hd with hd | hd
        · exact hall d hd
        · rw [List.mem_singleton] at hd
          subst hd
          refine ⟨x.num, x.den, rfl, den_pos x, ?_, ?_, ?_, rat_g x⟩
          · have := Rat.den_divInt a (1 + b)
            rw [Rat.divInt_eq_div, ← ex, if_neg (by omega)] at this
            rw [this]
            exact Int.le_trans (Int.ofNat_le.mpr (Nat.div_le_self _ _)) (by omega)
          · have := Rat.num_divInt a (1 + b)
            rw [Rat.divInt_eq_div, ← ex, Int.sign_eq_one_of_pos (by omega), Int.one_mul] at this
            rw [this]
            exact Int.ediv_nonneg a0 (by omega)
          · have := Rat.num_divInt a (1 + b)
            rw [Rat.divInt_eq_div, ← ex, Int.sign_eq_one_of_pos (by omega), Int.one_mul] at this
            rw [this]
            exact Int.le_trans (Int.ediv_le_self _ a0) (by omega)
  · rintro acc ⟨hl, hall⟩
    rw [List.length_map, List.length_range] at hl
    have hl : acc.length = 2 := hl
    match acc, hl with
    | [x, y], _ =>
      obtain ⟨r, s, rfl, hr⟩ := hall x (by simp)
      obtain ⟨t, u, rfl, ht⟩ := hall y (by simp)
      simp only [wpS, wpE, wpEs, wpPs, wpT, wpO, wpIfs, pk_var, pk_cst, pk_glc, pk_bin, pk_neg, pk_not, pk_cmp, pk_chain, pk_and, pk_or, pk_ife, pk_tup, pk_lst, pk_idx, pk_sl, pk_rev, pk_isi, pk_maxK, pk_call, pk_prim, pk_comp, rt_var, rt_cst, rt_glc, rt_bin, rt_neg, rt_not, rt_cmp, rt_chain, rt_and, rt_or, rt_ife, rt_tup, rt_lst, rt_idx, rt_sl, rt_rev, rt_isi, rt_maxK, rt_call, rt_prim, rt_comp, stD_var, stD_tup, tgD_var, tgD_tt, tgD_tl, tgsD_nil, tgsD_cons, bare, bareP, bares, barePs, bareO, give_nil, give_cons, gG_s, gG_n, giveV_sh, giveV_ow, data_eq, shr_eq, own_eq, gD_s, gS_s, gO_s, vd_sh, vd_ow, b_add, b_sub, b_mul, b_fdiv, b_mod, b_pow, b_addL, b_addT, b_mulL, x_t, x_l, s_l, s_t, p_lenT, p_lenL, p_abs, p_int, p_intb, p_listT, p_listL, p_tupT, p_tupL, p_gcd, p_min, p_max, p_sum, i_t, i_l, i_r1, i_r2, i_zt, i_zl, n_i, bo_b, in_i, tr_n, tr_b, tr_i, tr_t, tr_l, nn_n, nn_t, nn_l, nn_i, nn_b, isiD_eq, isD, au_a, au_s, wi_n, wi_c, cmpD_eq_int, cmpD_ne_int, cmpD_eq_bl, cmpD_ne_bl, cmpD_lt, cmpD_le, cmpD_gt, cmpD_ge, cmpD_is, cmpD_isnot, truQ_bl, atI_0, atI_1, atI_2, atI_3, fin0, List.nil_append, List.append_nil, List.cons_append, List.getElem?_cons_zero, List.getElem?_cons_succ, set_0, set_s, List.length_cons, List.length_nil, Option.some.injEq, Val.sh.injEq, Val.ow.injEq, D.int.injEq, D.tup.injEq, D.lst.injEq, D.bl.injEq, exists_eq_left', exists_eq_left, true_and, and_true, Nat.reduceAdd, Nat.reduceLeDiff, Nat.zero_add, if_true, if_false, Bool.false_eq_true, reduceCtorEq, decide_eq_true_eq, Bool.not_eq_true, ne_eq, not_false_eq_true, reduceIte, decide_true, decide_false, Bool.not_true, Bool.not_false, step_nil_eq]
      refine step_cons ?_
      refine s_chain hr ht (fun d2 d3 d4 d5 d6 d7 d8 d9 d10 d11 d12 d13 d14 d15 d16 d17 d18 d19 d20 d21 => ?_) _ _ _ _ _ _ _ _ _ _ _ _ _ _ _ _ _ _
      exact step_nil (Γ := Γt) (G := G) (k := k) (kn _ _ _ _ _ _ _ _ _ _ _ _ _ _ _ _ _ _ _ _)
theorem t_near {k : Gx.Fin} (kn : ∀ (d2 d3 d4 d5 d6 d7 d8 d9 d10 d11 d12 d13 d14 d15 d16 d17 d18 d19 d20 d21 : Option Val), k.nx [none, some (.sh (.hd 0)), d2, d3, d4, d5, d6, d7, d8, d9, d10, d11, d12, d13, d14, d15, d16, d17, d18, d19, d20, d21]) {p q : Int} (hp : Fq 1000000 p q) {d6' : D} (h6 : Smt d6') (d2 d3 d4 d7 d8 d9 d10 d11 d12 d13 d14 d15 d16 d17 d18 d19 d20 d21 : Option Val) :
    wpB Γt G (bTurn.drop 3) k [none, some (.sh (.hd 0)), d2, d3, d4, some (.sh (pr p q)), some (.sh d6'), d7, d8, d9, d10, d11, d12, d13, d14, d15, d16, d17, d18, d19, d20, d21] := by
  obtain ⟨sp, sq⟩ := hp.sm
  have q0 := hp.q0
  have q1 := hp.q1
  have p0 := hp.p0
  have p1 := hp.p1
  refine step_cons ?_
  simp only [pr, wpS, wpE, wpEs, wpPs, wpT, wpO, wpIfs, pk_var, pk_cst, pk_glc, pk_bin, pk_neg, pk_not, pk_cmp, pk_chain, pk_and, pk_or, pk_ife, pk_tup, pk_lst, pk_idx, pk_sl, pk_rev, pk_isi, pk_maxK, pk_call, pk_prim, pk_comp, rt_var, rt_cst, rt_glc, rt_bin, rt_neg, rt_not, rt_cmp, rt_chain, rt_and, rt_or, rt_ife, rt_tup, rt_lst, rt_idx, rt_sl, rt_rev, rt_isi, rt_maxK, rt_call, rt_prim, rt_comp, stD_var, stD_tup, tgD_var, tgD_tt, tgD_tl, tgsD_nil, tgsD_cons, bare, bareP, bares, barePs, bareO, give_nil, give_cons, gG_s, gG_n, giveV_sh, giveV_ow, data_eq, shr_eq, own_eq, gD_s, gS_s, gO_s, vd_sh, vd_ow, b_add, b_sub, b_mul, b_fdiv, b_mod, b_pow, b_addL, b_addT, b_mulL, x_t, x_l, s_l, s_t, p_lenT, p_lenL, p_abs, p_int, p_intb, p_listT, p_listL, p_tupT, p_tupL, p_gcd, p_min, p_max, p_sum, i_t, i_l, i_r1, i_r2, i_zt, i_zl, n_i, bo_b, in_i, tr_n, tr_b, tr_i, tr_t, tr_l, nn_n, nn_t, nn_l, nn_i, nn_b, isiD_eq, isD, au_a, au_s, wi_n, wi_c, cmpD_eq_int, cmpD_ne_int, cmpD_eq_bl, cmpD_ne_bl, cmpD_lt, cmpD_le, cmpD_gt, cmpD_ge, cmpD_is, cmpD_isnot, truQ_bl, atI_0, atI_1, atI_2, atI_3, fin0, List.nil_append, List.append_nil, List.cons_append, List.getElem?_cons_zero, List.getElem?_cons_succ, set_0, set_s, List.length_cons, List.length_nil, Option.some.injEq, Val.sh.injEq, Val.ow.injEq, D.int.injEq, D.tup.injEq, D.lst.injEq, D.bl.injEq, exists_eq_left', exists_eq_left, true_and, and_true, Nat.reduceAdd, Nat.reduceLeDiff, Nat.zero_add, if_true, if_false, Bool.false_eq_true, reduceCtorEq, decide_eq_true_eq, Bool.not_eq_true, ne_eq, not_false_eq_true, reduceIte, decide_true, decide_false, Bool.not_true, Bool.not_false, step_nil_eq]
  -- behind s
  have fin : ∀ s : Int, s ≤ 1000000 → (0 < s → ∃ r, r * q = 1 + p * s) → ∀ (d2 d3 d4 d10 d11 d12 d13 d14 d15 d16 d17 d18 d19 d20 d21 : Option Val),
      wpB Γt G (bTurn.drop 5) k [none, some (.sh (.hd 0)), d2, d3, d4, some (.sh (pr p q)), some (.sh d6'), some (.sh (.int p)), some (.sh (.int q)), some (.sh (.int s)), d10, d11, d12, d13, d14, d15, d16, d17, d18, d19, d20, d21] := by
    intro s s1 hs d2 d3 d4 d10 d11 d12 d13 d14 d15 d16 d17 d18 d19 d20 d21
    refine step_cons ?_
    simp only [g14, wpS, wpE, wpEs, wpPs, wpT, wpO, wpIfs, pk_var, pk_cst, pk_glc, pk_bin, pk_neg, pk_not, pk_cmp, pk_chain, pk_and, pk_or, pk_ife, pk_tup, pk_lst, pk_idx, pk_sl, pk_rev, pk_isi, pk_maxK, pk_call, pk_prim, pk_comp, rt_var, rt_cst, rt_glc, rt_bin, rt_neg, rt_not, rt_cmp, rt_chain, rt_and, rt_or, rt_ife, rt_tup, rt_lst, rt_idx, rt_sl, rt_rev, rt_isi, rt_maxK, rt_call, rt_prim, rt_comp, stD_var, stD_tup, tgD_var, tgD_tt, tgD_tl, tgsD_nil, tgsD_cons, bare, bareP, bares, barePs, bareO, give_nil, give_cons, gG_s, gG_n, giveV_sh, giveV_ow, data_eq, shr_eq, own_eq, gD_s, gS_s, gO_s, vd_sh, vd_ow, b_add, b_sub, b_mul, b_fdiv, b_mod, b_pow, b_addL, b_addT, b_mulL, x_t, x_l, s_l, s_t, p_lenT, p_lenL, p_abs, p_int, p_intb, p_listT, p_listL, p_tupT, p_tupL, p_gcd, p_min, p_max, p_sum, i_t, i_l, i_r1, i_r2, i_zt, i_zl, n_i, bo_b, in_i, tr_n, tr_b, tr_i, tr_t, tr_l, nn_n, nn_t, nn_l, nn_i, nn_b, isiD_eq, isD, au_a, au_s, wi_n, wi_c, cmpD_eq_int, cmpD_ne_int, cmpD_eq_bl, cmpD_ne_bl, cmpD_lt, cmpD_le, cmpD_gt, cmpD_ge, cmpD_is, cmpD_isnot, truQ_bl, atI_0, atI_1, atI_2, atI_3, fin0, List.nil_append, List.append_nil, List.cons_append, List.getElem?_cons_zero, List.getElem?_cons_succ, set_0, set_s, List.length_cons, List.length_nil, Option.some.injEq, Val.sh.injEq, Val.ow.injEq, D.int.injEq, D.tup.injEq, D.lst.injEq, D.bl.injEq, exists_eq_left', exists_eq_left, true_and, and_true, Nat.reduceAdd, Nat.reduceLeDiff, Nat.zero_add, if_true, if_false, Bool.false_eq_true, reduceCtorEq, decide_eq_true_eq, Bool.not_eq_true, ne_eq, not_false_eq_true, reduceIte, decide_true, decide_false, Bool.not_true, Bool.not_false, step_nil_eq]
    by_cases c : 0 < s
    · rw [if_pos c]
      obtain ⟨r, hr⟩ := hs c
      have ss : Sm 24 s := by unfold Sm; omega
      have er : (1 + p * s).fdiv q = r := by rw [← hr, Int.fdiv_eq_ediv_of_nonneg _ (by omega), Int.mul_ediv_cancel _ (by omega)]
      rw [er]
      refine ⟨mulOk sp ss (by decide), divOk (by omega) sq (by decide), ⟨by decide, by decide, by decide⟩, ?_⟩
      have e10 : (10 : Int) ^ (6 : Int).toNat = 1000000 := by decide
      rw [e10]
      by_cases c2 : (if r < 0 then -r else r) ≤ 1000000
      · rw [if_pos c2]
        have hr2 : -1000000 ≤ r ∧ r ≤ 1000000 := by split at c2 <;> omega
        try simp only [wpS, wpE, wpEs, wpPs, wpT, wpO, wpIfs, pk_var, pk_cst, pk_glc, pk_bin, pk_neg, pk_not, pk_cmp, pk_chain, pk_and, pk_or, pk_ife, pk_tup, pk_lst, pk_idx, pk_sl, pk_rev, pk_isi, pk_maxK, pk_call, pk_prim, pk_comp, rt_var, rt_cst, rt_glc, rt_bin, rt_neg, rt_not, rt_cmp, rt_chain, rt_and, rt_or, rt_ife, rt_tup, rt_lst, rt_idx, rt_sl, rt_rev, rt_isi, rt_maxK, rt_call, rt_prim, rt_comp, stD_var, stD_tup, tgD_var, tgD_tt, tgD_tl, tgsD_nil, tgsD_cons, bare, bareP, bares, barePs, bareO, give_nil, give_cons, gG_s, gG_n, giveV_sh, giveV_ow, data_eq, shr_eq, own_eq, gD_s, gS_s, gO_s, vd_sh, vd_ow, b_add, b_sub, b_mul, b_fdiv, b_mod, b_pow, b_addL, b_addT, b_mulL, x_t, x_l, s_l, s_t, p_lenT, p_lenL, p_abs, p_int, p_intb, p_listT, p_listL, p_tupT, p_tupL, p_gcd, p_min, p_max, p_sum, i_t, i_l, i_r1, i_r2, i_zt, i_zl, n_i, bo_b, in_i, tr_n, tr_b, tr_i, tr_t, tr_l, nn_n, nn_t, nn_l, nn_i, nn_b, isiD_eq, isD, au_a, au_s, wi_n, wi_c, cmpD_eq_int, cmpD_ne_int, cmpD_eq_bl, cmpD_ne_bl, cmpD_lt, cmpD_le, cmpD_gt, cmpD_ge, cmpD_is, cmpD_isnot, truQ_bl, atI_0, atI_1, atI_2, atI_3, fin0, List.nil_append, List.append_nil, List.cons_append, List.getElem?_cons_zero, List.getElem?_cons_succ, set_0, set_s, List.length_cons, List.length_nil, Option.some.injEq, Val.sh.injEq, Val.ow.injEq, D.int.injEq, D.tup.injEq, D.lst.injEq, D.bl.injEq, exists_eq_left', exists_eq_left, true_and, and_true, Nat.reduceAdd, Nat.reduceLeDiff, Nat.zero_add, if_true, if_false, Bool.false_eq_true, reduceCtorEq, decide_eq_true_eq, Bool.not_eq_true, ne_eq, not_false_eq_true, reduceIte, decide_true, decide_false, Bool.not_true, Bool.not_false, step_nil_eq]
        refine ⟨mulOk sp ss (by decide), divOk (by omega) sq (by decide), r, s, 24, rfl, c, by (unfold Sm; omega), ss, by decide, fun x ex bx => ?_⟩
        subst ex
        rw [frD_red c (gcd_one hr)]
        exact t_tail kn hp h6 (.inr ⟨r, s, rfl, c, s1, hr2.1, hr2.2, gcd_one hr⟩) _ _ _ _ _ _ _ _ _ _ _ _ _ _ _ _ _
      · rw [if_neg c2]
        try simp only [wpS, wpE, wpEs, wpPs, wpT, wpO, wpIfs, pk_var, pk_cst, pk_glc, pk_bin, pk_neg, pk_not, pk_cmp, pk_chain, pk_and, pk_or, pk_ife, pk_tup, pk_lst, pk_idx, pk_sl, pk_rev, pk_isi, pk_maxK, pk_call, pk_prim, pk_comp, rt_var, rt_cst, rt_glc, rt_bin, rt_neg, rt_not, rt_cmp, rt_chain, rt_and, rt_or, rt_ife, rt_tup, rt_lst, rt_idx, rt_sl, rt_rev, rt_isi, rt_maxK, rt_call, rt_prim, rt_comp, stD_var, stD_tup, tgD_var, tgD_tt, tgD_tl, tgsD_nil, tgsD_cons, bare, bareP, bares, barePs, bareO, give_nil, give_cons, gG_s, gG_n, giveV_sh, giveV_ow, data_eq, shr_eq, own_eq, gD_s, gS_s, gO_s, vd_sh, vd_ow, b_add, b_sub, b_mul, b_fdiv, b_mod, b_pow, b_addL, b_addT, b_mulL, x_t, x_l, s_l, s_t, p_lenT, p_lenL, p_abs, p_int, p_intb, p_listT, p_listL, p_tupT, p_tupL, p_gcd, p_min, p_max, p_sum, i_t, i_l, i_r1, i_r2, i_zt, i_zl, n_i, bo_b, in_i, tr_n, tr_b, tr_i, tr_t, tr_l, nn_n, nn_t, nn_l, nn_i, nn_b, isiD_eq, isD, au_a, au_s, wi_n, wi_c, cmpD_eq_int, cmpD_ne_int, cmpD_eq_bl, cmpD_ne_bl, cmpD_lt, cmpD_le, cmpD_gt, cmpD_ge, cmpD_is, cmpD_isnot, truQ_bl, atI_0, atI_1, atI_2, atI_3, fin0, List.nil_append, List.append_nil, List.cons_append, List.getElem?_cons_zero, List.getElem?_cons_succ, set_0, set_s, List.length_cons, List.length_nil, Option.some.injEq, Val.sh.injEq, Val.ow.injEq, D.int.injEq, D.tup.injEq, D.lst.injEq, D.bl.injEq, exists_eq_left', exists_eq_left, true_and, and_true, Nat.reduceAdd, Nat.reduceLeDiff, Nat.zero_add, if_true, if_false, Bool.false_eq_true, reduceCtorEq, decide_eq_true_eq, Bool.not_eq_true, ne_eq, not_false_eq_true, reduceIte, decide_true, decide_false, Bool.not_true, Bool.not_false, step_nil_eq]
        exact t_tail kn hp h6 (.inl rfl) _ _ _ _ _ _ _ _ _ _ _ _ _ _ _ _ _
    · rw [if_neg c]
      try simp only [wpS, wpE, wpEs, wpPs, wpT, wpO, wpIfs, pk_var, pk_cst, pk_glc, pk_bin, pk_neg, pk_not, pk_cmp, pk_chain, pk_and, pk_or, pk_ife, pk_tup, pk_lst, pk_idx, pk_sl, pk_rev, pk_isi, pk_maxK, pk_call, pk_prim, pk_comp, rt_var, rt_cst, rt_glc, rt_bin, rt_neg, rt_not, rt_cmp, rt_chain, rt_and, rt_or, rt_ife, rt_tup, rt_lst, rt_idx, rt_sl, rt_rev, rt_isi, rt_maxK, rt_call, rt_prim, rt_comp, stD_var, stD_tup, tgD_var, tgD_tt, tgD_tl, tgsD_nil, tgsD_cons, bare, bareP, bares, barePs, bareO, give_nil, give_cons, gG_s, gG_n, giveV_sh, giveV_ow, data_eq, shr_eq, own_eq, gD_s, gS_s, gO_s, vd_sh, vd_ow, b_add, b_sub, b_mul, b_fdiv, b_mod, b_pow, b_addL, b_addT, b_mulL, x_t, x_l, s_l, s_t, p_lenT, p_lenL, p_abs, p_int, p_intb, p_listT, p_listL, p_tupT, p_tupL, p_gcd, p_min, p_max, p_sum, i_t, i_l, i_r1, i_r2, i_zt, i_zl, n_i, bo_b, in_i, tr_n, tr_b, tr_i, tr_t, tr_l, nn_n, nn_t, nn_l, nn_i, nn_b, isiD_eq, isD, au_a, au_s, wi_n, wi_c, cmpD_eq_int, cmpD_ne_int, cmpD_eq_bl, cmpD_ne_bl, cmpD_lt, cmpD_le, cmpD_gt, cmpD_ge, cmpD_is, cmpD_isnot, truQ_bl, atI_0, atI_1, atI_2, atI_3, fin0, List.nil_append, List.append_nil, List.cons_append, List.getElem?_cons_zero, List.getElem?_cons_succ, set_0, set_s, List.length_cons, List.length_nil, Option.some.injEq, Val.sh.injEq, Val.ow.injEq, D.int.injEq, D.tup.injEq, D.lst.injEq, D.bl.injEq, exists_eq_left', exists_eq_left, true_and, and_true, Nat.reduceAdd, Nat.reduceLeDiff, Nat.zero_add, if_true, if_false, Bool.false_eq_true, reduceCtorEq, decide_eq_true_eq, Bool.not_eq_true, ne_eq, not_false_eq_true, reduceIte, decide_true, decide_false, Bool.not_true, Bool.not_false, step_nil_eq]
      exact t_tail kn hp h6 (.inl rfl) _ _ _ _ _ _ _ _ _ _ _ _ _ _ _ _ _
  refine step_cons ?_
  simp only [g7, g21, wpS, wpE, wpEs, wpPs, wpT, wpO, wpIfs, pk_var, pk_cst, pk_glc, pk_bin, pk_neg, pk_not, pk_cmp, pk_chain, pk_and, pk_or, pk_ife, pk_tup, pk_lst, pk_idx, pk_sl, pk_rev, pk_isi, pk_maxK, pk_call, pk_prim, pk_comp, rt_var, rt_cst, rt_glc, rt_bin, rt_neg, rt_not, rt_cmp, rt_chain, rt_and, rt_or, rt_ife, rt_tup, rt_lst, rt_idx, rt_sl, rt_rev, rt_isi, rt_maxK, rt_call, rt_prim, rt_comp, stD_var, stD_tup, tgD_var, tgD_tt, tgD_tl, tgsD_nil, tgsD_cons, bare, bareP, bares, barePs, bareO, give_nil, give_cons, gG_s, gG_n, giveV_sh, giveV_ow, data_eq, shr_eq, own_eq, gD_s, gS_s, gO_s, vd_sh, vd_ow, b_add, b_sub, b_mul, b_fdiv, b_mod, b_pow, b_addL, b_addT, b_mulL, x_t, x_l, s_l, s_t, p_lenT, p_lenL, p_abs, p_int, p_intb, p_listT, p_listL, p_tupT, p_tupL, p_gcd, p_min, p_max, p_sum, i_t, i_l, i_r1, i_r2, i_zt, i_zl, n_i, bo_b, in_i, tr_n, tr_b, tr_i, tr_t, tr_l, nn_n, nn_t, nn_l, nn_i, nn_b, isiD_eq, isD, au_a, au_s, wi_n, wi_c, cmpD_eq_int, cmpD_ne_int, cmpD_eq_bl, cmpD_ne_bl, cmpD_lt, cmpD_le, cmpD_gt, cmpD_ge, cmpD_is, cmpD_isnot, truQ_bl, atI_0, atI_1, atI_2, atI_3, fin0, List.nil_append, List.append_nil, List.cons_append, List.getElem?_cons_zero, List.getElem?_cons_succ, set_0, set_s, List.length_cons, List.length_nil, Option.some.injEq, Val.sh.injEq, Val.ow.injEq, D.int.injEq, D.tup.injEq, D.lst.injEq, D.bl.injEq, exists_eq_left', exists_eq_left, true_and, and_true, Nat.reduceAdd, Nat.reduceLeDiff, Nat.zero_add, if_true, if_false, Bool.false_eq_true, reduceCtorEq, decide_eq_true_eq, Bool.not_eq_true, ne_eq, not_false_eq_true, reduceIte, decide_true, decide_false, Bool.not_true, Bool.not_false, step_nil_eq]
  by_cases c : 1 < q
  · rw [if_pos c]
    refine ⟨0 - p, q, rfl, c, by omega, by rw [Int.zero_sub, Int.neg_gcd]; exact hp.g, fun s s0 s1 hd => ?_⟩
    refine fin s (by omega) (fun _ => ?_) _ _ _ _ _ _ _ _ _ _ _ _ _ _ _
    obtain ⟨t, ht⟩ := hd
    exact ⟨-t, by grind⟩
  · rw [if_neg c]
    have : q = 1 := by omega
    subst this
    refine ⟨9, rfl, by decide, by decide, fun b b0 b1 => ?_⟩
    simp only [wpS, wpE, wpEs, wpPs, wpT, wpO, wpIfs, pk_var, pk_cst, pk_glc, pk_bin, pk_neg, pk_not, pk_cmp, pk_chain, pk_and, pk_or, pk_ife, pk_tup, pk_lst, pk_idx, pk_sl, pk_rev, pk_isi, pk_maxK, pk_call, pk_prim, pk_comp, rt_var, rt_cst, rt_glc, rt_bin, rt_neg, rt_not, rt_cmp, rt_chain, rt_and, rt_or, rt_ife, rt_tup, rt_lst, rt_idx, rt_sl, rt_rev, rt_isi, rt_maxK, rt_call, rt_prim, rt_comp, stD_var, stD_tup, tgD_var, tgD_tt, tgD_tl, tgsD_nil, tgsD_cons, bare, bareP, bares, barePs, bareO, give_nil, give_cons, gG_s, gG_n, giveV_sh, giveV_ow, data_eq, shr_eq, own_eq, gD_s, gS_s, gO_s, vd_sh, vd_ow, b_add, b_sub, b_mul, b_fdiv, b_mod, b_pow, b_addL, b_addT, b_mulL, x_t, x_l, s_l, s_t, p_lenT, p_lenL, p_abs, p_int, p_intb, p_listT, p_listL, p_tupT, p_tupL, p_gcd, p_min, p_max, p_sum, i_t, i_l, i_r1, i_r2, i_zt, i_zl, n_i, bo_b, in_i, tr_n, tr_b, tr_i, tr_t, tr_l, nn_n, nn_t, nn_l, nn_i, nn_b, isiD_eq, isD, au_a, au_s, wi_n, wi_c, cmpD_eq_int, cmpD_ne_int, cmpD_eq_bl, cmpD_ne_bl, cmpD_lt, cmpD_le, cmpD_gt, cmpD_ge, cmpD_is, cmpD_isnot, truQ_bl, atI_0, atI_1, atI_2, atI_3, fin0, List.nil_append, List.append_nil, List.cons_append, List.getElem?_cons_zero, List.getElem?_cons_succ, set_0, set_s, List.length_cons, List.length_nil, Option.some.injEq, Val.sh.injEq, Val.ow.injEq, D.int.injEq, D.tup.injEq, D.lst.injEq, D.bl.injEq, exists_eq_left', exists_eq_left, true_and, and_true, Nat.reduceAdd, Nat.reduceLeDiff, Nat.zero_add, if_true, if_false, Bool.false_eq_true, reduceCtorEq, decide_eq_true_eq, Bool.not_eq_true, ne_eq, not_false_eq_true, reduceIte, decide_true, decide_false, Bool.not_true, Bool.not_false, step_nil_eq]
    exact fin (1 + b) (by omega) (fun _ => ⟨1 + p * (1 + b), by omega⟩) _ _ _ _ _ _ _ _ _ _ _ _ _ _ _
theorem t_turn {k : Gx.Fin} (kn : ∀ (d2 d3 d4 d5 d6 d7 d8 d9 d10 d11 d12 d13 d14 d15 d16 d17 d18 d19 d20 d21 : Option Val), k.nx [none, some (.sh (.hd 0)), d2, d3, d4, d5, d6, d7, d8, d9, d10, d11, d12, d13, d14, d15, d16, d17, d18, d19, d20, d21]) (d2 d3 d4 d5 d6 d7 d8 d9 d10 d11 d12 d13 d14 d15 d16 d17 d18 d19 d20 d21 : Option Val) : wpB Γt G bTurn k [none, some (.sh (.hd 0)), d2, d3, d4, d5, d6, d7, d8, d9, d10, d11, d12, d13, d14, d15, d16, d17, d18, d19, d20, d21] := by
  have fin : ∀ far : Int, 0 < far → far ≤ 1000000 → ∀ (d2 d3 d5 d6 d7 d8 d9 d10 d11 d12 d13 d14 d15 d16 d17 d18 d19 d20 d21 : Option Val), wpB Γt G (bTurn.drop 1) k [none, some (.sh (.hd 0)), d2, d3, some (.sh (.int far)), d5, d6, d7, d8, d9, d10, d11, d12, d13, d14, d15, d16, d17, d18, d19, d20, d21] := by
    intro far f0 f1 d2 d3 d5 d6 d7 d8 d9 d10 d11 d12 d13 d14 d15 d16 d17 d18 d19 d20 d21
    refine step_cons ?_
    simp only [g18, wpS, wpE, wpEs, wpPs, wpT, wpO, wpIfs, pk_var, pk_cst, pk_glc, pk_bin, pk_neg, pk_not, pk_cmp, pk_chain, pk_and, pk_or, pk_ife, pk_tup, pk_lst, pk_idx, pk_sl, pk_rev, pk_isi, pk_maxK, pk_call, pk_prim, pk_comp, rt_var, rt_cst, rt_glc, rt_bin, rt_neg, rt_not, rt_cmp, rt_chain, rt_and, rt_or, rt_ife, rt_tup, rt_lst, rt_idx, rt_sl, rt_rev, rt_isi, rt_maxK, rt_call, rt_prim, rt_comp, stD_var, stD_tup, tgD_var, tgD_tt, tgD_tl, tgsD_nil, tgsD_cons, bare, bareP, bares, barePs, bareO, give_nil, give_cons, gG_s, gG_n, giveV_sh, giveV_ow, data_eq, shr_eq, own_eq, gD_s, gS_s, gO_s, vd_sh, vd_ow, b_add, b_sub, b_mul, b_fdiv, b_mod, b_pow, b_addL, b_addT, b_mulL, x_t, x_l, s_l, s_t, p_lenT, p_lenL, p_abs, p_int, p_intb, p_listT, p_listL, p_tupT, p_tupL, p_gcd, p_min, p_max, p_sum, i_t, i_l, i_r1, i_r2, i_zt, i_zl, n_i, bo_b, in_i, tr_n, tr_b, tr_i, tr_t, tr_l, nn_n, nn_t, nn_l, nn_i, nn_b, isiD_eq, isD, au_a, au_s, wi_n, wi_c, cmpD_eq_int, cmpD_ne_int, cmpD_eq_bl, cmpD_ne_bl, cmpD_lt, cmpD_le, cmpD_gt, cmpD_ge, cmpD_is, cmpD_isnot, truQ_bl, atI_0, atI_1, atI_2, atI_3, fin0, List.nil_append, List.append_nil, List.cons_append, List.getElem?_cons_zero, List.getElem?_cons_succ, set_0, set_s, List.length_cons, List.length_nil, Option.some.injEq, Val.sh.injEq, Val.ow.injEq, D.int.injEq, D.tup.injEq, D.lst.injEq, D.bl.injEq, exists_eq_left', exists_eq_left, true_and, and_true, Nat.reduceAdd, Nat.reduceLeDiff, Nat.zero_add, if_true, if_false, Bool.false_eq_true, reduceCtorEq, decide_eq_true_eq, Bool.not_eq_true, ne_eq, not_false_eq_true, reduceIte, decide_true, decide_false, Bool.not_true, Bool.not_false, step_nil_eq]
    refine ⟨far, rfl, f0, by omega, fun x x0 x1 => ?_⟩
    refine ⟨far, rfl, f0, by omega, fun y y0 y1 => ?_⟩
    simp only [frD_pr, wpS, wpE, wpEs, wpPs, wpT, wpO, wpIfs, pk_var, pk_cst, pk_glc, pk_bin, pk_neg, pk_not, pk_cmp, pk_chain, pk_and, pk_or, pk_ife, pk_tup, pk_lst, pk_idx, pk_sl, pk_rev, pk_isi, pk_maxK, pk_call, pk_prim, pk_comp, rt_var, rt_cst, rt_glc, rt_bin, rt_neg, rt_not, rt_cmp, rt_chain, rt_and, rt_or, rt_ife, rt_tup, rt_lst, rt_idx, rt_sl, rt_rev, rt_isi, rt_maxK, rt_call, rt_prim, rt_comp, stD_var, stD_tup, tgD_var, tgD_tt, tgD_tl, tgsD_nil, tgsD_cons, bare, bareP, bares, barePs, bareO, give_nil, give_cons, gG_s, gG_n, giveV_sh, giveV_ow, data_eq, shr_eq, own_eq, gD_s, gS_s, gO_s, vd_sh, vd_ow, b_add, b_sub, b_mul, b_fdiv, b_mod, b_pow, b_addL, b_addT, b_mulL, x_t, x_l, s_l, s_t, p_lenT, p_lenL, p_abs, p_int, p_intb, p_listT, p_listL, p_tupT, p_tupL, p_gcd, p_min, p_max, p_sum, i_t, i_l, i_r1, i_r2, i_zt, i_zl, n_i, bo_b, in_i, tr_n, tr_b, tr_i, tr_t, tr_l, nn_n, nn_t, nn_l, nn_i, nn_b, isiD_eq, isD, au_a, au_s, wi_n, wi_c, cmpD_eq_int, cmpD_ne_int, cmpD_eq_bl, cmpD_ne_bl, cmpD_lt, cmpD_le, cmpD_gt, cmpD_ge, cmpD_is, cmpD_isnot, truQ_bl, atI_0, atI_1, atI_2, atI_3, fin0, List.nil_append, List.append_nil, List.cons_append, List.getElem?_cons_zero, List.getElem?_cons_succ, set_0, set_s, List.length_cons, List.length_nil, Option.some.injEq, Val.sh.injEq, Val.ow.injEq, D.int.injEq, D.tup.injEq, D.lst.injEq, D.bl.injEq, exists_eq_left', exists_eq_left, true_and, and_true, Nat.reduceAdd, Nat.reduceLeDiff, Nat.zero_add, if_true, if_false, Bool.false_eq_true, reduceCtorEq, decide_eq_true_eq, Bool.not_eq_true, ne_eq, not_false_eq_true, reduceIte, decide_true, decide_false, Bool.not_true, Bool.not_false, step_nil_eq]
    have hx : Fq 1000000 x.num x.den := ⟨den_pos x, by omega, by omega, by omega, rat_g x⟩
    have hy : Fq 1000000 y.num y.den := ⟨den_pos y, by omega, by omega, by omega, rat_g y⟩
    generalize x.num = p at *
    generalize (x.den : Int) = q at *
    generalize y.num = r at *
    generalize (y.den : Int) = s at *
    refine step_cons ?_
    simp only [g2, g13, g19, pr, wpS, wpE, wpEs, wpPs, wpT, wpO, wpIfs, pk_var, pk_cst, pk_glc, pk_bin, pk_neg, pk_not, pk_cmp, pk_chain, pk_and, pk_or, pk_ife, pk_tup, pk_lst, pk_idx, pk_sl, pk_rev, pk_isi, pk_maxK, pk_call, pk_prim, pk_comp, rt_var, rt_cst, rt_glc, rt_bin, rt_neg, rt_not, rt_cmp, rt_chain, rt_and, rt_or, rt_ife, rt_tup, rt_lst, rt_idx, rt_sl, rt_rev, rt_isi, rt_maxK, rt_call, rt_prim, rt_comp, stD_var, stD_tup, tgD_var, tgD_tt, tgD_tl, tgsD_nil, tgsD_cons, bare, bareP, bares, barePs, bareO, give_nil, give_cons, gG_s, gG_n, giveV_sh, giveV_ow, data_eq, shr_eq, own_eq, gD_s, gS_s, gO_s, vd_sh, vd_ow, b_add, b_sub, b_mul, b_fdiv, b_mod, b_pow, b_addL, b_addT, b_mulL, x_t, x_l, s_l, s_t, p_lenT, p_lenL, p_abs, p_int, p_intb, p_listT, p_listL, p_tupT, p_tupL, p_gcd, p_min, p_max, p_sum, i_t, i_l, i_r1, i_r2, i_zt, i_zl, n_i, bo_b, in_i, tr_n, tr_b, tr_i, tr_t, tr_l, nn_n, nn_t, nn_l, nn_i, nn_b, isiD_eq, isD, au_a, au_s, wi_n, wi_c, cmpD_eq_int, cmpD_ne_int, cmpD_eq_bl, cmpD_ne_bl, cmpD_lt, cmpD_le, cmpD_gt, cmpD_ge, cmpD_is, cmpD_isnot, truQ_bl, atI_0, atI_1, atI_2, atI_3, fin0, List.nil_append, List.append_nil, List.cons_append, List.getElem?_cons_zero, List.getElem?_cons_succ, set_0, set_s, List.length_cons, List.length_nil, Option.some.injEq, Val.sh.injEq, Val.ow.injEq, D.int.injEq, D.tup.injEq, D.lst.injEq, D.bl.injEq, exists_eq_left', exists_eq_left, true_and, and_true, Nat.reduceAdd, Nat.reduceLeDiff, Nat.zero_add, if_true, if_false, Bool.false_eq_true, reduceCtorEq, decide_eq_true_eq, Bool.not_eq_true, ne_eq, not_false_eq_true, reduceIte, decide_true, decide_false, Bool.not_true, Bool.not_false, step_nil_eq]
    refine ⟨p, q, 24, rfl, hx.sm.2, by decide, ?_⟩
    refine ⟨r, s, 24, rfl, hy.sm.2, by decide, ?_⟩
    refine ⟨p, q, 24, rfl, hx.sm.2, by decide, ?_⟩
    refine ⟨r, s, 24, rfl, hy.sm.2, by decide, ?_⟩
    refine ⟨_, rfl, ?_, ?_⟩
    · refine ⟨by simp, fun x hx => ?_⟩
      simp only [List.mem_cons, List.not_mem_nil, or_false, vd_sh] at hx
      rcases hx with rfl | rfl
      · exact ok_circ 0 _ _
      · exact ok_circ 0 _ _
    · simp only [wpS, wpE, wpEs, wpPs, wpT, wpO, wpIfs, pk_var, pk_cst, pk_glc, pk_bin, pk_neg, pk_not, pk_cmp, pk_chain, pk_and, pk_or, pk_ife, pk_tup, pk_lst, pk_idx, pk_sl, pk_rev, pk_isi, pk_maxK, pk_call, pk_prim, pk_comp, rt_var, rt_cst, rt_glc, rt_bin, rt_neg, rt_not, rt_cmp, rt_chain, rt_and, rt_or, rt_ife, rt_tup, rt_lst, rt_idx, rt_sl, rt_rev, rt_isi, rt_maxK, rt_call, rt_prim, rt_comp, stD_var, stD_tup, tgD_var, tgD_tt, tgD_tl, tgsD_nil, tgsD_cons, bare, bareP, bares, barePs, bareO, give_nil, give_cons, gG_s, gG_n, giveV_sh, giveV_ow, data_eq, shr_eq, own_eq, gD_s, gS_s, gO_s, vd_sh, vd_ow, b_add, b_sub, b_mul, b_fdiv, b_mod, b_pow, b_addL, b_addT, b_mulL, x_t, x_l, s_l, s_t, p_lenT, p_lenL, p_abs, p_int, p_intb, p_listT, p_listL, p_tupT, p_tupL, p_gcd, p_min, p_max, p_sum, i_t, i_l, i_r1, i_r2, i_zt, i_zl, n_i, bo_b, in_i, tr_n, tr_b, tr_i, tr_t, tr_l, nn_n, nn_t, nn_l, nn_i, nn_b, isiD_eq, isD, au_a, au_s, wi_n, wi_c, cmpD_eq_int, cmpD_ne_int, cmpD_eq_bl, cmpD_ne_bl, cmpD_lt, cmpD_le, cmpD_gt, cmpD_ge, cmpD_is, cmpD_isnot, truQ_bl, atI_0, atI_1, atI_2, atI_3, fin0, List.nil_append, List.append_nil, List.cons_append, List.getElem?_cons_zero, List.getElem?_cons_succ, set_0, set_s, List.length_cons, List.length_nil, Option.some.injEq, Val.sh.injEq, Val.ow.injEq, D.int.injEq, D.tup.injEq, D.lst.injEq, D.bl.injEq, exists_eq_left', exists_eq_left, true_and, and_true, Nat.reduceAdd, Nat.reduceLeDiff, Nat.zero_add, if_true, if_false, Bool.false_eq_true, reduceCtorEq, decide_eq_true_eq, Bool.not_eq_true, ne_eq, not_false_eq_true, reduceIte, decide_true, decide_false, Bool.not_true, Bool.not_false, step_nil_eq]
      exact t_near kn hx (.inr ⟨r, s, rfl, hy⟩) _ _ _ _ _ _ _ _ _ _ _ _ _ _ _ _ _ _
  refine step_cons ?_
  simp only [g8, wpS, wpE, wpEs, wpPs, wpT, wpO, wpIfs, pk_var, pk_cst, pk_glc, pk_bin, pk_neg, pk_not, pk_cmp, pk_chain, pk_and, pk_or, pk_ife, pk_tup, pk_lst, pk_idx, pk_sl, pk_rev, pk_isi, pk_maxK, pk_call, pk_prim, pk_comp, rt_var, rt_cst, rt_glc, rt_bin, rt_neg, rt_not, rt_cmp, rt_chain, rt_and, rt_or, rt_ife, rt_tup, rt_lst, rt_idx, rt_sl, rt_rev, rt_isi, rt_maxK, rt_call, rt_prim, rt_comp, stD_var, stD_tup, tgD_var, tgD_tt, tgD_tl, tgsD_nil, tgsD_cons, bare, bareP, bares, barePs, bareO, give_nil, give_cons, gG_s, gG_n, giveV_sh, giveV_ow, data_eq, shr_eq, own_eq, gD_s, gS_s, gO_s, vd_sh, vd_ow, b_add, b_sub, b_mul, b_fdiv, b_mod, b_pow, b_addL, b_addT, b_mulL, x_t, x_l, s_l, s_t, p_lenT, p_lenL, p_abs, p_int, p_intb, p_listT, p_listL, p_tupT, p_tupL, p_gcd, p_min, p_max, p_sum, i_t, i_l, i_r1, i_r2, i_zt, i_zl, n_i, bo_b, in_i, tr_n, tr_b, tr_i, tr_t, tr_l, nn_n, nn_t, nn_l, nn_i, nn_b, isiD_eq, isD, au_a, au_s, wi_n, wi_c, cmpD_eq_int, cmpD_ne_int, cmpD_eq_bl, cmpD_ne_bl, cmpD_lt, cmpD_le, cmpD_gt, cmpD_ge, cmpD_is, cmpD_isnot, truQ_bl, atI_0, atI_1, atI_2, atI_3, fin0, List.nil_append, List.append_nil, List.cons_append, List.getElem?_cons_zero, List.getElem?_cons_succ, set_0, set_s, List.length_cons, List.length_nil, Option.some.injEq, Val.sh.injEq, Val.ow.injEq, D.int.injEq, D.tup.injEq, D.lst.injEq, D.bl.injEq, exists_eq_left', exists_eq_left, true_and, and_true, Nat.reduceAdd, Nat.reduceLeDiff, Nat.zero_add, if_true, if_false, Bool.false_eq_true, reduceCtorEq, decide_eq_true_eq, Bool.not_eq_true, ne_eq, not_false_eq_true, reduceIte, decide_true, decide_false, Bool.not_true, Bool.not_false, step_nil_eq]
  refine ⟨_, rfl, by simp, by simp, fun i x hx => ?_⟩
  rcases pick3 hx with rfl | rfl | rfl
  · exact fin 6 (by decide) (by decide) _ _ _ _ _ _ _ _ _ _ _ _ _ _ _ _ _ _ _
  · exact fin 60 (by decide) (by decide) _ _ _ _ _ _ _ _ _ _ _ _ _ _ _ _ _ _ _
  · exact fin 1000000 (by decide) (by decide) _ _ _ _ _ _ _ _ _ _ _ _ _ _ _ _ _ _ _
theorem o_law {K : Val → Prop} (hK : K (.sh (.bl true))) : wpB Γt G core_23_law.tail (fin0 K) [none, some (.sh (.hd 0)), none, none, none, none, none, none, none, none, none, none, none, none, none, none, none, none, none, none, none, none] := by
  refine step_cons ?_
  simp only [wpS, wpE, wpEs, wpPs, wpT, wpO, wpIfs, pk_var, pk_cst, pk_glc, pk_bin, pk_neg, pk_not, pk_cmp, pk_chain, pk_and, pk_or, pk_ife, pk_tup, pk_lst, pk_idx, pk_sl, pk_rev, pk_isi, pk_maxK, pk_call, pk_prim, pk_comp, rt_var, rt_cst, rt_glc, rt_bin, rt_neg, rt_not, rt_cmp, rt_chain, rt_and, rt_or, rt_ife, rt_tup, rt_lst, rt_idx, rt_sl, rt_rev, rt_isi, rt_maxK, rt_call, rt_prim, rt_comp, stD_var, stD_tup, tgD_var, tgD_tt, tgD_tl, tgsD_nil, tgsD_cons, bare, bareP, bares, barePs, bareO, give_nil, give_cons, gG_s, gG_n, giveV_sh, giveV_ow, data_eq, shr_eq, own_eq, gD_s, gS_s, gO_s, vd_sh, vd_ow, b_add, b_sub, b_mul, b_fdiv, b_mod, b_pow, b_addL, b_addT, b_mulL, x_t, x_l, s_l, s_t, p_lenT, p_lenL, p_abs, p_int, p_intb, p_listT, p_listL, p_tupT, p_tupL, p_gcd, p_min, p_max, p_sum, i_t, i_l, i_r1, i_r2, i_zt, i_zl, n_i, bo_b, in_i, tr_n, tr_b, tr_i, tr_t, tr_l, nn_n, nn_t, nn_l, nn_i, nn_b, isiD_eq, isD, au_a, au_s, wi_n, wi_c, cmpD_eq_int, cmpD_ne_int, cmpD_eq_bl, cmpD_ne_bl, cmpD_lt, cmpD_le, cmpD_gt, cmpD_ge, cmpD_is, cmpD_isnot, truQ_bl, atI_0, atI_1, atI_2, atI_3, fin0, List.nil_append, List.append_nil, List.cons_append, List.getElem?_cons_zero, List.getElem?_cons_succ, set_0, set_s, List.length_cons, List.length_nil, Option.some.injEq, Val.sh.injEq, Val.ow.injEq, D.int.injEq, D.tup.injEq, D.lst.injEq, D.bl.injEq, exists_eq_left', exists_eq_left, true_and, and_true, Nat.reduceAdd, Nat.reduceLeDiff, Nat.zero_add, if_true, if_false, Bool.false_eq_true, reduceCtorEq, decide_eq_true_eq, Bool.not_eq_true, ne_eq, not_false_eq_true, reduceIte, decide_true, decide_false, Bool.not_true, Bool.not_false, step_nil_eq]
  refine ⟨⟨by decide, by decide⟩, fun i ρ => ∃ (d2 d3 d4 d5 d6 d7 d8 d9 d10 d11 d12 d13 d14 d15 d16 d17 d18 d19 d20 d21 : Option Val), ρ = [none, some (.sh (.hd 0)), d2, d3, d4, d5, d6, d7, d8, d9, d10, d11, d12, d13, d14, d15, d16, d17, d18, d19, d20, d21], ⟨_, _, _, _, _, _, _, _, _, _, _, _, _, _, _, _, _, _, _, _, rfl⟩, ?_, ?_⟩
  · rintro i d ρ hi ⟨d2, d3, d4, d5, d6, d7, d8, d9, d10, d11, d12, d13, d14, d15, d16, d17, d18, d19, d20, d21, rfl⟩
    simp only [wpS, wpE, wpEs, wpPs, wpT, wpO, wpIfs, pk_var, pk_cst, pk_glc, pk_bin, pk_neg, pk_not, pk_cmp, pk_chain, pk_and, pk_or, pk_ife, pk_tup, pk_lst, pk_idx, pk_sl, pk_rev, pk_isi, pk_maxK, pk_call, pk_prim, pk_comp, rt_var, rt_cst, rt_glc, rt_bin, rt_neg, rt_not, rt_cmp, rt_chain, rt_and, rt_or, rt_ife, rt_tup, rt_lst, rt_idx, rt_sl, rt_rev, rt_isi, rt_maxK, rt_call, rt_prim, rt_comp, stD_var, stD_tup, tgD_var, tgD_tt, tgD_tl, tgsD_nil, tgsD_cons, bare, bareP, bares, barePs, bareO, give_nil, give_cons, gG_s, gG_n, giveV_sh, giveV_ow, data_eq, shr_eq, own_eq, gD_s, gS_s, gO_s, vd_sh, vd_ow, b_add, b_sub, b_mul, b_fdiv, b_mod, b_pow, b_addL, b_addT, b_mulL, x_t, x_l, s_l, s_t, p_lenT, p_lenL, p_abs, p_int, p_intb, p_listT, p_listL, p_tupT, p_tupL, p_gcd, p_min, p_max, p_sum, i_t, i_l, i_r1, i_r2, i_zt, i_zl, n_i, bo_b, in_i, tr_n, tr_b, tr_i, tr_t, tr_l, nn_n, nn_t, nn_l, nn_i, nn_b, isiD_eq, isD, au_a, au_s, wi_n, wi_c, cmpD_eq_int, cmpD_ne_int, cmpD_eq_bl, cmpD_ne_bl, cmpD_lt, cmpD_le, cmpD_gt, cmpD_ge, cmpD_is, cmpD_isnot, truQ_bl, atI_0, atI_1, atI_2, atI_3, fin0, List.nil_append, List.append_nil, List.cons_append, List.getElem?_cons_zero, List.getElem?_cons_succ, set_0, set_s, List.length_cons, List.length_nil, Option.some.injEq, Val.sh.injEq, Val.ow.injEq, D.int.injEq, D.tup.injEq, D.lst.injEq, D.bl.injEq, exists_eq_left', exists_eq_left, true_and, and_true, Nat.reduceAdd, Nat.reduceLeDiff, Nat.zero_add, if_true, if_false, Bool.false_eq_true, reduceCtorEq, decide_eq_true_eq, Bool.not_eq_true, ne_eq, not_false_eq_true, reduceIte, decide_true, decide_false, Bool.not_true, Bool.not_false, step_nil_eq]
    refine t_turn (fun d2 d3 d4 d5 d6 d7 d8 d9 d10 d11 d12 d13 d14 d15 d16 d17 d18 d19 d20 d21 => ?_) _ _ _ _ _ _ _ _ _ _ _ _ _ _ _ _ _ _ _ _
    exact ⟨_, _, _, _, _, _, _, _, _, _, _, _, _, _, _, _, _, _, _, _, rfl⟩
  · rintro ρ ⟨d2, d3, d4, d5, d6, d7, d8, d9, d10, d11, d12, d13, d14, d15, d16, d17, d18, d19, d20, d21, rfl⟩
    have I : CP (2, 1) (0, 1) := ⟨by decide, by decide, by decide, by decide, by decide, by decide, by decide, by decide, by decide⟩
    have hc : chl (0, 1) (2, 1) 700 = [(0, 1), (1, 1), (2, 1)] := by
      rw [← chl_fin I (n := 2) (by decide)]; decide
    generalize hL : chl (0, 1) (2, 1) 700 = L at hc
    subst hc
    refine step_cons ?_
    simp only [g6, wpS, wpE, wpEs, wpPs, wpT, wpO, wpIfs, pk_var, pk_cst, pk_glc, pk_bin, pk_neg, pk_not, pk_cmp, pk_chain, pk_and, pk_or, pk_ife, pk_tup, pk_lst, pk_idx, pk_sl, pk_rev, pk_isi, pk_maxK, pk_call, pk_prim, pk_comp, rt_var, rt_cst, rt_glc, rt_bin, rt_neg, rt_not, rt_cmp, rt_chain, rt_and, rt_or, rt_ife, rt_tup, rt_lst, rt_idx, rt_sl, rt_rev, rt_isi, rt_maxK, rt_call, rt_prim, rt_comp, stD_var, stD_tup, tgD_var, tgD_tt, tgD_tl, tgsD_nil, tgsD_cons, bare, bareP, bares, barePs, bareO, give_nil, give_cons, gG_s, gG_n, giveV_sh, giveV_ow, data_eq, shr_eq, own_eq, gD_s, gS_s, gO_s, vd_sh, vd_ow, b_add, b_sub, b_mul, b_fdiv, b_mod, b_pow, b_addL, b_addT, b_mulL, x_t, x_l, s_l, s_t, p_lenT, p_lenL, p_abs, p_int, p_intb, p_listT, p_listL, p_tupT, p_tupL, p_gcd, p_min, p_max, p_sum, i_t, i_l, i_r1, i_r2, i_zt, i_zl, n_i, bo_b, in_i, tr_n, tr_b, tr_i, tr_t, tr_l, nn_n, nn_t, nn_l, nn_i, nn_b, isiD_eq, isD, au_a, au_s, wi_n, wi_c, cmpD_eq_int, cmpD_ne_int, cmpD_eq_bl, cmpD_ne_bl, cmpD_lt, cmpD_le, cmpD_gt, cmpD_ge, cmpD_is, cmpD_isnot, truQ_bl, atI_0, atI_1, atI_2, atI_3, fin0, List.nil_append, List.append_nil, List.cons_append, List.getElem?_cons_zero, List.getElem?_cons_succ, set_0, set_s, List.length_cons, List.length_nil, Option.some.injEq, Val.sh.injEq, Val.ow.injEq, D.int.injEq, D.tup.injEq, D.lst.injEq, D.bl.injEq, exists_eq_left', exists_eq_left, true_and, and_true, Nat.reduceAdd, Nat.reduceLeDiff, Nat.zero_add, if_true, if_false, Bool.false_eq_true, reduceCtorEq, decide_eq_true_eq, Bool.not_eq_true, ne_eq, not_false_eq_true, reduceIte, decide_true, decide_false, Bool.not_true, Bool.not_false, step_nil_eq]
    refine ⟨(0, 1), (2, 1), rfl, I, ?_⟩
    rw [hL]
    simp only [List.map, wpS, wpE, wpEs, wpPs, wpT, wpO, wpIfs, pk_var, pk_cst, pk_glc, pk_bin, pk_neg, pk_not, pk_cmp, pk_chain, pk_and, pk_or, pk_ife, pk_tup, pk_lst, pk_idx, pk_sl, pk_rev, pk_isi, pk_maxK, pk_call, pk_prim, pk_comp, rt_var, rt_cst, rt_glc, rt_bin, rt_neg, rt_not, rt_cmp, rt_chain, rt_and, rt_or, rt_ife, rt_tup, rt_lst, rt_idx, rt_sl, rt_rev, rt_isi, rt_maxK, rt_call, rt_prim, rt_comp, stD_var, stD_tup, tgD_var, tgD_tt, tgD_tl, tgsD_nil, tgsD_cons, bare, bareP, bares, barePs, bareO, give_nil, give_cons, gG_s, gG_n, giveV_sh, giveV_ow, data_eq, shr_eq, own_eq, gD_s, gS_s, gO_s, vd_sh, vd_ow, b_add, b_sub, b_mul, b_fdiv, b_mod, b_pow, b_addL, b_addT, b_mulL, x_t, x_l, s_l, s_t, p_lenT, p_lenL, p_abs, p_int, p_intb, p_listT, p_listL, p_tupT, p_tupL, p_gcd, p_min, p_max, p_sum, i_t, i_l, i_r1, i_r2, i_zt, i_zl, n_i, bo_b, in_i, tr_n, tr_b, tr_i, tr_t, tr_l, nn_n, nn_t, nn_l, nn_i, nn_b, isiD_eq, isD, au_a, au_s, wi_n, wi_c, cmpD_eq_int, cmpD_ne_int, cmpD_eq_bl, cmpD_ne_bl, cmpD_lt, cmpD_le, cmpD_gt, cmpD_ge, cmpD_is, cmpD_isnot, truQ_bl, atI_0, atI_1, atI_2, atI_3, fin0, List.nil_append, List.append_nil, List.cons_append, List.getElem?_cons_zero, List.getElem?_cons_succ, set_0, set_s, List.length_cons, List.length_nil, Option.some.injEq, Val.sh.injEq, Val.ow.injEq, D.int.injEq, D.tup.injEq, D.lst.injEq, D.bl.injEq, exists_eq_left', exists_eq_left, true_and, and_true, Nat.reduceAdd, Nat.reduceLeDiff, Nat.zero_add, if_true, if_false, Bool.false_eq_true, reduceCtorEq, decide_eq_true_eq, Bool.not_eq_true, ne_eq, not_false_eq_true, reduceIte, decide_true, decide_false, Bool.not_true, Bool.not_false, step_nil_eq]
    refine ⟨fun i acc => acc = [prp (0, 1), prp (1, 1), prp (2, 1)].take i, rfl, ?_, ?_⟩
    · rintro i d acc hi rfl
      rcases i with _ | _ | _ | i
      · cases hi; simp only [prp, pr, wpS, wpE, wpEs, wpPs, wpT, wpO, wpIfs, pk_var, pk_cst, pk_glc, pk_bin, pk_neg, pk_not, pk_cmp, pk_chain, pk_and, pk_or, pk_ife, pk_tup, pk_lst, pk_idx, pk_sl, pk_rev, pk_isi, pk_maxK, pk_call, pk_prim, pk_comp, rt_var, rt_cst, rt_glc, rt_bin, rt_neg, rt_not, rt_cmp, rt_chain, rt_and, rt_or, rt_ife, rt_tup, rt_lst, rt_idx, rt_sl, rt_rev, rt_isi, rt_maxK, rt_call, rt_prim, rt_comp, stD_var, stD_tup, tgD_var, tgD_tt, tgD_tl, tgsD_nil, tgsD_cons, bare, bareP, bares, barePs, bareO, give_nil, give_cons, gG_s, gG_n, giveV_sh, giveV_ow, data_eq, shr_eq, own_eq, gD_s, gS_s, gO_s, vd_sh, vd_ow, b_add, b_sub, b_mul, b_fdiv, b_mod, b_pow, b_addL, b_addT, b_mulL, x_t, x_l, s_l, s_t, p_lenT, p_lenL, p_abs, p_int, p_intb, p_listT, p_listL, p_tupT, p_tupL, p_gcd, p_min, p_max, p_sum, i_t, i_l, i_r1, i_r2, i_zt, i_zl, n_i, bo_b, in_i, tr_n, tr_b, tr_i, tr_t, tr_l, nn_n, nn_t, nn_l, nn_i, nn_b, isiD_eq, isD, au_a, au_s, wi_n, wi_c, cmpD_eq_int, cmpD_ne_int, cmpD_eq_bl, cmpD_ne_bl, cmpD_lt, cmpD_le, cmpD_gt, cmpD_ge, cmpD_is, cmpD_isnot, truQ_bl, atI_0, atI_1, atI_2, atI_3, fin0, List.nil_append, List.append_nil, List.cons_append, List.getElem?_cons_zero, List.getElem?_cons_succ, set_0, set_s, List.length_cons, List.length_nil, Option.some.injEq, Val.sh.injEq, Val.ow.injEq, D.int.injEq, D.tup.injEq, D.lst.injEq, D.bl.injEq, exists_eq_left', exists_eq_left, true_and, and_true, Nat.reduceAdd, Nat.reduceLeDiff, Nat.zero_add, if_true, if_false, Bool.false_eq_true, reduceCtorEq, decide_eq_true_eq, Bool.not_eq_true, ne_eq, not_false_eq_true, reduceIte, decide_true, decide_false, Bool.not_true, Bool.not_false, step_nil_eq]; rfl
      · cases hi; simp only [prp, pr, wpS, wpE, wpEs, wpPs, wpT, wpO, wpIfs, pk_var, pk_cst, pk_glc, pk_bin, pk_neg, pk_not, pk_cmp, pk_chain, pk_and, pk_or, pk_ife, pk_tup, pk_lst, pk_idx, pk_sl, pk_rev, pk_isi, pk_maxK, pk_call, pk_prim, pk_comp, rt_var, rt_cst, rt_glc, rt_bin, rt_neg, rt_not, rt_cmp, rt_chain, rt_and, rt_or, rt_ife, rt_tup, rt_lst, rt_idx, rt_sl, rt_rev, rt_isi, rt_maxK, rt_call, rt_prim, rt_comp, stD_var, stD_tup, tgD_var, tgD_tt, tgD_tl, tgsD_nil, tgsD_cons, bare, bareP, bares, barePs, bareO, give_nil, give_cons, gG_s, gG_n, giveV_sh, giveV_ow, data_eq, shr_eq, own_eq, gD_s, gS_s, gO_s, vd_sh, vd_ow, b_add, b_sub, b_mul, b_fdiv, b_mod, b_pow, b_addL, b_addT, b_mulL, x_t, x_l, s_l, s_t, p_lenT, p_lenL, p_abs, p_int, p_intb, p_listT, p_listL, p_tupT, p_tupL, p_gcd, p_min, p_max, p_sum, i_t, i_l, i_r1, i_r2, i_zt, i_zl, n_i, bo_b, in_i, tr_n, tr_b, tr_i, tr_t, tr_l, nn_n, nn_t, nn_l, nn_i, nn_b, isiD_eq, isD, au_a, au_s, wi_n, wi_c, cmpD_eq_int, cmpD_ne_int, cmpD_eq_bl, cmpD_ne_bl, cmpD_lt, cmpD_le, cmpD_gt, cmpD_ge, cmpD_is, cmpD_isnot, truQ_bl, atI_0, atI_1, atI_2, atI_3, fin0, List.nil_append, List.append_nil, List.cons_append, List.getElem?_cons_zero, List.getElem?_cons_succ, set_0, set_s, List.length_cons, List.length_nil, Option.some.injEq, Val.sh.injEq, Val.ow.injEq, D.int.injEq, D.tup.injEq, D.lst.injEq, D.bl.injEq, exists_eq_left', exists_eq_left, true_and, and_true, Nat.reduceAdd, Nat.reduceLeDiff, Nat.zero_add, if_true, if_false, Bool.false_eq_true, reduceCtorEq, decide_eq_true_eq, Bool.not_eq_true, ne_eq, not_false_eq_true, reduceIte, decide_true, decide_false, Bool.not_true, Bool.not_false, step_nil_eq]; rfl
      · cases hi; simp only [prp, pr, wpS, wpE, wpEs, wpPs, wpT, wpO, wpIfs, pk_var, pk_cst, pk_glc, pk_bin, pk_neg, pk_not, pk_cmp, pk_chain, pk_and, pk_or, pk_ife, pk_tup, pk_lst, pk_idx, pk_sl, pk_rev, pk_isi, pk_maxK, pk_call, pk_prim, pk_comp, rt_var, rt_cst, rt_glc, rt_bin, rt_neg, rt_not, rt_cmp, rt_chain, rt_and, rt_or, rt_ife, rt_tup, rt_lst, rt_idx, rt_sl, rt_rev, rt_isi, rt_maxK, rt_call, rt_prim, rt_comp, stD_var, stD_tup, tgD_var, tgD_tt, tgD_tl, tgsD_nil, tgsD_cons, bare, bareP, bares, barePs, bareO, give_nil, give_cons, gG_s, gG_n, giveV_sh, giveV_ow, data_eq, shr_eq, own_eq, gD_s, gS_s, gO_s, vd_sh, vd_ow, b_add, b_sub, b_mul, b_fdiv, b_mod, b_pow, b_addL, b_addT, b_mulL, x_t, x_l, s_l, s_t, p_lenT, p_lenL, p_abs, p_int, p_intb, p_listT, p_listL, p_tupT, p_tupL, p_gcd, p_min, p_max, p_sum, i_t, i_l, i_r1, i_r2, i_zt, i_zl, n_i, bo_b, in_i, tr_n, tr_b, tr_i, tr_t, tr_l, nn_n, nn_t, nn_l, nn_i, nn_b, isiD_eq, isD, au_a, au_s, wi_n, wi_c, cmpD_eq_int, cmpD_ne_int, cmpD_eq_bl, cmpD_ne_bl, cmpD_lt, cmpD_le, cmpD_gt, cmpD_ge, cmpD_is, cmpD_isnot, truQ_bl, atI_0, atI_1, atI_2, atI_3, fin0, List.nil_append, List.append_nil, List.cons_append, List.getElem?_cons_zero, List.getElem?_cons_succ, set_0, set_s, List.length_cons, List.length_nil, Option.some.injEq, Val.sh.injEq, Val.ow.injEq, D.int.injEq, D.tup.injEq, D.lst.injEq, D.bl.injEq, exists_eq_left', exists_eq_left, true_and, and_true, Nat.reduceAdd, Nat.reduceLeDiff, Nat.zero_add, if_true, if_false, Bool.false_eq_true, reduceCtorEq, decide_eq_true_eq, Bool.not_eq_true, ne_eq, not_false_eq_true, reduceIte, decide_true, decide_false, Bool.not_true, Bool.not_false, step_nil_eq]; rfl
      · simp at hi
    · rintro acc rfl
      refine step_cons ?_
      simp only [g3, g4, g13, wpS, wpE, wpEs, wpPs, wpT, wpO, wpIfs, pk_var, pk_cst, pk_glc, pk_bin, pk_neg, pk_not, pk_cmp, pk_chain, pk_and, pk_or, pk_ife, pk_tup, pk_lst, pk_idx, pk_sl, pk_rev, pk_isi, pk_maxK, pk_call, pk_prim, pk_comp, rt_var, rt_cst, rt_glc, rt_bin, rt_neg, rt_not, rt_cmp, rt_chain, rt_and, rt_or, rt_ife, rt_tup, rt_lst, rt_idx, rt_sl, rt_rev, rt_isi, rt_maxK, rt_call, rt_prim, rt_comp, stD_var, stD_tup, tgD_var, tgD_tt, tgD_tl, tgsD_nil, tgsD_cons, bare, bareP, bares, barePs, bareO, give_nil, give_cons, gG_s, gG_n, giveV_sh, giveV_ow, data_eq, shr_eq, own_eq, gD_s, gS_s, gO_s, vd_sh, vd_ow, b_add, b_sub, b_mul, b_fdiv, b_mod, b_pow, b_addL, b_addT, b_mulL, x_t, x_l, s_l, s_t, p_lenT, p_lenL, p_abs, p_int, p_intb, p_listT, p_listL, p_tupT, p_tupL, p_gcd, p_min, p_max, p_sum, i_t, i_l, i_r1, i_r2, i_zt, i_zl, n_i, bo_b, in_i, tr_n, tr_b, tr_i, tr_t, tr_l, nn_n, nn_t, nn_l, nn_i, nn_b, isiD_eq, isD, au_a, au_s, wi_n, wi_c, cmpD_eq_int, cmpD_ne_int, cmpD_eq_bl, cmpD_ne_bl, cmpD_lt, cmpD_le, cmpD_gt, cmpD_ge, cmpD_is, cmpD_isnot, truQ_bl, atI_0, atI_1, atI_2, atI_3, fin0, List.nil_append, List.append_nil, List.cons_append, List.getElem?_cons_zero, List.getElem?_cons_succ, set_0, set_s, List.length_cons, List.length_nil, Option.some.injEq, Val.sh.injEq, Val.ow.injEq, D.int.injEq, D.tup.injEq, D.lst.injEq, D.bl.injEq, exists_eq_left', exists_eq_left, true_and, and_true, Nat.reduceAdd, Nat.reduceLeDiff, Nat.zero_add, if_true, if_false, Bool.false_eq_true, reduceCtorEq, decide_eq_true_eq, Bool.not_eq_true, ne_eq, not_false_eq_true, reduceIte, decide_true, decide_false, Bool.not_true, Bool.not_false, step_nil_eq]
      refine ⟨0, 1, 1, 1, 24, rfl, by (unfold Sm; decide), by (unfold Sm; decide), by (unfold Sm; decide), by (unfold Sm; decide), by decide, ?_⟩
      refine ⟨0, 1, 2, 1, 24, rfl, by (unfold Sm; decide), by (unfold Sm; decide), by (unfold Sm; decide), by (unfold Sm; decide), by decide, ?_⟩
      refine ⟨0, 1, 1, 1, rfl, ?_⟩
      simp only [pr, wpS, wpE, wpEs, wpPs, wpT, wpO, wpIfs, pk_var, pk_cst, pk_glc, pk_bin, pk_neg, pk_not, pk_cmp, pk_chain, pk_and, pk_or, pk_ife, pk_tup, pk_lst, pk_idx, pk_sl, pk_rev, pk_isi, pk_maxK, pk_call, pk_prim, pk_comp, rt_var, rt_cst, rt_glc, rt_bin, rt_neg, rt_not, rt_cmp, rt_chain, rt_and, rt_or, rt_ife, rt_tup, rt_lst, rt_idx, rt_sl, rt_rev, rt_isi, rt_maxK, rt_call, rt_prim, rt_comp, stD_var, stD_tup, tgD_var, tgD_tt, tgD_tl, tgsD_nil, tgsD_cons, bare, bareP, bares, barePs, bareO, give_nil, give_cons, gG_s, gG_n, giveV_sh, giveV_ow, data_eq, shr_eq, own_eq, gD_s, gS_s, gO_s, vd_sh, vd_ow, b_add, b_sub, b_mul, b_fdiv, b_mod, b_pow, b_addL, b_addT, b_mulL, x_t, x_l, s_l, s_t, p_lenT, p_lenL, p_abs, p_int, p_intb, p_listT, p_listL, p_tupT, p_tupL, p_gcd, p_min, p_max, p_sum, i_t, i_l, i_r1, i_r2, i_zt, i_zl, n_i, bo_b, in_i, tr_n, tr_b, tr_i, tr_t, tr_l, nn_n, nn_t, nn_l, nn_i, nn_b, isiD_eq, isD, au_a, au_s, wi_n, wi_c, cmpD_eq_int, cmpD_ne_int, cmpD_eq_bl, cmpD_ne_bl, cmpD_lt, cmpD_le, cmpD_gt, cmpD_ge, cmpD_is, cmpD_isnot, truQ_bl, atI_0, atI_1, atI_2, atI_3, fin0, List.nil_append, List.append_nil, List.cons_append, List.getElem?_cons_zero, List.getElem?_cons_succ, set_0, set_s, List.length_cons, List.length_nil, Option.some.injEq, Val.sh.injEq, Val.ow.injEq, D.int.injEq, D.tup.injEq, D.lst.injEq, D.bl.injEq, exists_eq_left', exists_eq_left, true_and, and_true, Nat.reduceAdd, Nat.reduceLeDiff, Nat.zero_add, if_true, if_false, Bool.false_eq_true, reduceCtorEq, decide_eq_true_eq, Bool.not_eq_true, ne_eq, not_false_eq_true, reduceIte, decide_true, decide_false, Bool.not_true, Bool.not_false, step_nil_eq]
      refine ⟨_, by rfl, by simp [OkE], ?_⟩
      simp only [wpS, wpE, wpEs, wpPs, wpT, wpO, wpIfs, pk_var, pk_cst, pk_glc, pk_bin, pk_neg, pk_not, pk_cmp, pk_chain, pk_and, pk_or, pk_ife, pk_tup, pk_lst, pk_idx, pk_sl, pk_rev, pk_isi, pk_maxK, pk_call, pk_prim, pk_comp, rt_var, rt_cst, rt_glc, rt_bin, rt_neg, rt_not, rt_cmp, rt_chain, rt_and, rt_or, rt_ife, rt_tup, rt_lst, rt_idx, rt_sl, rt_rev, rt_isi, rt_maxK, rt_call, rt_prim, rt_comp, stD_var, stD_tup, tgD_var, tgD_tt, tgD_tl, tgsD_nil, tgsD_cons, bare, bareP, bares, barePs, bareO, give_nil, give_cons, gG_s, gG_n, giveV_sh, giveV_ow, data_eq, shr_eq, own_eq, gD_s, gS_s, gO_s, vd_sh, vd_ow, b_add, b_sub, b_mul, b_fdiv, b_mod, b_pow, b_addL, b_addT, b_mulL, x_t, x_l, s_l, s_t, p_lenT, p_lenL, p_abs, p_int, p_intb, p_listT, p_listL, p_tupT, p_tupL, p_gcd, p_min, p_max, p_sum, i_t, i_l, i_r1, i_r2, i_zt, i_zl, n_i, bo_b, in_i, tr_n, tr_b, tr_i, tr_t, tr_l, nn_n, nn_t, nn_l, nn_i, nn_b, isiD_eq, isD, au_a, au_s, wi_n, wi_c, cmpD_eq_int, cmpD_ne_int, cmpD_eq_bl, cmpD_ne_bl, cmpD_lt, cmpD_le, cmpD_gt, cmpD_ge, cmpD_is, cmpD_isnot, truQ_bl, atI_0, atI_1, atI_2, atI_3, fin0, List.nil_append, List.append_nil, List.cons_append, List.getElem?_cons_zero, List.getElem?_cons_succ, set_0, set_s, List.length_cons, List.length_nil, Option.some.injEq, Val.sh.injEq, Val.ow.injEq, D.int.injEq, D.tup.injEq, D.lst.injEq, D.bl.injEq, exists_eq_left', exists_eq_left, true_and, and_true, Nat.reduceAdd, Nat.reduceLeDiff, Nat.zero_add, if_true, if_false, Bool.false_eq_true, reduceCtorEq, decide_eq_true_eq, Bool.not_eq_true, ne_eq, not_false_eq_true, reduceIte, decide_true, decide_false, Bool.not_true, Bool.not_false, step_nil_eq]
      refine cmp_eqI (n := 2) (m := 2) (by simp [okI, okIs, prp, pr]) (by simp [okI, okIs]) (k := fun b hb => ?_)
      have : b = true := hb.mpr rfl
      subst this
      exact hK
end Lw
set_option maxHeartbeats 4000000
namespace Lw
open PySem PySem.Spec PyProof.Rows L2 Gx
abbrev d_law_state : DI := ⟨"_law_state", topS 11, ["script", "seed", "cell"], ["script"]⟩
/-- a def stands at its name -/
def Df (K : PySem.W.Frag) (mg : Str → Option Value) (d : DI) : Prop := ∃ f fd, Fun K d.x d.x d.st f fd ∧ mg d.x = some (.ref f) ∧ Binds K fd d.ps []
structure Facts (K : PySem.W.Frag) (mg : Str → Option Value) : Prop where
  f_lowest : Df K mg d_lowest
  f_worth : Df K mg d_worth
  f_ford : Df K mg d_ford
  f_ford_touch : Df K mg d_ford_touch
  f_ford_between : Df K mg d_ford_between
  f_neighbours_to : Df K mg d_neighbours_to
  f_ford_chain : Df K mg d_ford_chain
  f_law_draw : Df K mg d_law_draw
  f_law_pick : Df K mg d_law_pick
  f_law_eq : Df K mg d_law_eq
  f_law_low : Df K mg d_law_low
  f_law_add : Df K mg d_law_add
  f_law_times : Df K mg d_law_times
  f_law_less : Df K mg d_law_less
  f_law_drawn : Df K mg d_law_drawn
  f_law_circle : Df K mg d_law_circle
  f_law_apart : Df K mg d_law_apart
  f_law_back : Df K mg d_law_back
  f_law_chain : Df K mg d_law_chain
  f_law_state : Df K mg d_law_state
  blt : ∀ x, x ∈ uu.blt → mg x = none
  gcd : mg "gcd" = some (.builtin "math.gcd")
theorem sc_lowest : FnScope d_lowest.N d_lowest.ps (defScope d_lowest.st) := ⟨rfl, rfl, rfl, by decide +kernel, rfl, by decide +kernel, by decide +kernel⟩
theorem sc_worth : FnScope d_worth.N d_worth.ps (defScope d_worth.st) := ⟨rfl, rfl, rfl, by decide +kernel, rfl, by decide +kernel, by decide +kernel⟩
theorem sc_ford : FnScope d_ford.N d_ford.ps (defScope d_ford.st) := ⟨rfl, rfl, rfl, by decide +kernel, rfl, by decide +kernel, by decide +kernel⟩
theorem sc_ford_touch : FnScope d_ford_touch.N d_ford_touch.ps (defScope d_ford_touch.st) := ⟨rfl, rfl, rfl, by decide +kernel, rfl, by decide +kernel, by decide +kernel⟩
theorem sc_ford_between : FnScope d_ford_between.N d_ford_between.ps (defScope d_ford_between.st) := ⟨rfl, rfl, rfl, by decide +kernel, rfl, by decide +kernel, by decide +kernel⟩
theorem sc_neighbours_to : FnScope d_neighbours_to.N d_neighbours_to.ps (defScope d_neighbours_to.st) := ⟨rfl, rfl, rfl, by decide +kernel, rfl, by decide +kernel, by decide +kernel⟩
theorem sc_ford_chain : FnScope d_ford_chain.N d_ford_chain.ps (defScope d_ford_chain.st) := ⟨rfl, rfl, rfl, by decide +kernel, rfl, by decide +kernel, by decide +kernel⟩
theorem sc_law_pick : FnScope d_law_pick.N d_law_pick.ps (defScope d_law_pick.st) := ⟨rfl, rfl, rfl, by decide +kernel, rfl, by decide +kernel, by decide +kernel⟩
theorem sc_law_eq : FnScope d_law_eq.N d_law_eq.ps (defScope d_law_eq.st) := ⟨rfl, rfl, rfl, by decide +kernel, rfl, by decide +kernel, by decide +kernel⟩
theorem sc_law_low : FnScope d_law_low.N d_law_low.ps (defScope d_law_low.st) := ⟨rfl, rfl, rfl, by decide +kernel, rfl, by decide +kernel, by decide +kernel⟩
theorem sc_law_add : FnScope d_law_add.N d_law_add.ps (defScope d_law_add.st) := ⟨rfl, rfl, rfl, by decide +kernel, rfl, by decide +kernel, by decide +kernel⟩
theorem sc_law_times : FnScope d_law_times.N d_law_times.ps (defScope d_law_times.st) := ⟨rfl, rfl, rfl, by decide +kernel, rfl, by decide +kernel, by decide +kernel⟩
theorem sc_law_less : FnScope d_law_less.N d_law_less.ps (defScope d_law_less.st) := ⟨rfl, rfl, rfl, by decide +kernel, rfl, by decide +kernel, by decide +kernel⟩
theorem sc_law_drawn : FnScope d_law_drawn.N d_law_drawn.ps (defScope d_law_drawn.st) := ⟨rfl, rfl, rfl, by decide +kernel, rfl, by decide +kernel, by decide +kernel⟩
theorem sc_law_circle : FnScope d_law_circle.N d_law_circle.ps (defScope d_law_circle.st) := ⟨rfl, rfl, rfl, by decide +kernel, rfl, by decide +kernel, by decide +kernel⟩
theorem sc_law_apart : FnScope d_law_apart.N d_law_apart.ps (defScope d_law_apart.st) := ⟨rfl, rfl, rfl, by decide +kernel, rfl, by decide +kernel, by decide +kernel⟩
theorem sc_law_back : FnScope d_law_back.N d_law_back.ps (defScope d_law_back.st) := ⟨rfl, rfl, rfl, by decide +kernel, rfl, by decide +kernel, by decide +kernel⟩
theorem sc_law_chain : FnScope d_law_chain.N d_law_chain.ps (defScope d_law_chain.st) := ⟨rfl, rfl, rfl, by decide +kernel, rfl, by decide +kernel, by decide +kernel⟩
theorem sc_law : FnScope d_law.N d_law.ps (defScope d_law.st) := ⟨rfl, rfl, rfl, by decide +kernel, rfl, by decide +kernel, by decide +kernel⟩
theorem hc_0 : bodyOf 40 uu nms 0 d_lowest = core_0_lowest := by kernel_rfl
theorem hc_1 : bodyOf 40 uu nms 1 d_worth = core_1_worth := by kernel_rfl
theorem hc_2 : bodyOf 40 uu nms 2 d_ford = core_2_ford := by kernel_rfl
theorem hc_3 : bodyOf 40 uu nms 3 d_ford_touch = core_3_ford_touch := by kernel_rfl
theorem hc_4 : bodyOf 40 uu nms 4 d_ford_between = core_4_ford_between := by kernel_rfl
theorem hc_5 : bodyOf 40 uu nms 5 d_neighbours_to = core_5_neighbours_to := by kernel_rfl
theorem hc_6 : bodyOf 40 uu nms 6 d_ford_chain = core_6_ford_chain := by kernel_rfl
theorem hc_8 : bodyOf 40 uu nms 8 d_law_pick = core_8_law_pick := by kernel_rfl
theorem hc_9 : bodyOf 40 uu nms 9 d_law_eq = core_9_law_eq := by kernel_rfl
theorem hc_10 : bodyOf 40 uu nms 10 d_law_eq = core_10_law_eq := by kernel_rfl
theorem hc_11 : bodyOf 40 uu nms 11 d_law_eq = core_11_law_eq := by kernel_rfl
theorem hc_12 : bodyOf 40 uu nms 12 d_law_eq = core_12_law_eq := by kernel_rfl
theorem hc_13 : bodyOf 40 uu nms 13 d_law_eq = core_13_law_eq := by kernel_rfl
theorem hc_14 : bodyOf 40 uu nms 14 d_law_low = core_14_law_low := by kernel_rfl
theorem hc_15 : bodyOf 40 uu nms 15 d_law_add = core_15_law_add := by kernel_rfl
theorem hc_16 : bodyOf 40 uu nms 16 d_law_times = core_16_law_times := by kernel_rfl
theorem hc_17 : bodyOf 40 uu nms 17 d_law_less = core_17_law_less := by kernel_rfl
theorem hc_18 : bodyOf 40 uu nms 18 d_law_drawn = core_18_law_drawn := by kernel_rfl
theorem hc_19 : bodyOf 40 uu nms 19 d_law_circle = core_19_law_circle := by kernel_rfl
theorem hc_20 : bodyOf 40 uu nms 20 d_law_apart = core_20_law_apart := by kernel_rfl
theorem hc_21 : bodyOf 40 uu nms 21 d_law_back = core_21_law_back := by kernel_rfl
theorem hc_22 : bodyOf 40 uu nms 22 d_law_chain = core_22_law_chain := by kernel_rfl
theorem hc_law : (defBody d_law.st).tail.map (cS 40 (uu.sc nms 23 d_law)) = core_23_law.tail := by kernel_rfl
abbrev G0 : Nat → D := fun _ => .non
end Lw
namespace Lw
open Gx
theorem o_eq1 {ds Q} (h : conEq 1 ds Q) : wpB Γt G0 core_9_law_eq (fin0 Q) (entry 3 ds) := by
  obtain ⟨d, rfl, ok, k⟩ := h
  unfold core_9_law_eq
  cases d with
  | int i =>
    refine step_cons ?_
    simp only [ent32, wpS, wpE, wpEs, wpPs, wpT, wpO, wpIfs, pk_var, pk_cst, pk_glc, pk_bin, pk_neg, pk_not, pk_cmp, pk_chain, pk_and, pk_or, pk_ife, pk_tup, pk_lst, pk_idx, pk_sl, pk_rev, pk_isi, pk_maxK, pk_call, pk_prim, pk_comp, rt_var, rt_cst, rt_glc, rt_bin, rt_neg, rt_not, rt_cmp, rt_chain, rt_and, rt_or, rt_ife, rt_tup, rt_lst, rt_idx, rt_sl, rt_rev, rt_isi, rt_maxK, rt_call, rt_prim, rt_comp, stD_var, stD_tup, tgD_var, tgD_tt, tgD_tl, tgsD_nil, tgsD_cons, bare, bareP, bares, barePs, bareO, give_nil, give_cons, gG_s, gG_n, giveV_sh, giveV_ow, data_eq, shr_eq, own_eq, gD_s, gS_s, gO_s, vd_sh, vd_ow, b_add, b_sub, b_mul, b_fdiv, b_mod, b_pow, b_addL, b_addT, b_mulL, x_t, x_l, s_l, s_t, p_lenT, p_lenL, p_abs, p_int, p_intb, p_listT, p_listL, p_tupT, p_tupL, p_gcd, p_min, p_max, p_sum, i_t, i_l, i_r1, i_r2, i_zt, i_zl, n_i, bo_b, in_i, tr_n, tr_b, tr_i, tr_t, tr_l, nn_n, nn_t, nn_l, nn_i, nn_b, isiD_eq, isD, au_a, au_s, wi_n, wi_c, cmpD_eq_int, cmpD_ne_int, cmpD_eq_bl, cmpD_ne_bl, cmpD_lt, cmpD_le, cmpD_gt, cmpD_ge, cmpD_is, cmpD_isnot, truQ_bl, atI_0, atI_1, atI_2, atI_3, fin0, List.nil_append, List.append_nil, List.cons_append, List.getElem?_cons_zero, List.getElem?_cons_succ, set_0, set_s, List.length_cons, List.length_nil, Option.some.injEq, Val.sh.injEq, Val.ow.injEq, D.int.injEq, D.tup.injEq, D.lst.injEq, D.bl.injEq, exists_eq_left', exists_eq_left, true_and, and_true, Nat.reduceAdd, Nat.reduceLeDiff, Nat.zero_add, if_true, if_false, Bool.false_eq_true, reduceCtorEq, decide_eq_true_eq, Bool.not_eq_true, ne_eq, not_false_eq_true, reduceIte, decide_true, decide_false, Bool.not_true, Bool.not_false, step_nil_eq]
    refine step_cons ?_
    simp only [wpS, wpE, wpEs, wpPs, wpT, wpO, wpIfs, pk_var, pk_cst, pk_glc, pk_bin, pk_neg, pk_not, pk_cmp, pk_chain, pk_and, pk_or, pk_ife, pk_tup, pk_lst, pk_idx, pk_sl, pk_rev, pk_isi, pk_maxK, pk_call, pk_prim, pk_comp, rt_var, rt_cst, rt_glc, rt_bin, rt_neg, rt_not, rt_cmp, rt_chain, rt_and, rt_or, rt_ife, rt_tup, rt_lst, rt_idx, rt_sl, rt_rev, rt_isi, rt_maxK, rt_call, rt_prim, rt_comp, stD_var, stD_tup, tgD_var, tgD_tt, tgD_tl, tgsD_nil, tgsD_cons, bare, bareP, bares, barePs, bareO, give_nil, give_cons, gG_s, gG_n, giveV_sh, giveV_ow, data_eq, shr_eq, own_eq, gD_s, gS_s, gO_s, vd_sh, vd_ow, b_add, b_sub, b_mul, b_fdiv, b_mod, b_pow, b_addL, b_addT, b_mulL, x_t, x_l, s_l, s_t, p_lenT, p_lenL, p_abs, p_int, p_intb, p_listT, p_listL, p_tupT, p_tupL, p_gcd, p_min, p_max, p_sum, i_t, i_l, i_r1, i_r2, i_zt, i_zl, n_i, bo_b, in_i, tr_n, tr_b, tr_i, tr_t, tr_l, nn_n, nn_t, nn_l, nn_i, nn_b, isiD_eq, isD, au_a, au_s, wi_n, wi_c, cmpD_eq_int, cmpD_ne_int, cmpD_eq_bl, cmpD_ne_bl, cmpD_lt, cmpD_le, cmpD_gt, cmpD_ge, cmpD_is, cmpD_isnot, truQ_bl, atI_0, atI_1, atI_2, atI_3, fin0, List.nil_append, List.append_nil, List.cons_append, List.getElem?_cons_zero, List.getElem?_cons_succ, set_0, set_s, List.length_cons, List.length_nil, Option.some.injEq, Val.sh.injEq, Val.ow.injEq, D.int.injEq, D.tup.injEq, D.lst.injEq, D.bl.injEq, exists_eq_left', exists_eq_left, true_and, and_true, Nat.reduceAdd, Nat.reduceLeDiff, Nat.zero_add, if_true, if_false, Bool.false_eq_true, reduceCtorEq, decide_eq_true_eq, Bool.not_eq_true, ne_eq, not_false_eq_true, reduceIte, decide_true, decide_false, Bool.not_true, Bool.not_false, step_nil_eq]
    refine step_cons ?_
    simp only [wpS, wpE, wpEs, wpPs, wpT, wpO, wpIfs, pk_var, pk_cst, pk_glc, pk_bin, pk_neg, pk_not, pk_cmp, pk_chain, pk_and, pk_or, pk_ife, pk_tup, pk_lst, pk_idx, pk_sl, pk_rev, pk_isi, pk_maxK, pk_call, pk_prim, pk_comp, rt_var, rt_cst, rt_glc, rt_bin, rt_neg, rt_not, rt_cmp, rt_chain, rt_and, rt_or, rt_ife, rt_tup, rt_lst, rt_idx, rt_sl, rt_rev, rt_isi, rt_maxK, rt_call, rt_prim, rt_comp, stD_var, stD_tup, tgD_var, tgD_tt, tgD_tl, tgsD_nil, tgsD_cons, bare, bareP, bares, barePs, bareO, give_nil, give_cons, gG_s, gG_n, giveV_sh, giveV_ow, data_eq, shr_eq, own_eq, gD_s, gS_s, gO_s, vd_sh, vd_ow, b_add, b_sub, b_mul, b_fdiv, b_mod, b_pow, b_addL, b_addT, b_mulL, x_t, x_l, s_l, s_t, p_lenT, p_lenL, p_abs, p_int, p_intb, p_listT, p_listL, p_tupT, p_tupL, p_gcd, p_min, p_max, p_sum, i_t, i_l, i_r1, i_r2, i_zt, i_zl, n_i, bo_b, in_i, tr_n, tr_b, tr_i, tr_t, tr_l, nn_n, nn_t, nn_l, nn_i, nn_b, isiD_eq, isD, au_a, au_s, wi_n, wi_c, cmpD_eq_int, cmpD_ne_int, cmpD_eq_bl, cmpD_ne_bl, cmpD_lt, cmpD_le, cmpD_gt, cmpD_ge, cmpD_is, cmpD_isnot, truQ_bl, atI_0, atI_1, atI_2, atI_3, fin0, List.nil_append, List.append_nil, List.cons_append, List.getElem?_cons_zero, List.getElem?_cons_succ, set_0, set_s, List.length_cons, List.length_nil, Option.some.injEq, Val.sh.injEq, Val.ow.injEq, D.int.injEq, D.tup.injEq, D.lst.injEq, D.bl.injEq, exists_eq_left', exists_eq_left, true_and, and_true, Nat.reduceAdd, Nat.reduceLeDiff, Nat.zero_add, if_true, if_false, Bool.false_eq_true, reduceCtorEq, decide_eq_true_eq, Bool.not_eq_true, ne_eq, not_false_eq_true, reduceIte, decide_true, decide_false, Bool.not_true, Bool.not_false, step_nil_eq]
    refine step_cons ?_
    simp only [wpS, wpE, wpEs, wpPs, wpT, wpO, wpIfs, pk_var, pk_cst, pk_glc, pk_bin, pk_neg, pk_not, pk_cmp, pk_chain, pk_and, pk_or, pk_ife, pk_tup, pk_lst, pk_idx, pk_sl, pk_rev, pk_isi, pk_maxK, pk_call, pk_prim, pk_comp, rt_var, rt_cst, rt_glc, rt_bin, rt_neg, rt_not, rt_cmp, rt_chain, rt_and, rt_or, rt_ife, rt_tup, rt_lst, rt_idx, rt_sl, rt_rev, rt_isi, rt_maxK, rt_call, rt_prim, rt_comp, stD_var, stD_tup, tgD_var, tgD_tt, tgD_tl, tgsD_nil, tgsD_cons, bare, bareP, bares, barePs, bareO, give_nil, give_cons, gG_s, gG_n, giveV_sh, giveV_ow, data_eq, shr_eq, own_eq, gD_s, gS_s, gO_s, vd_sh, vd_ow, b_add, b_sub, b_mul, b_fdiv, b_mod, b_pow, b_addL, b_addT, b_mulL, x_t, x_l, s_l, s_t, p_lenT, p_lenL, p_abs, p_int, p_intb, p_listT, p_listL, p_tupT, p_tupL, p_gcd, p_min, p_max, p_sum, i_t, i_l, i_r1, i_r2, i_zt, i_zl, n_i, bo_b, in_i, tr_n, tr_b, tr_i, tr_t, tr_l, nn_n, nn_t, nn_l, nn_i, nn_b, isiD_eq, isD, au_a, au_s, wi_n, wi_c, cmpD_eq_int, cmpD_ne_int, cmpD_eq_bl, cmpD_ne_bl, cmpD_lt, cmpD_le, cmpD_gt, cmpD_ge, cmpD_is, cmpD_isnot, truQ_bl, atI_0, atI_1, atI_2, atI_3, fin0, List.nil_append, List.append_nil, List.cons_append, List.getElem?_cons_zero, List.getElem?_cons_succ, set_0, set_s, List.length_cons, List.length_nil, Option.some.injEq, Val.sh.injEq, Val.ow.injEq, D.int.injEq, D.tup.injEq, D.lst.injEq, D.bl.injEq, exists_eq_left', exists_eq_left, true_and, and_true, Nat.reduceAdd, Nat.reduceLeDiff, Nat.zero_add, if_true, if_false, Bool.false_eq_true, reduceCtorEq, decide_eq_true_eq, Bool.not_eq_true, ne_eq, not_false_eq_true, reduceIte, decide_true, decide_false, Bool.not_true, Bool.not_false, step_nil_eq]
    refine step_cons ?_
    simp only [wpS, wpE, wpEs, wpPs, wpT, wpO, wpIfs, pk_var, pk_cst, pk_glc, pk_bin, pk_neg, pk_not, pk_cmp, pk_chain, pk_and, pk_or, pk_ife, pk_tup, pk_lst, pk_idx, pk_sl, pk_rev, pk_isi, pk_maxK, pk_call, pk_prim, pk_comp, rt_var, rt_cst, rt_glc, rt_bin, rt_neg, rt_not, rt_cmp, rt_chain, rt_and, rt_or, rt_ife, rt_tup, rt_lst, rt_idx, rt_sl, rt_rev, rt_isi, rt_maxK, rt_call, rt_prim, rt_comp, stD_var, stD_tup, tgD_var, tgD_tt, tgD_tl, tgsD_nil, tgsD_cons, bare, bareP, bares, barePs, bareO, give_nil, give_cons, gG_s, gG_n, giveV_sh, giveV_ow, data_eq, shr_eq, own_eq, gD_s, gS_s, gO_s, vd_sh, vd_ow, b_add, b_sub, b_mul, b_fdiv, b_mod, b_pow, b_addL, b_addT, b_mulL, x_t, x_l, s_l, s_t, p_lenT, p_lenL, p_abs, p_int, p_intb, p_listT, p_listL, p_tupT, p_tupL, p_gcd, p_min, p_max, p_sum, i_t, i_l, i_r1, i_r2, i_zt, i_zl, n_i, bo_b, in_i, tr_n, tr_b, tr_i, tr_t, tr_l, nn_n, nn_t, nn_l, nn_i, nn_b, isiD_eq, isD, au_a, au_s, wi_n, wi_c, cmpD_eq_int, cmpD_ne_int, cmpD_eq_bl, cmpD_ne_bl, cmpD_lt, cmpD_le, cmpD_gt, cmpD_ge, cmpD_is, cmpD_isnot, truQ_bl, atI_0, atI_1, atI_2, atI_3, fin0, List.nil_append, List.append_nil, List.cons_append, List.getElem?_cons_zero, List.getElem?_cons_succ, set_0, set_s, List.length_cons, List.length_nil, Option.some.injEq, Val.sh.injEq, Val.ow.injEq, D.int.injEq, D.tup.injEq, D.lst.injEq, D.bl.injEq, exists_eq_left', exists_eq_left, true_and, and_true, Nat.reduceAdd, Nat.reduceLeDiff, Nat.zero_add, if_true, if_false, Bool.false_eq_true, reduceCtorEq, decide_eq_true_eq, Bool.not_eq_true, ne_eq, not_false_eq_true, reduceIte, decide_true, decide_false, Bool.not_true, Bool.not_false, step_nil_eq]
    exact k
  | bl b =>
    refine step_cons ?_
    simp only [ent32, wpS, wpE, wpEs, wpPs, wpT, wpO, wpIfs, pk_var, pk_cst, pk_glc, pk_bin, pk_neg, pk_not, pk_cmp, pk_chain, pk_and, pk_or, pk_ife, pk_tup, pk_lst, pk_idx, pk_sl, pk_rev, pk_isi, pk_maxK, pk_call, pk_prim, pk_comp, rt_var, rt_cst, rt_glc, rt_bin, rt_neg, rt_not, rt_cmp, rt_chain, rt_and, rt_or, rt_ife, rt_tup, rt_lst, rt_idx, rt_sl, rt_rev, rt_isi, rt_maxK, rt_call, rt_prim, rt_comp, stD_var, stD_tup, tgD_var, tgD_tt, tgD_tl, tgsD_nil, tgsD_cons, bare, bareP, bares, barePs, bareO, give_nil, give_cons, gG_s, gG_n, giveV_sh, giveV_ow, data_eq, shr_eq, own_eq, gD_s, gS_s, gO_s, vd_sh, vd_ow, b_add, b_sub, b_mul, b_fdiv, b_mod, b_pow, b_addL, b_addT, b_mulL, x_t, x_l, s_l, s_t, p_lenT, p_lenL, p_abs, p_int, p_intb, p_listT, p_listL, p_tupT, p_tupL, p_gcd, p_min, p_max, p_sum, i_t, i_l, i_r1, i_r2, i_zt, i_zl, n_i, bo_b, in_i, tr_n, tr_b, tr_i, tr_t, tr_l, nn_n, nn_t, nn_l, nn_i, nn_b, isiD_eq, isD, au_a, au_s, wi_n, wi_c, cmpD_eq_int, cmpD_ne_int, cmpD_eq_bl, cmpD_ne_bl, cmpD_lt, cmpD_le, cmpD_gt, cmpD_ge, cmpD_is, cmpD_isnot, truQ_bl, atI_0, atI_1, atI_2, atI_3, fin0, List.nil_append, List.append_nil, List.cons_append, List.getElem?_cons_zero, List.getElem?_cons_succ, set_0, set_s, List.length_cons, List.length_nil, Option.some.injEq, Val.sh.injEq, Val.ow.injEq, D.int.injEq, D.tup.injEq, D.lst.injEq, D.bl.injEq, exists_eq_left', exists_eq_left, true_and, and_true, Nat.reduceAdd, Nat.reduceLeDiff, Nat.zero_add, if_true, if_false, Bool.false_eq_true, reduceCtorEq, decide_eq_true_eq, Bool.not_eq_true, ne_eq, not_false_eq_true, reduceIte, decide_true, decide_false, Bool.not_true, Bool.not_false, step_nil_eq]
    refine step_cons ?_
    simp only [wpS, wpE, wpEs, wpPs, wpT, wpO, wpIfs, pk_var, pk_cst, pk_glc, pk_bin, pk_neg, pk_not, pk_cmp, pk_chain, pk_and, pk_or, pk_ife, pk_tup, pk_lst, pk_idx, pk_sl, pk_rev, pk_isi, pk_maxK, pk_call, pk_prim, pk_comp, rt_var, rt_cst, rt_glc, rt_bin, rt_neg, rt_not, rt_cmp, rt_chain, rt_and, rt_or, rt_ife, rt_tup, rt_lst, rt_idx, rt_sl, rt_rev, rt_isi, rt_maxK, rt_call, rt_prim, rt_comp, stD_var, stD_tup, tgD_var, tgD_tt, tgD_tl, tgsD_nil, tgsD_cons, bare, bareP, bares, barePs, bareO, give_nil, give_cons, gG_s, gG_n, giveV_sh, giveV_ow, data_eq, shr_eq, own_eq, gD_s, gS_s, gO_s, vd_sh, vd_ow, b_add, b_sub, b_mul, b_fdiv, b_mod, b_pow, b_addL, b_addT, b_mulL, x_t, x_l, s_l, s_t, p_lenT, p_lenL, p_abs, p_int, p_intb, p_listT, p_listL, p_tupT, p_tupL, p_gcd, p_min, p_max, p_sum, i_t, i_l, i_r1, i_r2, i_zt, i_zl, n_i, bo_b, in_i, tr_n, tr_b, tr_i, tr_t, tr_l, nn_n, nn_t, nn_l, nn_i, nn_b, isiD_eq, isD, au_a, au_s, wi_n, wi_c, cmpD_eq_int, cmpD_ne_int, cmpD_eq_bl, cmpD_ne_bl, cmpD_lt, cmpD_le, cmpD_gt, cmpD_ge, cmpD_is, cmpD_isnot, truQ_bl, atI_0, atI_1, atI_2, atI_3, fin0, List.nil_append, List.append_nil, List.cons_append, List.getElem?_cons_zero, List.getElem?_cons_succ, set_0, set_s, List.length_cons, List.length_nil, Option.some.injEq, Val.sh.injEq, Val.ow.injEq, D.int.injEq, D.tup.injEq, D.lst.injEq, D.bl.injEq, exists_eq_left', exists_eq_left, true_and, and_true, Nat.reduceAdd, Nat.reduceLeDiff, Nat.zero_add, if_true, if_false, Bool.false_eq_true, reduceCtorEq, decide_eq_true_eq, Bool.not_eq_true, ne_eq, not_false_eq_true, reduceIte, decide_true, decide_false, Bool.not_true, Bool.not_false, step_nil_eq]
    refine step_cons ?_
    simp only [wpS, wpE, wpEs, wpPs, wpT, wpO, wpIfs, pk_var, pk_cst, pk_glc, pk_bin, pk_neg, pk_not, pk_cmp, pk_chain, pk_and, pk_or, pk_ife, pk_tup, pk_lst, pk_idx, pk_sl, pk_rev, pk_isi, pk_maxK, pk_call, pk_prim, pk_comp, rt_var, rt_cst, rt_glc, rt_bin, rt_neg, rt_not, rt_cmp, rt_chain, rt_and, rt_or, rt_ife, rt_tup, rt_lst, rt_idx, rt_sl, rt_rev, rt_isi, rt_maxK, rt_call, rt_prim, rt_comp, stD_var, stD_tup, tgD_var, tgD_tt, tgD_tl, tgsD_nil, tgsD_cons, bare, bareP, bares, barePs, bareO, give_nil, give_cons, gG_s, gG_n, giveV_sh, giveV_ow, data_eq, shr_eq, own_eq, gD_s, gS_s, gO_s, vd_sh, vd_ow, b_add, b_sub, b_mul, b_fdiv, b_mod, b_pow, b_addL, b_addT, b_mulL, x_t, x_l, s_l, s_t, p_lenT, p_lenL, p_abs, p_int, p_intb, p_listT, p_listL, p_tupT, p_tupL, p_gcd, p_min, p_max, p_sum, i_t, i_l, i_r1, i_r2, i_zt, i_zl, n_i, bo_b, in_i, tr_n, tr_b, tr_i, tr_t, tr_l, nn_n, nn_t, nn_l, nn_i, nn_b, isiD_eq, isD, au_a, au_s, wi_n, wi_c, cmpD_eq_int, cmpD_ne_int, cmpD_eq_bl, cmpD_ne_bl, cmpD_lt, cmpD_le, cmpD_gt, cmpD_ge, cmpD_is, cmpD_isnot, truQ_bl, atI_0, atI_1, atI_2, atI_3, fin0, List.nil_append, List.append_nil, List.cons_append, List.getElem?_cons_zero, List.getElem?_cons_succ, set_0, set_s, List.length_cons, List.length_nil, Option.some.injEq, Val.sh.injEq, Val.ow.injEq, D.int.injEq, D.tup.injEq, D.lst.injEq, D.bl.injEq, exists_eq_left', exists_eq_left, true_and, and_true, Nat.reduceAdd, Nat.reduceLeDiff, Nat.zero_add, if_true, if_false, Bool.false_eq_true, reduceCtorEq, decide_eq_true_eq, Bool.not_eq_true, ne_eq, not_false_eq_true, reduceIte, decide_true, decide_false, Bool.not_true, Bool.not_false, step_nil_eq]
    refine step_cons ?_
    simp only [wpS, wpE, wpEs, wpPs, wpT, wpO, wpIfs, pk_var, pk_cst, pk_glc, pk_bin, pk_neg, pk_not, pk_cmp, pk_chain, pk_and, pk_or, pk_ife, pk_tup, pk_lst, pk_idx, pk_sl, pk_rev, pk_isi, pk_maxK, pk_call, pk_prim, pk_comp, rt_var, rt_cst, rt_glc, rt_bin, rt_neg, rt_not, rt_cmp, rt_chain, rt_and, rt_or, rt_ife, rt_tup, rt_lst, rt_idx, rt_sl, rt_rev, rt_isi, rt_maxK, rt_call, rt_prim, rt_comp, stD_var, stD_tup, tgD_var, tgD_tt, tgD_tl, tgsD_nil, tgsD_cons, bare, bareP, bares, barePs, bareO, give_nil, give_cons, gG_s, gG_n, giveV_sh, giveV_ow, data_eq, shr_eq, own_eq, gD_s, gS_s, gO_s, vd_sh, vd_ow, b_add, b_sub, b_mul, b_fdiv, b_mod, b_pow, b_addL, b_addT, b_mulL, x_t, x_l, s_l, s_t, p_lenT, p_lenL, p_abs, p_int, p_intb, p_listT, p_listL, p_tupT, p_tupL, p_gcd, p_min, p_max, p_sum, i_t, i_l, i_r1, i_r2, i_zt, i_zl, n_i, bo_b, in_i, tr_n, tr_b, tr_i, tr_t, tr_l, nn_n, nn_t, nn_l, nn_i, nn_b, isiD_eq, isD, au_a, au_s, wi_n, wi_c, cmpD_eq_int, cmpD_ne_int, cmpD_eq_bl, cmpD_ne_bl, cmpD_lt, cmpD_le, cmpD_gt, cmpD_ge, cmpD_is, cmpD_isnot, truQ_bl, atI_0, atI_1, atI_2, atI_3, fin0, List.nil_append, List.append_nil, List.cons_append, List.getElem?_cons_zero, List.getElem?_cons_succ, set_0, set_s, List.length_cons, List.length_nil, Option.some.injEq, Val.sh.injEq, Val.ow.injEq, D.int.injEq, D.tup.injEq, D.lst.injEq, D.bl.injEq, exists_eq_left', exists_eq_left, true_and, and_true, Nat.reduceAdd, Nat.reduceLeDiff, Nat.zero_add, if_true, if_false, Bool.false_eq_true, reduceCtorEq, decide_eq_true_eq, Bool.not_eq_true, ne_eq, not_false_eq_true, reduceIte, decide_true, decide_false, Bool.not_true, Bool.not_false, step_nil_eq]
    refine step_cons ?_
    simp only [wpS, wpE, wpEs, wpPs, wpT, wpO, wpIfs, pk_var, pk_cst, pk_glc, pk_bin, pk_neg, pk_not, pk_cmp, pk_chain, pk_and, pk_or, pk_ife, pk_tup, pk_lst, pk_idx, pk_sl, pk_rev, pk_isi, pk_maxK, pk_call, pk_prim, pk_comp, rt_var, rt_cst, rt_glc, rt_bin, rt_neg, rt_not, rt_cmp, rt_chain, rt_and, rt_or, rt_ife, rt_tup, rt_lst, rt_idx, rt_sl, rt_rev, rt_isi, rt_maxK, rt_call, rt_prim, rt_comp, stD_var, stD_tup, tgD_var, tgD_tt, tgD_tl, tgsD_nil, tgsD_cons, bare, bareP, bares, barePs, bareO, give_nil, give_cons, gG_s, gG_n, giveV_sh, giveV_ow, data_eq, shr_eq, own_eq, gD_s, gS_s, gO_s, vd_sh, vd_ow, b_add, b_sub, b_mul, b_fdiv, b_mod, b_pow, b_addL, b_addT, b_mulL, x_t, x_l, s_l, s_t, p_lenT, p_lenL, p_abs, p_int, p_intb, p_listT, p_listL, p_tupT, p_tupL, p_gcd, p_min, p_max, p_sum, i_t, i_l, i_r1, i_r2, i_zt, i_zl, n_i, bo_b, in_i, tr_n, tr_b, tr_i, tr_t, tr_l, nn_n, nn_t, nn_l, nn_i, nn_b, isiD_eq, isD, au_a, au_s, wi_n, wi_c, cmpD_eq_int, cmpD_ne_int, cmpD_eq_bl, cmpD_ne_bl, cmpD_lt, cmpD_le, cmpD_gt, cmpD_ge, cmpD_is, cmpD_isnot, truQ_bl, atI_0, atI_1, atI_2, atI_3, fin0, List.nil_append, List.append_nil, List.cons_append, List.getElem?_cons_zero, List.getElem?_cons_succ, set_0, set_s, List.length_cons, List.length_nil, Option.some.injEq, Val.sh.injEq, Val.ow.injEq, D.int.injEq, D.tup.injEq, D.lst.injEq, D.bl.injEq, exists_eq_left', exists_eq_left, true_and, and_true, Nat.reduceAdd, Nat.reduceLeDiff, Nat.zero_add, if_true, if_false, Bool.false_eq_true, reduceCtorEq, decide_eq_true_eq, Bool.not_eq_true, ne_eq, not_false_eq_true, reduceIte, decide_true, decide_false, Bool.not_true, Bool.not_false, step_nil_eq]
    exact k
  | tup xs =>
    have hx : xs = [] := by
      cases xs with
      | nil => rfl
      | cons a r => exact (ok.2 a (by simp)).elim
    subst hx
    refine step_cons ?_
    simp only [ent32, wpS, wpE, wpEs, wpPs, wpT, wpO, wpIfs, pk_var, pk_cst, pk_glc, pk_bin, pk_neg, pk_not, pk_cmp, pk_chain, pk_and, pk_or, pk_ife, pk_tup, pk_lst, pk_idx, pk_sl, pk_rev, pk_isi, pk_maxK, pk_call, pk_prim, pk_comp, rt_var, rt_cst, rt_glc, rt_bin, rt_neg, rt_not, rt_cmp, rt_chain, rt_and, rt_or, rt_ife, rt_tup, rt_lst, rt_idx, rt_sl, rt_rev, rt_isi, rt_maxK, rt_call, rt_prim, rt_comp, stD_var, stD_tup, tgD_var, tgD_tt, tgD_tl, tgsD_nil, tgsD_cons, bare, bareP, bares, barePs, bareO, give_nil, give_cons, gG_s, gG_n, giveV_sh, giveV_ow, data_eq, shr_eq, own_eq, gD_s, gS_s, gO_s, vd_sh, vd_ow, b_add, b_sub, b_mul, b_fdiv, b_mod, b_pow, b_addL, b_addT, b_mulL, x_t, x_l, s_l, s_t, p_lenT, p_lenL, p_abs, p_int, p_intb, p_listT, p_listL, p_tupT, p_tupL, p_gcd, p_min, p_max, p_sum, i_t, i_l, i_r1, i_r2, i_zt, i_zl, n_i, bo_b, in_i, tr_n, tr_b, tr_i, tr_t, tr_l, nn_n, nn_t, nn_l, nn_i, nn_b, isiD_eq, isD, au_a, au_s, wi_n, wi_c, cmpD_eq_int, cmpD_ne_int, cmpD_eq_bl, cmpD_ne_bl, cmpD_lt, cmpD_le, cmpD_gt, cmpD_ge, cmpD_is, cmpD_isnot, truQ_bl, atI_0, atI_1, atI_2, atI_3, fin0, List.nil_append, List.append_nil, List.cons_append, List.getElem?_cons_zero, List.getElem?_cons_succ, set_0, set_s, List.length_cons, List.length_nil, Option.some.injEq, Val.sh.injEq, Val.ow.injEq, D.int.injEq, D.tup.injEq, D.lst.injEq, D.bl.injEq, exists_eq_left', exists_eq_left, true_and, and_true, Nat.reduceAdd, Nat.reduceLeDiff, Nat.zero_add, if_true, if_false, Bool.false_eq_true, reduceCtorEq, decide_eq_true_eq, Bool.not_eq_true, ne_eq, not_false_eq_true, reduceIte, decide_true, decide_false, Bool.not_true, Bool.not_false, step_nil_eq]
    refine step_cons ?_
    simp only [wpS, wpE, wpEs, wpPs, wpT, wpO, wpIfs, pk_var, pk_cst, pk_glc, pk_bin, pk_neg, pk_not, pk_cmp, pk_chain, pk_and, pk_or, pk_ife, pk_tup, pk_lst, pk_idx, pk_sl, pk_rev, pk_isi, pk_maxK, pk_call, pk_prim, pk_comp, rt_var, rt_cst, rt_glc, rt_bin, rt_neg, rt_not, rt_cmp, rt_chain, rt_and, rt_or, rt_ife, rt_tup, rt_lst, rt_idx, rt_sl, rt_rev, rt_isi, rt_maxK, rt_call, rt_prim, rt_comp, stD_var, stD_tup, tgD_var, tgD_tt, tgD_tl, tgsD_nil, tgsD_cons, bare, bareP, bares, barePs, bareO, give_nil, give_cons, gG_s, gG_n, giveV_sh, giveV_ow, data_eq, shr_eq, own_eq, gD_s, gS_s, gO_s, vd_sh, vd_ow, b_add, b_sub, b_mul, b_fdiv, b_mod, b_pow, b_addL, b_addT, b_mulL, x_t, x_l, s_l, s_t, p_lenT, p_lenL, p_abs, p_int, p_intb, p_listT, p_listL, p_tupT, p_tupL, p_gcd, p_min, p_max, p_sum, i_t, i_l, i_r1, i_r2, i_zt, i_zl, n_i, bo_b, in_i, tr_n, tr_b, tr_i, tr_t, tr_l, nn_n, nn_t, nn_l, nn_i, nn_b, isiD_eq, isD, au_a, au_s, wi_n, wi_c, cmpD_eq_int, cmpD_ne_int, cmpD_eq_bl, cmpD_ne_bl, cmpD_lt, cmpD_le, cmpD_gt, cmpD_ge, cmpD_is, cmpD_isnot, truQ_bl, atI_0, atI_1, atI_2, atI_3, fin0, List.nil_append, List.append_nil, List.cons_append, List.getElem?_cons_zero, List.getElem?_cons_succ, set_0, set_s, List.length_cons, List.length_nil, Option.some.injEq, Val.sh.injEq, Val.ow.injEq, D.int.injEq, D.tup.injEq, D.lst.injEq, D.bl.injEq, exists_eq_left', exists_eq_left, true_and, and_true, Nat.reduceAdd, Nat.reduceLeDiff, Nat.zero_add, if_true, if_false, Bool.false_eq_true, reduceCtorEq, decide_eq_true_eq, Bool.not_eq_true, ne_eq, not_false_eq_true, reduceIte, decide_true, decide_false, Bool.not_true, Bool.not_false, step_nil_eq]
    refine step_cons ?_
    simp only [wpS, wpE, wpEs, wpPs, wpT, wpO, wpIfs, pk_var, pk_cst, pk_glc, pk_bin, pk_neg, pk_not, pk_cmp, pk_chain, pk_and, pk_or, pk_ife, pk_tup, pk_lst, pk_idx, pk_sl, pk_rev, pk_isi, pk_maxK, pk_call, pk_prim, pk_comp, rt_var, rt_cst, rt_glc, rt_bin, rt_neg, rt_not, rt_cmp, rt_chain, rt_and, rt_or, rt_ife, rt_tup, rt_lst, rt_idx, rt_sl, rt_rev, rt_isi, rt_maxK, rt_call, rt_prim, rt_comp, stD_var, stD_tup, tgD_var, tgD_tt, tgD_tl, tgsD_nil, tgsD_cons, bare, bareP, bares, barePs, bareO, give_nil, give_cons, gG_s, gG_n, giveV_sh, giveV_ow, data_eq, shr_eq, own_eq, gD_s, gS_s, gO_s, vd_sh, vd_ow, b_add, b_sub, b_mul, b_fdiv, b_mod, b_pow, b_addL, b_addT, b_mulL, x_t, x_l, s_l, s_t, p_lenT, p_lenL, p_abs, p_int, p_intb, p_listT, p_listL, p_tupT, p_tupL, p_gcd, p_min, p_max, p_sum, i_t, i_l, i_r1, i_r2, i_zt, i_zl, n_i, bo_b, in_i, tr_n, tr_b, tr_i, tr_t, tr_l, nn_n, nn_t, nn_l, nn_i, nn_b, isiD_eq, isD, au_a, au_s, wi_n, wi_c, cmpD_eq_int, cmpD_ne_int, cmpD_eq_bl, cmpD_ne_bl, cmpD_lt, cmpD_le, cmpD_gt, cmpD_ge, cmpD_is, cmpD_isnot, truQ_bl, atI_0, atI_1, atI_2, atI_3, fin0, List.nil_append, List.append_nil, List.cons_append, List.getElem?_cons_zero, List.getElem?_cons_succ, set_0, set_s, List.length_cons, List.length_nil, Option.some.injEq, Val.sh.injEq, Val.ow.injEq, D.int.injEq, D.tup.injEq, D.lst.injEq, D.bl.injEq, exists_eq_left', exists_eq_left, true_and, and_true, Nat.reduceAdd, Nat.reduceLeDiff, Nat.zero_add, if_true, if_false, Bool.false_eq_true, reduceCtorEq, decide_eq_true_eq, Bool.not_eq_true, ne_eq, not_false_eq_true, reduceIte, decide_true, decide_false, Bool.not_true, Bool.not_false, step_nil_eq]
    exact eq_ret (n := 0) (xs := []) (inner := CE.bad) (.inl rfl) ok.1 (.inr rfl) (fun i x hx => by simp at hx) mono_t k _
  | lst xs =>
    have hx : xs = [] := by
      cases xs with
      | nil => rfl
      | cons a r => exact (ok.2 a (by simp)).elim
    subst hx
    refine step_cons ?_
    simp only [ent32, wpS, wpE, wpEs, wpPs, wpT, wpO, wpIfs, pk_var, pk_cst, pk_glc, pk_bin, pk_neg, pk_not, pk_cmp, pk_chain, pk_and, pk_or, pk_ife, pk_tup, pk_lst, pk_idx, pk_sl, pk_rev, pk_isi, pk_maxK, pk_call, pk_prim, pk_comp, rt_var, rt_cst, rt_glc, rt_bin, rt_neg, rt_not, rt_cmp, rt_chain, rt_and, rt_or, rt_ife, rt_tup, rt_lst, rt_idx, rt_sl, rt_rev, rt_isi, rt_maxK, rt_call, rt_prim, rt_comp, stD_var, stD_tup, tgD_var, tgD_tt, tgD_tl, tgsD_nil, tgsD_cons, bare, bareP, bares, barePs, bareO, give_nil, give_cons, gG_s, gG_n, giveV_sh, giveV_ow, data_eq, shr_eq, own_eq, gD_s, gS_s, gO_s, vd_sh, vd_ow, b_add, b_sub, b_mul, b_fdiv, b_mod, b_pow, b_addL, b_addT, b_mulL, x_t, x_l, s_l, s_t, p_lenT, p_lenL, p_abs, p_int, p_intb, p_listT, p_listL, p_tupT, p_tupL, p_gcd, p_min, p_max, p_sum, i_t, i_l, i_r1, i_r2, i_zt, i_zl, n_i, bo_b, in_i, tr_n, tr_b, tr_i, tr_t, tr_l, nn_n, nn_t, nn_l, nn_i, nn_b, isiD_eq, isD, au_a, au_s, wi_n, wi_c, cmpD_eq_int, cmpD_ne_int, cmpD_eq_bl, cmpD_ne_bl, cmpD_lt, cmpD_le, cmpD_gt, cmpD_ge, cmpD_is, cmpD_isnot, truQ_bl, atI_0, atI_1, atI_2, atI_3, fin0, List.nil_append, List.append_nil, List.cons_append, List.getElem?_cons_zero, List.getElem?_cons_succ, set_0, set_s, List.length_cons, List.length_nil, Option.some.injEq, Val.sh.injEq, Val.ow.injEq, D.int.injEq, D.tup.injEq, D.lst.injEq, D.bl.injEq, exists_eq_left', exists_eq_left, true_and, and_true, Nat.reduceAdd, Nat.reduceLeDiff, Nat.zero_add, if_true, if_false, Bool.false_eq_true, reduceCtorEq, decide_eq_true_eq, Bool.not_eq_true, ne_eq, not_false_eq_true, reduceIte, decide_true, decide_false, Bool.not_true, Bool.not_false, step_nil_eq]
    refine step_cons ?_
    simp only [wpS, wpE, wpEs, wpPs, wpT, wpO, wpIfs, pk_var, pk_cst, pk_glc, pk_bin, pk_neg, pk_not, pk_cmp, pk_chain, pk_and, pk_or, pk_ife, pk_tup, pk_lst, pk_idx, pk_sl, pk_rev, pk_isi, pk_maxK, pk_call, pk_prim, pk_comp, rt_var, rt_cst, rt_glc, rt_bin, rt_neg, rt_not, rt_cmp, rt_chain, rt_and, rt_or, rt_ife, rt_tup, rt_lst, rt_idx, rt_sl, rt_rev, rt_isi, rt_maxK, rt_call, rt_prim, rt_comp, stD_var, stD_tup, tgD_var, tgD_tt, tgD_tl, tgsD_nil, tgsD_cons, bare, bareP, bares, barePs, bareO, give_nil, give_cons, gG_s, gG_n, giveV_sh, giveV_ow, data_eq, shr_eq, own_eq, gD_s, gS_s, gO_s, vd_sh, vd_ow, b_add, b_sub, b_mul, b_fdiv, b_mod, b_pow, b_addL, b_addT, b_mulL, x_t, x_l, s_l, s_t, p_lenT, p_lenL, p_abs, p_int, p_intb, p_listT, p_listL, p_tupT, p_tupL, p_gcd, p_min, p_max, p_sum, i_t, i_l, i_r1, i_r2, i_zt, i_zl, n_i, bo_b, in_i, tr_n, tr_b, tr_i, tr_t, tr_l, nn_n, nn_t, nn_l, nn_i, nn_b, isiD_eq, isD, au_a, au_s, wi_n, wi_c, cmpD_eq_int, cmpD_ne_int, cmpD_eq_bl, cmpD_ne_bl, cmpD_lt, cmpD_le, cmpD_gt, cmpD_ge, cmpD_is, cmpD_isnot, truQ_bl, atI_0, atI_1, atI_2, atI_3, fin0, List.nil_append, List.append_nil, List.cons_append, List.getElem?_cons_zero, List.getElem?_cons_succ, set_0, set_s, List.length_cons, List.length_nil, Option.some.injEq, Val.sh.injEq, Val.ow.injEq, D.int.injEq, D.tup.injEq, D.lst.injEq, D.bl.injEq, exists_eq_left', exists_eq_left, true_and, and_true, Nat.reduceAdd, Nat.reduceLeDiff, Nat.zero_add, if_true, if_false, Bool.false_eq_true, reduceCtorEq, decide_eq_true_eq, Bool.not_eq_true, ne_eq, not_false_eq_true, reduceIte, decide_true, decide_false, Bool.not_true, Bool.not_false, step_nil_eq]
    refine step_cons ?_
    simp only [wpS, wpE, wpEs, wpPs, wpT, wpO, wpIfs, pk_var, pk_cst, pk_glc, pk_bin, pk_neg, pk_not, pk_cmp, pk_chain, pk_and, pk_or, pk_ife, pk_tup, pk_lst, pk_idx, pk_sl, pk_rev, pk_isi, pk_maxK, pk_call, pk_prim, pk_comp, rt_var, rt_cst, rt_glc, rt_bin, rt_neg, rt_not, rt_cmp, rt_chain, rt_and, rt_or, rt_ife, rt_tup, rt_lst, rt_idx, rt_sl, rt_rev, rt_isi, rt_maxK, rt_call, rt_prim, rt_comp, stD_var, stD_tup, tgD_var, tgD_tt, tgD_tl, tgsD_nil, tgsD_cons, bare, bareP, bares, barePs, bareO, give_nil, give_cons, gG_s, gG_n, giveV_sh, giveV_ow, data_eq, shr_eq, own_eq, gD_s, gS_s, gO_s, vd_sh, vd_ow, b_add, b_sub, b_mul, b_fdiv, b_mod, b_pow, b_addL, b_addT, b_mulL, x_t, x_l, s_l, s_t, p_lenT, p_lenL, p_abs, p_int, p_intb, p_listT, p_listL, p_tupT, p_tupL, p_gcd, p_min, p_max, p_sum, i_t, i_l, i_r1, i_r2, i_zt, i_zl, n_i, bo_b, in_i, tr_n, tr_b, tr_i, tr_t, tr_l, nn_n, nn_t, nn_l, nn_i, nn_b, isiD_eq, isD, au_a, au_s, wi_n, wi_c, cmpD_eq_int, cmpD_ne_int, cmpD_eq_bl, cmpD_ne_bl, cmpD_lt, cmpD_le, cmpD_gt, cmpD_ge, cmpD_is, cmpD_isnot, truQ_bl, atI_0, atI_1, atI_2, atI_3, fin0, List.nil_append, List.append_nil, List.cons_append, List.getElem?_cons_zero, List.getElem?_cons_succ, set_0, set_s, List.length_cons, List.length_nil, Option.some.injEq, Val.sh.injEq, Val.ow.injEq, D.int.injEq, D.tup.injEq, D.lst.injEq, D.bl.injEq, exists_eq_left', exists_eq_left, true_and, and_true, Nat.reduceAdd, Nat.reduceLeDiff, Nat.zero_add, if_true, if_false, Bool.false_eq_true, reduceCtorEq, decide_eq_true_eq, Bool.not_eq_true, ne_eq, not_false_eq_true, reduceIte, decide_true, decide_false, Bool.not_true, Bool.not_false, step_nil_eq]
    exact eq_ret (n := 0) (xs := []) (inner := CE.bad) (.inr rfl) ok.1 (.inr rfl) (fun i x hx => by simp at hx) mono_t k _
  | non => exact ok.elim
  | str _ => exact ok.elim
  | hd _ => exact ok.elim

end Lw
namespace Lw
open PySem PySem.Spec PyProof.Rows L2 Gx
section
variable {P : Program} {w : World} {K : PySem.W.Frag} {mg : Str → Option Value} {base : Heap} {a c : Addr}
theorem surr (fs : Facts K mg) : SurrOk K mg (Zd a c) G0 uu := ⟨fs.blt, fun _ => fs.gcd, fun i x h => by simp [uu] at h⟩
/-- every def keeps its contract -/
theorem all_fn (fs : Facts K mg) : ∀ j, j < 23 → ∀ x, nms[j]? = some x → FnF P w K mg base (Zd a c) (Γt j) j x := by
  refine fn_all fun j hj low x hx => ?_
  have U := surr (a := a) (c := c) fs
  match j, hj, low, hx with
  | 0, hj, low, hx =>
    cases hx
    obtain ⟨f, fd, F, hm, hb⟩ := fs.f_lowest
    exact fn_ok mono_t U F sc_lowest hm hb low hc_0 (fun ds Q h => by obtain ⟨_, _, _, rfl, _⟩ := h; rfl) (fun ds Q h => o_lowest h)
  | 1, hj, low, hx =>
    cases hx
    obtain ⟨f, fd, F, hm, hb⟩ := fs.f_worth
    exact fn_ok mono_t U F sc_worth hm hb low hc_1 (fun ds Q h => by obtain ⟨_, _, _, rfl, _⟩ := h; rfl) (fun ds Q h => o_worth h)
  | 2, hj, low, hx =>
    cases hx
    obtain ⟨f, fd, F, hm, hb⟩ := fs.f_ford
    exact fn_ok mono_t U F sc_ford hm hb low hc_2 (fun ds Q h => by obtain ⟨_, _, _, rfl, _⟩ := h; rfl) (fun ds Q h => o_ford h)
  | 3, hj, low, hx =>
    cases hx
    obtain ⟨f, fd, F, hm, hb⟩ := fs.f_ford_touch
    exact fn_ok mono_t U F sc_ford_touch hm hb low hc_3 (fun ds Q h => by obtain ⟨_, _, _, _, _, rfl, _⟩ := h; rfl) (fun ds Q h => o_touch h)
  | 4, hj, low, hx =>
    cases hx
    obtain ⟨f, fd, F, hm, hb⟩ := fs.f_ford_between
    exact fn_ok mono_t U F sc_ford_between hm hb low hc_4 (fun ds Q h => by obtain ⟨_, _, _, _, rfl, _⟩ := h; rfl) (fun ds Q h => o_between h)
  | 5, hj, low, hx =>
    cases hx
    obtain ⟨f, fd, F, hm, hb⟩ := fs.f_neighbours_to
    exact fn_ok mono_t U F sc_neighbours_to hm hb low hc_5 (fun ds Q h => by obtain ⟨_, _, _, _, rfl, _⟩ := h; rfl) (fun ds Q h => o_nei h rfl)
  | 6, hj, low, hx =>
    cases hx
    obtain ⟨f, fd, F, hm, hb⟩ := fs.f_ford_chain
    exact fn_ok mono_t U F sc_ford_chain hm hb low hc_6 (fun ds Q h => by obtain ⟨_, _, rfl, _⟩ := h; rfl) (fun ds Q h => o_chain h rfl rfl)
  | 7, hj, low, hx =>
    cases hx
    obtain ⟨f, fd, F, hm, hb⟩ := fs.f_law_draw
    exact ⟨f, fd, ["state", "many"], 2, hm, F.kp, hb, ok_draw 7 F (fs.blt "len" (by decide)) (fs.blt "int" (by decide)), fun ds Q h => by obtain ⟨_, rfl, _⟩ := h; rfl⟩
  | 8, hj, low, hx =>
    cases hx
    obtain ⟨f, fd, F, hm, hb⟩ := fs.f_law_pick
    exact fn_ok mono_t U F sc_law_pick hm hb low hc_8 (fun ds Q h => by obtain ⟨_, rfl, _⟩ := h; rfl) (fun ds Q h => o_pick h rfl)
  | 9, hj, low, hx =>
    cases hx
    obtain ⟨f, fd, F, hm, hb⟩ := fs.f_law_eq
    exact fn_ok mono_t U F sc_law_eq hm hb low hc_9 (fun ds Q h => by obtain ⟨_, rfl, _⟩ := h; rfl) (fun ds Q h => o_eq1 h)
  | 10, hj, low, hx =>
    cases hx
    obtain ⟨f, fd, F, hm, hb⟩ := fs.f_law_eq
    exact fn_ok mono_t U F sc_law_eq hm hb low hc_10 (fun ds Q h => by obtain ⟨_, rfl, _⟩ := h; rfl) (fun ds Q h => o_eq (j := 9) mono_t rfl h)
  | 11, hj, low, hx =>
    cases hx
    obtain ⟨f, fd, F, hm, hb⟩ := fs.f_law_eq
    exact fn_ok mono_t U F sc_law_eq hm hb low hc_11 (fun ds Q h => by obtain ⟨_, rfl, _⟩ := h; rfl) (fun ds Q h => o_eq (j := 10) mono_t rfl h)
  | 12, hj, low, hx =>
    cases hx
    obtain ⟨f, fd, F, hm, hb⟩ := fs.f_law_eq
    exact fn_ok mono_t U F sc_law_eq hm hb low hc_12 (fun ds Q h => by obtain ⟨_, rfl, _⟩ := h; rfl) (fun ds Q h => o_eq (j := 11) mono_t rfl h)
  | 13, hj, low, hx =>
    cases hx
    obtain ⟨f, fd, F, hm, hb⟩ := fs.f_law_eq
    exact fn_ok mono_t U F sc_law_eq hm hb low hc_13 (fun ds Q h => by obtain ⟨_, rfl, _⟩ := h; rfl) (fun ds Q h => o_eq (j := 12) mono_t rfl h)
  | 14, hj, low, hx =>
    cases hx
    obtain ⟨f, fd, F, hm, hb⟩ := fs.f_law_low
    exact fn_ok mono_t U F sc_law_low hm hb low hc_14 (fun ds Q h => by obtain ⟨_, _, _, rfl, _⟩ := h; rfl) (fun ds Q h => o_low h)
  | 15, hj, low, hx =>
    cases hx
    obtain ⟨f, fd, F, hm, hb⟩ := fs.f_law_add
    exact fn_ok mono_t U F sc_law_add hm hb low hc_15 (fun ds Q h => by obtain ⟨_, _, _, _, _, rfl, _⟩ := h; rfl) (fun ds Q h => o_add h rfl)
  | 16, hj, low, hx =>
    cases hx
    obtain ⟨f, fd, F, hm, hb⟩ := fs.f_law_times
    exact fn_ok mono_t U F sc_law_times hm hb low hc_16 (fun ds Q h => by obtain ⟨_, _, _, _, _, rfl, _⟩ := h; rfl) (fun ds Q h => o_times h rfl)
  | 17, hj, low, hx =>
    cases hx
    obtain ⟨f, fd, F, hm, hb⟩ := fs.f_law_less
    exact fn_ok mono_t U F sc_law_less hm hb low hc_17 (fun ds Q h => by obtain ⟨_, _, _, _, _, rfl, _⟩ := h; rfl) (fun ds Q h => o_less h)
  | 18, hj, low, hx =>
    cases hx
    obtain ⟨f, fd, F, hm, hb⟩ := fs.f_law_drawn
    exact fn_ok mono_t U F sc_law_drawn hm hb low hc_18 (fun ds Q h => by obtain ⟨_, rfl, _⟩ := h; rfl) (fun ds Q h => o_drawn h rfl rfl)
  | 19, hj, low, hx =>
    cases hx
    obtain ⟨f, fd, F, hm, hb⟩ := fs.f_law_circle
    exact fn_ok mono_t U F sc_law_circle hm hb low hc_19 (fun ds Q h => by obtain ⟨_, _, _, rfl, _⟩ := h; rfl) (fun ds Q h => o_circ h)
  | 20, hj, low, hx =>
    cases hx
    obtain ⟨f, fd, F, hm, hb⟩ := fs.f_law_apart
    exact fn_ok mono_t U F sc_law_apart hm hb low hc_20 (fun ds Q h => by obtain ⟨_, _, _, _, rfl, _⟩ := h; rfl) (fun ds Q h => o_apart h rfl rfl rfl)
  | 21, hj, low, hx =>
    cases hx
    obtain ⟨f, fd, F, hm, hb⟩ := fs.f_law_back
    exact fn_ok mono_t U F sc_law_back hm hb low hc_21 (fun ds Q h => by obtain ⟨_, _, rfl, _⟩ := h; rfl) (fun ds Q h => o_back h)
  | 22, hj, low, hx =>
    cases hx
    obtain ⟨f, fd, F, hm, hb⟩ := fs.f_law_chain
    exact fn_ok mono_t U F sc_law_chain hm hb low hc_22 (fun ds Q h => by obtain ⟨_, _, rfl, _⟩ := h; rfl) (fun ds Q h => o_lchain h)
  | n + 23, hj, low, hx => exact absurd hj (by omega)
/-- the law -/
def spLaw (K : PySem.W.Frag) : Sp := fun vs H Q _ => ∃ (a : Addr) (ns : List Int), vs = [.ref a] ∧ SqL K H a (ns.map V.int) ∧ ns.length ≤ 63 ∧ ∀ H', Q (.bl true) H'
theorem ok_law {f : Addr} {fd : FuncData} (fs : Facts K mg) (F : Fun K "law" "law" d_law.st f fd) : FnOk P w K mg base CX0 24 f fd ["script"] (spLaw K) := by
  refine F.ok sc_law (fun vs H Q E h => ?_) (fun cdv A outer s H vs Q E hr h => ?_)
  · obtain ⟨a, ns, rfl, _⟩ := h; rfl
  obtain ⟨a, ns, rfl, hS, hlen, q⟩ := h
  obtain ⟨fS, fdS, FS, gS, bS⟩ := fs.f_law_state
  have GS : FnOk P w K mg base CX0 1 fS fdS ["script"] (spState K) := ok_state 0 FS (fs.blt "abs" (by decide)) (fs.blt "int" (by decide))
  have good : ∀ p c, Good (cxOf CX0 P w K mg base d_law.N "law" (defScope d_law.st) f cdv A outer s H E).nox (uu.sc nms 23 d_law) (Zd p c) Γt G0 := fun p c => by
    refine ⟨rfl, sc_law.nd, rfl, sc_law.kind, rfl, PassesOwn.never, fun _ _ => rfl, fs.blt, fun _ => fs.gcd, fun i x h => by simp [uu, Surr.sc] at h, fun i x hx => ?_, ?_⟩
    · have hx : (nms.take 23)[i]? = some x := hx
      rw [List.getElem?_take] at hx
      split at hx
      · rename_i hi
        obtain ⟨f, fd, ps, n, a, b, c, e, q⟩ := all_fn (P := P) (w := w) (base := base) (a := p) (c := c) fs i hi x hx
        exact ⟨f, fd, ps, n, a, b, c, e, q⟩
      · cases hx
    · exact hr
  refine ⟨_, pss_cons (ps_set (i := 1) sc_law.nd rfl (.inr rfl) (pe_call GS (hr.mono (by decide)) (by rfl) gS FS.kp bS .nil pass0 (pa_cons (pv 0) pa_nil)))
    (u := fun D σ H => ∃ p c, tB K (Zd p c) Γt G0 core_23_law.tail D σ H) ⟨fun pins s σ H D I ⟨p, c, w⟩ => (ss_block mono_t (snd_s mono_t 40) (good p c) (defBody d_law.st).tail).run pins s σ H D I (by rw [hc_law]; exact w)⟩, ?_⟩
  refine ⟨.ref a, rfl, a, ns, rfl, hS, hlen, fun H1 p c m cells sm np nc ne k1 k2 m0 m1 => ?_⟩
  refine ⟨p, c, fun _ => none, fun _ => none, [none, some (.sh (.hd 0)), none, none, none, none, none, none, none, none, none, none, none, none, none, none, none, none, none, none, none, none], fun _ => none, ⟨fun _ => 0, rfl, fun _ _ h => (nomatch h), fun _ _ h => h, fun _ h => absurd rfl h, fun _ _ h => (nomatch h), ⟨ne, m, cells, k1, k2, m0, m1⟩, fun _ _ => rfl, fun i d h => ?_, fun i es h => ?_, fun i k es es2 h => ?_⟩, ?_⟩
  · match i, h with
    | 1, h => cases h; exact ⟨.ref p, rfl, .hd rfl⟩
    | 0, h => cases h
    | n + 2, h =>
      have : n < 20 ∨ 20 ≤ n := by omega
      rcases this with hn | hn
      · have e : ([none, some (.sh (.hd 0)), none, none, none, none, none, none, none, none, none, none, none, none, none, none, none, none, none, none, none, none] : Ev)[n + 2]? = some none := by
          show (List.replicate 20 (none : Option Val))[n]? = _
          rw [List.getElem?_replicate, if_pos hn]
        rw [e] at h; cases h
      · rw [List.getElem?_eq_none (by simp; omega)] at h; cases h
  · match i, h with
    | 1, h => cases h
    | 0, h => cases h
    | n + 2, h =>
      have : n < 20 ∨ 20 ≤ n := by omega
      rcases this with hn | hn
      · have e : ([none, some (.sh (.hd 0)), none, none, none, none, none, none, none, none, none, none, none, none, none, none, none, none, none, none, none, none] : Ev)[n + 2]? = some none := by
          show (List.replicate 20 (none : Option Val))[n]? = _
          rw [List.getElem?_replicate, if_pos hn]
        rw [e] at h; cases h
      · rw [List.getElem?_eq_none (by simp; omega)] at h; cases h
  · match i, h with
    | 1, h => cases h
    | 0, h => cases h
    | n + 2, h =>
      have : n < 20 ∨ 20 ≤ n := by omega
      rcases this with hn | hn
      · have e : ([none, some (.sh (.hd 0)), none, none, none, none, none, none, none, none, none, none, none, none, none, none, none, none, none, none, none, none] : Ev)[n + 2]? = some none := by
          show (List.replicate 20 (none : Option Val))[n]? = _
          rw [List.getElem?_replicate, if_pos hn]
        rw [e] at h; cases h
      · rw [List.getElem?_eq_none (by simp; omega)] at h; cases h
  · refine wpB_mono mono_t _ (fin0 fun r => ∀ v W' H', Go (Zd p c) (fun _ => none) (fun _ => none) W' H' → VR K (Zd p c) (fun _ => none) W' H' v r → Q v H') _ _ ⟨fun ρ q σ1 W1 H1 a1 => ?_, fun r q v W1 H1 g vr => q v W1 H1 g vr, fun _ q => q.elim, fun _ q => q.elim⟩ (o_law fun v W' H' g vr => ?_)
    · exact q (.non) W1 H1 a1.entry .non
    · have e := vr.flat.2.1 true rfl
      subst e
      exact q H'
end
theorem df_mk {K : PySem.W.Frag} {h : Heap} {mg : Str → Option Value} (X : K.In h) (G : h.Ns mainGlobals mg) (d : DI) {f : Addr} {od an : Option Addr} {sl : Array (Option Value)} {oc kV dc pm cd ct : Value}
    (a : PySem.W.nsIn K mainGlobals d.x = some (some (.ref f))) (l : K.lookup f = some ⟨oc, od, .func (PySem.W.fnOf d.x d.x (defArgs d.st) (defBody d.st) (defScope d.st) .none kV dc pm an cd ct), sl⟩) (c : PySem.W.codeIn K cd d.x = true) (k : PySem.W.keepIn K (.ref f) = true)
    (hb : ∀ fd, Fun K d.x d.x d.st f fd → Binds K fd d.ps []) : Df K mg d := ⟨f, _, fun_mk (st := d.st) l c k, PySem.W.mg_of X G a, hb _ (fun_mk (st := d.st) l c k)⟩
end Lw
set_option maxHeartbeats 4000000
namespace Lw
open PySem PySem.Spec PyProof.Rows L2 Gx
abbrev DfX {K : PySem.W.Frag} {h : Heap} (_ : K.In h) (mg : Str → Option Value) (d : DI) : Prop := Df K mg d
abbrev FactsX {K : PySem.W.Frag} {h : Heap} (_ : K.In h) (mg : Str → Option Value) : Prop := Facts K mg
theorem df_mk2 {K : PySem.W.Frag} {h : Heap} {mg : Str → Option Value} (X : K.In h) (G : h.Ns mainGlobals mg) {x : Str} {st : Stmt} (N ps : List Str) {f : Addr} {od an : Option Addr} {sl : Array (Option Value)} {oc kV dc pm cd ct : Value}
    (a : PySem.W.nsIn K mainGlobals x = some (some (.ref f))) (l : K.lookup f = some ⟨oc, od, .func (PySem.W.fnOf x x (defArgs st) (defBody st) (defScope st) .none kV dc pm an cd ct), sl⟩) (c : PySem.W.codeIn K cd x = true) (k : PySem.W.keepIn K (.ref f) = true)
    (hb : ∀ fd, Fun K x x st f fd → Binds K fd ps []) : Df K mg ⟨x, st, N, ps⟩ := ⟨f, _, fun_mk (st := st) l c k, PySem.W.mg_of X G a, hb _ (fun_mk (st := st) l c k)⟩
theorem fin_mk {l : PySem.W.OpenLaw} {w : World} {K : PySem.W.Frag} {h : Heap} {mg : Str → Option Value} {fa f2 : Addr} (X : K.In h) (G : h.Ns mainGlobals mg) (hfa : mg "law" = some (.ref fa)) (fs : Facts K mg)
    {od2 an2 : Option Addr} {sl2 : Array (Option Value)} {oc2 kV2 dc2 pm2 cd2 ct2 : Value}
    (a2 : PySem.W.nsIn K mainGlobals "law" = some (some (.ref f2))) (l2 : K.lookup f2 = some ⟨oc2, od2, .func (PySem.W.fnOf "law" "law" (defArgs d_law.st) (defBody d_law.st) (defScope d_law.st) .none kV2 dc2 pm2 an2 cd2 ct2), sl2⟩) (c2 : PySem.W.codeIn K cd2 "law" = true) (k2 : PySem.W.keepIn K (.ref f2) = true) :
    ∃ fd : FuncData, (∀ (s : Shared) (v : Value), BindsTo s fd ⟨[v], []⟩ [("script", v)]) ∧ ∀ base : Heap, K.In base → base.Ns mainGlobals mg → FnOk l.prog w K mg base CX0 24 fa fd ["script"] (spLaw K) := by
  have e := hfa.symm.trans (PySem.W.mg_of X G a2)
  cases e
  have F2 := fun_mk (st := d_law.st) l2 c2 k2
  exact ⟨PySem.W.fnOf "law" "law" (defArgs d_law.st) (defBody d_law.st) (defScope d_law.st) .none kV2 dc2 pm2 an2 cd2 ct2, fun s v => .of_eq rfl, fun base _ _ => ok_law fs F2⟩
end Lw
open PySem PySem.W PyProof.Rows
set_option pp.maxSteps 400 in
set_option maxHeartbeats 0 in
theorem PySem.Challenge.cw_threecorners_k35_whole_ford_chains_holds : PySem.Challenge.rw_threecorners_k35_whole_ford_chains.Holds := by
  w_on; o_law; k_head; (case hw => w_witness2)
  k_fill
  refine L2.walk_of (l := PySem.Challenge.rw_threecorners_k35_whole_ford_chains) (n := 63) (k := 24) (x := "script") (CX := fun _ => L2.CX0) (sp := fun w => Lw.spLaw _) rfl (by decide) rfl ⟨rfl, by decide, by decide⟩ (fun w h Y => PySem.W.kIn_of Y) ?F (fun _ _ a ns hl _ hS => ⟨a, ns, rfl, hS, hl, fun _ => rfl⟩) (fun _ _ _ _ _ h => h)
  case F =>
    intro w mg fa h KX G hmg
    have f_lowest : Lw.DfX KX mg ⟨"lowest", Lw.topS 2, Lw.N_lowest, ["p", "q"]⟩ := by
      refine' Lw.df_mk2 KX G Lw.N_lowest ["p", "q"] ?a ?l ?c ?k ?b
      (case a => k_is); (case l => k_is); (case c => k_is); (case k => k_is)
      (case b => exact fun fd F => L2.Fun.binds F (ps := ["p", "q"]) fun _ _ _ _ _ _ us hl => match us, hl with | [_, _], _ => rfl)
    have f_worth : Lw.DfX KX mg ⟨"worth", Lw.topS 9, Lw.N_worth, ["fraction"]⟩ := by
      refine' Lw.df_mk2 KX G Lw.N_worth ["fraction"] ?a ?l ?c ?k ?b
      (case a => k_is); (case l => k_is); (case c => k_is); (case k => k_is)
      (case b => exact fun fd F => L2.Fun.binds F (ps := ["fraction"]) fun _ _ _ _ _ _ us hl => match us, hl with | [_], _ => rfl)
    have f_ford : Lw.DfX KX mg ⟨"ford", Lw.topS 4, Lw.N_ford, ["p", "q"]⟩ := by
      refine' Lw.df_mk2 KX G Lw.N_ford ["p", "q"] ?a ?l ?c ?k ?b
      (case a => k_is); (case l => k_is); (case c => k_is); (case k => k_is)
      (case b => exact fun fd F => L2.Fun.binds F (ps := ["p", "q"]) fun _ _ _ _ _ _ us hl => match us, hl with | [_, _], _ => rfl)
    have f_ford_touch : Lw.DfX KX mg ⟨"ford_touch", Lw.topS 5, Lw.N_ford_touch, ["one", "other"]⟩ := by
      refine' Lw.df_mk2 KX G Lw.N_ford_touch ["one", "other"] ?a ?l ?c ?k ?b
      (case a => k_is); (case l => k_is); (case c => k_is); (case k => k_is)
      (case b => exact fun fd F => L2.Fun.binds F (ps := ["one", "other"]) fun _ _ _ _ _ _ us hl => match us, hl with | [_, _], _ => rfl)
    have f_ford_between : Lw.DfX KX mg ⟨"ford_between", Lw.topS 6, Lw.N_ford_between, ["one", "other"]⟩ := by
      refine' Lw.df_mk2 KX G Lw.N_ford_between ["one", "other"] ?a ?l ?c ?k ?b
      (case a => k_is); (case l => k_is); (case c => k_is); (case k => k_is)
      (case b => exact fun fd F => L2.Fun.binds F (ps := ["one", "other"]) fun _ _ _ _ _ _ us hl => match us, hl with | [_, _], _ => rfl)
    have f_neighbours_to : Lw.DfX KX mg ⟨"neighbours_to", Lw.topS 7, Lw.N_neighbours_to, ["one", "goal"]⟩ := by
      refine' Lw.df_mk2 KX G Lw.N_neighbours_to ["one", "goal"] ?a ?l ?c ?k ?b
      (case a => k_is); (case l => k_is); (case c => k_is); (case k => k_is)
      (case b => exact fun fd F => L2.Fun.binds F (ps := ["one", "goal"]) fun _ _ _ _ _ _ us hl => match us, hl with | [_, _], _ => rfl)
    have f_ford_chain : Lw.DfX KX mg ⟨"ford_chain", Lw.topS 8, Lw.N_ford_chain, ["one", "other"]⟩ := by
      refine' Lw.df_mk2 KX G Lw.N_ford_chain ["one", "other"] ?a ?l ?c ?k ?b
      (case a => k_is); (case l => k_is); (case c => k_is); (case k => k_is)
      (case b => exact fun fd F => L2.Fun.binds F (ps := ["one", "other"]) fun _ _ _ _ _ _ us hl => match us, hl with | [_, _], _ => rfl)
    have f_law_draw : Lw.DfX KX mg ⟨"_law_draw", Lw.topS 12, Lw.N_law_draw, ["state", "many"]⟩ := by
      refine' Lw.df_mk2 KX G Lw.N_law_draw ["state", "many"] ?a ?l ?c ?k ?b
      (case a => k_is); (case l => k_is); (case c => k_is); (case k => k_is)
      (case b => exact fun fd F => L2.Fun.binds F (ps := ["state", "many"]) fun _ _ _ _ _ _ us hl => match us, hl with | [_, _], _ => rfl)
    have f_law_pick : Lw.DfX KX mg ⟨"_law_pick", Lw.topS 13, Lw.N_law_pick, ["state", "row"]⟩ := by
      refine' Lw.df_mk2 KX G Lw.N_law_pick ["state", "row"] ?a ?l ?c ?k ?b
      (case a => k_is); (case l => k_is); (case c => k_is); (case k => k_is)
      (case b => exact fun fd F => L2.Fun.binds F (ps := ["state", "row"]) fun _ _ _ _ _ _ us hl => match us, hl with | [_, _], _ => rfl)
    have f_law_eq : Lw.DfX KX mg ⟨"_law_eq", Lw.topS 14, Lw.N_law_eq, ["told", "due"]⟩ := by
      refine' Lw.df_mk2 KX G Lw.N_law_eq ["told", "due"] ?a ?l ?c ?k ?b
      (case a => k_is); (case l => k_is); (case c => k_is); (case k => k_is)
      (case b => exact fun fd F => L2.Fun.binds F (ps := ["told", "due"]) fun _ _ _ _ _ _ us hl => match us, hl with | [_, _], _ => rfl)
    have f_law_low : Lw.DfX KX mg ⟨"_law_low", Lw.topS 15, Lw.N_law_low, ["p", "q"]⟩ := by
      refine' Lw.df_mk2 KX G Lw.N_law_low ["p", "q"] ?a ?l ?c ?k ?b
      (case a => k_is); (case l => k_is); (case c => k_is); (case k => k_is)
      (case b => exact fun fd F => L2.Fun.binds F (ps := ["p", "q"]) fun _ _ _ _ _ _ us hl => match us, hl with | [_, _], _ => rfl)
    have f_law_add : Lw.DfX KX mg ⟨"_law_add", Lw.topS 16, Lw.N_law_add, ["one", "other"]⟩ := by
      refine' Lw.df_mk2 KX G Lw.N_law_add ["one", "other"] ?a ?l ?c ?k ?b
      (case a => k_is); (case l => k_is); (case c => k_is); (case k => k_is)
      (case b => exact fun fd F => L2.Fun.binds F (ps := ["one", "other"]) fun _ _ _ _ _ _ us hl => match us, hl with | [_, _], _ => rfl)
    have f_law_times : Lw.DfX KX mg ⟨"_law_times", Lw.topS 17, Lw.N_law_times, ["one", "other"]⟩ := by
      refine' Lw.df_mk2 KX G Lw.N_law_times ["one", "other"] ?a ?l ?c ?k ?b
      (case a => k_is); (case l => k_is); (case c => k_is); (case k => k_is)
      (case b => exact fun fd F => L2.Fun.binds F (ps := ["one", "other"]) fun _ _ _ _ _ _ us hl => match us, hl with | [_, _], _ => rfl)
    have f_law_less : Lw.DfX KX mg ⟨"_law_less", Lw.topS 18, Lw.N_law_less, ["one", "other"]⟩ := by
      refine' Lw.df_mk2 KX G Lw.N_law_less ["one", "other"] ?a ?l ?c ?k ?b
      (case a => k_is); (case l => k_is); (case c => k_is); (case k => k_is)
      (case b => exact fun fd F => L2.Fun.binds F (ps := ["one", "other"]) fun _ _ _ _ _ _ us hl => match us, hl with | [_, _], _ => rfl)
    have f_law_drawn : Lw.DfX KX mg ⟨"_law_drawn", Lw.topS 19, Lw.N_law_drawn, ["state", "far"]⟩ := by
      refine' Lw.df_mk2 KX G Lw.N_law_drawn ["state", "far"] ?a ?l ?c ?k ?b
      (case a => k_is); (case l => k_is); (case c => k_is); (case k => k_is)
      (case b => exact fun fd F => L2.Fun.binds F (ps := ["state", "far"]) fun _ _ _ _ _ _ us hl => match us, hl with | [_, _], _ => rfl)
    have f_law_circle : Lw.DfX KX mg ⟨"_law_circle", Lw.topS 20, Lw.N_law_circle, ["one"]⟩ := by
      refine' Lw.df_mk2 KX G Lw.N_law_circle ["one"] ?a ?l ?c ?k ?b
      (case a => k_is); (case l => k_is); (case c => k_is); (case k => k_is)
      (case b => exact fun fd F => L2.Fun.binds F (ps := ["one"]) fun _ _ _ _ _ _ us hl => match us, hl with | [_], _ => rfl)
    have f_law_apart : Lw.DfX KX mg ⟨"_law_apart", Lw.topS 21, Lw.N_law_apart, ["one", "other"]⟩ := by
      refine' Lw.df_mk2 KX G Lw.N_law_apart ["one", "other"] ?a ?l ?c ?k ?b
      (case a => k_is); (case l => k_is); (case c => k_is); (case k => k_is)
      (case b => exact fun fd F => L2.Fun.binds F (ps := ["one", "other"]) fun _ _ _ _ _ _ us hl => match us, hl with | [_, _], _ => rfl)
    have f_law_back : Lw.DfX KX mg ⟨"_law_back", Lw.topS 22, Lw.N_law_back, ["a", "m"]⟩ := by
      refine' Lw.df_mk2 KX G Lw.N_law_back ["a", "m"] ?a ?l ?c ?k ?b
      (case a => k_is); (case l => k_is); (case c => k_is); (case k => k_is)
      (case b => exact fun fd F => L2.Fun.binds F (ps := ["a", "m"]) fun _ _ _ _ _ _ us hl => match us, hl with | [_, _], _ => rfl)
    have f_law_chain : Lw.DfX KX mg ⟨"_law_chain", Lw.topS 23, Lw.N_law_chain, ["one", "other"]⟩ := by
      refine' Lw.df_mk2 KX G Lw.N_law_chain ["one", "other"] ?a ?l ?c ?k ?b
      (case a => k_is); (case l => k_is); (case c => k_is); (case k => k_is)
      (case b => exact fun fd F => L2.Fun.binds F (ps := ["one", "other"]) fun _ _ _ _ _ _ us hl => match us, hl with | [_, _], _ => rfl)
    have f_law_state : Lw.DfX KX mg ⟨"_law_state", Lw.topS 11, ["script", "seed", "cell"], ["script"]⟩ := by
      refine' Lw.df_mk2 KX G ["script", "seed", "cell"] ["script"] ?a ?l ?c ?k ?b
      (case a => k_is); (case l => k_is); (case c => k_is); (case k => k_is)
      (case b => exact fun fd F => L2.Fun.binds F (ps := ["script"]) fun _ _ _ _ _ _ us hl => match us, hl with | [_], _ => rfl)
    have z_len : mg "len" = none := by
      refine' PySem.W.mg_none_of KX G ?z
      (case z => k_is)
    have z_abs : mg "abs" = none := by
      refine' PySem.W.mg_none_of KX G ?z
      (case z => k_is)
    have z_int : mg "int" = none := by
      refine' PySem.W.mg_none_of KX G ?z
      (case z => k_is)
    have z_list : mg "list" = none := by
      refine' PySem.W.mg_none_of KX G ?z
      (case z => k_is)
    have z_tuple : mg "tuple" = none := by
      refine' PySem.W.mg_none_of KX G ?z
      (case z => k_is)
    have z_range : mg "range" = none := by
      refine' PySem.W.mg_none_of KX G ?z
      (case z => k_is)
    have z_zip : mg "zip" = none := by
      refine' PySem.W.mg_none_of KX G ?z
      (case z => k_is)
    have z_min : mg "min" = none := by
      refine' PySem.W.mg_none_of KX G ?z
      (case z => k_is)
    have z_max : mg "max" = none := by
      refine' PySem.W.mg_none_of KX G ?z
      (case z => k_is)
    have z_sum : mg "sum" = none := by
      refine' PySem.W.mg_none_of KX G ?z
      (case z => k_is)
    have z_isinstance : mg "isinstance" = none := by
      refine' PySem.W.mg_none_of KX G ?z
      (case z => k_is)
    have z_str : mg "str" = none := by
      refine' PySem.W.mg_none_of KX G ?z
      (case z => k_is)
    have z_bool : mg "bool" = none := by
      refine' PySem.W.mg_none_of KX G ?z
      (case z => k_is)
    have z_gcd : mg "gcd" = some (.builtin "math.gcd") := by
      refine' PySem.W.mg_of KX G ?z
      (case z => k_is)
    have fs : Lw.FactsX KX mg := ⟨f_lowest, f_worth, f_ford, f_ford_touch, f_ford_between, f_neighbours_to, f_ford_chain, f_law_draw, f_law_pick, f_law_eq, f_law_low, f_law_add, f_law_times, f_law_less, f_law_drawn, f_law_circle, f_law_apart, f_law_back, f_law_chain, f_law_state, (fun x hx => by
      simp only [Lw.uu, List.mem_cons, List.not_mem_nil, or_false] at hx
      rcases hx with rfl | rfl | rfl | rfl | rfl | rfl | rfl | rfl | rfl | rfl | rfl | rfl | rfl
      · exact z_len
      · exact z_abs
      · exact z_int
      · exact z_list
      · exact z_tuple
      · exact z_range
      · exact z_zip
      · exact z_min
      · exact z_max
      · exact z_sum
      · exact z_isinstance
      · exact z_str
      · exact z_bool), z_gcd⟩
    refine' Lw.fin_mk KX G hmg fs ?a2 ?l2 ?c2 ?k2
    (case a2 => k_is); (case l2 => k_is); (case c2 => k_is); (case k2 => k_is)
