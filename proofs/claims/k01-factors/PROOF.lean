import PyProof.Rows.All
import Wide.All
import OpenK.AllK
import Wide.FinOn
import HandS.ForExc
import HandS.Comp
import HandS.TryMany
import HandS.Wide
import HandS.TupAny
import HandS.Flow
import HandS.IsInst
import HandS.Rev
import HandS.Zip
import HandS.Iter
import HandS.Conv
import HandS.Small
import HandS.SortInts
import HandS.TupMul
import HandS.Style
import HandS.Ends
import PySem.Challenge.RW_spiralverses_k01_factors_and_divisors
set_option Elab.async false
set_option linter.all false
set_option maxRecDepth 100000
namespace Co
open PySem
/-- values: tuples are pure, lists stand in a heap -/
inductive PV where
  | non | bl (b : Bool) | int (i : Int) | str (s : Str) | tup (l : List PV) | ref (a : Nat)
  /-- a list that nobody changes -/
  | rol (l : List PV)
  deriving Inhabited
inductive PO where
  | lst (xs : List PV)
abbrev PH := Nat → Option PO
def pupd (h : PH) (a : Nat) (o : PO) : PH := fun b => if b = a then some o else h b
/-- exceptions: an own class without fields -/
inductive PX where
  | own (c : Nat)
abbrev Sl := List (Option PV)
abbrev QK := PV → PH → Prop
abbrev XK := PX → PH → Prop
/-- what a call does: def, arguments, heap, wish, wish of an exception -/
abbrev CS := Nat → List PV → PH → QK → XK → Prop
inductive Bop where | add | sub | mul | fdiv | mod | pow
  deriving DecidableEq
inductive Cop where | eq | ne | lt | le | gt | ge | is | isnot | In | notin
  deriving DecidableEq
/-- built-in functions of values -/
inductive Blt where | len | abs | int | max2 | min2 | sum | all | any | tuple | list | sorted | max1 | min1
  deriving DecidableEq
inductive Mth where | append | pop | popAt | index | count
  deriving DecidableEq
inductive Ty where | int | bool | tuple | list | str
  deriving DecidableEq
mutual
inductive E where
  | k (v : PV)
  | v (i : Nat)
  | bin (op : Bop) (a b : E)
  | neg (a : E)
  | cmp (op : Cop) (a b : E)
  | chn (op op' : Cop) (a b c : E)
  | and (a b : E)
  | or (a b : E)
  | not (a : E)
  | ite (c : T) (a b : E)
  | tup (es : Es)
  | lst (es : Es)
  | call (f : Nat) (es : Es)
  | blt (b : Blt) (es : Es)
  | isi (a : E) (ts : List Ty) (tp : Bool)
  | ix (a b : E)
  | sl (a : E) (lo hi : Eo)
  | mth (m : Mth) (a : E) (es : Es)
  | cpr (g : It) (t : Tg) (c : T) (e : E) (own : List Nat)
  | rg1 (tp : Bool) (a : E)
  | rg2 (tp : Bool) (a b : E)
inductive Tg where
  | nm (i : Nat) | tp (ts : Tgs) | sub (o i : E)
inductive Tgs where
  | nil | cons (t : Tg) (ts : Tgs)
inductive Es where
  | nil | cons (e : E) (es : Es)
inductive Eo where
  | none | some (e : E)
inductive T where
  | e (e : E) | and (a b : T) | or (a b : T) | not (a : T) | yes
inductive It where
  | seq (e : E) | rng1 (a : E) | rng2 (a b : E) | rev (e : E) | zip (a b : E) | enum (a : E)
end
def tgsLen : Tgs → Nat
  | .nil => 0
  | .cons _ ts => tgsLen ts + 1
def CMul (i j : Int) : Prop := i.natAbs.log2 + j.natAbs.log2 < 1000000
def CDiv (j : Int) : Prop := 0 < j ∧ j.natAbs.log2 < 9000
abbrev CPow := L2.CPow
/-- what is laid anew -/
def newL (h : PH) (xs : List PV) (Q : QK) : Prop := ∀ p, h p = none → Q (.ref p) (pupd h p (.lst xs))
/-- a list or tuple to be read -/
def rdL (h : PH) (a : Nat) : Option (List PV) := match h a with | some (.lst xs) => some xs | none => none
def seqOf (v : PV) (h : PH) : Option (List PV) := match v with | .tup l => some l | .rol l => some l | .ref a => rdL h a | _ => none
def bopS (op : Bop) (x y : PV) (h : PH) (Q : QK) : Prop := match op, x, y with
  | .add, .int i, .int j => Q (.int (i + j)) h
  | .add, .str i, .str j => i.length + j.length ≤ 16777216 ∧ Q (.str (i ++ j)) h
  | .add, .tup l, .tup m => l.length + m.length ≤ 16777216 ∧ Q (.tup (l ++ m)) h
  | .add, .ref a, .ref b => match h a, h b with
    | some (.lst xs), some (.lst ys) => xs.length + ys.length ≤ 16777216 ∧ newL h (xs ++ ys) Q
    | _, _ => False
  | .sub, .int i, .int j => Q (.int (i - j)) h
  | .mul, .int i, .int j => CMul i j ∧ Q (.int (i * j)) h
  | .mul, .ref a, .int n => match rdL h a with
    | some xs => (-(2 ^ 63) ≤ n ∧ n < 2 ^ 63) ∧ xs.length * n.toNat ≤ 16777216 ∧ newL h (List.replicate n.toNat xs).flatten Q
    | none => False
  | .mul, .tup l, .int n => (2 ≤ n ∧ n ≤ 1000) ∧ l ≠ [] ∧ l.length ≤ 1000 ∧ Q (.tup (List.replicate n.toNat l).flatten) h
  | .fdiv, .int i, .int j => CDiv j ∧ Q (.int (i / j)) h
  | .mod, .int i, .int j => 0 < j ∧ Q (.int (i % j)) h
  | .pow, .int i, .int j => CPow i j ∧ Q (.int (i ^ j.toNat)) h
  | _, _, _ => False
def negS (x : PV) (h : PH) (Q : QK) : Prop := match x with | .int i => Q (.int (-i)) h | _ => False
/-- a value's truth -/
def truS (v : PV) (h : PH) (Q : Bool → PH → Prop) : Prop := match v with
  | .non => Q false h
  | .bl b => Q b h
  | .int i => Q (i != 0) h
  | .str s => s.length ≤ 16777216 ∧ Q (s.length != 0) h
  | .tup l => Q (!l.isEmpty) h
  | .rol l => Q (!l.isEmpty) h
  | .ref a => match rdL h a with | some xs => Q (!xs.isEmpty) h | none => False
/-- data, read out of the heap: for == -/
def toD (h : PH) : Nat → PV → Option PyData
  | _, .non => some .none
  | _, .bl b => some (.bool b)
  | _, .int i => some (.int i)
  | _, .str s => if s.cps.all (· < 0x110000) = true then some (.str s) else none
  | n + 1, .tup l => (l.mapM (toD h n)).map PyData.tuple
  | n + 1, .rol l => (l.mapM (toD h n)).map PyData.list
  | n + 1, .ref a => match rdL h a with | some xs => (xs.mapM (toD h n)).map PyData.list | none => none
  | 0, .tup _ => none
  | 0, .ref _ => none
  | 0, .rol _ => none
def isnS (x : PV) : Bool := match x with | .non => true | _ => false
/-- no tuple, no list -/
def flat : PV → Bool
  | .tup _ => false | .ref _ => false | .rol _ => false | _ => true
def eqF : PV → PV → Bool
  | .non, .non => true
  | .bl a, .bl b => a == b
  | .int a, .int b => a == b
  | .str a, .str b => a == b
  | .bl p, .int n => (if p then 1 else 0) == n
  | .int n, .bl p => n == (if p then 1 else 0)
  | _, _ => false
def eqS (x y : PV) (h : PH) (Q : Bool → Prop) : Prop := match x, y with
  | .int i, .int j => Q (decide (i = j))
  | .bl i, .bl j => Q (decide (i = j))
  | .str i, .str j => Q (decide (i = j))
  | .non, .non => Q true
  | x, y => ∃ d e, toD h 8 x = some d ∧ toD h 8 y = some e ∧ Q (PyData.eqv d e)
def inS (x y : PV) (h : PH) (Q : Bool → Prop) : Prop := match seqOf y h with
  | some ys => flat x = true ∧ ys.all flat = true ∧ Q (ys.any fun z => eqF z x)
  | none => False
def copS (op : Cop) (x y : PV) (h : PH) (Q : QK) : Prop := match op with
  | .eq => eqS x y h fun b => Q (.bl b) h
  | .ne => eqS x y h fun b => Q (.bl (!b)) h
  | .lt => match x, y with | .int i, .int j => Q (.bl (decide (i < j))) h | _, _ => False
  | .le => match x, y with | .int i, .int j => Q (.bl (decide (i ≤ j))) h | _, _ => False
  | .gt => match x, y with | .int i, .int j => Q (.bl (decide (j < i))) h | _, _ => False
  | .ge => match x, y with | .int i, .int j => Q (.bl (decide (j ≤ i))) h | _, _ => False
  | .is => match y with | .non => Q (.bl (isnS x)) h | _ => False
  | .isnot => match y with | .non => Q (.bl (!isnS x)) h | _ => False
  | .In => inS x y h fun b => Q (.bl b) h
  | .notin => inS x y h fun b => Q (.bl (!b)) h
def isTy (h : PH) (x : PV) (t : Ty) : Bool := match x, t with
  | .int _, .int => true | .bl _, .bool => true | .bl _, .int => true | .tup _, .tuple => true | .str _, .str => true
  | .ref _, .list => true | .rol _, .list => true
  | _, _ => false
/-- isinstance asks that a reference stands -/
def refOk (x : PV) (h : PH) : Prop := match x with | .ref a => (h a).isSome = true | _ => True
def isiS (x : PV) (ts : List Ty) (h : PH) (Q : QK) : Prop := refOk x h ∧ Q (.bl (ts.any (isTy h x))) h
def ixS (x y : PV) (h : PH) (Q : QK) : Prop := match x, y with
  | .str s, .int i => s.length ≤ 16777216 ∧ match (L2.ixN s.cps.toList.length i).bind fun j => s.cps.toList[j]? with | some c => Q (.str ⟨#[c]⟩) h | none => False
  | x, .int i => match seqOf x h with
    | some xs => match (L2.ixN xs.length i).bind fun j => xs[j]? with | some v => Q v h | none => False
    | none => False
  | _, _ => False
def cut {α : Type} (xs : List α) (lo hi : Option Int) : List α := (xs.drop (HT.sIx xs.length 0 lo)).take (HT.sIx xs.length xs.length hi - HT.sIx xs.length 0 lo)
def slS (x : PV) (lo hi : Option Int) (h : PH) (Q : QK) : Prop := match x with
  | .tup l => Q (.tup (cut l lo hi)) h
  | .rol l => newL h (cut l lo hi) Q
  | .ref a => match rdL h a with | some xs => newL h (cut xs lo hi) Q | none => False
  | _ => False
def intsOf : List PV → Option (List Int)
  | [] => some []
  | .int i :: r => (intsOf r).map (i :: ·)
  | _ :: _ => none
def blsOf : List PV → Option (List Bool)
  | [] => some []
  | .bl i :: r => (blsOf r).map (i :: ·)
  | _ :: _ => none
def bltS (b : Blt) (vs : List PV) (h : PH) (Q : QK) : Prop := match b, vs with
  | .len, [.str s] => s.length ≤ 16777216 ∧ Q (.int s.length) h
  | .len, [x] => match seqOf x h with | some xs => Q (.int xs.length) h | none => False
  | .abs, [.int i] => Q (.int (if i < 0 then -i else i)) h
  | .int, [.int i] => Q (.int i) h
  | .int, [.bl b] => Q (.int (if b then 1 else 0)) h
  | .max2, [.int i, .int j] => Q (.int (if j > i then j else i)) h
  | .min2, [.int i, .int j] => Q (.int (if j < i then j else i)) h
  | .sum, [.ref a] => match (rdL h a).bind intsOf with | some ns => Q (.int ns.sum) h | none => False
  | .all, [.ref a] => match (rdL h a).bind blsOf with | some ns => Q (.bl (ns.all id)) h | none => False
  | .any, [.ref a] => match (rdL h a).bind blsOf with | some ns => Q (.bl (ns.any id)) h | none => False
  | .max1, [.ref a] => match (rdL h a).bind intsOf with | some ns => 0 < ns.length ∧ ∀ m, m ∈ ns → (∀ y, y ∈ ns → y ≤ m) → Q (.int m) h | none => False
  | .min1, [.ref a] => match (rdL h a).bind intsOf with | some ns => 0 < ns.length ∧ ∀ m, m ∈ ns → (∀ y, y ∈ ns → m ≤ y) → Q (.int m) h | none => False
  | .tuple, [x] => match seqOf x h with | some xs => Q (.tup xs) h | none => False
  | .list, [x] => match seqOf x h with | some xs => newL h xs Q | none => False
  | .sorted, [.ref a] => match (rdL h a).bind intsOf with | some ns => ∀ ms : List Int, ms.Perm ns → ms.Pairwise (· ≤ ·) → newL h (ms.map PV.int) Q | none => False
  | _, _ => False
/-- a list's method: the value, the list behind it -/
def mthL (m : Mth) (xs vs : List PV) (Q : PV → List PV → Prop) : Prop := match m, vs with
  | .append, [y] => xs.length < 16777216 ∧ Q .non (xs ++ [y])
  | .pop, [] => match xs[xs.length - 1]? with | some y => Q y xs.dropLast | none => False
  | .popAt, [.int i] => (-(2 ^ 63) ≤ i ∧ i < 2 ^ 63) ∧ match L2.ixN xs.length i with
    | some k => match xs[k]? with | some y => Q y (xs.eraseIdx k) | none => False
    | none => False
  | _, _ => False
/-- the receiver is a list, ahead of the arguments -/
def lstOk (x : PV) (h : PH) (P : Prop) : Prop := match x with | .ref a => (match h a with | some (.lst _) => P | _ => False) | _ => False
def mthS (m : Mth) (x : PV) (vs : List PV) (h : PH) (Q : QK) : Prop := match x with
  | .ref a => match h a with
    | some (.lst xs) => mthL m xs vs fun y ys => Q y (pupd h a (.lst ys))
    | _ => False
  | _ => False
def wipe (σ : Sl) : List Nat → Sl
  | [] => σ
  | i :: r => wipe (σ.set i none) r
/-- o[i] = v -/
def setS (o i v : PV) (h : PH) (Q : PH → Prop) : Prop := match o, i with
  | .ref a, .int k => match h a with
    | some (.lst xs) => match L2.ixN xs.length k with | some j => Q (pupd h a (.lst (xs.set j v))) | none => False
    | _ => False
  | _, _ => False
/-- a comprehension: what is made so far, the items left -/
def cprL (ok : PH → Prop) (tg : PV → Sl → PH → (Sl → PH → Prop) → Prop) (c : Sl → PH → (Bool → PH → Prop) → Prop) (e : Sl → PH → QK → Prop) (σ : Sl) (Q : List PV → PH → Prop) : List PV → List PV → PH → Prop
  | acc, [], h => ok h ∧ Q acc h
  | acc, x :: xs, h => ok h ∧ tg x σ h fun σ2 h => c σ2 h fun b h =>
      if b = true then e σ2 h fun v h => acc.length < 16777216 ∧ cprL ok tg c e σ Q (acc ++ [v]) xs h else cprL ok tg c e σ Q acc xs h
/-- what is walked: the items, and that what holds them stands -/
abbrev RK := List PV → (PH → Prop) → PH → Prop
def rgL (lo hi : Int) : List PV := (List.range (hi - lo).toNat).map fun i => PV.int (lo + (i : Nat))
def okOf (v : PV) (xs : List PV) : PH → Prop := fun h => seqOf v h = some xs
def zipL (xs ys : List PV) : List PV := (xs.zip ys).map fun p => .tup [p.1, p.2]
def enumL (xs : List PV) : List PV := (List.range xs.length).zipWith (fun i x => .tup [.int (i : Nat), x]) xs
def seqS (v : PV) (h : PH) (P : List PV → Prop) : Prop := match seqOf v h with | some xs => P xs | none => False
/-- what is zipped is of one kind -/
def zipOk (x y : PV) : Prop := match x, y with | .tup _, .tup _ => True | .ref _, .ref _ => True | _, _ => False
def isRef (x : PV) : Prop := match x with | .ref _ => True | _ => False
/-- a number, two numbers -/
def intS (x : PV) (P : Int → Prop) : Prop := match x with | .int n => P n | _ => False
def int2S (x y : PV) (P : Int → Int → Prop) : Prop := match x, y with | .int m, .int n => P m n | _, _ => False
def small (i : Int) : Prop := -(2 ^ 62) ≤ i ∧ i < 2 ^ 62
def rgOk (a b : Int) : Prop := -(2 ^ 62) ≤ a ∧ a < 2 ^ 62 ∧ -(2 ^ 62) ≤ b ∧ b < 2 ^ 62 ∧ (b - a).toNat ≤ 2 ^ 24
mutual
def wE (C : CS) : E → Sl → PH → QK → XK → Prop
  | .k v, _, h, Q, _ => Q v h
  | .v i, σ, h, Q, _ => match σ[i]? with | some (some v) => Q v h | _ => False
  | .bin op a b, σ, h, Q, X => wE C a σ h (fun x h => wE C b σ h (fun y h => bopS op x y h Q) X) X
  | .neg a, σ, h, Q, X => wE C a σ h (fun x h => negS x h Q) X
  | .cmp op a b, σ, h, Q, X => wE C a σ h (fun x h => wE C b σ h (fun y h => copS op x y h Q) X) X
  | .chn op op' a b c, σ, h, Q, X => wE C a σ h (fun x h => wE C b σ h (fun y h => copS op x y h fun z h => match z with
      | .bl true => wE C c σ h (fun u h => copS op' y u h Q) X
      | .bl false => Q (.bl false) h
      | _ => False) X) X
  | .and a b, σ, h, Q, X => wE C a σ h (fun x h => truS x h fun c h => if c = true then wE C b σ h Q X else Q x h) X
  | .or a b, σ, h, Q, X => wE C a σ h (fun x h => truS x h fun c h => if c = true then Q x h else wE C b σ h Q X) X
  | .not a, σ, h, Q, X => wE C a σ h (fun x h => truS x h fun c h => Q (.bl (!c)) h) X
  | .ite c a b, σ, h, Q, X => wT C c σ h (fun c h => if c = true then wE C a σ h Q X else wE C b σ h Q X) X
  | .tup es, σ, h, Q, X => wEs C es σ h (fun vs h => vs.length ≤ 16777216 ∧ Q (.tup vs) h) X
  | .lst es, σ, h, Q, X => wEs C es σ h (fun vs h => vs.length ≤ 16777216 ∧ newL h vs Q) X
  | .call f es, σ, h, Q, X => wEs C es σ h (fun vs h => C f vs h Q X) X
  | .blt b es, σ, h, Q, X => wEs C es σ h (fun vs h => bltS b vs h Q) X
  | .isi a ts _, σ, h, Q, X => wE C a σ h (fun x h => isiS x ts h Q) X
  | .ix a b, σ, h, Q, X => wE C a σ h (fun x h => wE C b σ h (fun y h => ixS x y h Q) X) X
  | .sl a lo hi, σ, h, Q, X => wE C a σ h (fun x h => wEo C lo σ h (fun l h => wEo C hi σ h (fun u h => slS x l u h Q) X) X) X
  | .mth m a es, σ, h, Q, X => wE C a σ h (fun x h => lstOk x h (wEs C es σ h (fun vs h => mthS m x vs h Q) X)) X
  | .cpr g t c e own, σ, h, Q, X => wIt C g σ h (fun xs ok h =>
      cprL ok (fun v σ h Q => wTg C t v σ h Q) (fun σ h Q => wT C c σ h Q fun _ _ => False) (fun σ h Q => wE C e σ h Q fun _ _ => False) (wipe σ own) (fun acc h => newL h acc Q) [] xs h) X
  | .rg1 tp a, σ, h, Q, X => wE C a σ h (fun x h => intS x fun n => rgOk 0 n ∧ (if tp = true then Q (.tup (rgL 0 n)) h else newL h (rgL 0 n) Q)) X
  | .rg2 tp a b, σ, h, Q, X => wE C a σ h (fun x h => wE C b σ h (fun y h => int2S x y fun m n => rgOk m n ∧ (if tp = true then Q (.tup (rgL m n)) h else newL h (rgL m n) Q)) X) X
def wTg (C : CS) : Tg → PV → Sl → PH → (Sl → PH → Prop) → Prop
  | .nm i, x, σ, h, Q => Q (σ.set i (some x)) h
  | .tp ts, x, σ, h, Q => match x with | .tup l => l.length = tgsLen ts ∧ wTgs C ts l σ h Q | _ => False
  | .sub o i, x, σ, h, Q => wE C o σ h (fun ov h => wE C i σ h (fun iv h => setS ov iv x h fun h => Q σ h) fun _ _ => False) fun _ _ => False
def wTgs (C : CS) : Tgs → List PV → Sl → PH → (Sl → PH → Prop) → Prop
  | .nil, l, σ, h, Q => match l with | [] => Q σ h | _ => False
  | .cons t ts, l, σ, h, Q => match l with | v :: vs => wTg C t v σ h fun σ h => wTgs C ts vs σ h Q | [] => False
def wEs (C : CS) : Es → Sl → PH → (List PV → PH → Prop) → XK → Prop
  | .nil, _, h, Q, _ => Q [] h
  | .cons e es, σ, h, Q, X => wE C e σ h (fun v h => wEs C es σ h (fun vs h => Q (v :: vs) h) X) X
def wEo (C : CS) : Eo → Sl → PH → (Option Int → PH → Prop) → XK → Prop
  | .none, _, h, Q, _ => Q Option.none h
  | .some e, σ, h, Q, X => wE C e σ h (fun v h => intS v fun i => Q (Option.some i) h) X
def wT (C : CS) : T → Sl → PH → (Bool → PH → Prop) → XK → Prop
  | .e e, σ, h, Q, X => wE C e σ h (fun v h => truS v h Q) X
  | .and a b, σ, h, Q, X => wT C a σ h (fun c h => if c = true then wT C b σ h Q X else Q false h) X
  | .or a b, σ, h, Q, X => wT C a σ h (fun c h => if c = true then Q true h else wT C b σ h Q X) X
  | .not a, σ, h, Q, X => wT C a σ h (fun c h => Q (!c) h) X
  | .yes, _, h, Q, _ => Q true h
def wIt (C : CS) : It → Sl → PH → RK → XK → Prop
  | .seq e, σ, h, R, X => wE C e σ h (fun v h => seqS v h fun xs => R xs (okOf v xs) h) X
  | .rng1 a, σ, h, R, X => wE C a σ h (fun x h => intS x fun n => small n ∧ R (rgL 0 n) (fun _ => True) h) X
  | .rng2 a b, σ, h, R, X => wE C a σ h (fun x h => wE C b σ h (fun y h => int2S x y fun m n => (small m ∧ small n) ∧ R (rgL m n) (fun _ => True) h) X) X
  | .rev e, σ, h, R, X => wE C e σ h (fun v h => seqS v h fun xs => R xs.reverse (okOf v xs) h) X
  | .zip a b, σ, h, R, X => wE C a σ h (fun x h => wE C b σ h (fun y h => zipOk x y ∧ seqS x h fun xs => seqS y h fun ys => R (zipL xs ys) (fun h => okOf x xs h ∧ okOf y ys h) h) X) X
  | .enum a, σ, h, R, X => wE C a σ h (fun v h => isRef v ∧ seqS v h fun xs => R (enumL xs) (okOf v xs) h) X
end
structure Ends where
  nx : Sl → PH → Prop
  rt : QK
  bk : Sl → PH → Prop
  ct : Sl → PH → Prop
  ex : PX → Sl → PH → Prop
/-- an except suite -/
inductive Hd where
  | ret (v : PV) | asg (i : Nat) (v : PV)
mutual
inductive S where
  | ex (e : E) | asg (t : Tg) (e : E) | aug (i : Nat) (op : Bop) (e : E) | ret (e : E) | retN
  | ife (c : T) (a b : Ss) | whl (c : T) (b : Ss) | for (g : It) (t : Tg) (b : Ss) | pass | brk | cont
  | rai (c : Nat) | try (b : Ss) (hs : List (Nat × Hd))
inductive Ss where
  | nil | cons (s : S) (r : Ss)
end
def whlN (c : Sl → PH → (Bool → PH → Prop) → Prop) (b : Ends → Sl → PH → Prop) (D : Ends) : Nat → Sl → PH → Prop
  | 0 => fun _ _ => False
  | n + 1 => fun σ h => c σ h fun t h => if t = true then b { D with nx := whlN c b D n, ct := whlN c b D n, bk := D.nx } σ h else D.nx σ h
def forL (ok : PH → Prop) (tg : PV → Sl → PH → (Sl → PH → Prop) → Prop) (b : Ends → Sl → PH → Prop) (D : Ends) : List PV → Sl → PH → Prop
  | [] => fun σ h => ok h ∧ D.nx σ h
  | x :: xs => fun σ h => ok h ∧ tg x σ h fun σ h => b { D with nx := forL ok tg b D xs, ct := forL ok tg b D xs, bk := D.nx } σ h
def hdS (s : Hd) (D : Ends) (σ : Sl) (h : PH) : Prop := match s with
  | .ret v => D.rt v h
  | .asg i v => D.nx (σ.set i (some v)) h
def hdsS (sub : Nat → Nat → Bool) (x : PX) (D : Ends) (σ : Sl) (h : PH) : List (Nat × Hd) → Prop
  | [] => D.ex x σ h
  | (c, s) :: r => match x with | .own e => if sub e c = true then hdS s D σ h else hdsS sub x D σ h r
def augS (op : Bop) (x y : PV) (h : PH) (Q : QK) : Prop := match op, x, y with
  | .add, .int i, .int j => Q (.int (i + j)) h
  | .sub, .int i, .int j => Q (.int (i - j)) h
  | .mul, .int i, .int j => CMul i j ∧ Q (.int (i * j)) h
  | .add, .str i, .str j => i.length + j.length ≤ 16777216 ∧ Q (.str (i ++ j)) h
  | _, _, _ => False
mutual
def wS (sub : Nat → Nat → Bool) (C : CS) : S → Ends → Sl → PH → Prop
  | .ex e, D, σ, h => wE C e σ h (fun _ h => D.nx σ h) fun x h => D.ex x σ h
  | .asg t e, D, σ, h => wE C e σ h (fun v h => wTg C t v σ h D.nx) fun x h => D.ex x σ h
  | .aug i op e, D, σ, h => match σ[i]? with
    | some (some x) => wE C e σ h (fun y h => augS op x y h fun z h => D.nx (σ.set i (some z)) h) fun x h => D.ex x σ h
    | _ => False
  | .ret e, D, σ, h => wE C e σ h D.rt fun x h => D.ex x σ h
  | .retN, D, _, h => D.rt .non h
  | .ife c a b, D, σ, h => wT C c σ h (fun t h => if t = true then wSs sub C a D σ h else wSs sub C b D σ h) fun x h => D.ex x σ h
  | .whl c b, D, σ, h => ∃ n, whlN (fun σ h Q => wT C c σ h Q fun x h => D.ex x σ h) (wSs sub C b) D n σ h
  | .for g t b, D, σ, h => wIt C g σ h (fun xs ok h => forL ok (fun v σ h Q => wTg C t v σ h Q) (wSs sub C b) D xs σ h) fun x h => D.ex x σ h
  | .pass, D, σ, h => D.nx σ h
  | .brk, D, σ, h => D.bk σ h
  | .cont, D, σ, h => D.ct σ h
  | .rai c, D, σ, h => D.ex (.own c) σ h
  | .try b hs, D, σ, h => wSs sub C b { D with ex := fun x σ h => hdsS sub x D σ h hs } σ h
def wSs (sub : Nat → Nat → Bool) (C : CS) : Ss → Ends → Sl → PH → Prop
  | .nil, D, σ, h => D.nx σ h
  | .cons s r, D, σ, h => wS sub C s { D with nx := wSs sub C r D } σ h
end
/-- a def -/
structure Fn where
  np : Nat
  ns : Nat
  body : Ss
def startP (n : Nat) (vs : List PV) : Sl := vs.map some ++ List.replicate (n - vs.length) none
def endF (Q : QK) (X : XK) : Ends := { nx := fun _ h => Q .non h, rt := Q, bk := fun _ _ => False, ct := fun _ _ => False, ex := fun x _ h => X x h }
def callN (sub : Nat → Nat → Bool) (P : List Fn) : Nat → CS
  | 0 => fun _ _ _ _ _ => False
  | k + 1 => fun f vs h Q X => match P[f]? with
    | some d => vs.length = d.np ∧ wSs sub (callN sub P k) d.body (endF Q X) (startP d.ns vs) h
    | none => False
end Co
namespace Co
open PySem L2
open PySem.Spec PyProof.Rows
section
variable (K : PySem.W.Frag) (H : Hp)
/-- a list that nobody changes: the script's, or one that the top has written -/
def FzL (a : Addr) (vs : List V) : Prop := (∃ o, H a = some (.frz o (.lst vs))) ∨ SqL K (fun _ => none) a vs
mutual
def RepV : PV → V → Prop
  | .non, v => v = .non
  | .bl b, v => v = .bl b
  | .int i, v => v = .int i
  | .str s, v => v = .str s
  | .ref a, v => v = .ref a
  | .tup l, v => ∃ a vs, v = .ref a ∧ SqT K H a vs ∧ RepVs l vs
  | .rol l, v => ∃ a vs, v = .ref a ∧ FzL K H a vs ∧ RepVs l vs
def RepVs : List PV → List V → Prop
  | [], vs => vs = []
  | p :: ps, vs => ∃ v r, vs = v :: r ∧ RepV p v ∧ RepVs ps r
end
end
def RepO (K : PySem.W.Frag) (H : Hp) (a : Addr) : PO → Prop
  | .lst xs => ∃ vs, H a = some (.lst vs) ∧ RepVs K H xs vs
def RepH (K : PySem.W.Frag) (h : PH) (H : Hp) : Prop := ∀ a o, h a = some o → RepO K H a o
/-- what the pure heap does not know stands as it stood -/
def Fr (h : PH) (H : Hp) (h' : PH) (H' : Hp) : Prop := ∀ a o, h a = none → H a = some o → h' a = none ∧ H' a = some o
def RepS (K : PySem.W.Frag) (H : Hp) (pσ : Sl) (σ : L2.St) : Prop := pσ.length = σ.length ∧ ∀ (i : Nat) (pv : PV), pσ[i]? = some (some pv) → ∃ v, σ[i]? = some (some v) ∧ RepV K H pv v
section
variable {K : PySem.W.Frag} {h h' h2 : PH} {H H' H2 : Hp} {a p : Addr} {xs : List PV} {vs : List V} {pv : PV} {v : V}
theorem Fr.refl : Fr h H h H := fun _ _ x y => ⟨x, y⟩
theorem Fr.trans (f : Fr h H h' H') (g : Fr h' H' h2 H2) : Fr h H h2 H2 := fun a o x y => let ⟨p, q⟩ := f a o x y; g a o p q
theorem RepH.free (r : RepH K h H) (e : H p = none) : h p = none := by
  cases q : h p with
  | none => rfl
  | some o =>
    have z := r p o q
    cases o with
    | lst xs => obtain ⟨vs, e', _⟩ := z; rw [e] at e'; cases e'
theorem RepH.noTup (r : RepH K h H) (e : H a = some (.tup vs)) : h a = none := by
  cases q : h a with
  | none => rfl
  | some o =>
    have z := r a o q
    cases o with
    | lst xs => obtain ⟨vs, e', _⟩ := z; rw [e] at e'; cases e'
theorem RepH.noFrz {o : Obj} (r : RepH K h H) (e : H a = some (.frz o (.tup vs))) : h a = none := by
  cases q : h a with
  | none => rfl
  | some o =>
    have z := r a o q
    cases o with
    | lst xs => obtain ⟨vs, e', _⟩ := z; rw [e] at e'; cases e'
theorem RepH.noFrzL {o : Obj} (r : RepH K h H) (e : H a = some (.frz o (.lst vs))) : h a = none := by
  cases q : h a with
  | none => rfl
  | some o =>
    have z := r a o q
    cases o with
    | lst xs => obtain ⟨vs, e', _⟩ := z; rw [e] at e'; cases e'
/-- what stands is kept -/
def Ks (K : PySem.W.Frag) (H H' : Hp) : Prop := (∀ a vs, SqT K H a vs → SqT K H' a vs) ∧ ∀ a vs, FzL K H a vs → FzL K H' a vs
theorem FzL.sq (q : FzL K H a vs) : SqL K H a vs := by
  rcases q with ⟨o, q⟩ | (q | ⟨_, q⟩) | q
  · exact .inl (.inr ⟨o, q⟩)
  · cases q
  · cases q
  · exact .inr q
theorem SqT.keep (r : RepH K h H) (f : Fr h H h' H') (q : SqT K H a vs) : SqT K H' a vs := by
  rcases q with (q | ⟨o, q⟩) | q
  · exact .inl (.inl (f a _ (r.noTup q) q).2)
  · exact .inl (.inr ⟨o, (f a _ (r.noFrz q) q).2⟩)
  · exact .inr q
theorem Ks.keep (r : RepH K h H) (f : Fr h H h' H') : Ks K H H' := ⟨fun _ _ => SqT.keep r f, fun a vs q => by
  rcases q with ⟨o, q⟩ | q
  · exact .inl ⟨o, (f a _ (r.noFrzL q) q).2⟩
  · exact .inr q⟩
mutual
theorem RepV.mono (ks : Ks K H H') : ∀ (pv : PV) (v : V), RepV K H pv v → RepV K H' pv v
  | .non, _, r => by unfold RepV at *; exact r
  | .bl _, _, r => by unfold RepV at *; exact r
  | .int _, _, r => by unfold RepV at *; exact r
  | .str _, _, r => by unfold RepV at *; exact r
  | .ref _, _, r => by unfold RepV at *; exact r
  | .tup l, _, r => by
    unfold RepV at *
    obtain ⟨a, vs, e, q, z⟩ := r
    exact ⟨a, vs, e, ks.1 _ _ q, RepVs.mono ks l vs z⟩
  | .rol l, _, r => by
    unfold RepV at *
    obtain ⟨a, vs, e, q, z⟩ := r
    exact ⟨a, vs, e, ks.2 _ _ q, RepVs.mono ks l vs z⟩
theorem RepVs.mono (ks : Ks K H H') : ∀ (l : List PV) (vs : List V), RepVs K H l vs → RepVs K H' l vs
  | [], _, r => by unfold RepVs at *; exact r
  | p :: ps, _, r => by
    unfold RepVs at *
    obtain ⟨v, q, e, r1, r2⟩ := r
    exact ⟨v, q, e, RepV.mono ks p v r1, RepVs.mono ks ps q r2⟩
end
theorem RepV.keep (rh : RepH K h H) (f : Fr h H h' H') (r : RepV K H pv v) : RepV K H' pv v := RepV.mono (Ks.keep rh f) _ _ r
theorem RepVs.keep (rh : RepH K h H) (f : Fr h H h' H') (r : RepVs K H xs vs) : RepVs K H' xs vs := RepVs.mono (Ks.keep rh f) _ _ r
theorem RepS.keep {pσ : Sl} {σ : L2.St} (rh : RepH K h H) (f : Fr h H h' H') (r : RepS K H pσ σ) : RepS K H' pσ σ :=
  ⟨r.1, fun i pv e => let ⟨v, e', q⟩ := r.2 i pv e; ⟨v, e', q.keep rh f⟩⟩
theorem RepVs.nil_iff : RepVs K H [] vs ↔ vs = [] := by unfold RepVs; exact Iff.rfl
theorem RepVs.cons_iff {ps : List PV} : RepVs K H (pv :: ps) vs ↔ ∃ v r, vs = v :: r ∧ RepV K H pv v ∧ RepVs K H ps r := by
  constructor
  · intro q; unfold RepVs at q; exact q
  · intro q; unfold RepVs; exact q
theorem RepVs.length : ∀ {xs : List PV} {vs : List V}, RepVs K H xs vs → xs.length = vs.length
  | [], _, r => by rw [RepVs.nil_iff.mp r]; rfl
  | _ :: ps, _, r => by obtain ⟨v, q, rfl, _, r2⟩ := RepVs.cons_iff.mp r; simp [RepVs.length r2]
theorem RepVs.get : ∀ {xs : List PV} {vs : List V} {i : Nat} {pv : PV}, RepVs K H xs vs → xs[i]? = some pv → ∃ v, vs[i]? = some v ∧ RepV K H pv v
  | [], _, _, _, _, e => by simp at e
  | _ :: ps, _, 0, _, r, e => by
    obtain ⟨v, q, rfl, r1, _⟩ := RepVs.cons_iff.mp r
    simp at e; subst e
    exact ⟨v, rfl, r1⟩
  | _ :: ps, _, i + 1, _, r, e => by
    obtain ⟨v, q, rfl, _, r2⟩ := RepVs.cons_iff.mp r
    obtain ⟨v, e', r'⟩ := RepVs.get (i := i) r2 (by simpa using e)
    exact ⟨v, by simpa using e', r'⟩
theorem RepVs.append : ∀ {xs ys : List PV} {vs ws : List V}, RepVs K H xs vs → RepVs K H ys ws → RepVs K H (xs ++ ys) (vs ++ ws)
  | [], _, _, _, r, s => by rw [RepVs.nil_iff.mp r]; exact s
  | _ :: ps, _, _, _, r, s => by
    obtain ⟨v, q, rfl, r1, r2⟩ := RepVs.cons_iff.mp r
    exact RepVs.cons_iff.mpr ⟨v, _, rfl, r1, RepVs.append r2 s⟩
theorem RepVs.take : ∀ {xs : List PV} {vs : List V} (n : Nat), RepVs K H xs vs → RepVs K H (xs.take n) (vs.take n)
  | _, _, 0, _ => by simp [RepVs.nil_iff]
  | [], _, n + 1, r => by rw [RepVs.nil_iff.mp r]; simp [RepVs.nil_iff]
  | _ :: ps, _, n + 1, r => by
    obtain ⟨v, q, rfl, r1, r2⟩ := RepVs.cons_iff.mp r
    exact RepVs.cons_iff.mpr ⟨v, _, rfl, r1, RepVs.take n r2⟩
theorem RepVs.drop : ∀ {xs : List PV} {vs : List V} (n : Nat), RepVs K H xs vs → RepVs K H (xs.drop n) (vs.drop n)
  | _, _, 0, r => by simpa using r
  | [], _, n + 1, r => by rw [RepVs.nil_iff.mp r]; simp [RepVs.nil_iff]
  | _ :: ps, _, n + 1, r => by
    obtain ⟨v, q, rfl, r1, r2⟩ := RepVs.cons_iff.mp r
    exact RepVs.drop n r2
theorem RepVs.set : ∀ {xs : List PV} {vs : List V} (i : Nat) {pv : PV} {v : V}, RepV K H pv v → RepVs K H xs vs → RepVs K H (xs.set i pv) (vs.set i v)
  | [], _, _, _, _, _, r => by rw [RepVs.nil_iff.mp r]; simp [RepVs.nil_iff]
  | _ :: ps, _, 0, _, _, q, r => by
    obtain ⟨v, w, rfl, r1, r2⟩ := RepVs.cons_iff.mp r
    exact RepVs.cons_iff.mpr ⟨_, _, rfl, q, r2⟩
  | _ :: ps, _, i + 1, _, _, q, r => by
    obtain ⟨v, w, rfl, r1, r2⟩ := RepVs.cons_iff.mp r
    exact RepVs.cons_iff.mpr ⟨_, _, rfl, r1, RepVs.set i q r2⟩
theorem RepVs.eraseIdx : ∀ {xs : List PV} {vs : List V} (i : Nat), RepVs K H xs vs → RepVs K H (xs.eraseIdx i) (vs.eraseIdx i)
  | [], _, _, r => by rw [RepVs.nil_iff.mp r]; simp [RepVs.nil_iff]
  | _ :: ps, _, 0, r => by
    obtain ⟨v, w, rfl, r1, r2⟩ := RepVs.cons_iff.mp r
    exact r2
  | _ :: ps, _, i + 1, r => by
    obtain ⟨v, w, rfl, r1, r2⟩ := RepVs.cons_iff.mp r
    exact RepVs.cons_iff.mpr ⟨_, _, rfl, r1, RepVs.eraseIdx i r2⟩
theorem RepVs.dropLast (r : RepVs K H xs vs) : RepVs K H xs.dropLast vs.dropLast := by
  rw [List.dropLast_eq_take, List.dropLast_eq_take, r.length]
  exact r.take _
theorem RepVs.reverse : ∀ {xs : List PV} {vs : List V}, RepVs K H xs vs → RepVs K H xs.reverse vs.reverse
  | [], _, r => by rw [RepVs.nil_iff.mp r]; simp [RepVs.nil_iff]
  | _ :: ps, _, r => by
    obtain ⟨v, w, rfl, r1, r2⟩ := RepVs.cons_iff.mp r
    (rw [List.reverse_cons]; rw [List.reverse_cons])
    exact (RepVs.reverse r2).append (RepVs.cons_iff.mpr ⟨_, _, rfl, r1, RepVs.nil_iff.mpr rfl⟩)
theorem Fr.new {o : PO} {u : HO} (e : H p = none) : Fr h H (pupd h p o) (upd H p u) := fun b w x y => by
  have hb : b ≠ p := fun z => by subst z; rw [e] at y; cases y
  exact ⟨by unfold pupd; rw [if_neg hb]; exact x, by rw [upd_ne hb]; exact y⟩
theorem Fr.tup {u : HO} (e : H p = none) : Fr h H h (upd H p u) := fun b w x y => by
  have hb : b ≠ p := fun z => by subst z; rw [e] at y; cases y
  exact ⟨x, by rw [upd_ne hb]; exact y⟩
theorem Fr.set {o o' : PO} {u : HO} (e : h a = some o) : Fr h H (pupd h a o') (upd H a u) := fun b w x y => by
  have hb : b ≠ a := fun z => by subst z; rw [e] at x; cases x
  exact ⟨by unfold pupd; rw [if_neg hb]; exact x, by rw [upd_ne hb]; exact y⟩
theorem RepO.keep {o : PO} (rh : RepH K h H) (f : Fr h H h' H') (e : H' a = H a) (r : RepO K H a o) : RepO K H' a o := by
  cases o with
  | lst xs => obtain ⟨vs, q, r⟩ := r; exact ⟨vs, e.trans q, r.keep rh f⟩
theorem RepH.new (rh : RepH K h H) (e : H p = none) (r : RepVs K H xs vs) : RepH K (pupd h p (.lst xs)) (upd H p (.lst vs)) := fun b o q => by
  have f : Fr h H (pupd h p (.lst xs)) (upd H p (.lst vs)) := Fr.new e
  by_cases hb : b = p
  · subst hb
    unfold pupd at q; rw [if_pos rfl] at q; cases q
    exact ⟨vs, upd_same, r.keep rh f⟩
  · unfold pupd at q; rw [if_neg hb] at q
    exact (rh b o q).keep rh f (upd_ne hb)
theorem RepH.tup {u : HO} (rh : RepH K h H) (e : H p = none) : RepH K h (upd H p u) := fun b o q => by
  have hb : b ≠ p := fun z => by subst z; rw [rh.free e] at q; cases q
  exact (rh b o q).keep rh (Fr.tup e) (upd_ne hb)
theorem RepH.set {o : PO} (rh : RepH K h H) (e : h a = some o) (r : RepVs K H xs vs) : RepH K (pupd h a (.lst xs)) (upd H a (.lst vs)) := fun b o q => by
  have f : Fr h H (pupd h a (.lst xs)) (upd H a (.lst vs)) := Fr.set e
  by_cases hb : b = a
  · subst hb
    unfold pupd at q; rw [if_pos rfl] at q; cases q
    exact ⟨vs, upd_same, r.keep rh f⟩
  · unfold pupd at q; rw [if_neg hb] at q
    exact (rh b o q).keep rh f (upd_ne hb)
end
def Lk (K : PySem.W.Frag) (h : PH) (H : Hp) (Q' : QK) (Q : VK) : Prop := ∀ pv h' v H', RepV K H' pv v → RepH K h' H' → Fr h H h' H' → Q' pv h' → Q v H'
def LkA (K : PySem.W.Frag) (h : PH) (H : Hp) (Q' : List PV → PH → Prop) (Q : List V → Hp → Prop) : Prop := ∀ pv h' v H', RepVs K H' pv v → RepH K h' H' → Fr h H h' H' → Q' pv h' → Q v H'
/-- a thing that is the same on both sides -/
def LkC {α : Type} (K : PySem.W.Frag) (h : PH) (H : Hp) (Q' : α → PH → Prop) (Q : α → Hp → Prop) : Prop := ∀ b h' H', RepH K h' H' → Fr h H h' H' → Q' b h' → Q b H'
def LkS (K : PySem.W.Frag) (h : PH) (H : Hp) (Q' : Sl → PH → Prop) (Q : L2.St → Hp → Prop) : Prop := ∀ pσ h' σ H', RepS K H' pσ σ → RepH K h' H' → Fr h H h' H' → Q' pσ h' → Q σ H'
def RepX (ea : Nat → Addr) : PX → Value → Option Addr → Prop
  | .own c, cls, d => cls = .ref (ea c) ∧ d = none
def LkX (ea : Nat → Addr) (K : PySem.W.Frag) (h : PH) (H : Hp) (X' : XK) (σ : L2.St) (W : WX) : Prop := ∀ x h' cls d H', RepX ea x cls d → RepH K h' H' → Fr h H h' H' → X' x h' → W cls d σ H'
def LkXS (ea : Nat → Addr) (K : PySem.W.Frag) (h : PH) (H : Hp) (X' : PX → Sl → PH → Prop) (W : WX) : Prop := ∀ x pσ h' cls d σ H', RepX ea x cls d → RepS K H' pσ σ → RepH K h' H' → Fr h H h' H' → X' x pσ h' → W cls d σ H'
section
variable {K : PySem.W.Frag} {h h' : PH} {H H' : Hp} {ea : Nat → Addr} {α : Type}
theorem Lk.keep {Q' : QK} {Q : VK} (l : Lk K h H Q' Q) (f : Fr h H h' H') : Lk K h' H' Q' Q := fun pv h2 v H2 r rh g q => l pv h2 v H2 r rh (f.trans g) q
theorem LkA.keep {Q' : List PV → PH → Prop} {Q : List V → Hp → Prop} (l : LkA K h H Q' Q) (f : Fr h H h' H') : LkA K h' H' Q' Q := fun pv h2 v H2 r rh g q => l pv h2 v H2 r rh (f.trans g) q
theorem LkC.keep {Q' : α → PH → Prop} {Q : α → Hp → Prop} (l : LkC K h H Q' Q) (f : Fr h H h' H') : LkC K h' H' Q' Q := fun b h2 H2 rh g q => l b h2 H2 rh (f.trans g) q
theorem LkS.keep {Q' : Sl → PH → Prop} {Q : L2.St → Hp → Prop} (l : LkS K h H Q' Q) (f : Fr h H h' H') : LkS K h' H' Q' Q := fun b h2 v H2 r rh g q => l b h2 v H2 r rh (f.trans g) q
theorem LkX.keep {X' : XK} {σ : L2.St} {W : WX} (l : LkX ea K h H X' σ W) (f : Fr h H h' H') : LkX ea K h' H' X' σ W := fun x h2 c d H2 r rh g q => l x h2 c d H2 r rh (f.trans g) q
theorem LkXS.keep {X' : PX → Sl → PH → Prop} {W : WX} (l : LkXS ea K h H X' W) (f : Fr h H h' H') : LkXS ea K h' H' X' W := fun x p h2 c d σ H2 r rs rh g q => l x p h2 c d σ H2 r rs rh (f.trans g) q
end
section
variable (ea : Nat → Addr) (K : PySem.W.Frag) (W : WX)
/-- an expression's -/
def lE (t : Sl → PH → QK → XK → Prop) : TE := fun σ H Q => ∃ pσ h Q' X', RepS K H pσ σ ∧ RepH K h H ∧ t pσ h Q' X' ∧ Lk K h H Q' Q ∧ LkX ea K h H X' σ W
def lA (t : Sl → PH → (List PV → PH → Prop) → XK → Prop) : TA := fun σ H Q => ∃ pσ h Q' X', RepS K H pσ σ ∧ RepH K h H ∧ t pσ h Q' X' ∧ LkA K h H Q' Q ∧ LkX ea K h H X' σ W
def lC {α : Type} (t : Sl → PH → (α → PH → Prop) → XK → Prop) : L2.St → Hp → (α → Hp → Prop) → Prop := fun σ H Q => ∃ pσ h Q' X', RepS K H pσ σ ∧ RepH K h H ∧ t pσ h Q' X' ∧ LkC K h H Q' Q ∧ LkX ea K h H X' σ W
end
section
variable {ea : Nat → Addr} {K : PySem.W.Frag} {W : WX} {σ : L2.St} {H : Hp} {X : Cx}
theorem PE.imp {e : Expr} {t t' : TE} (p : PE X e t') (h : ∀ σ H Q, t σ H Q → t' σ H Q) : PE X e t := ⟨fun pins s σ H Q I q => p.run pins s σ H Q I (h σ H Q q)⟩
theorem PT.imp {e : Expr} {t t' : TT} (p : PT X e t') (h : ∀ σ H Q, t σ H Q → t' σ H Q) : PT X e t := ⟨fun pins s σ H Q I q => p.run pins s σ H Q I (h σ H Q q)⟩
theorem PA.imp {e : List Expr} {t t' : TA} (p : PA X e t') (h : ∀ σ H Q, t σ H Q → t' σ H Q) : PA X e t := ⟨fun pos pins s σ H Q I q => p.run pos pins s σ H Q I (h σ H Q q)⟩
theorem PS.imp {e : Stmt} {t t' : TS} (p : PS X e t') (h : ∀ D σ H, t D σ H → t' D σ H) : PS X e t := ⟨fun pins s σ H D I q => p.run pins s σ H D I (h D σ H q)⟩
theorem PSs.imp {e : List Stmt} {t t' : TS} (p : PSs X e t') (h : ∀ D σ H, t D σ H → t' D σ H) : PSs X e t := ⟨fun pins s σ H D I q => p.run pins s σ H D I (h D σ H q)⟩
theorem PG.imp {e : Expr} {t t' : TG} (p : PG X e t') (h : ∀ v σ H Q, t v σ H Q → t' v σ H Q) : PG X e t := ⟨fun pins s σ H v u Q I r q => p.run pins s σ H v u Q I r (h v σ H Q q)⟩
/-- one part, then what follows -/
theorem lE_seq {β : Type} {γ : Type} {LQ : PH → Hp → (β → PH → Prop) → γ → Prop} {ta : Sl → PH → QK → XK → Prop} {tk : PV → Sl → PH → (β → PH → Prop) → XK → Prop} {Q : γ} {R : VK}
    (hl : ∀ {h h' : PH} {H H' : Hp} {Q' : β → PH → Prop}, LQ h H Q' Q → Fr h H h' H' → LQ h' H' Q' Q)
    (h : ∃ pσ h Q' X', RepS K H pσ σ ∧ RepH K h H ∧ ta pσ h (fun x h1 => tk x pσ h1 Q' X') X' ∧ LQ h H Q' Q ∧ LkX ea K h H X' σ W)
    (hk : ∀ pσ h1 pv v H1 Q' X', Ks K H H1 → RepS K H1 pσ σ → RepH K h1 H1 → RepV K H1 pv v → tk pv pσ h1 Q' X' → LQ h1 H1 Q' Q → LkX ea K h1 H1 X' σ W → R v H1) : lE ea K W ta σ H R := by
  obtain ⟨pσ, h, Q', X', rs, rh, ht, lk, lx⟩ := h
  exact ⟨pσ, h, _, X', rs, rh, ht, fun pv h1 v H1 rv rh1 fr q => hk pσ h1 pv v H1 Q' X' (Ks.keep rh fr) (rs.keep rh fr) rh1 rv q (hl lk fr) (lx.keep fr), lx⟩
theorem lA_seq {β : Type} {γ : Type} {LQ : PH → Hp → (β → PH → Prop) → γ → Prop} {ta : Sl → PH → (List PV → PH → Prop) → XK → Prop} {tk : List PV → Sl → PH → (β → PH → Prop) → XK → Prop} {Q : γ} {R : List V → Hp → Prop}
    (hl : ∀ {h h' : PH} {H H' : Hp} {Q' : β → PH → Prop}, LQ h H Q' Q → Fr h H h' H' → LQ h' H' Q' Q)
    (h : ∃ pσ h Q' X', RepS K H pσ σ ∧ RepH K h H ∧ ta pσ h (fun x h1 => tk x pσ h1 Q' X') X' ∧ LQ h H Q' Q ∧ LkX ea K h H X' σ W)
    (hk : ∀ pσ h1 pv v H1 Q' X', Ks K H H1 → RepS K H1 pσ σ → RepH K h1 H1 → RepVs K H1 pv v → tk pv pσ h1 Q' X' → LQ h1 H1 Q' Q → LkX ea K h1 H1 X' σ W → R v H1) : lA ea K W ta σ H R := by
  obtain ⟨pσ, h, Q', X', rs, rh, ht, lk, lx⟩ := h
  exact ⟨pσ, h, _, X', rs, rh, ht, fun pv h1 v H1 rv rh1 fr q => hk pσ h1 pv v H1 Q' X' (Ks.keep rh fr) (rs.keep rh fr) rh1 rv q (hl lk fr) (lx.keep fr), lx⟩
theorem lC_seq {α : Type} {β : Type} {γ : Type} {LQ : PH → Hp → (β → PH → Prop) → γ → Prop} {ta : Sl → PH → (α → PH → Prop) → XK → Prop} {tk : α → Sl → PH → (β → PH → Prop) → XK → Prop} {Q : γ} {R : α → Hp → Prop}
    (hl : ∀ {h h' : PH} {H H' : Hp} {Q' : β → PH → Prop}, LQ h H Q' Q → Fr h H h' H' → LQ h' H' Q' Q)
    (h : ∃ pσ h Q' X', RepS K H pσ σ ∧ RepH K h H ∧ ta pσ h (fun x h1 => tk x pσ h1 Q' X') X' ∧ LQ h H Q' Q ∧ LkX ea K h H X' σ W)
    (hk : ∀ pσ h1 b H1 Q' X', Ks K H H1 → RepS K H1 pσ σ → RepH K h1 H1 → tk b pσ h1 Q' X' → LQ h1 H1 Q' Q → LkX ea K h1 H1 X' σ W → R b H1) : lC ea K W ta σ H R := by
  obtain ⟨pσ, h, Q', X', rs, rh, ht, lk, lx⟩ := h
  exact ⟨pσ, h, _, X', rs, rh, ht, fun b h1 H1 rh1 fr q => hk pσ h1 b H1 Q' X' (Ks.keep rh fr) (rs.keep rh fr) rh1 q (hl lk fr) (lx.keep fr), lx⟩
end
section
variable (K : PySem.W.Frag)
def Ok1 (s : PV → PH → QK → Prop) (r : V → Hp → VK → Prop) : Prop := ∀ x h Q' vx H Q, RepV K H x vx → RepH K h H → s x h Q' → Lk K h H Q' Q → r vx H Q
def Ok2 (s : PV → PV → PH → QK → Prop) (r : R2) : Prop := ∀ x y h Q' vx vy H Q, RepV K H x vx → RepV K H y vy → RepH K h H → s x y h Q' → Lk K h H Q' Q → r vx vy H Q
def OkL (s : List PV → PH → QK → Prop) (r : List V → Hp → VK → Prop) : Prop := ∀ xs h Q' vs H Q, RepVs K H xs vs → RepH K h H → s xs h Q' → Lk K h H Q' Q → r vs H Q
end
section
variable {K : PySem.W.Frag} {h : PH} {H : Hp} {v : V}
theorem rep_int {i : Int} (r : RepV K H (.int i) v) : v = .int i := by unfold RepV at r; exact r
theorem rep_bl {i : Bool} (r : RepV K H (.bl i) v) : v = .bl i := by unfold RepV at r; exact r
theorem rep_str {i : Str} (r : RepV K H (.str i) v) : v = .str i := by unfold RepV at r; exact r
theorem rep_non (r : RepV K H .non v) : v = .non := by unfold RepV at r; exact r
theorem rep_ref {a : Nat} (r : RepV K H (.ref a) v) : v = .ref a := by unfold RepV at r; exact r
theorem rep_tup {l : List PV} (r : RepV K H (.tup l) v) : ∃ a vs, v = .ref a ∧ SqT K H a vs ∧ RepVs K H l vs := by unfold RepV at r; exact r
theorem rep_rol {l : List PV} (r : RepV K H (.rol l) v) : ∃ a vs, v = .ref a ∧ FzL K H a vs ∧ RepVs K H l vs := by unfold RepV at r; exact r
theorem int_rep {i : Int} : RepV K H (.int i) (.int i) := by unfold RepV; rfl
theorem bl_rep {i : Bool} : RepV K H (.bl i) (.bl i) := by unfold RepV; rfl
theorem str_rep {i : Str} : RepV K H (.str i) (.str i) := by unfold RepV; rfl
theorem non_rep : RepV K H .non .non := by unfold RepV; rfl
theorem ref_rep {a : Nat} : RepV K H (.ref a) (.ref a) := by unfold RepV; rfl
theorem rol_rep {l : List PV} {a : Addr} {vs : List V} (q : FzL K H a vs) (r : RepVs K H l vs) : RepV K H (.rol l) (.ref a) := by unfold RepV; exact ⟨a, vs, rfl, q, r⟩
theorem tup_rep {l : List PV} {a : Addr} {vs : List V} (q : SqT K H a vs) (r : RepVs K H l vs) : RepV K H (.tup l) (.ref a) := by unfold RepV; exact ⟨a, vs, rfl, q, r⟩
/-- a list that is read -/
theorem rdL_rep {a : Nat} {xs : List PV} (rh : RepH K h H) (e : rdL h a = some xs) : ∃ vs, SqL K H a vs ∧ RepVs K H xs vs := by
  unfold rdL at e
  split at e
  · rename_i ys q
    cases e
    obtain ⟨vs, e', r⟩ := rh a _ q
    exact ⟨vs, .inl (.inl e'), r⟩
  · cases e
/-- a list or tuple that is read -/
theorem seqOf_rep {x : PV} {xs : List PV} (rv : RepV K H x v) (rh : RepH K h H) (e : seqOf x h = some xs) : ∃ p vs, v = .ref p ∧ (SqL K H p vs ∨ SqT K H p vs) ∧ RepVs K H xs vs := by
  unfold seqOf at e
  split at e
  · cases e
    obtain ⟨a, vs, e', q, r⟩ := rep_tup rv
    exact ⟨a, vs, e', .inr q, r⟩
  · cases e
    obtain ⟨a, vs, e', q, r⟩ := rep_rol rv
    exact ⟨a, vs, e', .inl q.sq, r⟩
  · obtain ⟨vs, q, r⟩ := rdL_rep rh e
    exact ⟨_, vs, rep_ref rv, .inl q, r⟩
  · cases e
/-- a list laid anew -/
theorem newL_rep {xs : List PV} {vs : List V} {Q' : QK} {Q : VK} (rh : RepH K h H) (r : RepVs K H xs vs) (n : newL h xs Q') (lk : Lk K h H Q' Q) : ∀ p, H p = none → Q (.ref p) (upd H p (.lst vs)) := fun p e =>
  lk _ _ _ _ ref_rep (rh.new e r) (Fr.new e) (n p (rh.free e))
theorem newT_rep {xs : List PV} {vs : List V} {Q' : QK} {Q : VK} (rh : RepH K h H) (r : RepVs K H xs vs) (n : Q' (.tup xs) h) (lk : Lk K h H Q' Q) : ∀ p, H p = none → Q (.ref p) (upd H p (.tup vs)) := fun p e =>
  lk _ _ _ _ (tup_rep (SqT.of upd_same) (r.keep rh (Fr.tup e))) (rh.tup e) (Fr.tup e) n
end
end Co
namespace Co
open PySem L2
open PySem.Spec PyProof.Rows
theorem line16 : sizeLine = 16777216 := sizeLine_eq
section
variable {K : PySem.W.Frag} {X : Cx} {h : PH} {H : Hp}
theorem OpR.imp {f : Value → Value → Sem Value} {r r' : R2} (h : OpR X f r') (i : ∀ x y H Q, r x y H Q → r' x y H Q) : OpR X f r := fun pins s σ H x y v u Q I rx ry q => h pins s σ H x y v u Q I rx ry (i x y H Q q)
def rStr2 : R2 := fun x y H Q => ∃ i j, x = .str i ∧ y = .str j ∧ i.length + j.length ≤ sizeLine ∧ Q (.str (i ++ j)) H
def rAdd (K : PySem.W.Frag) : R2 := fun x y H Q => rI0 (fun i j => .int (i + j)) x y H Q ∨ rStr2 x y H Q ∨ rCatA K x y H Q ∨ rCat x y H Q
theorem r_add : OpR X (binaryOp .Add) (rAdd X.K) := op_add.or (op_add_str.or (op_catA.or op_cat))
theorem ok_add : Ok2 K (bopS .add) (rAdd K) := by
  intro x y h Q' vx vy H Q rx ry rh q lk
  cases x <;> cases y <;> try exact False.elim q
  · rename_i i j
    exact .inl ⟨i, j, rep_int rx, rep_int ry, lk _ _ _ _ int_rep rh Fr.refl q⟩
  · rename_i i j
    exact .inr (.inl ⟨i, j, rep_str rx, rep_str ry, by rw [line16]; exact q.1, lk _ _ _ _ str_rep rh Fr.refl q.2⟩)
  · rename_i l m
    obtain ⟨a, vs, ea, qa, ra⟩ := rep_tup rx
    obtain ⟨b, ws, eb, qb, rb⟩ := rep_tup ry
    obtain ⟨q1, q2⟩ : l.length + m.length ≤ 16777216 ∧ Q' (.tup (l ++ m)) h := q
    refine .inr (.inr (.inl ⟨a, b, vs, ws, ea, eb, qa, qb, by rw [line16, ← ra.length, ← rb.length]; exact q1, fun e => ?_, fun _ e => ?_, fun _ _ => ?_⟩))
    · subst e
      have hl : l = [] := List.length_eq_zero_iff.mp ra.length
      subst hl
      exact lk _ _ _ _ (tup_rep qb rb) rh Fr.refl q2
    · subst e
      have hl : m = [] := List.length_eq_zero_iff.mp rb.length
      subst hl
      rw [List.append_nil] at q2
      exact lk _ _ _ _ (tup_rep qa ra) rh Fr.refl q2
    · exact newT_rep rh (ra.append rb) q2 lk
  · rename_i a b
    have q' : (match h a, h b with
      | some (.lst xs), some (.lst ys) => xs.length + ys.length ≤ 16777216 ∧ newL h (xs ++ ys) Q'
      | _, _ => False) := q
    split at q'
    · rename_i xs ys ha hb
      obtain ⟨vs, ea, ra⟩ := rh _ _ ha
      obtain ⟨ws, eb, rb⟩ := rh _ _ hb
      exact .inr (.inr (.inr ⟨a, b, vs, ws, rep_ref rx, rep_ref ry, ea, eb, by rw [line16, ← ra.length, ← rb.length]; exact q'.1, newL_rep rh (ra.append rb) q'.2 lk⟩))
    · exact q'.elim
theorem r_sub : OpR X (binaryOp .Sub) (rI0 fun i j => .int (i - j)) := op_sub
theorem ok_int {C : Int → Int → Prop} {g : Int → Int → Int} {s : PV → PV → PH → QK → Prop} (hs : ∀ x y h Q, s x y h Q → ∃ i j, x = .int i ∧ y = .int j ∧ C i j ∧ Q (.int (g i j)) h) : Ok2 K s (rI C fun i j => .int (g i j)) := by
  intro x y h Q' vx vy H Q rx ry rh q lk
  obtain ⟨i, j, rfl, rfl, c, q1⟩ := hs x y h Q' q
  exact ⟨i, j, rep_int rx, rep_int ry, c, lk _ _ _ _ int_rep rh Fr.refl q1⟩
theorem ok_int0 {g : Int → Int → Int} {s : PV → PV → PH → QK → Prop} (hs : ∀ x y h Q, s x y h Q → ∃ i j, x = .int i ∧ y = .int j ∧ Q (.int (g i j)) h) : Ok2 K s (rI0 fun i j => .int (g i j)) := by
  intro x y h Q' vx vy H Q rx ry rh q lk
  obtain ⟨i, j, rfl, rfl, q1⟩ := hs x y h Q' q
  exact ⟨i, j, rep_int rx, rep_int ry, lk _ _ _ _ int_rep rh Fr.refl q1⟩
theorem ok_sub : Ok2 K (bopS .sub) (rI0 fun i j => .int (i - j)) := ok_int0 fun x y h Q q => by
  cases x <;> cases y <;> first | exact False.elim q | exact ⟨_, _, rfl, rfl, q⟩
def rMul (K : PySem.W.Frag) : R2 := fun x y H Q => rI CMulW (fun i j => .int (i * j)) x y H Q ∨ rRep x y H Q ∨ rRepT K x y H Q
theorem r_mul : OpR X (binaryOp .Mult) (rMul X.K) := op_mulW.or (op_rep.or op_repT)
theorem rep_times {xs : List PV} {vs : List V} (r : RepVs K H xs vs) : ∀ n : Nat, RepVs K H (List.replicate n xs).flatten (List.replicate n vs).flatten
  | 0 => by simp only [List.replicate_zero, List.flatten_nil, RepVs]
  | n + 1 => by
    simp only [List.replicate_succ, List.flatten_cons]
    exact r.append (rep_times r n)
theorem ok_mul : Ok2 K (bopS .mul) (rMul K) := by
  intro x y h Q' vx vy H Q rx ry rh q lk
  cases x <;> cases y <;> try exact False.elim q
  · rename_i i j
    exact .inl ⟨i, j, rep_int rx, rep_int ry, q.1, lk _ _ _ _ int_rep rh Fr.refl q.2⟩
  · rename_i l n
    obtain ⟨a, vs, ea, qa, ra⟩ := rep_tup rx
    obtain ⟨q1, q2, q3, q4⟩ : (2 ≤ n ∧ n ≤ 1000) ∧ l ≠ [] ∧ l.length ≤ 1000 ∧ Q' (.tup (List.replicate n.toNat l).flatten) h := q
    refine .inr (.inr ⟨a, n, vs, ea, rep_int ry, qa, ?_, q1.1, q1.2, by rw [← ra.length]; exact q3, newT_rep rh (rep_times ra _) q4 lk⟩)
    intro e
    subst e
    exact q2 (List.length_eq_zero_iff.mp ra.length)
  · rename_i a n
    have q' : (match rdL h a with
      | some xs => (-(2 ^ 63) ≤ n ∧ n < 2 ^ 63) ∧ xs.length * n.toNat ≤ 16777216 ∧ newL h (List.replicate n.toNat xs).flatten Q'
      | none => False) := q
    split at q'
    · rename_i xs hr
      have ha : h a = some (.lst xs) := by
        unfold rdL at hr
        split at hr
        · rename_i ys hy; cases hr; exact hy
        · cases hr
      obtain ⟨vs, ea, ra⟩ := rh _ _ ha
      exact .inr (.inl ⟨a, n, vs, rep_ref rx, rep_int ry, ea, q'.1.1, q'.1.2, by rw [line16, ← ra.length]; exact q'.2.1, newL_rep rh (rep_times ra _) q'.2.2 lk⟩)
    · exact q'.elim
theorem ok_fdiv : Ok2 K (bopS .fdiv) (rI CDivW fun i j => .int (i / j)) := ok_int fun x y h Q q => by
  cases x <;> cases y <;> first | exact False.elim q | exact ⟨_, _, rfl, rfl, q.1, q.2⟩
theorem ok_mod : Ok2 K (bopS .mod) (rI (fun _ j => 0 < j) fun i j => .int (i % j)) := ok_int fun x y h Q q => by
  cases x <;> cases y <;> first | exact False.elim q | exact ⟨_, _, rfl, rfl, q.1, q.2⟩
theorem ok_pow : Ok2 K (bopS .pow) (rI L2.CPow fun i j => .int (i ^ j.toNat)) := ok_int fun x y h Q q => by
  cases x <;> cases y <;> first | exact False.elim q | exact ⟨_, _, rfl, rfl, q.1, q.2⟩
/-- the operator's name in the text -/
def opOf : Operator → Option Bop
  | .Add => some .add | .Sub => some .sub | .Mult => some .mul | .FloorDiv => some .fdiv | .Mod => some .mod | .Pow => some .pow | _ => none
theorem r_bop {op : Operator} {b : Bop} (e : opOf op = some b) : ∃ r, OpR X (binaryOp op) r ∧ Ok2 X.K (bopS b) r := by
  cases op <;> cases e
  · exact ⟨_, r_add, ok_add⟩
  · exact ⟨_, op_sub, ok_sub⟩
  · exact ⟨_, r_mul, ok_mul⟩
  · exact ⟨_, op_mod, ok_mod⟩
  · exact ⟨_, op_pow, ok_pow⟩
  · exact ⟨_, op_fdivW, ok_fdiv⟩
theorem rdL_isEmpty {xs : List PV} {vs : List V} (r : RepVs K H xs vs) : (!xs.isEmpty) = !vs.isEmpty := by
  have := r.length
  cases xs <;> cases vs <;> simp at this ⊢
theorem ok_tru {x : PV} {vx : V} {Q' : Bool → PH → Prop} {Q : Bool → Hp → Prop} (rx : RepV K H x vx) (rh : RepH K h H) (q : truS x h Q') (lk : LkC K h H Q' Q) : ∃ k, TruV K vx H k ∧ Q k H := by
  cases x with
  | non => rw [rep_non rx]; exact ⟨false, rfl, lk _ _ _ rh Fr.refl q⟩
  | bl b => rw [rep_bl rx]; exact ⟨b, rfl, lk _ _ _ rh Fr.refl q⟩
  | int i => rw [rep_int rx]; exact ⟨_, rfl, lk _ _ _ rh Fr.refl q⟩
  | str s =>
    rw [rep_str rx]
    obtain ⟨q1, q2⟩ : s.length ≤ 16777216 ∧ Q' (s.length != 0) h := q
    refine ⟨s.length != 0, ⟨by rw [line16]; exact q1, ?_⟩, lk _ _ _ rh Fr.refl q2⟩
    cases hs : s.length with
    | zero => rfl
    | succ n =>
      symm
      rw [show ((n + 1 : Nat) != 0) = true from rfl]
      simp only [bne_iff_ne]; omega
  | tup l =>
    obtain ⟨a, vs, e, q1, r⟩ := rep_tup rx
    subst e
    exact ⟨!l.isEmpty, .inr (.inl ⟨vs, q1, rdL_isEmpty r⟩), lk _ _ _ rh Fr.refl q⟩
  | rol l =>
    obtain ⟨a, vs, e, q1, r⟩ := rep_rol rx
    subst e
    exact ⟨!l.isEmpty, .inl ⟨vs, q1.sq, rdL_isEmpty r⟩, lk _ _ _ rh Fr.refl q⟩
  | ref a =>
    rw [rep_ref rx]
    have q' : (match rdL h a with | some xs => Q' (!xs.isEmpty) h | none => False) := q
    split at q'
    · rename_i xs e
      obtain ⟨vs, q1, r⟩ := rdL_rep rh e
      exact ⟨!xs.isEmpty, .inl ⟨vs, q1, rdL_isEmpty r⟩, lk _ _ _ rh Fr.refl q'⟩
    · exact q'.elim
mutual
theorem toD_dp (rh : RepH K h H) : ∀ (n : Nat) (x : PV) (v : V) (d : PyData), RepV K H x v → toD h n x = some d → Dp K H v d ∧ d.canLay0 = true ∧ d.depth ≤ n
  | n, .non, v, d, r, e => by
    rw [rep_non r]
    cases n <;> (simp only [toD] at e; cases e; exact ⟨.non, rfl, Nat.zero_le _⟩)
  | n, .bl b, v, d, r, e => by
    rw [rep_bl r]
    cases n <;> (simp only [toD] at e; cases e; exact ⟨.bl b, rfl, Nat.zero_le _⟩)
  | n, .int i, v, d, r, e => by
    rw [rep_int r]
    cases n <;> (simp only [toD] at e; cases e; exact ⟨.int i, rfl, Nat.zero_le _⟩)
  | n, .str s, v, d, r, e => by
    rw [rep_str r]
    cases n <;> (simp only [toD] at e; split at e <;> first | (cases e; rename_i hs; exact ⟨.str s, hs, Nat.zero_le _⟩) | cases e)
  | 0, .tup _, _, _, _, e => by simp only [toD] at e; cases e
  | 0, .ref _, _, _, _, e => by simp only [toD] at e; cases e
  | 0, .rol _, _, _, _, e => by simp only [toD] at e; cases e
  | n + 1, .rol l, v, d, r, e => by
    obtain ⟨a, vs, ev, q1, r1⟩ := rep_rol r
    subst ev
    simp only [toD] at e
    cases em : l.mapM (toD h n) with
    | none => rw [em] at e; cases e
    | some ds =>
      rw [em] at e; cases e
      obtain ⟨h1, h2, h3⟩ := toDs_dp rh n l vs ds r1 em
      exact ⟨.lst q1.sq h1, h2, Nat.succ_le_succ h3⟩
  | n + 1, .tup l, v, d, r, e => by
    obtain ⟨a, vs, ev, q1, r1⟩ := rep_tup r
    subst ev
    simp only [toD] at e
    cases em : l.mapM (toD h n) with
    | none => rw [em] at e; cases e
    | some ds =>
      rw [em] at e; cases e
      obtain ⟨h1, h2, h3⟩ := toDs_dp rh n l vs ds r1 em
      exact ⟨.tup q1 h1, h2, Nat.succ_le_succ h3⟩
  | n + 1, .ref a, v, d, r, e => by
    rw [rep_ref r]
    simp only [toD] at e
    split at e
    · rename_i xs ex
      obtain ⟨vs, q1, r1⟩ := rdL_rep rh ex
      cases em : xs.mapM (toD h n) with
      | none => rw [em] at e; cases e
      | some ds =>
        rw [em] at e; cases e
        obtain ⟨h1, h2, h3⟩ := toDs_dp rh n xs vs ds r1 em
        exact ⟨.lst q1 h1, h2, Nat.succ_le_succ h3⟩
    · cases e
theorem toDs_dp (rh : RepH K h H) : ∀ (n : Nat) (xs : List PV) (vs : List V) (ds : List PyData), RepVs K H xs vs → xs.mapM (toD h n) = some ds → DpAll K H vs ds ∧ PyData.canLayAll0 ds = true ∧ PyData.depthAll ds ≤ n
  | n, [], vs, ds, r, e => by
    rw [RepVs.nil_iff.mp r]
    simp only [List.mapM_nil] at e
    cases e
    exact ⟨.nil, rfl, Nat.zero_le _⟩
  | n, x :: xs, vs, ds, r, e => by
    obtain ⟨v, w, rfl, r1, r2⟩ := RepVs.cons_iff.mp r
    rw [List.mapM_cons] at e
    cases e1 : toD h n x with
    | none => rw [e1] at e; cases e
    | some d =>
      rw [e1] at e
      cases e2 : xs.mapM (toD h n) with
      | none => rw [e2] at e; cases e
      | some es =>
        rw [e2] at e; cases e
        obtain ⟨a1, a2, a3⟩ := toD_dp rh n x v d r1 e1
        obtain ⟨b1, b2, b3⟩ := toDs_dp rh n xs w es r2 e2
        refine ⟨.cons a1 b1, ?_, ?_⟩
        · simp only [PyData.canLayAll0, a2, b2, Bool.and_self]
        · simp only [PyData.depthAll]; omega
end
end
end Co
namespace Co
open PySem L2
open PySem.Spec PyProof.Rows
section
variable {K : PySem.W.Frag} {X : Cx} {h : PH} {H : Hp}
def cmpOf : CmpOp → Option Cop
  | .Eq => some .eq | .NotEq => some .ne | .Lt => some .lt | .LtE => some .le | .Gt => some .gt | .GtE => some .ge | .Is => some .is | .IsNot => some .isnot | .In => some .In | .NotIn => some .notin
/-- == as the layer's two rules have it -/
theorem ok_eqS {x y : PV} {vx vy : V} {q' : Bool → Prop} (rx : RepV K H x vx) (ry : RepV K H y vy) (rh : RepH K h H) (q : eqS x y h q') :
    (scal vx vy = true ∧ q' (decide (vx = vy))) ∨ ∃ d e, Dp K H vx d ∧ Dp K H vy e ∧ SeqAt.shaped d = true ∧ SeqAt.shaped e = true ∧ q' (PyData.eqv d e) := by
  have gen : (∃ d e, toD h 8 x = some d ∧ toD h 8 y = some e ∧ q' (PyData.eqv d e)) → ∃ d e, Dp K H vx d ∧ Dp K H vy e ∧ SeqAt.shaped d = true ∧ SeqAt.shaped e = true ∧ q' (PyData.eqv d e) := fun ⟨d, e, h1, h2, h3⟩ => by
    obtain ⟨a1, a2, a3⟩ := toD_dp rh 8 x vx d rx h1
    obtain ⟨b1, b2, b3⟩ := toD_dp rh 8 y vy e ry h2
    refine ⟨d, e, a1, b1, ?_, ?_, h3⟩
    · unfold SeqAt.shaped; rw [a2, Bool.true_and]; exact decide_eq_true (by omega)
    · unfold SeqAt.shaped; rw [b2, Bool.true_and]; exact decide_eq_true (by omega)
  cases x <;> cases y <;> first
    | (rw [rep_int rx, rep_int ry]; refine .inl ⟨rfl, ?_⟩; have q2 : q' (decide _) := q; simpa using q2)
    | (rw [rep_bl rx, rep_bl ry]; refine .inl ⟨rfl, ?_⟩; have q2 : q' (decide _) := q; simpa using q2)
    | (rw [rep_str rx, rep_str ry]; refine .inl ⟨rfl, ?_⟩; have q2 : q' (decide _) := q; simpa using q2)
    | (rw [rep_non rx, rep_non ry]; refine .inl ⟨rfl, ?_⟩; have q2 : q' true := q; simpa using q2)
    | exact .inr (gen q)
theorem flat_rep {x : PV} {v : V} (r : RepV K H x v) (f : flat x = true) : flatV v = true := by
  cases x <;> first
    | (rw [rep_int r]; rfl) | (rw [rep_bl r]; rfl) | (rw [rep_str r]; rfl) | (rw [rep_non r]; rfl) | cases f
theorem flats_rep : ∀ {xs : List PV} {vs : List V}, RepVs K H xs vs → xs.all flat = true → vs.all flatV = true
  | [], _, r, _ => by rw [RepVs.nil_iff.mp r]; rfl
  | x :: xs, _, r, f => by
    obtain ⟨v, w, rfl, r1, r2⟩ := RepVs.cons_iff.mp r
    rw [List.all_cons, Bool.and_eq_true] at f ⊢
    exact ⟨flat_rep r1 f.1, flats_rep r2 f.2⟩
def vOf : PV → V
  | .non => .non | .bl b => .bl b | .int i => .int i | .str s => .str s | .tup _ => .non | .ref a => .ref a | .rol _ => .non
theorem vOf_rep {x : PV} {v : V} (r : RepV K H x v) (f : flat x = true) : v = vOf x := by
  cases x with
  | non => exact rep_non r
  | bl b => exact rep_bl r
  | int i => exact rep_int r
  | str s => exact rep_str r
  | tup l => cases f
  | ref a => cases f
  | rol l => cases f
theorem eqF_vOf : ∀ x y : PV, flat x = true → flat y = true → eqV (vOf x) (vOf y) = eqF x y := by
  intro x y f g
  cases x <;> cases y <;> first | rfl | exact absurd f Bool.false_ne_true | exact absurd g Bool.false_ne_true
theorem eqF_rep {x y : PV} {v u : V} (r : RepV K H x v) (s : RepV K H y u) (f : flat x = true) (g : flat y = true) : eqV v u = eqF x y := by
  rw [vOf_rep r f, vOf_rep s g, eqF_vOf x y f g]
theorem inV_rep {x : PV} {v : V} (rx : RepV K H x v) (fx : flat x = true) : ∀ {xs : List PV} {vs : List V}, RepVs K H xs vs → xs.all flat = true → inV v vs = xs.any fun z => eqF z x
  | [], _, r, _ => by rw [RepVs.nil_iff.mp r]; rfl
  | y :: ys, _, r, f => by
    obtain ⟨u, w, rfl, r1, r2⟩ := RepVs.cons_iff.mp r
    (rw [List.all_cons] at f; rw [Bool.and_eq_true] at f)
    show (eqV u v || inV v w) = _
    rw [List.any_cons, eqF_rep r1 rx f.1 fx, inV_rep rx fx r2 f.2]
/-- all comparisons -/
def rEq2 (K : PySem.W.Frag) : R2 := fun x y H Q => rEq x y H Q ∨ rEqD K x y H Q
def rNe2 (K : PySem.W.Frag) : R2 := fun x y H Q => rNe x y H Q ∨ rNeD K x y H Q
theorem ok_eq : Ok2 K (copS .eq) (rEq2 K) := by
  intro x y h Q' vx vy H Q rx ry rh q lk
  rcases ok_eqS (q' := fun b => Q' (.bl b) h) rx ry rh q with ⟨s, q⟩ | ⟨d, e, h1, h2, h3, h4, q⟩
  · exact .inl ⟨s, lk _ _ _ _ bl_rep rh Fr.refl q⟩
  · exact .inr ⟨d, e, h1, h2, h3, h4, lk _ _ _ _ bl_rep rh Fr.refl q⟩
theorem ok_ne : Ok2 K (copS .ne) (rNe2 K) := by
  intro x y h Q' vx vy H Q rx ry rh q lk
  rcases ok_eqS (q' := fun b => Q' (.bl (!b)) h) rx ry rh q with ⟨s, q⟩ | ⟨d, e, h1, h2, h3, h4, q⟩
  · exact .inl ⟨s, lk _ _ _ _ bl_rep rh Fr.refl q⟩
  · exact .inr ⟨d, e, h1, h2, h3, h4, lk _ _ _ _ bl_rep rh Fr.refl q⟩
theorem ok_cmpI {g : Int → Int → Bool} {s : PV → PV → PH → QK → Prop} (hs : ∀ x y h Q, s x y h Q → ∃ i j, x = .int i ∧ y = .int j ∧ Q (.bl (g i j)) h) : Ok2 K s (rI0 fun i j => .bl (g i j)) := by
  intro x y h Q' vx vy H Q rx ry rh q lk
  obtain ⟨i, j, rfl, rfl, q1⟩ := hs x y h Q' q
  exact ⟨i, j, rep_int rx, rep_int ry, lk _ _ _ _ bl_rep rh Fr.refl q1⟩
theorem ok_lt : Ok2 K (copS .lt) (rI0 fun i j => .bl (decide (i < j))) := ok_cmpI fun x y h Q q => by
  cases x <;> cases y <;> first | exact False.elim q | exact ⟨_, _, rfl, rfl, q⟩
theorem ok_le : Ok2 K (copS .le) (rI0 fun i j => .bl (decide (i ≤ j))) := ok_cmpI fun x y h Q q => by
  cases x <;> cases y <;> first | exact False.elim q | exact ⟨_, _, rfl, rfl, q⟩
theorem ok_gt : Ok2 K (copS .gt) (rI0 fun i j => .bl (decide (j < i))) := ok_cmpI fun x y h Q q => by
  cases x <;> cases y <;> first | exact False.elim q | exact ⟨_, _, rfl, rfl, q⟩
theorem ok_ge : Ok2 K (copS .ge) (rI0 fun i j => .bl (decide (j ≤ i))) := ok_cmpI fun x y h Q q => by
  cases x <;> cases y <;> first | exact False.elim q | exact ⟨_, _, rfl, rfl, q⟩
theorem isn_rep {x : PV} {v : V} (r : RepV K H x v) : decide (v = .non) = isnS x := by
  cases x with
  | non => rw [rep_non r]; rfl
  | bl b => rw [rep_bl r]; rfl
  | int i => rw [rep_int r]; rfl
  | str s => rw [rep_str r]; rfl
  | tup l => obtain ⟨a, vs, rfl, _, _⟩ := rep_tup r; rfl
  | rol l => obtain ⟨a, vs, rfl, _, _⟩ := rep_rol r; rfl
  | ref a => rw [rep_ref r]; rfl
theorem ok_is : Ok2 K (copS .is) (fun x y H Q => y = .non ∧ Q (.bl (decide (x = .non))) H) := by
  intro x y h Q' vx vy H Q rx ry rh q lk
  cases y <;> first | exact False.elim q | skip
  exact ⟨rep_non ry, by rw [isn_rep rx]; exact lk _ _ _ _ bl_rep rh Fr.refl q⟩
theorem ok_isnot : Ok2 K (copS .isnot) (fun x y H Q => y = .non ∧ Q (.bl (!decide (x = .non))) H) := by
  intro x y h Q' vx vy H Q rx ry rh q lk
  cases y <;> first | exact False.elim q | skip
  exact ⟨rep_non ry, by rw [isn_rep rx]; exact lk _ _ _ _ bl_rep rh Fr.refl q⟩
theorem ok_inS {x y : PV} {vx vy : V} {q' : Bool → Prop} (rx : RepV K H x vx) (ry : RepV K H y vy) (rh : RepH K h H) (q : inS x y h q') :
    ∃ p xs, vy = .ref p ∧ (SqL K H p xs ∨ SqT K H p xs) ∧ flatV vx = true ∧ xs.all flatV = true ∧ q' (inV vx xs) := by
  unfold inS at q
  split at q
  · rename_i ys e
    obtain ⟨p, vs, e1, e2, r⟩ := seqOf_rep ry rh e
    exact ⟨p, vs, e1, e2, flat_rep rx q.1, flats_rep r q.2.1, by rw [inV_rep rx q.1 r q.2.1]; exact q.2.2⟩
  · exact q.elim
theorem ok_in : Ok2 K (copS .In) (rIn K false) := by
  intro x y h Q' vx vy H Q rx ry rh q lk
  obtain ⟨p, xs, h1, h2, h3, h4, q1⟩ := ok_inS (q' := fun b => Q' (.bl b) h) rx ry rh q
  exact ⟨p, xs, h1, h2, h3, h4, lk _ _ _ _ bl_rep rh Fr.refl q1⟩
theorem ok_notin : Ok2 K (copS .notin) (rIn K true) := by
  intro x y h Q' vx vy H Q rx ry rh q lk
  obtain ⟨p, xs, h1, h2, h3, h4, q1⟩ := ok_inS (q' := fun b => Q' (.bl (!b)) h) rx ry rh q
  exact ⟨p, xs, h1, h2, h3, h4, lk _ _ _ _ bl_rep rh Fr.refl q1⟩
theorem r_cop {op : CmpOp} {c : Cop} (hu : X.A.units + 64 < cLine) (e : cmpOf op = some c) : ∃ r, OpR X (compareOp op) r ∧ Ok2 X.K (copS c) r := by
  cases op <;> cases e
  · exact ⟨_, op_eq.or (op_eqD hu), ok_eq⟩
  · exact ⟨_, op_ne.or (op_neD hu), ok_ne⟩
  · exact ⟨_, op_lt, ok_lt⟩
  · exact ⟨_, op_le, ok_le⟩
  · exact ⟨_, op_gt, ok_gt⟩
  · exact ⟨_, op_ge, ok_ge⟩
  · exact ⟨_, op_isN, ok_is⟩
  · exact ⟨_, op_notN, ok_isnot⟩
  · exact ⟨_, op_in_seq, ok_in⟩
  · exact ⟨_, op_notIn_seq, ok_notin⟩
def tyN : Ty → String
  | .int => "int" | .bool => "bool" | .tuple => "tuple" | .list => "list" | .str => "str"
/-- a value's type -/
def tyP : PV → String
  | .non => "NoneType" | .bl _ => "bool" | .int _ => "int" | .str _ => "str" | .tup _ => "tuple" | .ref _ => "list" | .rol _ => "list"
theorem tyx_rep {x : PV} {v : V} (r : RepV K H x v) (rh : RepH K h H) (g : refOk x h) : TyX K H v (.type (tyP x)) := by
  cases x with
  | non => rw [rep_non r]; exact .base .non
  | bl b => rw [rep_bl r]; exact .base (.bl b)
  | int i => rw [rep_int r]; exact .base (.int i)
  | str s => rw [rep_str r]; exact .base (.str s)
  | tup l =>
    obtain ⟨a, vs, rfl, q, _⟩ := rep_tup r
    rcases q with (q | ⟨o, q⟩) | ⟨o, its, n, q1, q2, _⟩
    · exact .base (.tup q)
    · exact .fTuple q
    · exact .kTuple q1 q2
  | rol l =>
    obtain ⟨a, vs, rfl, q, _⟩ := rep_rol r
    rcases q with ⟨o, q⟩ | (q | ⟨_, q⟩) | ⟨o, its, n, q1, q2, _⟩
    · exact .base (.frz q)
    · cases q
    · cases q
    · exact .kList q1 q2
  | ref a =>
    rw [rep_ref r]
    have g : (h a).isSome = true := g
    cases e : h a with
    | none => rw [e] at g; cases g
    | some o =>
      have z := rh a o e
      cases o with
      | lst xs => obtain ⟨vs, q, _⟩ := z; exact .base (.lst q)
theorem kit1 (x : PV) (t : Ty) : PySem.W.kitOne K (.type (tyP x)) (.type (tyN t)) = some (isTy h x t) := by
  refine kit_ty ?_
  cases x <;> cases t <;> (simp only [tyP, tyN, isTy]; decide +kernel)
theorem kitA (x : PV) : ∀ ts : List Ty, PySem.W.kitAny K (.type (tyP x)) (ts.map fun t => Value.type (tyN t)) = some (ts.any (isTy h x))
  | [] => rfl
  | t :: ts => by
    refine kitAny_cons (kit1 (h := h) x t) (fun e => ?_) fun e => ?_
    · rw [kitA x ts, List.any_cons, e, Bool.false_or]
    · rw [List.any_cons, e, Bool.true_or]
end
end Co
namespace Co
open PySem L2
open PySem.Spec PyProof.Rows
section
variable {K : PySem.W.Frag} {X : Cx} {h : PH} {H : Hp}
theorem at_rep {xs : List PV} {vs : List V} {i : Int} {pv : PV} (r : RepVs K H xs vs) (e : (L2.ixN xs.length i).bind (fun j => xs[j]?) = some pv) : ∃ v, atI vs i = some v ∧ RepV K H pv v := by
  unfold atI
  rw [← r.length]
  cases q : L2.ixN xs.length i with
  | none => (rw [q] at e; cases e)
  | some j =>
    rw [q] at e
    exact r.get e
theorem ok_ix : Ok2 K ixS (rIx K) := by
  intro x y h Q' vx vy H Q rx ry0 rh q0 lk
  have gen : ∀ (i : Int), (match seqOf x h with
      | some xs => match (L2.ixN xs.length i).bind (fun j => xs[j]?) with | some v => Q' v h | none => False
      | none => False) → RepV K H y vy → y = .int i → rIx K vx vy H Q := fun i q ry ey => by
    subst ey
    split at q
    · rename_i xs e
      split at q
      · rename_i v ev
        obtain ⟨p, vs, e1, e2, r⟩ := seqOf_rep rx rh e
        obtain ⟨w, a1, a2⟩ := at_rep r ev
        rcases e2 with e2 | e2
        · exact .inl ⟨p, vs, i, w, e1, rep_int ry, e2, a1, lk _ _ _ _ a2 rh Fr.refl q⟩
        · exact .inr (.inl ⟨p, vs, i, w, e1, rep_int ry, e2, a1, lk _ _ _ _ a2 rh Fr.refl q⟩)
      · exact q.elim
    · exact q.elim
  cases y with
  | int i =>
    cases x with
    | str s =>
      have q' : s.length ≤ 16777216 ∧ (match (L2.ixN s.cps.toList.length i).bind (fun j => s.cps.toList[j]?) with | some c => Q' (.str ⟨#[c]⟩) h | none => False) := q0
      obtain ⟨q1, q2⟩ := q'
      split at q2
      · rename_i c ec
        exact .inr (.inr ⟨s, i, c, rep_str rx, rep_int ry0, by rw [line16]; exact q1, ec, lk _ _ _ _ str_rep rh Fr.refl q2⟩)
      · exact q2.elim
    | tup l => exact gen i q0 ry0 rfl
    | ref a => exact gen i q0 ry0 rfl
    | rol l => exact gen i q0 ry0 rfl
    | non => exact gen i q0 ry0 rfl
    | bl b => exact gen i q0 ry0 rfl
    | int j => exact gen i q0 ry0 rfl
  | _ => cases x <;> exact False.elim q0
theorem RepVs.cutV {xs : List PV} {vs : List V} (r : RepVs K H xs vs) (lo hi : Option Int) : RepVs K H (cut xs lo hi) (L2.cutV vs lo hi) := by
  unfold cut L2.cutV
  rw [r.length]
  exact (r.drop _).take _
def rSl2 (K : PySem.W.Frag) : V → Option Int → Option Int → Hp → VK → Prop := fun x lo hi H Q => rSlA K x lo hi H Q ∨ rSlL K x lo hi H Q
theorem r_sl : SlR X (rSl2 X.K) := sl_tupA.or sl_list
theorem ok_sl {x : PV} {lo hi : Option Int} {vx : V} {Q' : QK} {Q : VK} (rx : RepV K H x vx) (rh : RepH K h H) (q : slS x lo hi h Q') (lk : Lk K h H Q' Q) : rSl2 K vx lo hi H Q := by
  cases x with
  | tup l =>
    obtain ⟨a, vs, e, q1, r⟩ := rep_tup rx
    subst e
    refine .inl ⟨a, vs, rfl, q1, fun ⟨w1, w2⟩ => ?_, fun _ => newT_rep rh (r.cutV lo hi) q lk⟩
    have e : cut l lo hi = l := by
      unfold cut
      rw [r.length, w1, w2, List.drop_zero, Nat.sub_zero, ← r.length, List.take_length]
    have q2 : Q' (.tup (cut l lo hi)) h := q
    rw [e] at q2
    exact lk _ _ _ _ (tup_rep q1 r) rh Fr.refl q2
  | rol l =>
    obtain ⟨a, vs, e, q1, r⟩ := rep_rol rx
    exact .inr ⟨a, vs, e, q1.sq, newL_rep rh (r.cutV lo hi) q lk⟩
  | ref a =>
    have q' : (match rdL h a with | some xs => newL h (cut xs lo hi) Q' | none => False) := q
    split at q'
    · rename_i xs e
      obtain ⟨vs, q1, r⟩ := rdL_rep rh e
      exact .inr ⟨a, vs, rep_ref rx, q1, newL_rep rh (r.cutV lo hi) q' lk⟩
    · exact q'.elim
  | _ => exact False.elim q
theorem CallR.imp {f : Value} {r r' : List V → Hp → VK → Prop} (h : CallR X f r') (i : ∀ xs H Q, r xs H Q → r' xs H Q) : CallR X f r := fun pins s σ H xs us Q I rx q => h pins s σ H xs us Q I rx (i xs H Q q)
theorem one_rep {x : PV} {vs : List V} (r : RepVs K H [x] vs) : ∃ v, vs = [v] ∧ RepV K H x v := by
  obtain ⟨v, w, rfl, r1, r2⟩ := RepVs.cons_iff.mp r
  rw [RepVs.nil_iff.mp r2]
  exact ⟨v, rfl, r1⟩
theorem two_rep {x y : PV} {vs : List V} (r : RepVs K H [x, y] vs) : ∃ v u, vs = [v, u] ∧ RepV K H x v ∧ RepV K H y u := by
  obtain ⟨v, w, rfl, r1, r2⟩ := RepVs.cons_iff.mp r
  obtain ⟨u, rfl, r3⟩ := one_rep r2
  exact ⟨v, u, rfl, r1, r3⟩
theorem ints_rep : ∀ {xs : List PV} {ns : List Int} {vs : List V}, intsOf xs = some ns → RepVs K H xs vs → vs = ns.map V.int
  | [], _, _, e, r => by cases e; exact RepVs.nil_iff.mp r
  | x :: xs, _, _, e, r => by
    obtain ⟨v, w, rfl, r1, r2⟩ := RepVs.cons_iff.mp r
    cases x with
    | int i =>
      simp only [intsOf] at e
      cases q : intsOf xs with
      | none => (rw [q] at e; cases e)
      | some ns =>
        rw [q] at e; cases e
        rw [List.map_cons, rep_int r1, ints_rep q r2]
    | _ => simp only [intsOf] at e; cases e
theorem rep_ints : ∀ ns : List Int, RepVs K H (ns.map PV.int) (ns.map V.int)
  | [] => RepVs.nil_iff.mpr rfl
  | n :: ns => RepVs.cons_iff.mpr ⟨_, _, rfl, int_rep, rep_ints ns⟩
theorem bls_rep : ∀ {xs : List PV} {ns : List Bool} {vs : List V}, blsOf xs = some ns → RepVs K H xs vs → vs = ns.map V.bl
  | [], _, _, e, r => by cases e; exact RepVs.nil_iff.mp r
  | x :: xs, _, _, e, r => by
    obtain ⟨v, w, rfl, r1, r2⟩ := RepVs.cons_iff.mp r
    cases x with
    | bl i =>
      simp only [blsOf] at e
      cases q : blsOf xs with
      | none => (rw [q] at e; cases e)
      | some ns =>
        rw [q] at e; cases e
        rw [List.map_cons, rep_bl r1, bls_rep q r2]
    | _ => simp only [blsOf] at e; cases e
def bltV : Blt → Value
  | .len => .builtin "len" | .abs => .builtin "abs" | .int => .type "int" | .max2 => .builtin "max" | .min2 => .builtin "min" | .max1 => .builtin "max" | .min1 => .builtin "min"
  | .sum => .builtin "sum" | .all => .builtin "all" | .any => .builtin "any" | .tuple => .type "tuple" | .list => .type "list" | .sorted => .builtin "sorted"
def bltNm : Blt → Str
  | .len => "len" | .abs => "abs" | .int => "int" | .max2 => "max" | .min2 => "min" | .max1 => "max" | .min1 => "min"
  | .sum => "sum" | .all => "all" | .any => "any" | .tuple => "tuple" | .list => "list" | .sorted => "sorted"
theorem boot_blt (b : Blt) : bootBuiltins (bltNm b) = some (bltV b) := by cases b <;> decide +kernel
theorem some_ints {a : Addr} {ns : List Int} (rh : RepH K h H) (e : (rdL h a).bind intsOf = some ns) : SqL K H a (ns.map V.int) := by
  cases q : rdL h a with
  | none => (rw [q] at e; cases e)
  | some xs =>
    rw [q] at e
    obtain ⟨vs, q1, r⟩ := rdL_rep rh q
    rw [← ints_rep e r]; exact q1
theorem some_bls {a : Addr} {ns : List Bool} (rh : RepH K h H) (e : (rdL h a).bind blsOf = some ns) : SqL K H a (ns.map V.bl) := by
  cases q : rdL h a with
  | none => (rw [q] at e; cases e)
  | some xs =>
    rw [q] at e
    obtain ⟨vs, q1, r⟩ := rdL_rep rh q
    rw [← bls_rep e r]; exact q1
def rLen (K : PySem.W.Frag) : List V → Hp → VK → Prop := fun xs H Q => (∃ p ys, xs = [.ref p] ∧ (SqL K H p ys ∨ SqT K H p ys) ∧ Q (.int ys.length) H) ∨ ∃ z, xs = [.str z] ∧ z.length ≤ sizeLine ∧ Q (.int z.length) H
theorem ok_len : OkL K (bltS .len) (rLen K) := by
  intro xs h Q' vs H Q rx rh q lk
  rcases xs with _ | ⟨x, _ | ⟨y, ys⟩⟩
  · exact False.elim q
  · obtain ⟨v, rfl, r1⟩ := one_rep rx
    have gen : (match seqOf x h with | some xs => Q' (.int xs.length) h | none => False) → rLen K [v] H Q := fun q => by
      split at q
      · rename_i xs e
        obtain ⟨p, vs, e1, e2, r⟩ := seqOf_rep r1 rh e
        subst e1
        exact .inl ⟨p, vs, rfl, e2, by rw [← r.length]; exact lk _ _ _ _ int_rep rh Fr.refl q⟩
      · exact q.elim
    cases x with
    | str s => exact .inr ⟨s, by rw [rep_str r1], by rw [line16]; exact q.1, lk _ _ _ _ int_rep rh Fr.refl q.2⟩
    | tup l => exact gen q
    | ref a => exact gen q
    | rol l => exact gen q
    | non => exact gen q
    | bl b => exact gen q
    | int i => exact gen q
  · cases x <;> exact False.elim q
theorem ok_abs : OkL K (bltS .abs) (fun xs H Q => ∃ i, xs = [.int i] ∧ Q (.int (if i < 0 then -i else i)) H) := by
  intro xs h Q' vs H Q rx rh q lk
  rcases xs with _ | ⟨x, _ | ⟨y, ys⟩⟩ <;> first | exact False.elim q | skip
  · cases x <;> first | exact False.elim q | skip
    obtain ⟨v, rfl, r1⟩ := one_rep rx
    exact ⟨_, by rw [rep_int r1], lk _ _ _ _ int_rep rh Fr.refl q⟩
  · cases x <;> exact False.elim q
theorem ok_intc : OkL K (bltS .int) (fun xs H Q => (∃ i, xs = [.int i] ∧ Q (.int i) H) ∨ ∃ k, xs = [.bl k] ∧ Q (.int (if k then 1 else 0)) H) := by
  intro xs h Q' vs H Q rx rh q lk
  rcases xs with _ | ⟨x, _ | ⟨y, ys⟩⟩ <;> first | exact False.elim q | skip
  · obtain ⟨v, rfl, r1⟩ := one_rep rx
    cases x <;> first | exact False.elim q | skip
    · exact .inr ⟨_, by rw [rep_bl r1], lk _ _ _ _ int_rep rh Fr.refl q⟩
    · exact .inl ⟨_, by rw [rep_int r1], lk _ _ _ _ int_rep rh Fr.refl q⟩
  · cases x <;> exact False.elim q
theorem ok_two {s : List PV → PH → QK → Prop} {g : Int → Int → Int} (hs : ∀ xs h Q, s xs h Q → ∃ i j, xs = [.int i, .int j] ∧ Q (.int (g i j)) h) : OkL K s (fun xs H Q => ∃ i j, xs = [.int i, .int j] ∧ Q (.int (g i j)) H) := by
  intro xs h Q' vs H Q rx rh q lk
  obtain ⟨i, j, rfl, q1⟩ := hs xs h Q' q
  obtain ⟨v, u, rfl, r1, r2⟩ := two_rep rx
  exact ⟨i, j, by rw [rep_int r1, rep_int r2], lk _ _ _ _ int_rep rh Fr.refl q1⟩
theorem ok_max2 : OkL K (bltS .max2) (fun xs H Q => ∃ i j, xs = [.int i, .int j] ∧ Q (.int (if j > i then j else i)) H) := ok_two fun xs h Q q => by
  rcases xs with _ | ⟨x, _ | ⟨y, _ | ⟨z, zs⟩⟩⟩
  · exact False.elim q
  · cases x <;> exact False.elim q
  · cases x <;> cases y <;> first | exact False.elim q | exact ⟨_, _, rfl, q⟩
  · cases x <;> cases y <;> exact False.elim q
theorem ok_min2 : OkL K (bltS .min2) (fun xs H Q => ∃ i j, xs = [.int i, .int j] ∧ Q (.int (if j < i then j else i)) H) := ok_two fun xs h Q q => by
  rcases xs with _ | ⟨x, _ | ⟨y, _ | ⟨z, zs⟩⟩⟩
  · exact False.elim q
  · cases x <;> exact False.elim q
  · cases x <;> cases y <;> first | exact False.elim q | exact ⟨_, _, rfl, q⟩
  · cases x <;> cases y <;> exact False.elim q
theorem ok_ref {s : List PV → PH → QK → Prop} {r : Addr → Hp → VK → Prop} (hs : ∀ xs h Q, s xs h Q → ∃ a, xs = [.ref a]) (hr : ∀ a h Q' H Q, RepH K h H → s [.ref a] h Q' → Lk K h H Q' Q → r a H Q) :
    OkL K s (fun xs H Q => ∃ a, xs = [.ref a] ∧ r a H Q) := by
  intro xs h Q' vs H Q rx rh q lk
  obtain ⟨a, rfl⟩ := hs xs h Q' q
  obtain ⟨v, rfl, r1⟩ := one_rep rx
  exact ⟨a, by rw [rep_ref r1], hr a h Q' H Q rh q lk⟩
theorem shape1 {b : Blt} (hb : b = .sum ∨ b = .all ∨ b = .any ∨ b = .max1 ∨ b = .min1 ∨ b = .sorted) : ∀ xs h Q, bltS b xs h Q → ∃ a, xs = [.ref a] := fun xs h Q q => by
  rcases xs with _ | ⟨x, _ | ⟨y, ys⟩⟩
  · rcases hb with rfl | rfl | rfl | rfl | rfl | rfl <;> exact False.elim q
  · cases x with
    | ref a => exact ⟨a, rfl⟩
    | _ => rcases hb with rfl | rfl | rfl | rfl | rfl | rfl <;> exact False.elim q
  · rcases hb with rfl | rfl | rfl | rfl | rfl | rfl <;> cases x <;> exact False.elim q
def rSum1 (K : PySem.W.Frag) (a : Addr) (H : Hp) (Q : VK) : Prop := ∃ ns : List Int, SqL K H a (ns.map V.int) ∧ Q (.int ns.sum) H
theorem ok_sum : OkL K (bltS .sum) (fun xs H Q => ∃ a, xs = [.ref a] ∧ rSum1 K a H Q) := ok_ref (shape1 (.inl rfl)) fun a h Q' H Q rh q lk => by
  have q' : (match (rdL h a).bind intsOf with | some ns => Q' (.int ns.sum) h | none => False) := q
  split at q'
  · rename_i ns e
    exact ⟨ns, some_ints rh e, lk _ _ _ _ int_rep rh Fr.refl q'⟩
  · exact q'.elim
def rAll1 (K : PySem.W.Frag) (g : List Bool → Bool) (a : Addr) (H : Hp) (Q : VK) : Prop := ∃ bs : List Bool, SqL K H a (bs.map V.bl) ∧ Q (.bl (g bs)) H
theorem ok_all : OkL K (bltS .all) (fun xs H Q => ∃ a, xs = [.ref a] ∧ rAll1 K (·.all id) a H Q) := ok_ref (shape1 (.inr (.inl rfl))) fun a h Q' H Q rh q lk => by
  have q' : (match (rdL h a).bind blsOf with | some ns => Q' (.bl (ns.all id)) h | none => False) := q
  split at q'
  · rename_i ns e
    exact ⟨ns, some_bls rh e, lk _ _ _ _ bl_rep rh Fr.refl q'⟩
  · exact q'.elim
theorem ok_any : OkL K (bltS .any) (fun xs H Q => ∃ a, xs = [.ref a] ∧ rAll1 K (·.any id) a H Q) := ok_ref (shape1 (.inr (.inr (.inl rfl)))) fun a h Q' H Q rh q lk => by
  have q' : (match (rdL h a).bind blsOf with | some ns => Q' (.bl (ns.any id)) h | none => False) := q
  split at q'
  · rename_i ns e
    exact ⟨ns, some_bls rh e, lk _ _ _ _ bl_rep rh Fr.refl q'⟩
  · exact q'.elim
def rMx1 (K : PySem.W.Frag) (le : Int → Int → Prop) (a : Addr) (H : Hp) (Q : VK) : Prop := ∃ ns : List Int, SqL K H a (ns.map V.int) ∧ 0 < ns.length ∧ ∀ m, m ∈ ns → (∀ y, y ∈ ns → le y m) → Q (.int m) H
theorem ok_max1 : OkL K (bltS .max1) (fun xs H Q => ∃ a, xs = [.ref a] ∧ rMx1 K (fun y m => y ≤ m) a H Q) := ok_ref (shape1 (.inr (.inr (.inr (.inl rfl))))) fun a h Q' H Q rh q lk => by
  have q' : (match (rdL h a).bind intsOf with | some ns => 0 < ns.length ∧ ∀ m, m ∈ ns → (∀ y, y ∈ ns → y ≤ m) → Q' (.int m) h | none => False) := q
  split at q'
  · rename_i ns e
    exact ⟨ns, some_ints rh e, q'.1, fun m h1 h2 => lk _ _ _ _ int_rep rh Fr.refl (q'.2 m h1 h2)⟩
  · exact q'.elim
theorem ok_min1 : OkL K (bltS .min1) (fun xs H Q => ∃ a, xs = [.ref a] ∧ rMx1 K (fun y m => m ≤ y) a H Q) := ok_ref (shape1 (.inr (.inr (.inr (.inr (.inl rfl)))))) fun a h Q' H Q rh q lk => by
  have q' : (match (rdL h a).bind intsOf with | some ns => 0 < ns.length ∧ ∀ m, m ∈ ns → (∀ y, y ∈ ns → m ≤ y) → Q' (.int m) h | none => False) := q
  split at q'
  · rename_i ns e
    exact ⟨ns, some_ints rh e, q'.1, fun m h1 h2 => lk _ _ _ _ int_rep rh Fr.refl (q'.2 m h1 h2)⟩
  · exact q'.elim
def rSrt1 (K : PySem.W.Frag) (a : Addr) (H : Hp) (Q : VK) : Prop := ∃ ns : List Int, SqL K H a (ns.map V.int) ∧ ∀ (ms : List Int) (p : Addr), ms.Perm ns → ms.Pairwise (· ≤ ·) → H p = none → Q (.ref p) (upd H p (.lst (ms.map V.int)))
theorem ok_sorted : OkL K (bltS .sorted) (fun xs H Q => ∃ a, xs = [.ref a] ∧ rSrt1 K a H Q) := ok_ref (shape1 (.inr (.inr (.inr (.inr (.inr rfl)))))) fun a h Q' H Q rh q lk => by
  have q' : (match (rdL h a).bind intsOf with | some ns => ∀ ms : List Int, ms.Perm ns → ms.Pairwise (· ≤ ·) → newL h (ms.map PV.int) Q' | none => False) := q
  split at q'
  · rename_i ns e
    exact ⟨ns, some_ints rh e, fun ms p h1 h2 hp => newL_rep rh (rep_ints ms) (q' ms h1 h2) lk p hp⟩
  · exact q'.elim
theorem shape2 {b : Blt} (hb : b = .tuple ∨ b = .list) : ∀ xs h Q, bltS b xs h Q → ∃ x, xs = [x] := fun xs h Q q => by
  rcases xs with _ | ⟨x, _ | ⟨y, ys⟩⟩
  · rcases hb with rfl | rfl <;> exact False.elim q
  · exact ⟨x, rfl⟩
  · rcases hb with rfl | rfl <;> cases x <;> exact False.elim q
theorem ok_tuple : OkL K (bltS .tuple) (fun xs H Q => ∃ p ys, xs = [.ref p] ∧ ((SqL K H p ys ∧ ∀ l, H l = none → Q (.ref l) (upd H l (.tup ys))) ∨ (SqT K H p ys ∧ Q (.ref p) H))) := by
  intro xs h Q' vs H Q rx rh q lk
  obtain ⟨x, rfl⟩ := shape2 (.inl rfl) xs h Q' q
  obtain ⟨v, rfl, r1⟩ := one_rep rx
  have q' : (match seqOf x h with | some xs => Q' (.tup xs) h | none => False) := by cases x <;> exact q
  split at q'
  · rename_i xs e
    obtain ⟨p, vs, rfl, e2, r⟩ := seqOf_rep r1 rh e
    rcases e2 with e2 | e2
    · exact ⟨p, vs, rfl, .inl ⟨e2, newT_rep rh r q' lk⟩⟩
    · exact ⟨p, vs, rfl, .inr ⟨e2, lk _ _ _ _ (tup_rep e2 r) rh Fr.refl q'⟩⟩
  · exact q'.elim
theorem ok_list : OkL K (bltS .list) (fun xs H Q => ∃ p ys, xs = [.ref p] ∧ (SqL K H p ys ∨ SqT K H p ys) ∧ ∀ l, H l = none → Q (.ref l) (upd H l (.lst ys))) := by
  intro xs h Q' vs H Q rx rh q lk
  obtain ⟨x, rfl⟩ := shape2 (.inr rfl) xs h Q' q
  obtain ⟨v, rfl, r1⟩ := one_rep rx
  have q' : (match seqOf x h with | some xs => newL h xs Q' | none => False) := by cases x <;> exact q
  split at q'
  · rename_i xs e
    obtain ⟨p, vs, rfl, e2, r⟩ := seqOf_rep r1 rh e
    exact ⟨p, vs, rfl, e2, newL_rep rh r q' lk⟩
  · exact q'.elim
theorem r_blt (hc : X.calm = true) (b : Blt) : ∃ r, CallR X (bltV b) r ∧ OkL X.K (bltS b) r := by
  cases b
  · exact ⟨_, call_len_seq.or call_len_str, ok_len⟩
  · exact ⟨_, call_abs, ok_abs⟩
  · exact ⟨_, call_int1, ok_intc⟩
  · exact ⟨_, call_max2 hc, ok_max2⟩
  · exact ⟨_, call_min2 hc, ok_min2⟩
  · exact ⟨_, CallR.imp (cr_sum hc) fun xs H Q ⟨a, e, ns, q1, q2⟩ => ⟨a, ns, e, q1, q2⟩, ok_sum⟩
  · exact ⟨_, CallR.imp (cr_all hc) fun xs H Q ⟨a, e, ns, q1, q2⟩ => ⟨a, ns, e, q1, q2⟩, ok_all⟩
  · exact ⟨_, CallR.imp (cr_any hc) fun xs H Q ⟨a, e, ns, q1, q2⟩ => ⟨a, ns, e, q1, q2⟩, ok_any⟩
  · exact ⟨_, call_tuple_of, ok_tuple⟩
  · exact ⟨_, call_list_of, ok_list⟩
  · exact ⟨_, CallR.imp cr_sortedI fun xs H Q ⟨a, e, ns, q1, q2⟩ => ⟨a, ns, e, q1, q2⟩, ok_sorted⟩
  · exact ⟨_, CallR.imp (cr_max hc) fun xs H Q ⟨a, e, ns, q1, q2, q3⟩ => ⟨a, ns, e, q1, q2, q3⟩, ok_max1⟩
  · exact ⟨_, CallR.imp (cr_min hc) fun xs H Q ⟨a, e, ns, q1, q2, q3⟩ => ⟨a, ns, e, q1, q2, q3⟩, ok_min1⟩
theorem lst_rep {a : Nat} {xs : List PV} (rh : RepH K h H) (e : h a = some (.lst xs)) : ∃ vs, H a = some (.lst vs) ∧ RepVs K H xs vs := rh a _ e
theorem set_rep {a : Nat} {xs ys : List PV} {vs : List V} {pv : PV} {v : V} {Q' : QK} {Q : VK} (rh : RepH K h H) (e : h a = some (.lst xs)) (r : RepVs K H ys vs) (rv : RepV K H pv v) (q : Q' pv (pupd h a (.lst ys))) (lk : Lk K h H Q' Q) : Q v (upd H a (.lst vs)) :=
  lk pv (pupd h a (.lst ys)) v (upd H a (.lst vs)) (rv.keep (h' := pupd h a (.lst ys)) rh (Fr.set e)) (rh.set e r) (Fr.set e) q
theorem seqIndex_ixN {n k : Nat} {i : Int} (e : L2.ixN n i = some k) : seqIndex? i n = some k := (ixN_seq e).1
def rMt (m : Mth) : V → List V → Hp → VK → Prop := match m with
  | .append => rAppend | .pop => rPop | .popAt => rPopAt | _ => fun _ _ _ _ => False
theorem ok_mth (m : Mth) {x : PV} {vs : List PV} {vx : V} {ws : List V} {Q' : QK} {Q : VK} (rx : RepV K H x vx) (rs : RepVs K H vs ws) (rh : RepH K h H) (q : mthS m x vs h Q') (lk : Lk K h H Q' Q) : rMt m vx ws H Q := by
  cases x with
  | ref a =>
    have q' : (match h a with | some (.lst xs) => mthL m xs vs (fun y ys => Q' y (pupd h a (.lst ys))) | _ => False) := q
    split at q'
    · rename_i xs e
      obtain ⟨us, e1, r⟩ := lst_rep rh e
      cases m with
      | append =>
        rcases vs with _ | ⟨y, _ | ⟨z, zs⟩⟩
        · exact False.elim q'
        · obtain ⟨v, rfl, r1⟩ := one_rep rs
          obtain ⟨q1, q2⟩ : xs.length < 16777216 ∧ Q' .non (pupd h a (.lst (xs ++ [y]))) := q'
          exact ⟨a, us, v, rep_ref rx, rfl, e1, by rw [line16, ← r.length]; exact q1, set_rep rh e (r.append (RepVs.cons_iff.mpr ⟨_, _, rfl, r1, RepVs.nil_iff.mpr rfl⟩)) non_rep q2 lk⟩
        · exact False.elim q'
      | pop =>
        rcases vs with _ | ⟨y, ys⟩
        · have q2 : (match xs[xs.length - 1]? with | some y => Q' y (pupd h a (.lst xs.dropLast)) | none => False) := q'
          split at q2
          · rename_i y ey
            obtain ⟨v, ev, rv⟩ := r.get ey
            rw [r.length] at ev
            exact ⟨a, us, v, rep_ref rx, RepVs.nil_iff.mp rs, e1, ev, set_rep rh e r.dropLast rv q2 lk⟩
          · exact q2.elim
        · exact False.elim q'
      | popAt =>
        rcases vs with _ | ⟨y, _ | ⟨z, zs⟩⟩
        · exact False.elim q'
        · obtain ⟨v, rfl, r1⟩ := one_rep rs
          cases y with
          | int i =>
            obtain ⟨⟨b1, b2⟩, q2⟩ : (-(2 ^ 63) ≤ i ∧ i < 2 ^ 63) ∧ (match L2.ixN xs.length i with
              | some k => match xs[k]? with | some y => Q' y (pupd h a (.lst (xs.eraseIdx k))) | none => False
              | none => False) := q'
            split at q2
            · rename_i k ek
              split at q2
              · rename_i y ey
                obtain ⟨w, ew, rw'⟩ := r.get ey
                rw [r.length] at ek
                exact ⟨a, us, i, k, w, rep_ref rx, by rw [rep_int r1], e1, b1, b2, seqIndex_ixN ek, ew, set_rep rh e (r.eraseIdx k) rw' q2 lk⟩
              · exact q2.elim
            · exact q2.elim
          | _ => exact False.elim q'
        · cases y <;> exact False.elim q'
      | index => cases vs <;> exact False.elim q'
      | count => cases vs <;> exact False.elim q'
    · exact q'.elim
  | _ => exact False.elim q
theorem ok_set {o i v : PV} {vo vi vv : V} {Q' : PH → Prop} {Q : Hp → Prop} (ro : RepV K H o vo) (ri : RepV K H i vi) (rv : RepV K H v vv) (rh : RepH K h H) (q : setS o i v h Q')
    (lk : ∀ h' H', RepH K h' H' → Fr h H h' H' → Q' h' → Q H') : rSetL vo vi vv H Q := by
  cases o with
  | ref a =>
    cases i with
    | int k =>
      have q' : (match h a with
        | some (.lst xs) => match L2.ixN xs.length k with | some j => Q' (pupd h a (.lst (xs.set j v))) | none => False
        | _ => False) := q
      split at q'
      · rename_i xs e
        obtain ⟨us, e1, r⟩ := lst_rep rh e
        split at q'
        · rename_i j ej
          rw [r.length] at ej
          exact ⟨a, us, k, j, rep_ref ro, rep_int ri, e1, ej, lk _ _ (rh.set e (r.set j rv)) (Fr.set e) q'⟩
        · exact q'.elim
      · exact q'.elim
    | _ => exact False.elim q
  | _ => cases i <;> exact False.elim q
end
end Co
namespace Co
open PySem L2
open PySem.Spec PyProof.Rows
/-- what the module's names are: defs, exception classes, constants, built-ins that no name hides -/
structure Tb where
  fns : List Str
  excs : List Str
  cons : List (Str × PV)
  blts : List Str
def vis (sc : Scope) (x : Str) : Bool := match sc.names.lookup x with | some .local => true | some .cell => true | some .free => true | _ => false
def loc (sc : Scope) (x : Str) : Bool := match sc.names.lookup x with | some .local => true | some .cell => true | _ => false
def locL (sc : Scope) (x : Str) : Bool := match sc.names.lookup x with | some .local => true | _ => false
def cel (sc : Scope) (x : Str) : Bool := match sc.names.lookup x with | some .cell => true | _ => false
def glb (sc : Scope) (x : Str) : Bool := match sc.names.lookup x with | some .globalImplicit => true | _ => false
def nmOk (x : Str) : Bool := !(x == ("__debug__" : Str)) && !(x == ("__classdict__" : Str)) && decide (x ≠ "__name__")
def slotOf (N : List Str) (x : Str) : Option Nat := N.findIdx? (· == x)
def toEs : List E → Es
  | [] => .nil
  | e :: es => .cons e (toEs es)
def toTgs : List Tg → Tgs
  | [] => .nil
  | e :: es => .cons e (toTgs es)
def mkB (f : E → E → E) : List E → Option E
  | [] => none
  | [a] => some a
  | a :: as => (mkB f as).map (f a)
def mkT (f : T → T → T) : List T → Option T
  | [] => none
  | [a] => some (f a a)
  | a :: as => (mkT f as).map (f a)
def foldT (and : Bool) : List T → Option T
  | [] => none
  | [a] => some a
  | a :: as => (foldT and as).map (if and then T.and a else T.or a)
def allBlt : List Blt := [.len, .abs, .int, .max2, .min2, .sum, .all, .any, .tuple, .list, .sorted, .max1, .min1]
def bltAr : Blt → Nat
  | .max2 => 2 | .min2 => 2 | _ => 1
def bltOf (x : Str) (n : Nat) : Option Blt := allBlt.find? fun b => bltNm b == x && bltAr b == n
def allTy : List Ty := [.int, .bool, .tuple, .list, .str]
def tyS (t : Ty) : Str := Str.ofString (tyN t)
def tyOf (x : Str) : Option Ty := allTy.find? fun t => tyS t == x
def notSet : Expr → Bool
  | .Set .. => false
  | _ => true
def hasB (t : Tb) (sc : Scope) (x : Str) : Bool := glb sc x && nmOk x && t.blts.contains x
def cName (t : Tb) (N : List Str) (sc : Scope) (x : Str) : Option E :=
  match slotOf N x with
  | some i => if decide (N[i]? = some x) && vis sc x && nmOk x then some (.v i) else if glb sc x && nmOk x then (t.cons.lookup x).map .k else none
  | none => if glb sc x && nmOk x then (t.cons.lookup x).map .k else none
def cTy (t : Tb) (sc : Scope) : Expr → Option Ty
  | .Name x _ => if hasB t sc x then tyOf x else none
  | _ => none
/-- isinstance's second argument -/
def cTys (t : Tb) (sc : Scope) : Expr → Option (List Ty × Bool)
  | .Tuple es _ _ => (es.mapM (cTy t sc)).bind fun ts => if ts.length ≤ 100 then some (ts, true) else none
  | e => (cTy t sc e).map fun x => ([x], false)
def mthOf (x : Str) (n : Nat) : Option Mth :=
  if x == "append" && n == 1 then some .append else if x == "pop" && n == 0 then some .pop else if x == "pop" && n == 1 then some .popAt else none
def ownOf (N : List Str) (sc : Scope) : List (Str × Nat) := sc.names.filterMap fun y => match y.2 with
  | .local => (slotOf N y.1).map fun i => (y.1, i)
  | .cell => (slotOf N y.1).map fun i => (y.1, i)
  | _ => none
mutual
def tgIn : Tg → List Nat → Bool
  | .nm i, vs => vs.contains i
  | .tp ts, vs => tgsIn ts vs
  | .sub _ _, _ => true
def tgsIn : Tgs → List Nat → Bool
  | .nil, _ => true
  | .cons t ts, vs => tgIn t vs && tgsIn ts vs
end
mutual
def cE (t : Tb) (N : List Str) : Nat → Scope → Expr → Option E
  | 0, _, _ => none
  | n + 1, sc, e => match e with
    | .Constant c _ _ => (match c with | .int i => some (.k (.int i)) | .bool b => some (.k (.bl b)) | .none => some (.k .non) | .str s => some (.k (.str s)) | _ => none)
    | .Name x _ => cName t N sc x
    | .BinOp a op b _ => (match opOf op with
      | some o => (match cE t N n sc a, cE t N n sc b with | some a, some b => some (.bin o a b) | _, _ => none)
      | none => none)
    | .UnaryOp op a _ => (match op with | .USub => (cE t N n sc a).map .neg | .Not => (cE t N n sc a).map .not | _ => none)
    | .BoolOp op es _ => (match es.mapM (cE t N n sc) with
      | some cs => (match op with | .And => mkB .and cs | .Or => mkB .or cs)
      | none => none)
    | .Compare a ops cs _ => (match ops, cs with
      | [op], [b] => if notSet b then (match cmpOf op, cE t N n sc a, cE t N n sc b with | some o, some a, some b => some (.cmp o a b) | _, _, _ => none) else none
      | [op, op'], [b, c] => if notSet c then (match cmpOf op, cmpOf op', cE t N n sc a, cE t N n sc b, cE t N n sc c with | some o, some o', some a, some b, some c => some (.chn o o' a b c) | _, _, _, _, _ => none) else none
      | _, _ => none)
    | .IfExp c a b _ => (match cT t N n sc c, cE t N n sc a, cE t N n sc b with | some c, some a, some b => some (.ite c a b) | _, _, _ => none)
    | .Tuple es _ _ => (es.mapM (cE t N n sc)).map fun cs => .tup (toEs cs)
    | .List es _ => (es.mapM (cE t N n sc)).map fun cs => .lst (toEs cs)
    | .Call f args kws cpos => (match kws with
      | [] => (match f with
        | .Name x _ => if glb sc x && nmOk x then
            (match args.mapM (cE t N n sc), slotOf t.fns x with
            | some cs, some i => if decide (t.fns[i]? = some x) && decide (0 < cs.length) then some (.call i (toEs cs)) else none
            | some cs, none => if t.blts.contains x then (bltOf x cs.length).map fun b => .blt b (toEs cs) else none
            | none, _ => (match args with
              | [a, ty] => if x == "isinstance" && t.blts.contains x then (match cE t N n sc a, cTys t sc ty with | some a, some (ts, tp) => some (.isi a ts tp) | _, _ => none) else none
              | [a] => if (x == "tuple" || x == "list") && t.blts.contains x then (match a with
                  | .Call (.Name r _) [u] [] _ => if r == "range" && hasB t sc r then (cE t N n sc u).map (.rg1 (x == "tuple")) else none
                  | .Call (.Name r _) [u, w] [] _ => if r == "range" && hasB t sc r then (match cE t N n sc u, cE t N n sc w with | some u, some w => some (.rg2 (x == "tuple") u w) | _, _ => none) else none
                  | _ => none) else none
              | _ => none)) else none
        | .Attribute o m apos => (match mthOf m args.length, cE t N n sc o, args.mapM (cE t N n sc) with
            | some k, some o, some cs => if (apos.endLine == cpos.line) then some (.mth k o (toEs cs)) else none
            | _, _, _ => none)
        | _ => none)
      | _ => none)
    | .Subscript a i _ => (match i with
      | .Slice lo hi st _ => (match st, cE t N n sc a, cO t N n sc lo, cO t N n sc hi with | none, some a, some lo, some hi => some (.sl a lo hi) | _, _, _, _ => none)
      | i => (match cE t N n sc a, cE t N n sc i with | some a, some i => some (.ix a i) | _, _ => none))
    | .ListComp elt gens sc' _ => (match gens with
      | [⟨tg, it, ifs, as⟩] => if as = 0 ∧ blkC N sc sc' (ownOf N sc') = true then
          (match cIt t N n sc tg it, cG t N n (relS sc' sc) sc' tg, cIfs t N n (relS sc' sc) ifs, cE t N n (relS sc' sc) elt with
          | some g, some tg, some c, some e => if tgIn tg ((ownOf N sc').map (·.2)) then some (.cpr g tg c e ((ownOf N sc').map (·.2))) else none
          | _, _, _, _ => none) else none
      | _ => none)
    | _ => none
def cO (t : Tb) (N : List Str) : Nat → Scope → Option Expr → Option Eo
  | 0, _, _ => none
  | n + 1, sc, o => match o with
    | none => some .none
    | some e => (cE t N n sc e).map .some
def cIfs (t : Tb) (N : List Str) : Nat → Scope → List Expr → Option T
  | 0, _, _ => none
  | n + 1, sc, es => match es with
    | [] => some .yes
    | [c] => cT t N n sc c
    | _ => none
def cT (t : Tb) (N : List Str) : Nat → Scope → Expr → Option T
  | 0, _, _ => none
  | n + 1, sc, e => match e with
    | .UnaryOp op a _ => (match op with | .Not => (cT t N n sc a).map .not | _ => none)
    | .BoolOp op es _ => (match es.mapM (cT t N n sc) with
      | some cs => foldT (match op with | .And => true | .Or => false) cs
      | none => none)
    | .IfExp .. => none
    | .Compare a ops cs _ => (match ops, cs with
      | [op], [b] => if notSet b then (match cmpOf op, cE t N n sc a, cE t N n sc b with | some o, some a, some b => some (.e (.cmp o a b)) | _, _, _ => none) else none
      | [op, op'], [b, c] => if notSet c then (match cmpOf op, cmpOf op', cE t N n sc a, cE t N n sc b, cE t N n sc c with | some o, some o', some a, some b, some c => some (.e (.chn o o' a b c)) | _, _, _, _, _ => none) else none
      | _, _ => none)
    | e => (cE t N n sc e).map .e
def cG (t : Tb) (N : List Str) : Nat → Scope → Scope → Expr → Option Tg
  | 0, _, _, _ => none
  | n + 1, sc, st, e => match e with
    | .Name x _ => (match slotOf N x with | some i => if decide (N[i]? = some x) && loc sc x && (locL sc x || cel st x) then some (.nm i) else none | none => none)
    | .Tuple es _ _ => (es.mapM (cG t N n sc st)).map fun ts => .tp (toTgs ts)
    | .Subscript o i _ => (match i with
      | .Slice .. => none
      | i => (match cE t N n sc o, cE t N n sc i with | some o, some i => some (.sub o i) | _, _ => none))
    | _ => none
def cIt (t : Tb) (N : List Str) : Nat → Scope → Expr → Expr → Option It
  | 0, _, _, _ => none
  | n + 1, sc, tg, e => match e with
    | .Call f args kws _ => (match f, args, kws with
      | .Name x _, [a], [] => if hasB t sc x && x == "range" then (cE t N n sc a).map .rng1
          else if hasB t sc x && x == "reversed" then (cE t N n sc a).map .rev
          else if hasB t sc x && x == "enumerate" then (match tg with | .Tuple .. => (cE t N n sc a).map .enum | _ => none)
          else (cE t N n sc e).map .seq
      | .Name x _, [a, b], [] => if hasB t sc x && x == "range" then (match cE t N n sc a, cE t N n sc b with | some a, some b => some (.rng2 a b) | _, _ => none)
          else if hasB t sc x && x == "zip" then (match tg, cE t N n sc a, cE t N n sc b with | .Tuple .., some a, some b => some (.zip a b) | _, _, _ => none)
          else (cE t N n sc e).map .seq
      | _, _, _ => (cE t N n sc e).map .seq)
    | e => (cE t N n sc e).map .seq
end
end Co
namespace Co
open PySem L2
open PySem.Spec PyProof.Rows
/-- a promise, lifted -/
def lSp (ea : Nat → Addr) (K : PySem.W.Frag) (s : List PV → PH → QK → XK → Prop) : Sp := fun vs H Q E => ∃ pvs h Q' X', RepVs K H pvs vs ∧ RepH K h H ∧ s pvs h Q' X' ∧ Lk K h H Q' Q ∧
  ∀ x h' cls d H', RepX ea x cls d → RepH K h' H' → Fr h H h' H' → X' x h' → E cls d H'
/-- an exception class of the text, without fields -/
structure ExcOk (X : Cx) (x : Str) (C : Addr) : Prop where
  mg : X.mg x = some (.ref C)
  inK : PySem.W.excIn X.K C [.type "ValueError", .type "Exception", .type "BaseException", .type "object"] "ValueError.__new__" = true
  kp : PySem.W.keepIn X.K (.ref C) = true
  rs : Raises X (.ref C)
structure CtxOk (ea : Nat → Addr) (t : Tb) (C : CS) (k : Nat) (N : List Str) (sc : Scope) (W : WX) (X : Cx) : Prop where
  hN : X.N = N
  nd : N.Nodup
  hsc : X.env.scope = sc
  calm : X.calm = true
  room : Room k X.A
  tk : Takes X W
  fns : ∀ i x, t.fns[i]? = some x → ∃ f fd ps, X.mg x = some (.ref f) ∧ PySem.W.keepIn X.K (.ref f) = true ∧ Binds X.K fd ps [] ∧ FnOk X.prog X.w X.K X.mg X.base (L2.CX X.prog X.w) k f fd ps (lSp ea X.K (C i))
  cons : ∀ x v, t.cons.lookup x = some v → ∃ vv u, X.mg x = some u ∧ RelV vv u ∧ ∀ H, RepV X.K H v vv
  blts : ∀ x, t.blts.contains x = true → X.mg x = none
  excs : ∀ i x, t.excs[i]? = some x → ExcOk X x (ea i)
section
variable {ea : Nat → Addr} {t : Tb} {C : CS} {k : Nat} {N : List Str} {sc : Scope} {W : WX} {X : Cx} {e a b c : Expr} {pos : Pos}
theorem CtxOk.hu (cx : CtxOk ea t C k N sc W X) : X.A.units + 64 < cLine := cx.room.units
theorem Lk.here {K : PySem.W.Frag} {h : PH} {H : Hp} {Q' : QK} {Q : VK} {pv : PV} {v : V} (lk : Lk K h H Q' Q) (r : RepV K H pv v) (rh : RepH K h H) (q : Q' pv h) : Q v H := lk _ _ _ _ r rh Fr.refl q
theorem LkC.here {α : Type} {K : PySem.W.Frag} {h : PH} {H : Hp} {Q' : α → PH → Prop} {Q : α → Hp → Prop} {b : α} (lk : LkC K h H Q' Q) (rh : RepH K h H) (q : Q' b h) : Q b H := lk _ _ _ rh Fr.refl q
theorem vis_of {x : Str} (h : vis sc x = true) : Vis sc x := by
  unfold vis at h
  split at h <;> first | exact .inl ‹_› | exact .inr (.inl ‹_›) | exact .inr (.inr ‹_›) | cases h
theorem loc_of {x : Str} (h : loc sc x = true) : Loc sc x := by
  unfold loc at h
  split at h <;> first | exact .inl ‹_› | exact .inr ‹_› | cases h
theorem locL_of {x : Str} (h : locL sc x = true) : sc.names.lookup x = some .local := by
  unfold locL at h
  split at h <;> first | assumption | cases h
theorem glb_of {x : Str} (hs : X.env.scope = sc) (h : glb sc x = true) : Gl X x := by
  unfold glb at h
  split at h
  · show X.env.scope.names.lookup x = _
    rw [hs]; assumption
  · cases h
theorem nm_of {x : Str} (h : nmOk x = true) : (x == ("__debug__" : Str)) = false ∧ (x == ("__classdict__" : Str)) = false ∧ x ≠ "__name__" := by
  unfold nmOk at h
  simp only [Bool.and_eq_true, Bool.not_eq_true', decide_eq_true_eq] at h
  exact ⟨h.1.1, h.1.2, h.2⟩
theorem s_k {v : PV} {vv : V} (r : ∀ H, RepV X.K H v vv) (p : PE X e (tC vv)) : PE X e (lE ea X.K W (wE C (.k v))) :=
  PE.imp p fun σ H Q ⟨pσ, h, Q', X', rs, rh, q, lk, lx⟩ => lk.here (r H) rh (by simpa only [wE] using q)
theorem s_const {cst : Const} {j : Nat} {c' : E} (e : (match cst with | .int i => some (.k (.int i)) | .bool b => some (.k (.bl b)) | .none => some (.k .non) | .str s => some (.k (.str s)) | _ => none) = some c') :
    PE X (.Constant cst j pos) (lE ea X.K W (wE C c')) := by
  cases cst <;> first | (cases e; done) | (cases e; first | exact s_k (fun _ => non_rep) pe_non | exact s_k (fun _ => bl_rep) pe_bl | exact s_k (fun _ => int_rep) pe_int | exact s_k (fun _ => str_rep) pe_str)
theorem s_gl {x : Str} {c' : E} (cx : CtxOk ea t C k N sc W X) (h : (if (glb sc x && nmOk x) = true then (t.cons.lookup x).map E.k else none) = some c') : PE X (.Name x pos) (lE ea X.K W (wE C c')) := by
  split at h
  · rename_i g
    rw [Bool.and_eq_true] at g
    cases q : t.cons.lookup x with
    | none => rw [q] at h; cases h
    | some v =>
      rw [q] at h; cases h
      obtain ⟨vv, u, h1, h2, h3⟩ := cx.cons x v q
      exact s_k h3 (pe_glob (glb_of cx.hsc g.1) h1 h2 (nm_of g.2).1)
  · cases h
theorem s_name {x : Str} {c' : E} (cx : CtxOk ea t C k N sc W X) (h : cName t N sc x = some c') : PE X (.Name x pos) (lE ea X.K W (wE C c')) := by
  unfold cName at h
  split at h
  · rename_i i hi
    split at h
    · rename_i g
      rw [Bool.and_eq_true, Bool.and_eq_true, decide_eq_true_eq] at g
      obtain ⟨⟨g1, g2⟩, g3⟩ := g
      cases h
      obtain ⟨n1, n2, n3⟩ := nm_of g3
      refine PE.imp (pe_var (i := i) (by rw [cx.hN]; exact g1) (by rw [cx.hsc]; exact vis_of g2) n1 n2) fun σ H Q ⟨pσ, h, Q', X', rs, rh, q, lk, lx⟩ => ?_
      simp only [wE] at q
      split at q
      · rename_i v ev
        obtain ⟨vv, e1, r⟩ := rs.2 i v ev
        exact ⟨vv, e1, lk.here r rh q⟩
      · exact q.elim
    · exact s_gl cx h
  · exact s_gl cx h
theorem s_op2 {s : PV → PV → PH → QK → Prop} {r : R2} {ta tb : Sl → PH → QK → XK → Prop} (ok : Ok2 X.K s r) (hp : PE X e (tOp r (lE ea X.K W ta) (lE ea X.K W tb))) :
    PE X e (lE ea X.K W fun σ h Q Xk => ta σ h (fun x h => tb σ h (fun y h => s x y h Q) Xk) Xk) :=
  PE.imp hp fun σ H Q q => lE_seq (LQ := Lk X.K) (tk := fun x pσ h1 Q' X' => tb pσ h1 (fun y h => s x y h Q') X') Lk.keep q fun pσ h1 x vx H1 Q' X' _ rs rh rx q lk lx =>
    lE_seq (LQ := Lk X.K) (tk := fun y pσ h Q' X' => s x y h Q') Lk.keep ⟨pσ, h1, Q', X', rs, rh, q, lk, lx⟩ fun pσ h2 y vy H2 Q' X' ks rs rh2 ry q lk lx =>
      ok x y h2 Q' vx vy H2 Q (rx.mono ks) ry rh2 q lk
theorem s_op1 {s : PV → PH → QK → Prop} {r : V → Hp → VK → Prop} {ta : Sl → PH → QK → XK → Prop} (ok : Ok1 X.K s r) (hp : PE X e (tUn r (lE ea X.K W ta))) :
    PE X e (lE ea X.K W fun σ h Q Xk => ta σ h (fun x h => s x h Q) Xk) :=
  PE.imp hp fun σ H Q q => lE_seq (LQ := Lk X.K) (tk := fun x pσ h1 Q' X' => s x h1 Q') Lk.keep q fun pσ h1 x vx H1 Q' X' _ rs rh rx q lk lx => ok x h1 Q' vx H1 Q rx rh q lk
theorem s_bin {op : Operator} {o : Bop} {a' b' : E} (ho : opOf op = some o) (ha : PE X a (lE ea X.K W (wE C a'))) (hb : PE X b (lE ea X.K W (wE C b'))) : PE X (.BinOp a op b pos) (lE ea X.K W (wE C (.bin o a' b'))) := by
  obtain ⟨r, h1, h2⟩ := r_bop (X := X) ho
  have := s_op2 (W := W) (ea := ea) h2 (pe_op h1 ha hb (pos := pos))
  simpa only [wE] using this
theorem s_neg {a' : E} (ha : PE X a (lE ea X.K W (wE C a'))) : PE X (.UnaryOp .USub a pos) (lE ea X.K W (wE C (.neg a'))) := by
  have ok : Ok1 X.K negS (rU fun i => .int (-i)) := fun x h Q' vx H Q rx rh q lk => by
    cases x <;> first | exact False.elim q | exact ⟨_, rep_int rx, lk.here int_rep rh q⟩
  have := s_op1 (W := W) (ea := ea) ok (pe_un un_neg ha (pos := pos))
  simpa only [wE] using this
/-- a comparison's answer is True or False -/
theorem cop_bool {op : Cop} {x y : PV} {h : PH} {Q : QK} (q : copS op x y h Q) : copS op x y h fun z h => (∃ b, z = .bl b) ∧ Q z h := by
  have eqs : ∀ {q1 q2 : Bool → Prop}, (∀ b, q1 b → q2 b) → eqS x y h q1 → eqS x y h q2 := fun {q1 q2} i e => by
    cases x <;> cases y <;> first | exact i _ e | (obtain ⟨d, e', h1, h2, h3⟩ := e; exact ⟨d, e', h1, h2, i _ h3⟩)
  have ins : ∀ {q1 q2 : Bool → Prop}, (∀ b, q1 b → q2 b) → inS x y h q1 → inS x y h q2 := fun {q1 q2} i e => by
    unfold inS at e ⊢
    split at e
    · exact ⟨e.1, e.2.1, i _ e.2.2⟩
    · exact e.elim
  cases op
  · exact eqs (q1 := fun b => Q (.bl b) h) (q2 := fun b => (∃ b', PV.bl b = .bl b') ∧ Q (.bl b) h) (fun b z => ⟨⟨_, rfl⟩, z⟩) q
  · exact eqs (q1 := fun b => Q (.bl (!b)) h) (q2 := fun b => (∃ b', PV.bl (!b) = .bl b') ∧ Q (.bl (!b)) h) (fun b z => ⟨⟨_, rfl⟩, z⟩) q
  · cases x <;> cases y <;> first | exact False.elim q | exact ⟨⟨_, rfl⟩, q⟩
  · cases x <;> cases y <;> first | exact False.elim q | exact ⟨⟨_, rfl⟩, q⟩
  · cases x <;> cases y <;> first | exact False.elim q | exact ⟨⟨_, rfl⟩, q⟩
  · cases x <;> cases y <;> first | exact False.elim q | exact ⟨⟨_, rfl⟩, q⟩
  · cases y <;> first | exact False.elim q | exact ⟨⟨_, rfl⟩, q⟩
  · cases y <;> first | exact False.elim q | exact ⟨⟨_, rfl⟩, q⟩
  · exact ins (q1 := fun b => Q (.bl b) h) (q2 := fun b => (∃ b', PV.bl b = .bl b') ∧ Q (.bl b) h) (fun b z => ⟨⟨_, rfl⟩, z⟩) q
  · exact ins (q1 := fun b => Q (.bl (!b)) h) (q2 := fun b => (∃ b', PV.bl (!b) = .bl b') ∧ Q (.bl (!b)) h) (fun b z => ⟨⟨_, rfl⟩, z⟩) q
theorem mark_of {op : CmpOp} (h : notSet b = true) : behindInMarks op b = false := by
  cases b <;> first | rfl | cases h
theorem s_cmp {op : CmpOp} {o : Cop} {a' b' : E} (hu : X.A.units + 64 < cLine) (hs : notSet b = true) (ho : cmpOf op = some o) (ha : PE X a (lE ea X.K W (wE C a'))) (hb : PE X b (lE ea X.K W (wE C b'))) :
    PE X (.Compare a [op] [b] pos) (lE ea X.K W (wE C (.cmp o a' b'))) := by
  obtain ⟨r, h1, h2⟩ := r_cop hu ho
  have := s_op2 (W := W) (ea := ea) h2 (pe_cmpR h1 ha hb (mark_of hs) (pos := pos))
  simpa only [wE] using this
end
end Co
namespace Co
open PySem L2
open PySem.Spec PyProof.Rows
section
variable {ea : Nat → Addr} {t : Tb} {C : CS} {k : Nat} {N : List Str} {sc : Scope} {W : WX} {X : Cx} {e a b c : Expr} {pos : Pos}
theorem marks_of {op op' : CmpOp} (h : notSet c = true) : lastMarks [op, op'] [b, c] = false := by
  show behindInMarks op' c = false
  exact mark_of h
theorem chain_gen {β γ : Type} {LQ : PH → Hp → (β → PH → Prop) → γ → Prop} (hl : ∀ {h h' : PH} {H H' : Hp} {Q' : β → PH → Prop} {Q : γ}, LQ h H Q' Q → Fr h H h' H' → LQ h' H' Q' Q) {F : (β → PH → Prop) → QK} {R : VK} {Q : γ}
    (hR : ∀ h H Q' b, RepH X.K h H → LQ h H Q' Q → F Q' (.bl b) h → R (.bl b) H) {o o' : Cop} {a' b' c' : E} {r r' : R2} (ok : Ok2 X.K (copS o) r) (ok' : Ok2 X.K (copS o') r') {σ : L2.St} {H : Hp}
    (q : ∃ pσ h Q' X', RepS X.K H pσ σ ∧ RepH X.K h H ∧ wE C (.chn o o' a' b' c') pσ h (F Q') X' ∧ LQ h H Q' Q ∧ LkX ea X.K h H X' σ W) :
    tChain r r' (lE ea X.K W (wE C a')) (lE ea X.K W (wE C b')) (lE ea X.K W (wE C c')) σ H R := by
  simp only [wE] at q
  refine lE_seq (LQ := LQ) (tk := fun x pσ h Q' X' => wE C b' pσ h (fun y h => copS o x y h fun z h => match z with
      | .bl true => wE C c' pσ h (fun u h => copS o' y u h (F Q')) X'
      | .bl false => F Q' (.bl false) h
      | _ => False) X') hl q fun pσ h1 x vx H1 Q' X' _ rs rh rx q lk lx => ?_
  refine lE_seq (LQ := LQ) (tk := fun y pσ h Q' X' => copS o x y h fun z h => match z with
      | .bl true => wE C c' pσ h (fun u h => copS o' y u h (F Q')) X'
      | .bl false => F Q' (.bl false) h
      | _ => False) hl ⟨pσ, h1, Q', X', rs, rh, q, lk, lx⟩ fun pσ h2 y vy H2 Q' X' ks rs rh2 ry q lk lx => ?_
  refine ok x y h2 _ vx vy H2 _ (rx.mono ks) ry rh2 (cop_bool q) fun z h3 vz H3 rz rh3 fr q3 => ?_
  obtain ⟨⟨d, rfl⟩, q3⟩ := q3
  rw [rep_bl rz]
  refine ⟨d, rfl, ?_⟩
  cases d with
  | true =>
    rw [if_pos rfl]
    refine lE_seq (LQ := LQ) (tk := fun u pσ h Q' X' => copS o' y u h (F Q')) hl ⟨pσ, h3, Q', X', rs.keep rh2 fr, rh3, q3, hl lk fr, lx.keep fr⟩ fun pσ h4 u vu H4 Q' X' ks4 rs rh4 ru q lk lx => ?_
    refine ok' y u h4 _ vy vu H4 R ((ry.keep rh2 fr).mono ks4) ru rh4 (cop_bool q) fun z h5 vz H5 rz rh5 fr5 q5 => ?_
    obtain ⟨⟨d, rfl⟩, q5⟩ := q5
    rw [rep_bl rz]
    exact hR h5 H5 Q' d rh5 (hl lk fr5) q5
  | false =>
    rw [if_neg (Bool.false_ne_true)]
    exact hR h3 H3 Q' false rh3 (hl lk fr) q3
theorem s_chn {op op' : CmpOp} {o o' : Cop} {a' b' c' : E} (hu : X.A.units + 64 < cLine) (hs : notSet c = true) (ho : cmpOf op = some o) (ho' : cmpOf op' = some o')
    (ha : PE X a (lE ea X.K W (wE C a'))) (hb : PE X b (lE ea X.K W (wE C b'))) (hc : PE X c (lE ea X.K W (wE C c'))) : PE X (.Compare a [op, op'] [b, c] pos) (lE ea X.K W (wE C (.chn o o' a' b' c'))) := by
  obtain ⟨r, h1, h2⟩ := r_cop hu ho
  obtain ⟨r', h1', h2'⟩ := r_cop hu ho'
  exact PE.imp (pe_chain h1 h1' ha hb hc (marks_of hs)) fun σ H Q q => chain_gen (LQ := Lk X.K) (F := id) Lk.keep (fun h H Q' b rh lk q => lk.here bl_rep rh q) h2 h2' q
theorem tru_seq {ta : Sl → PH → QK → XK → Prop} {s : Bool → PV → Sl → PH → QK → XK → Prop} {R : Bool → V → Hp → Prop} {σ : L2.St} {H : Hp} {Q : VK}
    (q : lE ea X.K W (fun σ h Q Xk => ta σ h (fun x h => truS x h fun c h => s c x σ h Q Xk) Xk) σ H Q)
    (hk : ∀ pσ h1 x vx H1 Q' X' c, RepS X.K H1 pσ σ → RepH X.K h1 H1 → RepV X.K H1 x vx → s c x pσ h1 Q' X' → Lk X.K h1 H1 Q' Q → LkX ea X.K h1 H1 X' σ W → R c vx H1) :
    lE ea X.K W ta σ H fun vx H1 => ∃ k, TruV X.K vx H1 k ∧ R k vx H1 :=
  lE_seq (LQ := Lk X.K) (tk := fun x pσ h Q' X' => truS x h fun c h => s c x pσ h Q' X') Lk.keep q fun pσ h1 x vx H1 Q' X' _ rs rh rx q lk lx =>
    ok_tru (Q' := fun c h => s c x pσ h Q' X') (Q := fun c H2 => H2 = H1 → R c vx H1) rx rh q (fun c h2 H2 rh2 fr q2 e => by subst e; exact hk pσ h2 x vx H2 Q' X' c (rs.keep rh fr) rh2 (rx.keep rh fr) q2 (lk.keep fr) (lx.keep fr)) |>.imp fun k z => ⟨z.1, z.2 rfl⟩
theorem s_not {a' : E} (ha : PE X a (lE ea X.K W (wE C a'))) : PE X (.UnaryOp .Not a pos) (lE ea X.K W (wE C (.not a'))) :=
  PE.imp (pe_notT ha) fun σ H Q q => tru_seq (s := fun c _ _ h Q _ => Q (.bl (!c)) h) (R := fun c _ H => Q (.bl (!c)) H) (by simpa only [wE] using q) fun _ _ _ _ _ _ _ _ _ rh _ q lk _ => lk.here bl_rep rh q
theorem s_and2 {a' b' : E} {rest : List Expr} (ha : PE X a (lE ea X.K W (wE C a'))) (hb : PE X (.BoolOp .And (b :: rest) pos) (lE ea X.K W (wE C b'))) : PE X (.BoolOp .And (a :: b :: rest) pos) (lE ea X.K W (wE C (.and a' b'))) :=
  PE.imp (pe_andT ha hb) fun σ H Q q => tru_seq (s := fun c x σ h Q Xk => if c = true then wE C b' σ h Q Xk else Q x h) (R := fun c x H => if c = true then lE ea X.K W (wE C b') σ H Q else Q x H) (by simpa only [wE] using q)
    fun pσ h1 x vx H1 Q' X' c rs rh rx q lk lx => by
      cases c with
      | true => exact ⟨pσ, h1, Q', X', rs, rh, q, lk, lx⟩
      | false => exact lk.here rx rh q
theorem s_or2 {a' b' : E} {rest : List Expr} (ha : PE X a (lE ea X.K W (wE C a'))) (hb : PE X (.BoolOp .Or (b :: rest) pos) (lE ea X.K W (wE C b'))) : PE X (.BoolOp .Or (a :: b :: rest) pos) (lE ea X.K W (wE C (.or a' b'))) :=
  PE.imp (pe_orT ha hb) fun σ H Q q => tru_seq (s := fun c x σ h Q Xk => if c = true then Q x h else wE C b' σ h Q Xk) (R := fun c x H => if c = true then Q x H else lE ea X.K W (wE C b') σ H Q) (by simpa only [wE] using q)
    fun pσ h1 x vx H1 Q' X' c rs rh rx q lk lx => by
      cases c with
      | true => exact lk.here rx rh q
      | false => exact ⟨pσ, h1, Q', X', rs, rh, q, lk, lx⟩
/-- the list of what is compiled -/
theorem mapM_cons {α β : Type} {f : α → Option β} {x : α} {xs : List α} {ys : List β} (h : (x :: xs).mapM f = some ys) : ∃ y zs, f x = some y ∧ xs.mapM f = some zs ∧ ys = y :: zs := by
  rw [List.mapM_cons] at h
  cases e1 : f x with
  | none => rw [e1] at h; cases h
  | some y =>
    rw [e1] at h
    cases e2 : xs.mapM f with
    | none => rw [e2] at h; cases h
    | some zs => rw [e2] at h; cases h; exact ⟨y, zs, rfl, rfl, rfl⟩
theorem mapM_nil {α β : Type} {f : α → Option β} {ys : List β} (h : ([] : List α).mapM f = some ys) : ys = [] := by
  rw [List.mapM_nil] at h; cases h; rfl
theorem s_and {f : Expr → Option E} : ∀ {es : List Expr} {cs : List E} {c' : E}, (∀ e c, e ∈ es → f e = some c → PE X e (lE ea X.K W (wE C c))) → es.mapM f = some cs → mkB .and cs = some c' → PE X (.BoolOp .And es pos) (lE ea X.K W (wE C c'))
  | [], _, _, _, h, g => by rw [mapM_nil h] at g; cases g
  | [a], _, _, ih, h, g => by
    obtain ⟨y, zs, h1, h2, rfl⟩ := mapM_cons h
    rw [mapM_nil h2] at g
    cases g
    exact pe_one (ih a _ (by simp) h1)
  | a :: b :: es, _, _, ih, h, g => by
    obtain ⟨y, zs, h1, h2, rfl⟩ := mapM_cons h
    have h3 := h2
    obtain ⟨y2, zs2, _, _, rfl⟩ := mapM_cons h3
    simp only [mkB] at g
    cases q : mkB .and (y2 :: zs2) with
    | none => rw [q] at g; cases g
    | some c2 =>
      rw [q] at g; cases g
      exact s_and2 (ih a y (by simp) h1) (s_and (fun e c m => ih e c (List.mem_cons_of_mem _ m)) h2 q)
theorem s_or {f : Expr → Option E} : ∀ {es : List Expr} {cs : List E} {c' : E}, (∀ e c, e ∈ es → f e = some c → PE X e (lE ea X.K W (wE C c))) → es.mapM f = some cs → mkB .or cs = some c' → PE X (.BoolOp .Or es pos) (lE ea X.K W (wE C c'))
  | [], _, _, _, h, g => by rw [mapM_nil h] at g; cases g
  | [a], _, _, ih, h, g => by
    obtain ⟨y, zs, h1, h2, rfl⟩ := mapM_cons h
    rw [mapM_nil h2] at g
    cases g
    exact pe_one (ih a _ (by simp) h1)
  | a :: b :: es, _, _, ih, h, g => by
    obtain ⟨y, zs, h1, h2, rfl⟩ := mapM_cons h
    have h3 := h2
    obtain ⟨y2, zs2, _, _, rfl⟩ := mapM_cons h3
    simp only [mkB] at g
    cases q : mkB .or (y2 :: zs2) with
    | none => rw [q] at g; cases g
    | some c2 =>
      rw [q] at g; cases g
      exact s_or2 (ih a y (by simp) h1) (s_or (fun e c m => ih e c (List.mem_cons_of_mem _ m)) h2 q)
theorem t_not {a' : T} (ha : PT X a (lC ea X.K W (wT C a'))) : PT X (.UnaryOp .Not a pos) (lC ea X.K W (wT C (.not a'))) :=
  PT.imp (pt_not ha) fun σ H Q q => lC_seq (LQ := LkC X.K) (tk := fun c pσ h Q' X' => Q' (!c) h) LkC.keep (by simpa only [lC, wT] using q) fun _ _ _ _ _ _ _ _ rh q lk _ => lk.here rh q
theorem t_andw {a' b' : T} {rest : List Expr} (ha : PT X a (lC ea X.K W (wT C a'))) (hb : PW X (.BoolOp .And (b :: rest) pos) (lC ea X.K W (wT C b'))) : PW X (.BoolOp .And (a :: b :: rest) pos) (lC ea X.K W (wT C (.and a' b'))) := by
  refine ⟨fun whole pins s σ H Q I q => (pw_and ha hb).run whole pins s σ H Q I ?_⟩
  refine lC_seq (LQ := LkC X.K) (tk := fun c pσ h Q' X' => if c = true then wT C b' pσ h Q' X' else Q' false h) LkC.keep (by simpa only [lC, wT] using q) fun pσ h1 c H1 Q' X' _ rs rh q lk lx => ?_
  cases c with
  | true => exact ⟨pσ, h1, Q', X', rs, rh, q, lk, lx⟩
  | false => exact lk.here rh q
theorem t_orw {a' b' : T} {rest : List Expr} (ha : PT X a (lC ea X.K W (wT C a'))) (hb : PW X (.BoolOp .Or (b :: rest) pos) (lC ea X.K W (wT C b'))) : PW X (.BoolOp .Or (a :: b :: rest) pos) (lC ea X.K W (wT C (.or a' b'))) := by
  refine ⟨fun whole pins s σ H Q I q => (pw_or ha hb).run whole pins s σ H Q I ?_⟩
  refine lC_seq (LQ := LkC X.K) (tk := fun c pσ h Q' X' => if c = true then Q' true h else wT C b' pσ h Q' X') LkC.keep (by simpa only [lC, wT] using q) fun pσ h1 c H1 Q' X' _ rs rh q lk lx => ?_
  cases c with
  | true => exact lk.here rh q
  | false => exact ⟨pσ, h1, Q', X', rs, rh, q, lk, lx⟩
theorem t_and {f : Expr → Option T} : ∀ {es : List Expr} {cs : List T} {c' : T}, (∀ e c, e ∈ es → f e = some c → PT X e (lC ea X.K W (wT C c))) → es.mapM f = some cs → foldT true cs = some c' → PW X (.BoolOp .And es pos) (lC ea X.K W (wT C c'))
  | [], _, _, _, h, g => by rw [mapM_nil h] at g; cases g
  | [a], _, _, ih, h, g => by
    obtain ⟨y, zs, h1, h2, rfl⟩ := mapM_cons h
    rw [mapM_nil h2] at g
    cases g
    exact pw_and1 (ih a _ (by simp) h1)
  | a :: b :: es, _, _, ih, h, g => by
    obtain ⟨y, zs, h1, h2, rfl⟩ := mapM_cons h
    have h3 := h2
    obtain ⟨y2, zs2, _, _, rfl⟩ := mapM_cons h3
    simp only [foldT] at g
    cases q : foldT true (y2 :: zs2) with
    | none => rw [q] at g; cases g
    | some c2 =>
      rw [q] at g; cases g
      exact t_andw (ih a y (by simp) h1) (t_and (fun e c m => ih e c (List.mem_cons_of_mem _ m)) h2 q)
theorem t_or {f : Expr → Option T} : ∀ {es : List Expr} {cs : List T} {c' : T}, (∀ e c, e ∈ es → f e = some c → PT X e (lC ea X.K W (wT C c))) → es.mapM f = some cs → foldT false cs = some c' → PW X (.BoolOp .Or es pos) (lC ea X.K W (wT C c'))
  | [], _, _, _, h, g => by rw [mapM_nil h] at g; cases g
  | [a], _, _, ih, h, g => by
    obtain ⟨y, zs, h1, h2, rfl⟩ := mapM_cons h
    rw [mapM_nil h2] at g
    cases g
    exact pw_or1 (ih a _ (by simp) h1)
  | a :: b :: es, _, _, ih, h, g => by
    obtain ⟨y, zs, h1, h2, rfl⟩ := mapM_cons h
    have h3 := h2
    obtain ⟨y2, zs2, _, _, rfl⟩ := mapM_cons h3
    simp only [foldT] at g
    cases q : foldT false (y2 :: zs2) with
    | none => rw [q] at g; cases g
    | some c2 =>
      rw [q] at g; cases g
      exact t_orw (ih a y (by simp) h1) (t_or (fun e c m => ih e c (List.mem_cons_of_mem _ m)) h2 q)
/-- a value's truth as a test -/
theorem t_tru {a' : E} (ha : PE X a (lE ea X.K W (wE C a'))) (he : ∀ whole, isTrue a X.env whole = (do let v ← whole; standAt a.pos; holding [v] (truthy v))) : PT X a (lC ea X.K W (wT C (.e a'))) :=
  PT.imp (pt_truth ha he) fun σ H Q q => lE_seq (LQ := LkC X.K) (tk := fun x pσ h Q' X' => truS x h Q') LkC.keep (by simpa only [lC, wT] using q) fun pσ h1 x vx H1 Q' X' _ rs rh rx q lk lx =>
    ok_tru rx rh q lk
theorem t_cmp {op : CmpOp} {o : Cop} {a' b' : E} (hu : X.A.units + 64 < cLine) (hs : notSet b = true) (ho : cmpOf op = some o) (ha : PE X a (lE ea X.K W (wE C a'))) (hb : PE X b (lE ea X.K W (wE C b'))) :
    PT X (.Compare a [op] [b] pos) (lC ea X.K W (wT C (.e (.cmp o a' b')))) := by
  obtain ⟨r, h1, h2⟩ := r_cop hu ho
  refine PT.imp (pt_cmpR h1 ha hb (mark_of hs)) fun σ H Q q => ?_
  simp only [lC, wT, wE] at q
  refine lE_seq (LQ := LkC X.K) (tk := fun x pσ h Q' X' => wE C b' pσ h (fun y h => copS o x y h fun v h => truS v h Q') X') LkC.keep q fun pσ h1 x vx H1 Q' X' _ rs rh rx q lk lx => ?_
  refine lE_seq (LQ := LkC X.K) (tk := fun y pσ h Q' X' => copS o x y h fun v h => truS v h Q') LkC.keep ⟨pσ, h1, Q', X', rs, rh, q, lk, lx⟩ fun pσ hb2 y vy H2 Q' X' ks rs rh2 ry q lk lx => ?_
  refine h2 x y _ _ vx vy H2 _ (rx.mono ks) ry rh2 (cop_bool q) fun z h3 vz H3 rz rh3 fr q3 => ?_
  obtain ⟨⟨d, rfl⟩, q3⟩ := q3
  exact ⟨d, rep_bl rz, (lk.keep fr).here rh3 q3⟩
theorem t_chn {op op' : CmpOp} {o o' : Cop} {a' b' c' : E} (hu : X.A.units + 64 < cLine) (hs : notSet c = true) (ho : cmpOf op = some o) (ho' : cmpOf op' = some o')
    (ha : PE X a (lE ea X.K W (wE C a'))) (hb : PE X b (lE ea X.K W (wE C b'))) (hc : PE X c (lE ea X.K W (wE C c'))) : PT X (.Compare a [op, op'] [b, c] pos) (lC ea X.K W (wT C (.e (.chn o o' a' b' c')))) := by
  obtain ⟨r, h1, h2⟩ := r_cop hu ho
  obtain ⟨r', h1', h2'⟩ := r_cop hu ho'
  exact PT.imp (pt_chain h1 h1' ha hb hc (marks_of hs)) fun σ H Q q => chain_gen (LQ := LkC X.K) (F := fun Q' v h => truS v h Q') LkC.keep (fun h H Q' b rh lk q => ⟨b, rfl, lk.here rh q⟩) h2 h2' (by simpa only [lC, wT] using q)
end
end Co
namespace Co
open PySem L2
open PySem.Spec PyProof.Rows
def notStar : Expr → Bool
  | .Starred .. => false
  | _ => true
def notSlice : Expr → Bool
  | .Slice .. => false
  | _ => true
/-- no call without arguments -/
def notCall0 : Expr → Bool
  | .Call (.Name _ _) [] [] _ => false
  | _ => true
section
variable {ea : Nat → Addr} {t : Tb} {C : CS} {k : Nat} {N : List Str} {sc : Scope} {W : WX} {X : Cx} {e a b c : Expr} {es : List Expr} {pos : Pos}
theorem star_of {env : Env} (h : notStar e = true) : starEach (e :: es) env = (false, eval e env) :: starEach es env := by
  cases e <;> first | rfl | cases h
theorem plain_of {env : Env} : ∀ {es : List Expr}, es.all notStar = true → (backTo pos (starEach es env)).any (·.1) = false
  | [], _ => rfl
  | e :: es, h => by
    (rw [List.all_cons] at h; rw [Bool.and_eq_true] at h)
    rw [star_of h.1]
    show (false || (backTo pos (starEach es env)).any (·.1)) = false
    rw [plain_of h.2]; rfl
theorem few_of {env : Env} : ∀ {es : List Expr}, es.all notStar = true → (backTo pos (starEach es env)).all (fun x => !x.1) = true
  | [], _ => rfl
  | e :: es, h => by
    (rw [List.all_cons] at h; rw [Bool.and_eq_true] at h)
    rw [star_of h.1]
    show (true && (backTo pos (starEach es env)).all (fun x => !x.1)) = true
    rw [few_of h.2]; rfl
theorem s_ite {c' : T} {a' b' : E} (hc : PT X c (lC ea X.K W (wT C c'))) (ha : PE X a (lE ea X.K W (wE C a'))) (hb : PE X b (lE ea X.K W (wE C b'))) : PE X (.IfExp c a b pos) (lE ea X.K W (wE C (.ite c' a' b'))) :=
  PE.imp (pe_ifExp hc ha hb) fun σ H Q q => lC_seq (LQ := Lk X.K) (tk := fun c pσ h Q' X' => if c = true then wE C a' pσ h Q' X' else wE C b' pσ h Q' X') Lk.keep (by simpa only [lE, wE] using q) fun pσ h1 c H1 Q' X' _ rs rh q lk lx => by
    cases c with
    | true => exact ⟨pσ, h1, Q', X', rs, rh, q, lk, lx⟩
    | false => exact ⟨pσ, h1, Q', X', rs, rh, q, lk, lx⟩
theorem s_args {f : Expr → Option E} : ∀ {es : List Expr} {cs : List E}, (∀ e c, e ∈ es → f e = some c → PE X e (lE ea X.K W (wE C c)) ∧ notStar e = true) → es.mapM f = some cs → PA X es (lA ea X.K W (wEs C (toEs cs))) ∧ es.all notStar = true
  | [], _, _, h => by
    rw [mapM_nil h]
    exact ⟨PA.imp pa_nil fun σ H Q ⟨pσ, h, Q', X', rs, rh, q, lk, lx⟩ => lk [] h [] H (RepVs.nil_iff.mpr rfl) rh Fr.refl (by simpa only [toEs, wEs] using q), rfl⟩
  | e :: es, _, ih, h => by
    obtain ⟨y, zs, h1, h2, rfl⟩ := mapM_cons h
    obtain ⟨p1, p2⟩ := ih e y (by simp) h1
    obtain ⟨q1, q2⟩ := s_args (fun e c m => ih e c (List.mem_cons_of_mem _ m)) h2
    refine ⟨PA.imp (pa_cons p1 q1 (star_of p2)) fun σ H Q q => ?_, by rw [List.all_cons, p2, q2]; rfl⟩
    refine lE_seq (LQ := LkA X.K) (tk := fun x pσ h Q' X' => wEs C (toEs zs) pσ h (fun vs h => Q' (x :: vs) h) X') LkA.keep (by simpa only [lA, toEs, wEs] using q) fun pσ h1 x vx H1 Q' X' _ rs rh rx q lk lx => ?_
    refine lA_seq (LQ := LkA X.K) (tk := fun vs pσ h Q' X' => Q' (x :: vs) h) LkA.keep ⟨pσ, h1, Q', X', rs, rh, q, lk, lx⟩ fun pσ h2 xs vxs H2 Q' X' ks rs rh2 rxs q lk lx => ?_
    exact lk _ _ _ _ (RepVs.cons_iff.mpr ⟨_, _, rfl, rx.mono ks, rxs⟩) rh2 Fr.refl q
/-- one thing made of arguments -/
theorem s_argsK {e : Expr} {ts : Es} {s : List PV → PH → QK → Prop} {r : List V → Hp → VK → Prop} (ok : OkL X.K s r) (hp : PE X e (tCB r (lA ea X.K W (wEs C ts)))) :
    PE X e (lE ea X.K W fun σ h Q Xk => wEs C ts σ h (fun vs h => s vs h Q) Xk) :=
  PE.imp hp fun σ H Q q => lA_seq (LQ := Lk X.K) (tk := fun vs pσ h Q' X' => s vs h Q') Lk.keep q fun pσ h1 x vx H1 Q' X' _ rs rh rx q lk lx => ok x h1 Q' vx H1 Q rx rh q lk
theorem s_tup {x1 : Nat} {cs : List E} (ha : PA X es (lA ea X.K W (wEs C (toEs cs)))) : PE X (.Tuple es x1 pos) (lE ea X.K W (wE C (.tup (toEs cs)))) := by
  have ok : OkL X.K (fun vs h Q => vs.length ≤ 16777216 ∧ Q (.tup vs) h) (fun xs H1 Q => xs.length ≤ sizeLine ∧ ∀ p, H1 p = none → Q (.ref p) (upd H1 p (.tup xs))) := fun xs h Q' vs H Q rx rh q lk =>
    ⟨by rw [line16, ← rx.length]; exact q.1, newT_rep rh rx q.2 lk⟩
  have := s_argsK (W := W) (ea := ea) ok (pe_tup (x1 := x1) (pos := pos) ha)
  simpa only [wE] using this
theorem s_lst {cs : List E} (ha : PA X es (lA ea X.K W (wEs C (toEs cs)))) : PE X (.List es pos) (lE ea X.K W (wE C (.lst (toEs cs)))) := by
  have ok : OkL X.K (fun vs h Q => vs.length ≤ 16777216 ∧ newL h vs Q) (fun xs H1 Q => xs.length ≤ sizeLine ∧ ∀ p, H1 p = none → Q (.ref p) (upd H1 p (.lst xs))) := fun xs h Q' vs H Q rx rh q lk =>
    ⟨by rw [line16, ← rx.length]; exact q.1, newL_rep rh rx q.2 lk⟩
  have := s_argsK (W := W) (ea := ea) ok (pe_lst (pos := pos) ha)
  simpa only [wE] using this
theorem s_call {x : Str} {i : Nat} {p : Pos} {cs : List E} (cx : CtxOk ea t C k N sc W X) (hx : t.fns[i]? = some x) (hg : glb sc x = true) (hn : nmOk x = true) (ha : PA X (a :: es) (lA ea X.K W (wEs C (toEs cs)))) (hs : (a :: es).all notStar = true) :
    PE X (.Call (.Name x p) (a :: es) [] pos) (lE ea X.K W (wE C (.call i (toEs cs)))) := by
  obtain ⟨f, fd, ps, h1, h2, h3, h4⟩ := cx.fns i x hx
  have hs' := hs
  rw [List.all_cons, Bool.and_eq_true] at hs'
  refine PE.imp (pe_callS h4 cx.room (glb_of cx.hsc hg) h1 h2 h3 (fun σ => passAt cx.tk σ) ha (nm_of hn).1 (star_of hs'.1) (plain_of hs'.2)) fun σ H Q q => ?_
  refine lA_seq (LQ := Lk X.K) (tk := fun vs pσ h Q' X' => C i vs h Q' X') Lk.keep (by simpa only [lE, wE] using q) fun pσ h1 x vx H1 Q' X' _ rs rh rx q lk lx => ?_
  exact ⟨x, h1, Q', X', rx, rh, q, lk, lx⟩
theorem pe_blt {bt : Blt} {r : List V → Hp → VK → Prop} {ta : TA} {p : Pos} (hc : CallR X (bltV bt) r) (hg : Gl X (bltNm bt)) (hm : X.mg (bltNm bt) = none) (ha : PA X (a :: es) ta) (hs : (a :: es).all notStar = true) : PE X (.Call (.Name (bltNm bt) p) (a :: es) [] pos) (tCB r ta) := by
  rw [List.all_cons, Bool.and_eq_true] at hs
  have hv := boot_blt bt
  cases bt <;> first
    | exact pe_callB hc hg hm hv ha (by decide) (by decide) (star_of hs.1) (plain_of hs.2)
    | exact pe_callTy hc hg hm hv ha (by decide) (by decide) (star_of hs.1) (plain_of hs.2)
theorem blt_of {x : Str} {n : Nat} {bt : Blt} (h : bltOf x n = some bt) : bltNm bt = x := by
  have := List.find?_some h
  rw [Bool.and_eq_true, beq_iff_eq] at this
  exact this.1
theorem s_blt {x : Str} {n : Nat} {bt : Blt} {p : Pos} {cs : List E} (cx : CtxOk ea t C k N sc W X) (hb : bltOf x n = some bt) (hg : glb sc x = true) (hm : t.blts.contains x = true) (ha : PA X (a :: es) (lA ea X.K W (wEs C (toEs cs)))) (hs : (a :: es).all notStar = true) :
    PE X (.Call (.Name x p) (a :: es) [] pos) (lE ea X.K W (wE C (.blt bt (toEs cs)))) := by
  have e := blt_of hb
  subst e
  obtain ⟨r, h1, h2⟩ := r_blt (X := X) cx.calm bt
  have := s_argsK (W := W) (ea := ea) h2 (pe_blt (p := p) (pos := pos) h1 (glb_of cx.hsc hg) (cx.blts _ hm) ha hs)
  simpa only [wE] using this
theorem boot_ty (y : Ty) : bootBuiltins (tyS y) = some (.type (tyN y)) := by cases y <;> decide +kernel
theorem ty_of {x : Str} {y : Ty} (h : tyOf x = some y) : tyS y = x := by
  have := List.find?_some h
  rw [beq_iff_eq] at this
  exact this
theorem s_ty {ty : Expr} {y : Ty} (cx : CtxOk ea t C k N sc W X) (h : cTy t sc ty = some y) : PE X ty (tC (.ty (tyN y))) ∧ notStar ty = true := by
  unfold cTy at h
  split at h
  · rename_i x p
    split at h
    · rename_i g
      unfold hasB at g
      rw [Bool.and_eq_true, Bool.and_eq_true] at g
      have e := ty_of h
      subst e
      obtain ⟨n1, n2, n3⟩ := nm_of g.1.2
      exact ⟨pe_bltn (glb_of cx.hsc g.1.1) (cx.blts _ g.2) (boot_ty y) rfl n3 n1, rfl⟩
    · cases h
  · cases h
theorem s_tysA (cx : CtxOk ea t C k N sc W X) : ∀ {es : List Expr} {ts : List Ty}, es.mapM (cTy t sc) = some ts → PA X es (fun σ H Q => Q (ts.map fun y => V.ty (tyN y)) H) ∧ es.all notStar = true
  | [], _, h => by rw [mapM_nil h]; exact ⟨pa_nil, rfl⟩
  | e :: es, _, h => by
    obtain ⟨y, zs, h1, h2, rfl⟩ := mapM_cons h
    obtain ⟨p1, p2⟩ := s_ty cx h1
    obtain ⟨q1, q2⟩ := s_tysA cx h2
    exact ⟨pa_cons p1 q1 (star_of p2), by rw [List.all_cons, p2, q2]; rfl⟩
theorem clsv : ∀ ts : List Ty, Paired ClsV (ts.map fun y => V.ty (tyN y)) (ts.map fun y => Value.type (tyN y))
  | [] => .nil
  | y :: ts => .cons (.ty _) (clsv ts)
theorem boot_isi : bootBuiltins "isinstance" = some (.builtin "isinstance") := by decide +kernel
theorem s_isi {ty : Expr} {ts : List Ty} {tp : Bool} {a' : E} {p : Pos} (cx : CtxOk ea t C k N sc W X) (hg : glb sc "isinstance" = true) (hm : t.blts.contains "isinstance" = true) (ha : PE X a (lE ea X.K W (wE C a'))) (hs : notStar a = true)
    (h : cTys t sc ty = some (ts, tp)) : PE X (.Call (.Name "isinstance" p) [a, ty] [] pos) (lE ea X.K W (wE C (.isi a' ts tp))) := by
  have gen : ∀ y, ts = [y] → cTy t sc ty = some y → PE X (.Call (.Name "isinstance" p) [a, ty] [] pos) (lE ea X.K W (wE C (.isi a' ts tp))) := fun y e hy => by
    subst e
    obtain ⟨p1, p2⟩ := s_ty cx hy
    refine PE.imp (pe_callB call_isi (glb_of cx.hsc hg) (cx.blts _ hm) boot_isi (pa_cons ha (pa_cons p1 pa_nil (star_of p2)) (star_of hs)) (by decide) (by decide) (star_of hs) (plain_of (by rw [List.all_cons, p2]; rfl))) fun σ H Q q => ?_
    refine lE_seq (LQ := Lk X.K) (tk := fun x pσ h Q' X' => isiS x [y] h Q') Lk.keep (by simpa only [lE, wE] using q) fun pσ h1 x vx H1 Q' X' _ rs rh rx q lk lx => ?_
    refine ⟨vx, .ty (tyN y), .type (tyP x), .type (tyN y), isTy h1 x y, rfl, .ty _, tyx_rep rx rh q.1, kit1 x y, lk.here bl_rep rh ?_⟩
    have q2 := q.2
    rw [List.any_cons, List.any_nil, Bool.or_false] at q2
    exact q2
  unfold cTys at h
  split at h
  · rename_i es x1 p1
    cases em : es.mapM (cTy t sc) with
    | none => rw [em] at h; cases h
    | some us =>
      rw [em] at h
      have h : (if us.length ≤ 100 then some (us, true) else none) = some (ts, tp) := h
      split at h <;> cases h
      rename_i hl
      obtain ⟨q1, q2⟩ := s_tysA cx em
      refine PE.imp (pe_callB call_isiT (glb_of cx.hsc hg) (cx.blts _ hm) boot_isi (pa_cons ha (pa_cons (pe_tup q1) pa_nil (star_of rfl)) (star_of hs)) (by decide) (by decide) (star_of hs) (plain_of rfl)) fun σ H Q q => ?_
      refine lE_seq (LQ := Lk X.K) (tk := fun x pσ h Q' X' => isiS x ts h Q') Lk.keep (by simpa only [lE, wE] using q) fun pσ h1 x vx H1 Q' X' _ rs rh rx q lk lx => ?_
      refine ⟨by rw [line16, List.length_map]; omega, fun tp hp => ?_⟩
      have fr : Fr h1 H1 h1 (upd H1 tp (.tup (ts.map fun y => V.ty (tyN y)))) := Fr.tup hp
      exact ⟨vx, tp, _, .type (tyP x), _, ts.any (isTy h1 x), rfl, upd_same, clsv ts, tyx_rep (rx.keep rh fr) (rh.tup hp) q.1, kitA x ts, (lk.keep fr).here bl_rep (rh.tup hp) q.2⟩
  · cases em : cTy t sc ty with
    | none => rw [em] at h; cases h
    | some y => rw [em] at h; cases h; exact gen y rfl em
end
end Co
namespace Co
open PySem L2
open PySem.Spec PyProof.Rows
section
variable {ea : Nat → Addr} {t : Tb} {C : CS} {k : Nat} {N : List Str} {sc : Scope} {W : WX} {X : Cx} {e a b c : Expr} {es : List Expr} {pos : Pos}
theorem plainIx_of (h : notSlice b = true) : PlainIx b := by
  intro o i
  cases b <;> first | rfl | cases h
theorem s_ix {a' b' : E} (ha : PE X a (lE ea X.K W (wE C a'))) (hb : PE X b (lE ea X.K W (wE C b'))) (hs : notSlice b = true) : PE X (.Subscript a b pos) (lE ea X.K W (wE C (.ix a' b'))) := by
  have := s_op2 (W := W) (ea := ea) ok_ix (pe_ix ix_seq ha hb (plainIx_of hs) (pos := pos))
  simpa only [wE] using this
theorem s_po {o : Option Expr} {o' : Eo} (h : (o = none ∧ o' = .none) ∨ ∃ e e', o = some e ∧ o' = .some e' ∧ PE X e (lE ea X.K W (wE C e'))) : L2.PO X o (lC ea X.K W (wEo C o')) := by
  rcases h with ⟨rfl, rfl⟩ | ⟨e, e', rfl, rfl, p⟩
  · exact ⟨fun pins s σ H Q I ⟨pσ, h, Q', X', rs, rh, q, lk, lx⟩ => (po_none (X := X)).run pins s σ H Q I (lk.here rh (by simpa only [wEo] using q))⟩
  · refine ⟨fun pins s σ H Q I q => (po_some p).run pins s σ H Q I ?_⟩
    refine lE_seq (LQ := LkC X.K) (tk := fun v pσ h Q' X' => intS v fun i => Q' (Option.some i) h) LkC.keep (by simpa only [lC, wEo] using q) fun pσ h1 x vx H1 Q' X' _ rs rh rx q lk lx => ?_
    cases x with
    | int i => exact ⟨i, rep_int rx, lk.here rh q⟩
    | _ => exact False.elim q
theorem s_sl {lo hi : Option Expr} {a' : E} {lo' hi' : Eo} {p2 : Pos} (ha : PE X a (lE ea X.K W (wE C a'))) (hl : L2.PO X lo (lC ea X.K W (wEo C lo'))) (hh : L2.PO X hi (lC ea X.K W (wEo C hi'))) :
    PE X (.Subscript a (.Slice lo hi none p2) pos) (lE ea X.K W (wE C (.sl a' lo' hi'))) :=
  PE.imp (pe_slice r_sl ha hl hh) fun σ H Q q => by
    refine lE_seq (LQ := Lk X.K) (tk := fun x pσ h Q' X' => wEo C lo' pσ h (fun l h => wEo C hi' pσ h (fun u h => slS x l u h Q') X') X') Lk.keep (by simpa only [lE, wE] using q) fun pσ h1 x vx H1 Q' X' _ rs rh rx q lk lx => ?_
    refine lC_seq (LQ := Lk X.K) (tk := fun l pσ h Q' X' => wEo C hi' pσ h (fun u h => slS x l u h Q') X') Lk.keep ⟨pσ, h1, Q', X', rs, rh, q, lk, lx⟩ fun pσ h2 l H2 Q' X' ks rs rh2 q lk lx => ?_
    refine lC_seq (LQ := Lk X.K) (tk := fun u pσ h Q' X' => slS x l u h Q') Lk.keep ⟨pσ, h2, Q', X', rs, rh2, q, lk, lx⟩ fun pσ h3 u H3 Q' X' ks3 rs rh3 q lk lx => ?_
    exact ok_sl ((rx.mono ks).mono ks3) rh3 q lk
theorem base_of {m : Str} {w : Sem Value} {env : Env} (h : notCall0 e = true) : attributeBase e m env w = w := by
  unfold attributeBase
  split
  · cases h
  · rfl
theorem lstOk_list {x : PV} {h : PH} {P : Prop} (q : lstOk x h P) : (∃ a xs, x = .ref a ∧ h a = some (.lst xs)) ∧ P := by
  unfold lstOk at q
  split at q
  · split at q
    · exact ⟨⟨_, _, rfl, ‹_›⟩, q⟩
    · exact q.elim
  · exact q.elim
theorem s_mth0 {m : Str} {mm : Mth} {a' : E} {apos : Pos} {id : String} (hr : MtR X id (rMt mm)) (pa : PlainAttrs "list") (slot : Slot "list" m id) (hty : typeOf (.builtin id) = pure (.type "method_descriptor"))
    (ha : PE X a (lE ea X.K W (wE C a'))) (hb : notCall0 a = true) (hl : (apos.endLine == pos.line) = true) : PE X (.Call (.Attribute a m apos) [] [] pos) (lE ea X.K W (wE C (.mth mm a' (toEs [])))) :=
  PE.imp (pe_bm0 pa slot hty hr ha (base_of hb) hl) fun σ H Q q => by
    refine lE_seq (LQ := Lk X.K) (tk := fun x pσ h Q' X' => lstOk x h (wEs C .nil pσ h (fun vs h => mthS mm x vs h Q') X')) Lk.keep (by simpa only [lE, wE, toEs] using q) fun pσ h1 x vx H1 Q' X' _ rs rh rx q lk lx => ?_
    obtain ⟨⟨p, xs, rfl, e⟩, q⟩ := lstOk_list q
    simp only [wEs] at q
    obtain ⟨vs, e1, _⟩ := lst_rep rh e
    rw [rep_ref rx]
    exact ⟨.inl ⟨rfl, vs, .inl (.inl e1)⟩, ok_mth mm ref_rep (RepVs.nil_iff.mpr rfl) rh q lk⟩
theorem s_mth1 {m : Str} {mm : Mth} {a' : E} {cs : List E} {apos : Pos} {id : String} (hr : MtR X id (rMt mm)) (pa : PlainAttrs "list") (slot : Slot "list" m id) (hty : typeOf (.builtin id) = pure (.type "method_descriptor"))
    (ha : PE X a (lE ea X.K W (wE C a'))) (hargs : PA X [b] (lA ea X.K W (wEs C (toEs cs)))) (hs : notStar b = true) (hb : notCall0 a = true) (hl : (apos.endLine == pos.line) = true) :
    PE X (.Call (.Attribute a m apos) [b] [] pos) (lE ea X.K W (wE C (.mth mm a' (toEs cs)))) :=
  PE.imp (pe_bm pa slot hty hr ha hargs (base_of hb) (by rw [star_of hs]; rfl) hl (star_of hs) rfl) fun σ H Q q => by
    refine lE_seq (LQ := Lk X.K) (tk := fun x pσ h Q' X' => lstOk x h (wEs C (toEs cs) pσ h (fun vs h => mthS mm x vs h Q') X')) Lk.keep (by simpa only [lE, wE] using q) fun pσ h1 x vx H1 Q' X' _ rs rh rx q lk lx => ?_
    obtain ⟨⟨p, xs, rfl, e⟩, q⟩ := lstOk_list q
    obtain ⟨vs, e1, _⟩ := lst_rep rh e
    refine ⟨by rw [rep_ref rx]; exact .inl ⟨rfl, vs, .inl (.inl e1)⟩, ?_⟩
    refine lA_seq (LQ := Lk X.K) (tk := fun vs pσ h Q' X' => mthS mm (.ref p) vs h Q') Lk.keep ⟨pσ, h1, Q', X', rs, rh, q, lk, lx⟩ fun pσ h2 ys vys H2 Q' X' ks rs rh2 rys q lk lx => ?_
    exact ok_mth mm (rx.mono ks) rys rh2 q lk
theorem s_mth {f : Expr → Option E} {m : Str} {mm : Mth} {a' : E} {cs : List E} {apos : Pos} (hm : mthOf m es.length = some mm) (ha : PE X a (lE ea X.K W (wE C a'))) (hb : notCall0 a = true) (hl : (apos.endLine == pos.line) = true)
    (ih : ∀ e c, e ∈ es → f e = some c → PE X e (lE ea X.K W (wE C c)) ∧ notStar e = true) (hc : es.mapM f = some cs) : PE X (.Call (.Attribute a m apos) es [] pos) (lE ea X.K W (wE C (.mth mm a' (toEs cs)))) := by
  have hargs := s_args ih hc
  unfold mthOf at hm
  split at hm
  · rename_i g
    rw [Bool.and_eq_true, beq_iff_eq, beq_iff_eq] at g
    obtain ⟨rfl, g⟩ := g
    cases hm
    rcases es with _ | ⟨b, _ | ⟨_, _⟩⟩ <;> simp at g
    have := hargs.2
    rw [List.all_cons, List.all_nil, Bool.and_true] at this
    exact s_mth1 mt_append PySem.F.plainAttrs_list PySem.F.slot_list_append PySem.F.type_list_append ha hargs.1 this hb hl
  · split at hm
    · rename_i g
      rw [Bool.and_eq_true, beq_iff_eq, beq_iff_eq] at g
      obtain ⟨rfl, g⟩ := g
      cases hm
      rcases es with _ | ⟨b, _⟩ <;> simp at g
      rw [mapM_nil hc]
      exact s_mth0 mt_pop PySem.F.plainAttrs_list PySem.F.slot_list_pop PySem.F.type_list_pop ha hb hl
    · split at hm
      · rename_i g
        rw [Bool.and_eq_true, beq_iff_eq, beq_iff_eq] at g
        obtain ⟨rfl, g⟩ := g
        cases hm
        rcases es with _ | ⟨b, _ | ⟨_, _⟩⟩ <;> simp at g
        have := hargs.2
        rw [List.all_cons, List.all_nil, Bool.and_true] at this
        exact s_mth1 mt_popAt PySem.F.plainAttrs_list PySem.F.slot_list_pop PySem.F.type_list_pop ha hargs.1 this hb hl
      · cases hm
theorem rg_rep {K : PySem.W.Frag} {H : Hp} (lo hi : Int) : RepVs K H (rgL lo hi) (rgV lo hi) := by
  unfold rgL rgV
  generalize List.range (hi - lo).toNat = l
  induction l with
  | nil => exact RepVs.nil_iff.mpr rfl
  | cons n l ih => exact RepVs.cons_iff.mpr ⟨_, _, rfl, int_rep, ih⟩
theorem s_rgK {e : Expr} {tp : Bool} {te : L2.St → Hp → (Int → Int → Hp → Prop) → Prop} {x : Str} {p : Pos} {ta : Sl → PH → (Int × Int → PH → Prop) → XK → Prop} (cx : CtxOk ea t C k N sc W X) (hx : x = "tuple" ∨ x = "list") (htp : tp = (x == "tuple")) (hg : glb sc x = true) (hm : t.blts.contains x = true)
    (he : PRg X e te) (hs : notStar e = true) (hte : ∀ σ H Q, lC ea X.K W ta σ H Q → te σ H fun a b H => Q (a, b) H) :
    PE X (.Call (.Name x p) [e] [] pos) (lE ea X.K W fun σ h Q Xk => ta σ h (fun ab h => rgOk ab.1 ab.2 ∧ (if tp = true then Q (.tup (rgL ab.1 ab.2)) h else newL h (rgL ab.1 ab.2) Q)) Xk) := by
  rcases hx with rfl | rfl
  · obtain rfl : tp = true := htp
    refine PE.imp (pe_tupRg cx.calm (glb_of cx.hsc hg) (cx.blts _ hm) he (star_of hs)) fun σ H Q q => ?_
    refine hte σ H (fun ab H1 => RgOk ab.1 ab.2 ∧ ∀ q, H1 q = none → Q (.ref q) (upd H1 q (.tup (rgV ab.1 ab.2)))) ?_
    refine lC_seq (LQ := Lk X.K) (tk := fun (ab : Int × Int) pσ h Q' X' => rgOk ab.1 ab.2 ∧ (if true = true then Q' (.tup (rgL ab.1 ab.2)) h else newL h (rgL ab.1 ab.2) Q')) Lk.keep (by simpa only [lE] using q) fun pσ h1 ab H1 Q' X' _ rs rh q lk lx => ?_
    rw [if_pos rfl] at q
    exact ⟨q.1, newT_rep rh (rg_rep _ _) q.2 lk⟩
  · obtain rfl : tp = false := htp
    refine PE.imp (pe_listRg cx.calm (glb_of cx.hsc hg) (cx.blts _ hm) he (star_of hs)) fun σ H Q q => ?_
    refine hte σ H (fun ab H1 => RgOk ab.1 ab.2 ∧ ∀ q, H1 q = none → Q (.ref q) (upd H1 q (.lst (rgV ab.1 ab.2)))) ?_
    refine lC_seq (LQ := Lk X.K) (tk := fun (ab : Int × Int) pσ h Q' X' => rgOk ab.1 ab.2 ∧ (if false = true then Q' (.tup (rgL ab.1 ab.2)) h else newL h (rgL ab.1 ab.2) Q')) Lk.keep (by simpa only [lE] using q) fun pσ h1 ab H1 Q' X' _ rs rh q lk lx => ?_
    rw [if_neg Bool.false_ne_true] at q
    exact ⟨q.1, newL_rep rh (rg_rep _ _) q.2 lk⟩
theorem s_rg1 {tp : Bool} {x : Str} {p p2 pos2 : Pos} {a' : E} (cx : CtxOk ea t C k N sc W X) (hx : x = "tuple" ∨ x = "list") (htp : tp = (x == "tuple")) (hg : glb sc x = true) (hm : t.blts.contains x = true) (hg2 : glb sc "range" = true) (hm2 : t.blts.contains "range" = true)
    (ha : PE X a (lE ea X.K W (wE C a'))) (hs : notStar a = true) : PE X (.Call (.Name x p) [.Call (.Name "range" p2) [a] [] pos2] [] pos) (lE ea X.K W (wE C (.rg1 tp a'))) := by
  have := s_rgK (pos := pos) (p := p) (ta := fun σ h Q Xk => wE C a' σ h (fun x h => intS x fun n => Q (0, n) h) Xk) cx hx htp hg hm (prg_1 (p := p2) (pos := pos2) (glb_of cx.hsc hg2) (cx.blts _ hm2) ha (star_of hs)) rfl fun σ H Q q => by
    refine lE_seq (LQ := LkC X.K) (tk := fun x pσ h Q' X' => intS x fun n => Q' (0, n) h) LkC.keep q fun pσ h1 x vx H1 Q' X' _ rs rh rx q lk lx => ?_
    cases x with
    | int n => exact ⟨n, rep_int rx, lk.here rh q⟩
    | _ => exact False.elim q
  simpa only [wE] using this
theorem s_rg2 {tp : Bool} {x : Str} {p p2 pos2 : Pos} {a' b' : E} (cx : CtxOk ea t C k N sc W X) (hx : x = "tuple" ∨ x = "list") (htp : tp = (x == "tuple")) (hg : glb sc x = true) (hm : t.blts.contains x = true) (hg2 : glb sc "range" = true) (hm2 : t.blts.contains "range" = true)
    (ha : PE X a (lE ea X.K W (wE C a'))) (hs : notStar a = true) (hb : PE X b (lE ea X.K W (wE C b'))) (hsb : notStar b = true) : PE X (.Call (.Name x p) [.Call (.Name "range" p2) [a, b] [] pos2] [] pos) (lE ea X.K W (wE C (.rg2 tp a' b'))) := by
  have := s_rgK (pos := pos) (p := p) (ta := fun σ h Q Xk => wE C a' σ h (fun x h => wE C b' σ h (fun y h => int2S x y fun m n => Q (m, n) h) Xk) Xk) cx hx htp hg hm (prg_2 (p := p2) (pos := pos2) (glb_of cx.hsc hg2) (cx.blts _ hm2) ha hb (star_of hs) (star_of hsb) (by rw [star_of hsb]; rfl)) rfl fun σ H Q q => by
    refine lE_seq (LQ := LkC X.K) (tk := fun x pσ h Q' X' => wE C b' pσ h (fun y h => int2S x y fun m n => Q' (m, n) h) X') LkC.keep q fun pσ h1 x vx H1 Q' X' _ rs rh rx q lk lx => ?_
    refine lE_seq (LQ := LkC X.K) (tk := fun y pσ h Q' X' => int2S x y fun m n => Q' (m, n) h) LkC.keep ⟨pσ, h1, Q', X', rs, rh, q, lk, lx⟩ fun pσ h2 y vy H2 Q' X' ks rs rh ry q lk lx => ?_
    cases x <;> cases y <;> first | exact False.elim q | exact ⟨_, _, rep_int rx, rep_int ry, lk.here rh q⟩
  simpa only [wE] using this
end
end Co
namespace Co
open PySem L2
open PySem.Spec PyProof.Rows
theorem wipe_comm {σ : L2.St} {i : Nat} {x : Option V} : ∀ {vs : List Nat}, i ∉ vs → L2.wipe (σ.set i x) vs = (L2.wipe σ vs).set i x
  | [], _ => rfl
  | v :: vs, h => by
    have h1 : i ≠ v := fun e => h (by simp [e])
    have h2 : i ∉ vs := fun e => h (by simp [e])
    unfold L2.wipe
    rw [wipe_comm h2, List.set_comm _ _ h1]
theorem wipe_set {σ : L2.St} {i : Nat} {x : Option V} : ∀ {vs : List Nat}, i ∈ vs → L2.wipe (σ.set i x) vs = L2.wipe σ vs
  | v :: vs, h => by
    unfold L2.wipe
    by_cases h2 : i ∈ vs
    · rw [wipe_set h2]
    · have e : i = v := by simpa [h2] using h
      subst e
      rw [wipe_comm h2, List.set_set]
theorem wipe_wipe {σ : L2.St} : ∀ {vs ws : List Nat}, (∀ v ∈ vs, v ∈ ws) → L2.wipe (L2.wipe σ vs) ws = L2.wipe σ ws
  | [], _, _ => rfl
  | v :: vs, ws, h => by
    show L2.wipe ((L2.wipe σ vs).set v none) ws = _
    rw [wipe_set (h v (by simp)), wipe_wipe fun u m => h u (by simp [m])]
theorem cowipe_some {pσ : Sl} {i : Nat} {x : PV} : ∀ {vs : List Nat}, (wipe pσ vs)[i]? = some (some x) → pσ[i]? = some (some x) ∧ i ∉ vs := fun {vs} h => by
  induction vs generalizing pσ with
  | nil => exact ⟨h, by simp⟩
  | cons v vs ih =>
    obtain ⟨h1, h2⟩ := ih (pσ := pσ.set v none) h
    by_cases e : v = i
    · subst e
      by_cases hv : v < pσ.length
      · rw [List.getElem?_set_self hv] at h1; cases h1
      · rw [List.getElem?_eq_none (by simpa using hv)] at h1; cases h1
    · rw [List.getElem?_set_ne e] at h1
      exact ⟨h1, by simp only [List.mem_cons, not_or]; exact ⟨fun z => e z.symm, h2⟩⟩
theorem cowipe_length : ∀ (vs : List Nat) (pσ : Sl), (wipe pσ vs).length = pσ.length
  | [], _ => rfl
  | v :: vs, pσ => by unfold wipe; rw [cowipe_length vs, List.length_set]
theorem RepS.wipe {K : PySem.W.Frag} {H : Hp} {pσ : Sl} {σ : L2.St} (r : RepS K H pσ σ) (vs : List Nat) : RepS K H (Co.wipe pσ vs) (L2.wipe σ vs) := by
  refine ⟨by rw [cowipe_length, L2.wipe_length]; exact r.1, fun i pv e => ?_⟩
  obtain ⟨h1, h2⟩ := cowipe_some e
  obtain ⟨v, h3, h4⟩ := r.2 i pv h1
  exact ⟨v, by rw [L2.wipe_out h2]; exact h3, h4⟩
theorem RepS.set {K : PySem.W.Frag} {H : Hp} {pσ : Sl} {σ : L2.St} {pv : PV} {v : V} (r : RepS K H pσ σ) (i : Nat) (rv : RepV K H pv v) : RepS K H (pσ.set i (some pv)) (σ.set i (some v)) := by
  refine ⟨by rw [List.length_set, List.length_set]; exact r.1, fun j x e => ?_⟩
  by_cases h : i = j
  · subst h
    by_cases hi : i < pσ.length
    · rw [List.getElem?_set_self hi] at e
      cases e
      exact ⟨v, List.getElem?_set_self (by rw [← r.1]; exact hi), rv⟩
    · rw [List.getElem?_eq_none (by simpa using hi)] at e; cases e
  · rw [List.getElem?_set_ne h] at e ⊢
    exact r.2 j x e
/-- the slots of the target alone may differ -/
def SB (g : Tg) (σ σ' : L2.St) : Prop := ∀ vs, tgIn g vs = true → L2.wipe σ' vs = L2.wipe σ vs
def SBs (g : Tgs) (σ σ' : L2.St) : Prop := ∀ vs, tgsIn g vs = true → L2.wipe σ' vs = L2.wipe σ vs
/-- a target's reading, lifted -/
def lG (K : PySem.W.Frag) (t : PV → Sl → PH → (Sl → PH → Prop) → Prop) (sb : L2.St → L2.St → Prop) : TG := fun v σ H Q => ∃ pv pσ h Q', RepV K H pv v ∧ RepS K H pσ σ ∧ RepH K h H ∧ t pv pσ h Q' ∧
  ∀ pσ' h' σ' H', RepS K H' pσ' σ' → RepH K h' H' → Fr h H h' H' → sb σ σ' → Q' pσ' h' → Q σ' H'
def lGs (K : PySem.W.Frag) (t : List PV → Sl → PH → (Sl → PH → Prop) → Prop) (sb : L2.St → L2.St → Prop) : TGs := fun v σ H Q => ∃ pv pσ h Q', RepVs K H pv v ∧ RepS K H pσ σ ∧ RepH K h H ∧ t pv pσ h Q' ∧
  ∀ pσ' h' σ' H', RepS K H' pσ' σ' → RepH K h' H' → Fr h H h' H' → sb σ σ' → Q' pσ' h' → Q σ' H'
section
variable {ea : Nat → Addr} {t : Tb} {C : CS} {k : Nat} {N : List Str} {sc : Scope} {W : WX} {X : Cx} {e a b c : Expr} {es : List Expr} {pos : Pos}
theorem cel_of {x : Str} (h : cel sc x = true) : sc.names.lookup x = some .cell := by
  unfold cel at h
  split at h <;> first | assumption | cases h
theorem g_name {st : Scope} {x : Str} {i : Nat} (cx : CtxOk ea t C k N sc W X) (hf0 : ∀ x, st.names.lookup x = some .cell → X.fn x = true) (hi : N[i]? = some x) (hl : loc sc x = true) (hl2 : (locL sc x || cel st x) = true) : PG X (.Name x pos) (lG X.K (wTg C (.nm i)) (SB (.nm i))) := by
  have hf : X.fn x = true ∨ X.env.scope.names.lookup x = some .local := by
    rw [Bool.or_eq_true] at hl2
    rcases hl2 with q | q
    · exact .inr (by rw [cx.hsc]; exact locL_of q)
    · exact .inl (hf0 x (cel_of q))
  refine PG.imp (pg_name (i := i) (by rw [cx.hN]; exact cx.nd) (by rw [cx.hN]; exact hi) (by rw [cx.hsc]; exact loc_of hl) hf) fun v σ H Q ⟨pv, pσ, h, Q', rv, rs, rh, q, lk⟩ => ?_
  simp only [wTg] at q
  exact lk _ _ _ _ (rs.set i rv) rh Fr.refl (fun vs m => wipe_set (by simpa [tgIn] using m)) q
theorem asg_star {env : Env} (h : notStar e = true) : assignEach (e :: es) env = (false, assign e env) :: assignEach es env := by
  cases e <;> first | rfl | cases h
theorem asg_len {env : Env} : ∀ {es : List Expr}, es.all notStar = true → (assignEach es env).length = es.length ∧ (assignEach es env).findIdx? (·.1) = none
  | [], _ => ⟨rfl, rfl⟩
  | e :: es, h => by
    (rw [List.all_cons] at h; rw [Bool.and_eq_true] at h)
    obtain ⟨h1, h2⟩ := asg_len (env := env) h.2
    rw [asg_star h.1]
    refine ⟨by simp [h1], ?_⟩
    rw [List.findIdx?_cons]
    simp [h2]
theorem g_list {f : Expr → Option Tg} : ∀ {es : List Expr} {gs : List Tg}, (∀ e g, e ∈ es → f e = some g → PG X e (lG X.K (wTg C g) (SB g)) ∧ notStar e = true) → es.mapM f = some gs → PGs X es (lGs X.K (wTgs C (toTgs gs)) (SBs (toTgs gs))) ∧ es.all notStar = true ∧ tgsLen (toTgs gs) = es.length
  | [], _, _, h => by
    rw [mapM_nil h]
    refine ⟨⟨fun pins s σ H vs us Q I r ⟨pv, pσ, h, Q', rv, rs, rh, q, lk⟩ => (pgs_nil (X := X)).run pins s σ H vs us Q I r ?_⟩, rfl, rfl⟩
    · simp only [toTgs, wTgs] at q
      split at q
      · exact ⟨RepVs.nil_iff.mp rv, lk _ _ _ _ rs rh Fr.refl (fun _ _ => rfl) q⟩
      · exact q.elim
  | e :: es, _, ih, h => by
    obtain ⟨y, zs, h1, h2, rfl⟩ := mapM_cons h
    obtain ⟨p1, p2⟩ := ih e y (by simp) h1
    obtain ⟨q1, q2, q3⟩ := g_list (fun e c m => ih e c (List.mem_cons_of_mem _ m)) h2
    refine ⟨⟨fun pins s σ H vs us Q I r ⟨pv, pσ, h, Q', rv, rs, rh, q, lk⟩ => (pgs_cons p1 q1 (by rw [asg_star p2]; rfl)).run pins s σ H vs us Q I r ?_⟩, by rw [List.all_cons, p2, q2]; rfl, by simp only [toTgs, tgsLen, List.length_cons, q3]⟩
    · simp only [toTgs, wTgs] at q
      split at q
      · rename_i x xs
        obtain ⟨v, w, rfl, r1, r2⟩ := RepVs.cons_iff.mp rv
        refine ⟨v, w, rfl, x, pσ, h, _, r1, rs, rh, q, fun pσ1 h1 σ1 H1 rs1 rh1 fr1 sb1 q1 => ?_⟩
        refine ⟨xs, pσ1, h1, Q', r2.keep rh fr1, rs1, rh1, q1, fun pσ2 h2 σ2 H2 rs2 rh2 fr2 sb2 q2 => lk _ _ _ _ rs2 rh2 (fr1.trans fr2) (fun vs m => ?_) q2⟩
        simp only [toTgs, tgsIn, Bool.and_eq_true] at m
        exact (sb2 vs m.2).trans (sb1 vs m.1)
      · exact q.elim
theorem g_tup {f : Expr → Option Tg} {x1 : Nat} {gs : List Tg} (hc : X.calm = true) (ih : ∀ e g, e ∈ es → f e = some g → PG X e (lG X.K (wTg C g) (SB g)) ∧ notStar e = true) (h : es.mapM f = some gs) :
    PG X (.Tuple es x1 pos) (lG X.K (wTg C (.tp (toTgs gs))) (SB (.tp (toTgs gs)))) := by
  obtain ⟨p1, p2, p3⟩ := g_list ih h
  obtain ⟨a1, a2⟩ := asg_len (env := X.env) p2
  refine PG.imp (pg_tup hc p1 a1 a2) fun v σ H Q ⟨pv, pσ, h, Q', rv, rs, rh, q, lk⟩ => ?_
  simp only [wTg] at q
  split at q
  · rename_i l
    obtain ⟨a, vs, e, q1, r⟩ := rep_tup rv
    exact ⟨a, vs, e, q1, by rw [← r.length, q.1, p3], l, pσ, h, Q', r, rs, rh, q.2, lk⟩
  · exact q.elim
theorem g_sub {a' b' : E} (ha : PE X a (lE ea X.K (fun _ _ _ _ => False) (wE C a'))) (hb : PE X b (lE ea X.K (fun _ _ _ _ => False) (wE C b'))) (hs : notSlice b = true) : PG X (.Subscript a b pos) (lG X.K (wTg C (.sub a' b')) (SB (.sub a' b'))) := by
  refine PG.imp (pg_sub ha hb set_list (by intro _; cases b <;> first | rfl | cases hs)) fun v σ H Q ⟨pv, pσ, h, Q', rv, rs, rh, q, lk⟩ => ?_
  simp only [wTg] at q
  have lx : LkX ea X.K h H (fun _ _ => False) σ (fun _ _ _ _ => False) := fun _ _ _ _ _ _ _ _ z => z
  refine ⟨pσ, h, _, _, rs, rh, q, fun ov h1 vov H1 rov rh1 fr1 q1 => ?_, lx⟩
  refine ⟨pσ, h1, _, _, rs.keep rh fr1, rh1, q1, fun iv h2 viv H2 riv rh2 fr2 q2 => ?_, lx.keep fr1⟩
  exact ok_set (rov.keep rh1 fr2) riv ((rv.keep rh fr1).keep rh1 fr2) rh2 q2 fun h3 H3 rh3 fr3 q3 => lk _ _ _ _ (((rs.keep rh fr1).keep rh1 fr2).keep rh2 fr3) rh3 ((fr1.trans fr2).trans fr3) (fun _ _ => rfl) q3
end
/-- how the layer's iterator walks the items xs while ok holds -/
def ItRep (K : PySem.W.Frag) (h0 : PH) (H0 : Hp) (xs : List PV) (ok : PH → Prop) (J : L2.It) : Prop := ∀ h H, RepH K h H → Fr h0 H0 h H → ok h →
  (∀ (i : Nat) (pv : PV), xs[i]? = some pv → J.go i H ∧ ∀ x H', J.yld i H x H' → RepV K H' pv x ∧ RepH K h H' ∧ Fr h H h H') ∧ J.stop xs.length H
def LkI (K : PySem.W.Frag) (h : PH) (H : Hp) (R' : RK) (R : L2.It → Hp → Prop) : Prop := ∀ xs ok h' J H', RepH K h' H' → Fr h H h' H' → ItRep K h' H' xs ok J → R' xs ok h' → R J H'
theorem LkI.keep {K : PySem.W.Frag} {h h' : PH} {H H' : Hp} {Q' : RK} {Q : L2.It → Hp → Prop} (l : LkI K h H Q' Q) (f : Fr h H h' H') : LkI K h' H' Q' Q := fun xs ok h2 J H2 rh g i q => l xs ok h2 J H2 rh (f.trans g) i q
def lI (ea : Nat → Addr) (K : PySem.W.Frag) (W : WX) (t : Sl → PH → RK → XK → Prop) : TI := fun σ H R => ∃ pσ h R' X', RepS K H pσ σ ∧ RepH K h H ∧ t pσ h R' X' ∧ LkI K h H R' R ∧ LkX ea K h H X' σ W
/-- the same, the items told as a list from the left (seen as a wish of a pair) -/
theorem lI_seq {ea : Nat → Addr} {K : PySem.W.Frag} {W : WX} {σ : L2.St} {H : Hp} {ta : Sl → PH → QK → XK → Prop} {tk : PV → Sl → PH → RK → XK → Prop} {Q : L2.It → Hp → Prop} {R : VK}
    (h : ∃ pσ h Q' X', RepS K H pσ σ ∧ RepH K h H ∧ ta pσ h (fun x h1 => tk x pσ h1 Q' X') X' ∧ LkI K h H Q' Q ∧ LkX ea K h H X' σ W)
    (hk : ∀ pσ h1 pv v H1 Q' X', Ks K H H1 → RepS K H1 pσ σ → RepH K h1 H1 → RepV K H1 pv v → tk pv pσ h1 Q' X' → LkI K h1 H1 Q' Q → LkX ea K h1 H1 X' σ W → R v H1) : lE ea K W ta σ H R := by
  obtain ⟨pσ, h, Q', X', rs, rh, ht, lk, lx⟩ := h
  exact ⟨pσ, h, _, X', rs, rh, ht, fun pv h1 v H1 rv rh1 fr q => hk pσ h1 pv v H1 Q' X' (Ks.keep rh fr) (rs.keep rh fr) rh1 rv q (lk.keep fr) (lx.keep fr), lx⟩
section
variable {ea : Nat → Addr} {t : Tb} {C : CS} {k : Nat} {N : List Str} {sc : Scope} {W : WX} {X : Cx} {e a b c tg : Expr} {es : List Expr} {pos : Pos}
/-- a list or a tuple is walked -/
theorem pi_any {l : Expr} {tl : TE} (hl : PE X l tl) : PI X tg l (fun σ H R => tl σ H fun x H1 => ∃ a, x = .ref a ∧ ((∃ xs, SqL X.K H1 a xs ∧ R (Itl X.K a) H1) ∨ (∃ xs, SqT X.K H1 a xs ∧ R (Itt X.K a) H1))) := by
  refine ⟨?_⟩
  intro pins s σ H R I h
  refine thn (hl.run _ s σ H _ I h) fun v s1 ⟨x, H1, I1, r1, q1⟩ => ?_
  obtain ⟨a, rfl, q⟩ := q1
  rcases q with ⟨xs, hq, q⟩ | ⟨xs, hq, q⟩
  · cases r1
    obtain ⟨us, ru, pl, _⟩ := I1.list hq
    refine wpAny_pyIter_list pl.isList ⟨_, [_], _, _, H1, rfl, I1.kept (t' := s1.toks) fun _ _ z => Heap.get?_push_of_some _ z, turn_list a _, ⟨_, Heap.get?_push_size _ rfl, rfl, rfl⟩, fun b hb => ?_, q⟩
    rw [List.mem_singleton.mp hb]
    exact I1.fpOk Nat.le.refl (I1.hok.fresh Nat.le.refl)
  · cases r1
    obtain ⟨us, ru, pl, _⟩ := I1.tuple hq
    refine wpAny_pyIter_tuple (show s1.heap.IsTuple a us.toArray from pl) ⟨_, [_], _, _, H1, rfl, I1.kept (t' := s1.toks) fun _ _ z => Heap.get?_push_of_some _ z, turn_tuple a _, ⟨_, Heap.get?_push_size _ rfl, rfl, rfl⟩, fun b hb => ?_, q⟩
    rw [List.mem_singleton.mp hb]
    exact I1.fpOk Nat.le.refl (I1.hok.fresh Nat.le.refl)
theorem PI.imp {tg e : Expr} {t t' : TI} (p : PI X tg e t') (h : ∀ σ H Q, t σ H Q → t' σ H Q) : PI X tg e t := ⟨fun pins s σ H Q I q => p.run pins s σ H Q I (h σ H Q q)⟩
/-- what is walked, read at a later turn -/
theorem SqL.uniq {K : PySem.W.Frag} {h : PH} {H : Hp} {a : Nat} {xs : List PV} (rh : RepH K h H) (e : rdL h a = some xs) : ∃ vs, SqL K H a vs ∧ RepVs K H xs vs := rdL_rep rh e
theorem it_list {K : PySem.W.Frag} {h0 : PH} {H0 : Hp} {a : Nat} {xs : List PV} : ItRep K h0 H0 xs (okOf (.ref a) xs) (Itl K a) := fun h H rh fr ok => by
  obtain ⟨vs, q, r⟩ := rdL_rep rh (show rdL h a = some xs from ok)
  refine ⟨fun i pv e => ?_, ⟨vs, q, by rw [r.length]; exact Nat.le_refl _⟩⟩
  obtain ⟨v, e1, r1⟩ := r.get e
  refine ⟨⟨vs, v, q, e1⟩, fun x H' ⟨hH, hx⟩ => ?_⟩
  subst hH
  have e2 := hx vs q
  rw [e1] at e2
  cases e2
  exact ⟨r1, rh, Fr.refl⟩
theorem it_tup {K : PySem.W.Frag} {h0 : PH} {H0 : Hp} {a : Nat} {l xs : List PV} {vs : List V} (rh0 : RepH K h0 H0) (q : SqT K H0 a vs) (r : RepVs K H0 l vs) : ItRep K h0 H0 l (okOf (.tup l) xs) (Itt K a) := fun h H rh fr ok => by
  have q' := SqT.keep rh0 fr q
  have r' := r.keep rh0 fr
  refine ⟨fun i pv e => ?_, ⟨vs, q', by rw [r'.length]; exact Nat.le_refl _⟩⟩
  obtain ⟨v, e1, r1⟩ := r'.get e
  refine ⟨⟨vs, v, q', e1⟩, fun x H' ⟨hH, hx⟩ => ?_⟩
  subst hH
  have e2 := hx vs q'
  rw [e1] at e2
  cases e2
  exact ⟨r1, rh, Fr.refl⟩
theorem it_rol {K : PySem.W.Frag} {h0 : PH} {H0 : Hp} {a : Nat} {l xs : List PV} {vs : List V} (rh0 : RepH K h0 H0) (q : FzL K H0 a vs) (r : RepVs K H0 l vs) : ItRep K h0 H0 l (okOf (.rol l) xs) (Itl K a) := fun h H rh fr ok => by
  have q' := ((Ks.keep rh0 fr).2 _ _ q).sq
  have r' := r.keep rh0 fr
  refine ⟨fun i pv e => ?_, ⟨vs, q', by rw [r'.length]; exact Nat.le_refl _⟩⟩
  obtain ⟨v, e1, r1⟩ := r'.get e
  refine ⟨⟨vs, v, q', e1⟩, fun x H' ⟨hH, hx⟩ => ?_⟩
  subst hH
  have e2 := hx vs q'
  rw [e1] at e2
  cases e2
  exact ⟨r1, rh, Fr.refl⟩
theorem it_revR {K : PySem.W.Frag} {h0 : PH} {H0 : Hp} {a : Nat} {l xs : List PV} {vs : List V} (rh0 : RepH K h0 H0) (q : FzL K H0 a vs) (r : RepVs K H0 l vs) : ItRep K h0 H0 l.reverse (okOf (.rol l) xs) (Itv K a l.length) := fun h H rh fr ok => by
  have q' := ((Ks.keep rh0 fr).2 _ _ q).sq
  have r' := r.keep rh0 fr
  refine ⟨fun i pv e => ?_, by show _ ≤ _; simp⟩
  have hi : i < l.length := by have := (List.getElem?_eq_some_iff.mp e).1; simpa using this
  rw [List.getElem?_reverse hi] at e
  obtain ⟨v, e1, r1⟩ := r'.get e
  refine ⟨⟨hi, vs, v, q', e1⟩, fun x H' ⟨hH, hx⟩ => ?_⟩
  subst hH
  have e2 := hx vs q'
  rw [e1] at e2
  cases e2
  exact ⟨r1, rh, Fr.refl⟩
theorem seqS_some {v : PV} {h : PH} {P : List PV → Prop} (q : seqS v h P) : ∃ xs, seqOf v h = some xs ∧ P xs := by
  unfold seqS at q
  split at q
  · exact ⟨_, ‹_›, q⟩
  · exact q.elim
theorem i_seq {a' : E} (ha : PE X a (lE ea X.K W (wE C a'))) : PI X tg a (lI ea X.K W (wIt C (.seq a'))) :=
  PI.imp (pi_any ha) fun σ H R q => by
    refine lI_seq (tk := fun v pσ h R X' => seqS v h fun xs => R xs (okOf v xs) h) (by simpa only [lI, wIt] using q) fun pσ h1 v vv H1 R' X' _ rs rh rv q lk lx => ?_
    obtain ⟨xs, e, q⟩ := seqS_some q
    cases v with
    | ref a =>
      obtain ⟨vs, q1, _⟩ := rdL_rep rh (show rdL h1 a = some xs from e)
      exact ⟨a, rep_ref rv, .inl ⟨vs, q1, lk _ _ _ _ _ rh Fr.refl it_list q⟩⟩
    | tup l =>
      obtain ⟨a, vs, e1, q1, r⟩ := rep_tup rv
      obtain rfl : l = xs := by cases e; rfl
      exact ⟨a, e1, .inr ⟨vs, q1, lk _ _ _ _ _ rh Fr.refl (it_tup rh q1 r) q⟩⟩
    | rol l =>
      obtain ⟨a, vs, e1, q1, r⟩ := rep_rol rv
      obtain rfl : l = xs := by cases e; rfl
      exact ⟨a, e1, .inl ⟨vs, q1.sq, lk _ _ _ _ _ rh Fr.refl (it_rol rh q1 r) q⟩⟩
    | _ => cases e
theorem it_rng {K : PySem.W.Frag} {h0 : PH} {H0 : Hp} {lo hi : Int} : ItRep K h0 H0 (rgL lo hi) (fun _ => True) (Itr lo (hi - lo).toNat) := fun h H rh fr ok => by
  have hl : (rgL lo hi).length = (hi - lo).toNat := by unfold rgL; rw [List.length_map, List.length_range]
  refine ⟨fun i pv e => ?_, by rw [hl]; exact Nat.le_refl _⟩
  have hi' : i < (hi - lo).toNat := by rw [← hl]; exact (List.getElem?_eq_some_iff.mp e).1
  refine ⟨hi', fun x H' ⟨hH, hx⟩ => ?_⟩
  subst hH hx
  unfold rgL at e
  rw [List.getElem?_map, List.getElem?_range hi'] at e
  cases e
  exact ⟨int_rep, rh, Fr.refl⟩
theorem intS_of {x : PV} {P : Int → Prop} (q : intS x P) : ∃ n, x = .int n ∧ P n := by
  unfold intS at q
  split at q
  · exact ⟨_, rfl, q⟩
  · exact q.elim
theorem int2S_of {x y : PV} {P : Int → Int → Prop} (q : int2S x y P) : ∃ m n, x = .int m ∧ y = .int n ∧ P m n := by
  unfold int2S at q
  split at q
  · exact ⟨_, _, rfl, rfl, q⟩
  · exact q.elim
theorem starOne {env : Env} (h : notStar a = true) : starEach [a] env = [(false, eval a env)] := star_of h
theorem pa1 {ta : TE} (ha : PE X a ta) (hs : notStar a = true) : PA X [a] (tCons ta tNil) := pa_cons ha pa_nil (star_of hs)
theorem pa2 {ta tb : TE} (ha : PE X a ta) (hs : notStar a = true) (hb : PE X b tb) (hs2 : notStar b = true) : PA X [a, b] (tCons ta (tCons tb tNil)) := pa_cons ha (pa1 hb hs2) (star_of hs)
theorem i_rng1 {a' : E} {p : Pos} (cx : CtxOk ea t C k N sc W X) (hg : glb sc "range" = true) (hm : t.blts.contains "range" = true) (ha : PE X a (lE ea X.K W (wE C a'))) (hs : notStar a = true) : PI X tg (.Call (.Name "range" p) [a] [] pos) (lI ea X.K W (wIt C (.rng1 a'))) :=
  PI.imp (pi_range1 (glb_of cx.hsc hg) (cx.blts _ hm) (pa1 ha hs) (starOne hs)) fun σ H R q => by
    refine lI_seq (tk := fun x pσ h R X' => intS x fun n => small n ∧ R (rgL 0 n) (fun _ => True) h) (by simpa only [lI, wIt] using q) fun pσ h1 v vv H1 R' X' _ rs rh rv q lk lx => ?_
    obtain ⟨n, rfl, q1, q2⟩ := intS_of q
    refine ⟨n, by rw [rep_int rv], q1.1, q1.2, ?_⟩
    have := lk _ _ _ _ _ rh Fr.refl (it_rng (lo := 0) (hi := n)) q2
    rwa [Int.sub_zero] at this
theorem i_rng2 {a' b' : E} {p : Pos} (cx : CtxOk ea t C k N sc W X) (hg : glb sc "range" = true) (hm : t.blts.contains "range" = true) (ha : PE X a (lE ea X.K W (wE C a'))) (hs : notStar a = true) (hb : PE X b (lE ea X.K W (wE C b'))) (hs2 : notStar b = true) :
    PI X tg (.Call (.Name "range" p) [a, b] [] pos) (lI ea X.K W (wIt C (.rng2 a' b'))) :=
  PI.imp (pi_range2 (glb_of cx.hsc hg) (cx.blts _ hm) (pa2 ha hs hb hs2) (by rw [star_of hs, starOne hs2]) (starOne hs2)) fun σ H R q => by
    refine lI_seq (tk := fun x pσ h R X' => wE C b' pσ h (fun y h => int2S x y fun m n => (small m ∧ small n) ∧ R (rgL m n) (fun _ => True) h) X') (by simpa only [lI, wIt] using q) fun pσ h1 v vv H1 R' X' _ rs rh rv q lk lx => ?_
    refine lI_seq (tk := fun y pσ h R X' => int2S v y fun m n => (small m ∧ small n) ∧ R (rgL m n) (fun _ => True) h) ⟨pσ, h1, R', X', rs, rh, q, lk, lx⟩ fun pσ h2 u vu H2 R' X' ks rs rh ru q lk lx => ?_
    obtain ⟨m, n, rfl, rfl, q1, q2⟩ := int2S_of q
    exact ⟨m, n, by rw [rep_int rv, rep_int ru], ⟨q1.1.1, q1.1.2, q1.2.1, q1.2.2⟩, lk _ _ _ _ _ rh Fr.refl it_rng q2⟩
theorem it_revL {K : PySem.W.Frag} {h0 : PH} {H0 : Hp} {a : Nat} {xs : List PV} : ItRep K h0 H0 xs.reverse (okOf (.ref a) xs) (Itv K a xs.length) := fun h H rh fr ok => by
  obtain ⟨vs, q, r⟩ := rdL_rep rh (show rdL h a = some xs from ok)
  refine ⟨fun i pv e => ?_, by show _ ≤ _; simp⟩
  have hi : i < xs.length := by have := (List.getElem?_eq_some_iff.mp e).1; simpa using this
  rw [List.getElem?_reverse hi] at e
  obtain ⟨v, e1, r1⟩ := r.get e
  refine ⟨⟨hi, vs, v, q, e1⟩, fun x H' ⟨hH, hx⟩ => ?_⟩
  subst hH
  have e2 := hx vs q
  rw [e1] at e2
  cases e2
  exact ⟨r1, rh, Fr.refl⟩
theorem it_revT {K : PySem.W.Frag} {h0 : PH} {H0 : Hp} {a : Nat} {l xs : List PV} {vs : List V} (rh0 : RepH K h0 H0) (q : SqT K H0 a vs) (r : RepVs K H0 l vs) : ItRep K h0 H0 l.reverse (okOf (.tup l) xs) (RT.ItvT K a l.length) := fun h H rh fr ok => by
  have q' := SqT.keep rh0 fr q
  have r' := r.keep rh0 fr
  refine ⟨fun i pv e => ?_, by show _ ≤ _; simp⟩
  have hi : i < l.length := by have := (List.getElem?_eq_some_iff.mp e).1; simpa using this
  rw [List.getElem?_reverse hi] at e
  obtain ⟨v, e1, r1⟩ := r'.get e
  refine ⟨⟨hi, vs, v, q', e1⟩, fun x H' ⟨hH, hx⟩ => ?_⟩
  subst hH
  have e2 := hx vs q'
  rw [e1] at e2
  cases e2
  exact ⟨r1, rh, Fr.refl⟩
theorem i_rev {a' : E} {p : Pos} (cx : CtxOk ea t C k N sc W X) (hg : glb sc "reversed" = true) (hm : t.blts.contains "reversed" = true) (ha : PE X a (lE ea X.K W (wE C a'))) (hs : notStar a = true) : PI X tg (.Call (.Name "reversed" p) [a] [] pos) (lI ea X.K W (wIt C (.rev a'))) :=
  PI.imp (RT.pi_revA (glb_of cx.hsc hg) (cx.blts _ hm) ha (star_of hs)) fun σ H R q => by
    refine lI_seq (tk := fun v pσ h R X' => seqS v h fun xs => R xs.reverse (okOf v xs) h) (by simpa only [lI, wIt] using q) fun pσ h1 v vv H1 R' X' _ rs rh rv q lk lx => ?_
    obtain ⟨xs, e, q⟩ := seqS_some q
    cases v with
    | ref a =>
      obtain ⟨vs, q1, r1⟩ := rdL_rep rh (show rdL h1 a = some xs from e)
      exact ⟨a, vs, rep_ref rv, .inl ⟨q1, by rw [← r1.length]; exact lk _ _ _ _ _ rh Fr.refl it_revL q⟩⟩
    | tup l =>
      obtain ⟨a, vs, e1, q1, r⟩ := rep_tup rv
      obtain rfl : l = xs := by cases e; rfl
      exact ⟨a, vs, e1, .inr ⟨q1, by rw [← r.length]; exact lk _ _ _ _ _ rh Fr.refl (it_revT rh q1 r) q⟩⟩
    | rol l =>
      obtain ⟨a, vs, e1, q1, r⟩ := rep_rol rv
      obtain rfl : l = xs := by cases e; rfl
      exact ⟨a, vs, e1, .inl ⟨q1.sq, by rw [← r.length]; exact lk _ _ _ _ _ rh Fr.refl (it_revR rh q1 r) q⟩⟩
    | _ => cases e
end
end Co
namespace Co
open PySem L2
open PySem.Spec PyProof.Rows
theorem zipL_at {xs ys : List PV} {i : Nat} {pv : PV} (e : (zipL xs ys)[i]? = some pv) : ∃ x y, xs[i]? = some x ∧ ys[i]? = some y ∧ pv = .tup [x, y] := by
  unfold zipL at e
  rw [List.getElem?_map] at e
  cases q : (xs.zip ys)[i]? with
  | none => (rw [q] at e; cases e)
  | some p =>
    rw [q] at e; cases e
    rw [List.getElem?_zip_eq_some] at q
    exact ⟨p.1, p.2, q.1, q.2, rfl⟩
theorem zipL_len (xs ys : List PV) : (zipL xs ys).length = min xs.length ys.length := by unfold zipL; rw [List.length_map, List.length_zip]
theorem enumL_at {xs : List PV} {i : Nat} {pv : PV} (e : (enumL xs)[i]? = some pv) : ∃ x, xs[i]? = some x ∧ pv = .tup [.int (i : Nat), x] := by
  unfold enumL at e
  rw [List.getElem?_zipWith] at e
  cases q : xs[i]? with
  | none => rw [q] at e; cases h : (List.range xs.length)[i]? <;> rw [h] at e <;> cases e
  | some x =>
    have hi := (List.getElem?_eq_some_iff.mp q).1
    rw [q, List.getElem?_range hi] at e
    cases e
    exact ⟨x, rfl, rfl⟩
theorem enumL_len (xs : List PV) : (enumL xs).length = xs.length := by unfold enumL; simp
/-- a pair laid anew while walking -/
theorem pair_new {K : PySem.W.Frag} {h : PH} {H : Hp} {x y : PV} {v u : V} {T : Addr} (rh : RepH K h H) (e : H T = none) (rx : RepV K H x v) (ry : RepV K H y u) :
    RepV K (upd H T (.tup [v, u])) (.tup [x, y]) (.ref T) ∧ RepH K h (upd H T (.tup [v, u])) ∧ Fr h H h (upd H T (.tup [v, u])) := by
  have f : Fr h H h (upd H T (.tup [v, u])) := Fr.tup e
  exact ⟨tup_rep (SqT.of upd_same) (RepVs.cons_iff.mpr ⟨_, _, rfl, rx.keep rh f, RepVs.cons_iff.mpr ⟨_, _, rfl, ry.keep rh f, RepVs.nil_iff.mpr rfl⟩⟩), rh.tup e, f⟩
theorem it_zipL {K : PySem.W.Frag} {h0 : PH} {H0 : Hp} {a b : Nat} {xs ys : List PV} : ItRep K h0 H0 (zipL xs ys) (fun h => okOf (.ref a) xs h ∧ okOf (.ref b) ys h) (Itz K a b) := fun h H rh fr ok => by
  obtain ⟨vs, q, r⟩ := rdL_rep rh (show rdL h a = some xs from ok.1)
  obtain ⟨ws, q2, r2⟩ := rdL_rep rh (show rdL h b = some ys from ok.2)
  refine ⟨fun i pv e => ?_, ⟨vs, ws, q, q2, by rw [zipL_len, ← r.length, ← r2.length]; omega⟩⟩
  obtain ⟨x, y, hx, hy, rfl⟩ := zipL_at e
  obtain ⟨v, e1, r3⟩ := r.get hx
  obtain ⟨u, e2, r4⟩ := r2.get hy
  refine ⟨⟨vs, ws, v, u, q, q2, e1, e2⟩, fun z H' ⟨T, x1, y1, hz, hT, hH, hx1, hy1⟩ => ?_⟩
  have e3 := hx1 vs q
  have e4 := hy1 ws q2
  rw [e1] at e3
  rw [e2] at e4
  cases e3
  cases e4
  subst hz hH
  exact pair_new rh hT r3 r4
theorem it_zipT {K : PySem.W.Frag} {h0 : PH} {H0 : Hp} {a b : Nat} {l m : List PV} {vs ws : List V} {ok : PH → Prop} (rh0 : RepH K h0 H0) (q0 : SqT K H0 a vs) (r0 : RepVs K H0 l vs) (q1 : SqT K H0 b ws) (r1 : RepVs K H0 m ws) : ItRep K h0 H0 (zipL l m) ok (RZ.ItzT K a b) := fun h H rh fr _ => by
  have q := SqT.keep rh0 fr q0
  have r := r0.keep rh0 fr
  have q2 := SqT.keep rh0 fr q1
  have r2 := r1.keep rh0 fr
  refine ⟨fun i pv e => ?_, ⟨vs, ws, q, q2, by rw [zipL_len, ← r.length, ← r2.length]; omega⟩⟩
  obtain ⟨x, y, hx, hy, rfl⟩ := zipL_at e
  obtain ⟨v, e1, r3⟩ := r.get hx
  obtain ⟨u, e2, r4⟩ := r2.get hy
  refine ⟨⟨vs, ws, v, u, q, q2, e1, e2⟩, fun z H' ⟨T, x1, y1, hz, hT, hH, hx1, hy1⟩ => ?_⟩
  have e3 := hx1 vs q
  have e4 := hy1 ws q2
  rw [e1] at e3
  rw [e2] at e4
  cases e3
  cases e4
  subst hz hH
  exact pair_new rh hT r3 r4
theorem it_enum {K : PySem.W.Frag} {h0 : PH} {H0 : Hp} {a : Nat} {xs : List PV} : ItRep K h0 H0 (enumL xs) (okOf (.ref a) xs) (Ite K a) := fun h H rh fr ok => by
  obtain ⟨vs, q, r⟩ := rdL_rep rh (show rdL h a = some xs from ok)
  refine ⟨fun i pv e => ?_, ⟨vs, q, by rw [enumL_len, r.length]; exact Nat.le_refl _⟩⟩
  obtain ⟨x, hx, rfl⟩ := enumL_at e
  obtain ⟨v, e1, r3⟩ := r.get hx
  refine ⟨⟨vs, v, q, e1⟩, fun z H' ⟨T, x1, hz, hT, hH, hx1⟩ => ?_⟩
  have e3 := hx1 vs q
  rw [e1] at e3
  cases e3
  subst hz hH
  exact pair_new rh hT int_rep r3
section
variable {ea : Nat → Addr} {t : Tb} {C : CS} {k : Nat} {N : List Str} {sc : Scope} {W : WX} {X : Cx} {e a b c tg : Expr} {es : List Expr} {pos tpos p : Pos} {kk : Nat}
theorem i_zip {a' b' : E} (cx : CtxOk ea t C k N sc W X) (hg : glb sc "zip" = true) (hm : t.blts.contains "zip" = true) (ha : PE X a (lE ea X.K W (wE C a'))) (hs : notStar a = true) (hb : PE X b (lE ea X.K W (wE C b'))) (hs2 : notStar b = true) :
    PI X (.Tuple es kk tpos) (.Call (.Name "zip" p) [a, b] [] pos) (lI ea X.K W (wIt C (.zip a' b'))) :=
  PI.imp (RZ.pi_zipA (glb_of cx.hsc hg) (cx.blts _ hm) (pa2 ha hs hb hs2) (by rw [star_of hs, starOne hs2]) (hpl := by rw [starOne hs2]; rfl)) fun σ H R q => by
    refine lI_seq (tk := fun x pσ h R X' => wE C b' pσ h (fun y h => zipOk x y ∧ seqS x h fun xs => seqS y h fun ys => R (zipL xs ys) (fun h => okOf x xs h ∧ okOf y ys h) h) X') (by simpa only [lI, wIt] using q) fun pσ h1 x vx H1 R' X' _ rs rh rx q lk lx => ?_
    refine lI_seq (tk := fun y pσ h R X' => zipOk x y ∧ seqS x h fun xs => seqS y h fun ys => R (zipL xs ys) (fun h => okOf x xs h ∧ okOf y ys h) h) ⟨pσ, h1, R', X', rs, rh, q, lk, lx⟩ fun pσ h2 y vy H2 R' X' ks rs rh ry q lk lx => ?_
    obtain ⟨zk, q⟩ := q
    obtain ⟨xs, ex, q⟩ := seqS_some q
    obtain ⟨ys, ey, q⟩ := seqS_some q
    have rx' := rx.mono ks
    cases x with
    | ref a =>
      cases y with
      | ref b =>
        obtain ⟨vs, q1, _⟩ := rdL_rep rh (show rdL h2 a = some xs from ex)
        obtain ⟨ws, q2, _⟩ := rdL_rep rh (show rdL h2 b = some ys from ey)
        exact ⟨a, b, vs, ws, by rw [rep_ref rx', rep_ref ry], .inl ⟨q1, q2, lk _ _ _ _ _ rh Fr.refl it_zipL q⟩⟩
      | _ => exact False.elim zk
    | tup l =>
      cases y with
      | tup m =>
        obtain ⟨a, vs, e1, q1, r1⟩ := rep_tup rx'
        obtain ⟨b, ws, e2, q2, r2⟩ := rep_tup ry
        obtain rfl : l = xs := by cases ex; rfl
        obtain rfl : m = ys := by cases ey; rfl
        exact ⟨a, b, vs, ws, by rw [e1, e2], .inr ⟨q1, q2, lk _ _ _ _ _ rh Fr.refl (it_zipT rh q1 r1 q2 r2) q⟩⟩
      | _ => exact False.elim zk
    | _ => exact False.elim zk
theorem i_enum {a' : E} (cx : CtxOk ea t C k N sc W X) (hg : glb sc "enumerate" = true) (hm : t.blts.contains "enumerate" = true) (ha : PE X a (lE ea X.K W (wE C a'))) (hs : notStar a = true) :
    PI X (.Tuple es kk tpos) (.Call (.Name "enumerate" p) [a] [] pos) (lI ea X.K W (wIt C (.enum a'))) :=
  PI.imp (pi_enum (glb_of cx.hsc hg) (cx.blts _ hm) (pa1 ha hs) (starOne hs)) fun σ H R q => by
    refine lI_seq (tk := fun v pσ h R X' => isRef v ∧ seqS v h fun xs => R (enumL xs) (okOf v xs) h) (by simpa only [lI, wIt] using q) fun pσ h1 v vv H1 R' X' _ rs rh rv q lk lx => ?_
    obtain ⟨zk, q⟩ := q
    obtain ⟨xs, ex, q⟩ := seqS_some q
    cases v with
    | ref a =>
      obtain ⟨vs, q1, _⟩ := rdL_rep rh (show rdL h1 a = some xs from ex)
      exact ⟨a, vs, by rw [rep_ref rv], q1, lk _ _ _ _ _ rh Fr.refl it_enum q⟩
    | _ => exact False.elim zk
/-- a list that the pure heap does not know grows -/
theorem untr_ks {K : PySem.W.Frag} {H : Hp} {D : Addr} {vs ws : List V} (eD : H D = some (.lst vs)) : Ks K H (upd H D (.lst ws)) := by
  have ha : ∀ {a : Addr} (o : HO), H a = some o → (∀ l, o ≠ .lst l) → a ≠ D := fun o ho n z => by subst z; rw [eD] at ho; cases ho; exact n _ rfl
  refine ⟨fun a us s => ?_, fun a us s => ?_⟩
  · rcases s with (s | ⟨o, s⟩) | s
    · exact .inl (.inl (by rw [upd_ne (ha _ s (by intro l z; cases z))]; exact s))
    · exact .inl (.inr ⟨o, by rw [upd_ne (ha _ s (by intro l z; cases z))]; exact s⟩)
    · exact .inr s
  · rcases s with ⟨o, s⟩ | s
    · exact .inl ⟨o, by rw [upd_ne (ha _ s (by intro l z; cases z))]; exact s⟩
    · exact .inr s
theorem RepH.untr {K : PySem.W.Frag} {h : PH} {H : Hp} {D : Addr} {vs ws : List V} (rh : RepH K h H) (e : h D = none) (eD : H D = some (.lst vs)) : RepH K h (upd H D (.lst ws)) := fun b o q => by
  have hb : b ≠ D := fun z => by subst z; rw [e] at q; cases q
  have z := rh b o q
  cases o with
  | lst xs => obtain ⟨us, q1, r⟩ := z; exact ⟨us, by rw [upd_ne hb]; exact q1, RepVs.mono (untr_ks eD) _ _ r⟩
theorem RepS.mono {K : PySem.W.Frag} {H H' : Hp} {pσ : Sl} {σ : L2.St} (ks : Ks K H H') (r : RepS K H pσ σ) : RepS K H' pσ σ :=
  ⟨r.1, fun i pv e => let ⟨v, e', q⟩ := r.2 i pv e; ⟨v, e', q.mono ks⟩⟩
/-- the list D becomes known -/
theorem RepH.known {K : PySem.W.Frag} {h : PH} {H : Hp} {D : Addr} {vs : List V} {xs : List PV} (rh : RepH K h H) (eD : H D = some (.lst vs)) (r : RepVs K H xs vs) : RepH K (pupd h D (.lst xs)) H := fun b o q => by
  by_cases hb : b = D
  · subst hb
    unfold pupd at q; rw [if_pos rfl] at q; cases q
    exact ⟨vs, eD, r⟩
  · unfold pupd at q; rw [if_neg hb] at q
    exact rh b o q
theorem s_cpr_rd {K : PySem.W.Frag} {g : It} {tg : Tg} {c : T} {e : E} {own : List Nat} (hin : tgIn tg own = true) : ∀ σ H Q, lE ea K W (wE C (.cpr g tg c e own)) σ H Q →
    tLc (lI ea K W (wIt C g)) (lG K (wTg C tg) (SB tg)) (lC ea K (fun _ _ _ _ => False) (wT C c)) (lE ea K (fun _ _ _ _ => False) (wE C e)) own σ H Q := fun σ H Q q => by
  simp only [lE, wE] at q
  obtain ⟨pσ, h, Q', X', rs, rh, q, lk, lx⟩ := q
  refine ⟨pσ, h, _, X', rs, rh, q, fun xs ok h1 J H1 rh1 fr1 ir q1 => ?_, lx⟩
  intro D hD
  refine ⟨fun i m Hc => m = xs.length - i ∧ i ≤ xs.length ∧ ∃ h2 acc vs, RepH K h2 Hc ∧ Fr h1 H1 h2 Hc ∧ h2 D = none ∧ Hc D = some (.lst vs) ∧ RepVs K Hc acc vs ∧ RepS K Hc (wipe pσ own) (L2.wipe σ own) ∧
    cprL ok (fun v σ h Q => wTg C tg v σ h Q) (fun σ h Q => wT C c σ h Q fun _ _ => False) (fun σ h Q => wE C e σ h Q fun _ _ => False) (wipe pσ own) (fun acc h => newL h acc Q') acc (xs.drop i) h2, ⟨_, rfl, Nat.zero_le _, ?_⟩, ?_⟩
  · have f : Fr h1 H1 h1 (upd H1 D (.lst [])) := Fr.tup hD
    exact ⟨h1, [], [], rh1.tup hD, f, rh1.free hD, upd_same, RepVs.nil_iff.mpr rfl, ((rs.keep rh fr1).keep rh1 f).wipe own, q1⟩
  · rintro i m Hc ⟨rfl, hi, h2, acc, vs, rh2, fr2, n2, eD, ra, rs2, q2⟩
    by_cases hlt : i < xs.length
    · have ed : xs.drop i = xs[i] :: xs.drop (i + 1) := List.drop_eq_getElem_cons hlt
      rw [ed] at q2
      simp only [cprL] at q2
      obtain ⟨okh, q2⟩ := q2
      obtain ⟨ir1, _⟩ := ir h2 Hc rh2 fr2 okh
      obtain ⟨go, yl⟩ := ir1 i xs[i] (List.getElem?_eq_getElem hlt)
      refine .inr ⟨go, fun H' => ∃ h3 acc vs, RepH K h3 H' ∧ Fr h1 H1 h3 H' ∧ h3 D = none ∧ H' D = some (.lst vs) ∧ RepVs K H' acc vs ∧ RepS K H' (wipe pσ own) (L2.wipe σ own) ∧
        cprL ok (fun v σ h Q => wTg C tg v σ h Q) (fun σ h Q => wT C c σ h Q fun _ _ => False) (fun σ h Q => wE C e σ h Q fun _ _ => False) (wipe pσ own) (fun acc h => newL h acc Q') acc (xs.drop (i + 1)) h3,
        fun H' z => ⟨xs.length - (i + 1), by omega, rfl, hlt, z⟩, fun x H' y => ?_⟩
      obtain ⟨rx, rh3, fr3⟩ := yl x H' y
      refine ⟨xs[i], wipe pσ own, h2, _, rx, rs2.keep rh2 fr3, rh3, q2, fun pσ4 h4 σ4 H4 rs4 rh4 fr4 sb4 q4 => ⟨?_, ?_⟩⟩
      · rw [sb4 own hin]
        exact wipe_wipe fun v m => m
      · have nolx : ∀ {h H σ}, LkX ea K h H (fun _ _ => False) σ (fun _ _ _ _ => False) := fun _ _ _ _ _ _ _ _ z => z
        have frA : Fr h2 Hc h4 H4 := fr3.trans fr4
        refine ⟨pσ4, h4, _, _, rs4, rh4, q4, fun b h5 H5 rh5 fr5 q5 => ?_, nolx⟩
        have frB : Fr h2 Hc h5 H5 := frA.trans fr5
        obtain ⟨n5, eD5⟩ := frB D _ n2 eD
        cases b with
        | true =>
          simp only [if_true] at q5 ⊢
          refine ⟨pσ4, h5, _, _, rs4.keep rh4 fr5, rh5, q5, fun v h6 vv H6 rv rh6 fr6 q6 => ?_, nolx⟩
          have frC : Fr h2 Hc h6 H6 := frB.trans fr6
          obtain ⟨n6, eD6⟩ := frC D _ n2 eD
          have ra6 := ra.keep rh2 frC
          have ks := untr_ks (K := K) (ws := vs ++ [vv]) eD6
          refine ⟨vs, eD6, by rw [line16, ← ra6.length]; exact q6.1, h6, acc ++ [v], vs ++ [vv], rh6.untr n6 eD6, fun a o x y => ?_, n6, upd_same, (RepVs.mono ks _ _ ra6).append (RepVs.cons_iff.mpr ⟨_, _, rfl, rv.mono ks, RepVs.nil_iff.mpr rfl⟩), (rs2.keep rh2 frC).mono ks, q6.2⟩
          have ne : a ≠ D := fun z => by subst z; rw [hD] at y; cases y
          obtain ⟨y1, y2⟩ := (fr2.trans frC) a o x y
          exact ⟨y1, by rw [upd_ne ne]; exact y2⟩
        | false =>
          simp only [Bool.false_eq_true, if_false] at q5 ⊢
          exact ⟨h5, acc, vs, rh5, fr2.trans frB, n5, eD5, ra.keep rh2 frB, rs2.keep rh2 frB, q5⟩
    · obtain rfl : i = xs.length := by omega
      rw [List.drop_length] at q2
      simp only [cprL] at q2
      obtain ⟨okh, q2⟩ := q2
      obtain ⟨_, st⟩ := ir h2 Hc rh2 fr2 okh
      refine .inl ⟨st, lk (.ref D) (pupd h2 D (.lst acc)) _ _ ref_rep (rh2.known eD ra) (fun a o x y => ?_) (q2 D n2)⟩
      obtain ⟨y1, y2⟩ := fr1 a o x y
      obtain ⟨y3, y4⟩ := fr2 a o y1 y2
      have ne : a ≠ D := fun z => by subst z; rw [hD] at y2; cases y2
      exact ⟨by unfold pupd; rw [if_neg ne]; exact y3, y4⟩
end
end Co
namespace Co
open PySem L2
open PySem.Spec PyProof.Rows
theorem blt_ar {x : Str} {n : Nat} {b : Blt} (h : bltOf x n = some b) : 0 < n := by
  have := List.find?_some h
  rw [Bool.and_eq_true, beq_iff_eq, beq_iff_eq] at this
  rw [← this.2]
  cases b <;> decide
theorem cE_shape {t : Tb} {N : List Str} {n : Nat} {sc : Scope} {e : Expr} {c : E} (h : cE t N n sc e = some c) : notStar e = true ∧ notSlice e = true ∧ notSet e = true ∧ notCall0 e = true := by
  cases n with
  | zero => simp only [cE] at h; cases h
  | succ n =>
    cases e with
    | Call f args kws p =>
      refine ⟨rfl, rfl, rfl, ?_⟩
      cases kws with
      | cons _ _ => cases f <;> cases args <;> rfl
      | nil =>
        cases f with
        | Name x q =>
          cases args with
          | cons _ _ => rfl
          | nil =>
            exfalso
            simp only [cE, List.mapM_nil] at h
            split at h
            · split at h
              · rename_i cs i h1 h2
                cases h1
                simp at h
              · rename_i cs h1 h2
                cases h1
                split at h
                · cases q : bltOf x ([] : List E).length with
                  | none => rw [q] at h; cases h
                  | some b => exact absurd (blt_ar q) (by simp)
                · cases h
              · rename_i h1
                cases h1
            · cases h
        | _ => rfl
    | Starred _ _ => simp only [cE] at h; cases h
    | Slice _ _ _ _ => simp only [cE] at h; cases h
    | Set _ _ _ => simp only [cE] at h; cases h
    | _ => exact ⟨rfl, rfl, rfl, rfl⟩
section
variable {ea : Nat → Addr} {t : Tb} {C : CS} {k : Nat} {N : List Str}
theorem CtxOk.none {sc : Scope} {W : WX} {X : Cx} (cx : CtxOk ea t C k N sc W X) : CtxOk ea t C k N sc (fun _ _ _ _ => False) X :=
  ⟨cx.hN, cx.nd, cx.hsc, cx.calm, cx.room, takes_none5, cx.fns, cx.cons, cx.blts, cx.excs⟩
theorem rel_eq {sc' sc : Scope} {env : Env} {cl : List (Str × Addr)} {Cc : Addr} (h : env.scope = sc) : (compEnvC sc' cl Cc env).scope = relS sc' sc := by
  subst h
  rfl
theorem CtxOk.blk {sc sc' : Scope} {W : WX} {X : Cx} (cx : CtxOk ea t C k N sc W X) (s : Shared) (H : Hp) (Cc : Addr) (cl : List (Str × Addr)) (fp : List Addr) :
    CtxOk ea t C k N (relS sc' sc) (fun _ _ _ _ => False) (X.blk s H sc' (compEnvC sc' cl Cc X.env) fp) :=
  ⟨cx.hN, cx.nd, rel_eq cx.hsc, cx.calm, cx.room, takes_none5, cx.fns, cx.cons, cx.blts, fun i x h => let z := cx.excs i x h; ⟨z.mg, z.inK, z.kp, z.rs⟩⟩
theorem blk_fn {sc' : Scope} {X : Cx} {s : Shared} {H : Hp} {ce : Env} {fp : List Addr} : ∀ x, sc'.names.lookup x = some .cell → (X.blk s H sc' ce fp).fn x = true := fun x h => by
  show (sc'.names.lookup x == some NameKind.cell) = true
  rw [h]; rfl
variable (ea t C k N) in
structure AllE (n : Nat) : Prop where
  e : ∀ {sc : Scope} {e : Expr} {c : E} {W : WX} {X : Cx}, CtxOk ea t C k N sc W X → cE t N n sc e = some c → PE X e (lE ea X.K W (wE C c))
  o : ∀ {sc : Scope} {e : Option Expr} {c : Eo} {W : WX} {X : Cx}, CtxOk ea t C k N sc W X → cO t N n sc e = some c → L2.PO X e (lC ea X.K W (wEo C c))
  f : ∀ {sc : Scope} {e : List Expr} {c : T} {W : WX} {X : Cx}, CtxOk ea t C k N sc W X → cIfs t N n sc e = some c → PTs X e (lC ea X.K W (wT C c))
  tt : ∀ {sc : Scope} {e : Expr} {c : T} {W : WX} {X : Cx}, CtxOk ea t C k N sc W X → cT t N n sc e = some c → PT X e (lC ea X.K W (wT C c))
  g : ∀ {sc st : Scope} {e : Expr} {c : Tg} {W : WX} {X : Cx}, CtxOk ea t C k N sc W X → (∀ x, st.names.lookup x = some .cell → X.fn x = true) → cG t N n sc st e = some c → PG X e (lG X.K (wTg C c) (SB c)) ∧ notStar e = true
  i : ∀ {sc : Scope} {tg e : Expr} {c : It} {W : WX} {X : Cx}, CtxOk ea t C k N sc W X → cIt t N n sc tg e = some c → PI X tg e (lI ea X.K W (wIt C c)) ∧ notSet e = true
theorem fold_of {e : Expr} {env : Env} (h : notSet e = true) : ∀ x, foldedSetIterable e env x = pure x := by
  intro x
  cases e <;> first | rfl | cases h
theorem all_zero : AllE ea t C k N 0 where
  e := fun _ h => by simp only [cE] at h; cases h
  o := fun _ h => by simp only [cO] at h; cases h
  f := fun _ h => by simp only [cIfs] at h; cases h
  tt := fun _ h => by simp only [cT] at h; cases h
  g := fun _ _ h => by simp only [cG] at h; cases h
  i := fun _ h => by simp only [cIt] at h; cases h
section
variable {n : Nat} (A : AllE ea t C k N n) {sc : Scope} {W : WX} {X : Cx} (cx : CtxOk ea t C k N sc W X)
include A cx
theorem a_o {e : Option Expr} {c : Eo} (h : cO t N (n + 1) sc e = some c) : L2.PO X e (lC ea X.K W (wEo C c)) := by
  cases e with
  | none => simp only [cO] at h; cases h; exact s_po (.inl ⟨rfl, rfl⟩)
  | some e =>
    simp only [cO] at h
    cases q : cE t N n sc e with
    | none => rw [q] at h; cases h
    | some e' => rw [q] at h; cases h; exact s_po (.inr ⟨e, e', rfl, rfl, A.e cx q⟩)
theorem a_f {es : List Expr} {c : T} (h : cIfs t N (n + 1) sc es = some c) : PTs X es (lC ea X.K W (wT C c)) := by
  rcases es with _ | ⟨e, _ | ⟨_, _⟩⟩
  · simp only [cIfs] at h
    cases h
    exact ⟨fun pins s σ H Q I ⟨pσ, h, Q', X', rs, rh, q, lk, lx⟩ => (pts_nil (X := X)).run pins s σ H Q I (lk.here rh (by simpa only [wT] using q))⟩
  · simp only [cIfs] at h
    exact pts_one (A.tt cx h)
  · simp only [cIfs] at h; cases h
theorem a_t {e : Expr} {c : T} (h : cT t N (n + 1) sc e = some c) : PT X e (lC ea X.K W (wT C c)) := by
  have dflt : ∀ {e : Expr} {c : T}, (cE t N n sc e).map T.e = some c → (∀ whole, isTrue e X.env whole = (do let v ← whole; standAt e.pos; holding [v] (truthy v))) → PT X e (lC ea X.K W (wT C c)) := fun {e c} h he => by
    cases q : cE t N n sc e with
    | none => rw [q] at h; cases h
    | some e' => rw [q] at h; cases h; exact t_tru (A.e cx q) he
  cases e with
  | UnaryOp op a pos =>
    cases op <;> simp only [cT] at h <;> try (cases h; done)
    cases q : cT t N n sc a with
    | none => rw [q] at h; cases h
    | some a' => rw [q] at h; cases h; exact t_not (A.tt cx q)
  | BoolOp op es pos =>
    simp only [cT] at h
    cases q : es.mapM (cT t N n sc) with
    | none => rw [q] at h; cases h
    | some cs =>
      rw [q] at h
      cases op with
      | And => exact (t_and (fun e c m hc => A.tt cx hc) q h).pt
      | Or => exact (t_or (fun e c m hc => A.tt cx hc) q h).pt
  | IfExp _ _ _ _ => simp only [cT] at h; cases h
  | Compare a ops cs pos =>
    rcases ops with _ | ⟨op, _ | ⟨op', _ | ⟨_, _⟩⟩⟩ <;> rcases cs with _ | ⟨b, _ | ⟨c, _ | ⟨_, _⟩⟩⟩ <;> simp only [cT] at h <;> try (cases h; done)
    · split at h
      · rename_i hs
        split at h
        · rename_i o a' b' h1 h2 h3
          cases h
          exact t_cmp cx.hu hs h1 (A.e cx h2) (A.e cx h3)
        · cases h
      · cases h
    · split at h
      · rename_i hs
        split at h
        · rename_i o o' a' b' c' h1 h2 h3 h4 h5
          cases h
          exact t_chn cx.hu hs h1 h2 (A.e cx h3) (A.e cx h4) (A.e cx h5)
        · cases h
      · cases h
  | _ => simp only [cT] at h; exact dflt h (fun _ => rfl)
theorem a_g {st : Scope} {e : Expr} {c : Tg} (hf : ∀ x, st.names.lookup x = some .cell → X.fn x = true) (h : cG t N (n + 1) sc st e = some c) : PG X e (lG X.K (wTg C c) (SB c)) ∧ notStar e = true := by
  cases e with
  | Name x pos =>
    simp only [cG] at h
    split at h
    · split at h
      · rename_i i hi g
        rw [Bool.and_eq_true, Bool.and_eq_true, decide_eq_true_eq] at g
        cases h
        exact ⟨g_name cx hf g.1.1 g.1.2 g.2, rfl⟩
      · cases h
    · cases h
  | Tuple es x1 pos =>
    simp only [cG] at h
    cases q : es.mapM (cG t N n sc st) with
    | none => rw [q] at h; cases h
    | some gs =>
      rw [q] at h; cases h
      exact ⟨g_tup cx.calm (fun e g m hg => A.g cx hf hg) q, rfl⟩
  | Subscript o i pos =>
    have gen : notSlice i = true → (match cE t N n sc o, cE t N n sc i with | some o, some i => some (Tg.sub o i) | _, _ => none) = some c → PG X (.Subscript o i pos) (lG X.K (wTg C c) (SB c)) := fun hs h => by
      split at h
      · rename_i o' i' h1 h2
        cases h
        exact g_sub (A.e cx.none h1) (A.e cx.none h2) hs
      · cases h
    cases i <;> first | (simp only [cG] at h; cases h; done) | (simp only [cG] at h; exact ⟨gen rfl h, rfl⟩)
  | _ => simp only [cG] at h; cases h
theorem a_i {tg e : Expr} {c : It} (h : cIt t N (n + 1) sc tg e = some c) : PI X tg e (lI ea X.K W (wIt C c)) ∧ notSet e = true := by
  have dflt : ∀ {e : Expr} {c : It}, (cE t N n sc e).map It.seq = some c → PI X tg e (lI ea X.K W (wIt C c)) ∧ notSet e = true := fun {e c} h => by
    cases q : cE t N n sc e with
    | none => rw [q] at h; cases h
    | some e' => rw [q] at h; cases h; exact ⟨i_seq (A.e cx q), (cE_shape q).2.2.1⟩
  have hb : ∀ {x y : Str}, (hasB t sc x && x == y) = true → glb sc y = true ∧ t.blts.contains y = true ∧ x = y := fun {x y} h => by
    unfold hasB at h
    rw [Bool.and_eq_true, Bool.and_eq_true, Bool.and_eq_true, beq_iff_eq] at h
    obtain ⟨⟨⟨h1, h2⟩, h3⟩, rfl⟩ := h
    exact ⟨h1, h3, rfl⟩
  cases e with
  | Call f args kws pos =>
    refine ⟨?_, rfl⟩
    simp only [cIt] at h
    split at h
    · rename_i x p a
      split at h
      · rename_i g
        obtain ⟨g1, g2, rfl⟩ := hb g
        cases q : cE t N n sc a with
        | none => rw [q] at h; cases h
        | some a' => rw [q] at h; cases h; exact i_rng1 cx g1 g2 (A.e cx q) (cE_shape q).1
      · split at h
        · rename_i g
          obtain ⟨g1, g2, rfl⟩ := hb g
          cases q : cE t N n sc a with
          | none => rw [q] at h; cases h
          | some a' => rw [q] at h; cases h; exact i_rev cx g1 g2 (A.e cx q) (cE_shape q).1
        · split at h
          · rename_i g
            obtain ⟨g1, g2, rfl⟩ := hb g
            split at h
            · cases q : cE t N n sc a with
              | none => rw [q] at h; cases h
              | some a' => rw [q] at h; cases h; exact i_enum cx g1 g2 (A.e cx q) (cE_shape q).1
            · cases h
          · exact (dflt h).1
    · rename_i x p a b
      split at h
      · rename_i g
        obtain ⟨g1, g2, rfl⟩ := hb g
        split at h
        · rename_i a' b' q1 q2
          cases h
          exact i_rng2 cx g1 g2 (A.e cx q1) (cE_shape q1).1 (A.e cx q2) (cE_shape q2).1
        · cases h
      · split at h
        · rename_i g
          obtain ⟨g1, g2, rfl⟩ := hb g
          split at h
          · rename_i a' b' q1 q2
            cases h
            exact i_zip cx g1 g2 (A.e cx q1) (cE_shape q1).1 (A.e cx q2) (cE_shape q2).1
          · cases h
        · exact (dflt h).1
    · exact (dflt h).1
  | _ => simp only [cIt] at h; exact dflt h
end
end
end Co
namespace Co
open PySem L2
open PySem.Spec PyProof.Rows
section
variable {ea : Nat → Addr} {t : Tb} {C : CS} {k : Nat} {N : List Str} {n : Nat} (A : AllE ea t C k N n) {sc : Scope} {W : WX} {X : Cx} (cx : CtxOk ea t C k N sc W X)
include A cx
theorem a_ih {es : List Expr} : ∀ e c, e ∈ es → cE t N n sc e = some c → PE X e (lE ea X.K W (wE C c)) ∧ notStar e = true := fun e c _ h => ⟨A.e cx h, (cE_shape h).1⟩
theorem a_call {x : Str} {p pos : Pos} {args : List Expr} {c : E} (h : cE t N (n + 1) sc (.Call (.Name x p) args [] pos) = some c) : PE X (.Call (.Name x p) args [] pos) (lE ea X.K W (wE C c)) := by
  have sh := cE_shape h
  simp only [cE] at h
  split at h
  · rename_i g
    rw [Bool.and_eq_true] at g
    split at h
    · rename_i cs i h1 h2
      split at h
      · rename_i g2
        rw [Bool.and_eq_true, decide_eq_true_eq, decide_eq_true_eq] at g2
        cases h
        obtain ⟨p1, p2⟩ := s_args (a_ih A cx) h1
        rcases args with _ | ⟨a, es⟩
        · rw [mapM_nil h1] at g2; exact absurd g2.2 (by simp)
        · exact s_call cx g2.1 g.1 g.2 p1 p2
      · cases h
    · rename_i cs h1 h2
      split at h
      · rename_i g2
        cases q : bltOf x cs.length with
        | none => rw [q] at h; cases h
        | some b =>
          rw [q] at h; cases h
          obtain ⟨p1, p2⟩ := s_args (a_ih A cx) h1
          rcases args with _ | ⟨a, es⟩
          · rw [mapM_nil h1] at q; exact absurd (blt_ar q) (by simp)
          · exact s_blt cx q g.1 g2 p1 p2
      · cases h
    · split at h
      · rename_i a ty
        split at h
        · rename_i g2
          rw [Bool.and_eq_true, beq_iff_eq] at g2
          obtain ⟨rfl, g2⟩ := g2
          split at h
          · rename_i a' ts tp q1 q2
            cases h
            exact s_isi cx g.1 g2 (A.e cx q1) (cE_shape q1).1 q2
          · cases h
        · cases h
      · rename_i a
        split at h
        · rename_i g2
          rw [Bool.and_eq_true, Bool.or_eq_true, beq_iff_eq, beq_iff_eq] at g2
          split at h
          · rename_i r rp u rpos
            split at h
            · rename_i g3
              unfold hasB at g3
              rw [Bool.and_eq_true, Bool.and_eq_true, Bool.and_eq_true, beq_iff_eq] at g3
              obtain ⟨rfl, ⟨g4, _⟩, g5⟩ := g3
              cases q : cE t N n sc u with
              | none => rw [q] at h; cases h
              | some u' =>
                rw [q] at h; cases h
                exact s_rg1 cx g2.1 rfl g.1 g2.2 g4 g5 (A.e cx q) (cE_shape q).1
            · cases h
          · rename_i r rp u w rpos
            split at h
            · rename_i g3
              unfold hasB at g3
              rw [Bool.and_eq_true, Bool.and_eq_true, Bool.and_eq_true, beq_iff_eq] at g3
              obtain ⟨rfl, ⟨g4, _⟩, g5⟩ := g3
              split at h
              · rename_i u' w' q1 q2
                cases h
                exact s_rg2 cx g2.1 rfl g.1 g2.2 g4 g5 (A.e cx q1) (cE_shape q1).1 (A.e cx q2) (cE_shape q2).1
              · cases h
            · cases h
          · cases h
        · cases h
      · cases h
  · cases h
theorem a_cpr {elt : Expr} {gens : List Comprehension} {sc' : Scope} {pos : Pos} {c : E} (h : cE t N (n + 1) sc (.ListComp elt gens sc' pos) = some c) :
    ∃ (tg iter : Expr) (ifs : List Expr) (g : It) (tg' : Tg) (cc : T) (e : E), gens = [⟨tg, iter, ifs, 0⟩] ∧ c = .cpr g tg' cc e ((ownOf N sc').map (·.2)) ∧ BlkOk X.N X.env.scope sc' (ownOf N sc') ∧ PI X tg iter (lI ea X.K W (wIt C g)) ∧ notSet iter = true ∧ tgIn tg' ((ownOf N sc').map (·.2)) = true ∧
      (∀ (s : Shared) (H : Hp) (Cc : Addr) (cl : List (Str × Addr)) (fp : List Addr), PG (X.blk s H sc' (compEnvC sc' cl Cc X.env) fp) tg (lG X.K (wTg C tg') (SB tg'))) ∧
      (∀ (s : Shared) (H : Hp) (Cc : Addr) (cl : List (Str × Addr)) (fp : List Addr), PTs (X.blk s H sc' (compEnvC sc' cl Cc X.env) fp) ifs (lC ea X.K (fun _ _ _ _ => False) (wT C cc))) ∧
      (∀ (s : Shared) (H : Hp) (Cc : Addr) (cl : List (Str × Addr)) (fp : List Addr), PE (X.blk s H sc' (compEnvC sc' cl Cc X.env) fp) elt (lE ea X.K (fun _ _ _ _ => False) (wE C e))) := by
  simp only [cE] at h
  split at h
  · rename_i tg it ifs as
    split at h
    · rename_i g
      obtain ⟨rfl, g⟩ := g
      split at h
      · rename_i g' tg' cc e' h1 h2 h3 h4
        split at h
        · rename_i hin
          cases h
          obtain ⟨p1, p2⟩ := A.i cx h1
          exact ⟨tg, it, ifs, g', tg', cc, e', rfl, rfl, by rw [cx.hN, cx.hsc]; exact blkOk_by g, p1, p2, hin, fun s H Cc cl fp => (A.g (cx.blk s H Cc cl fp) blk_fn h2).1, fun s H Cc cl fp => A.f (cx.blk s H Cc cl fp) h3, fun s H Cc cl fp => A.e (cx.blk s H Cc cl fp) h4⟩
        · cases h
      · cases h
    · cases h
  · cases h
theorem a_e {e : Expr} {c : E} (h : cE t N (n + 1) sc e = some c) : PE X e (lE ea X.K W (wE C c)) := by
  cases e with
  | Constant cst j pos => simp only [cE] at h; exact s_const h
  | Name x pos => simp only [cE] at h; exact s_name cx h
  | BinOp a op b pos =>
    simp only [cE] at h
    split at h
    · rename_i o ho
      split at h
      · rename_i a' b' h1 h2
        cases h
        exact s_bin ho (A.e cx h1) (A.e cx h2)
      · cases h
    · cases h
  | UnaryOp op a pos =>
    cases op <;> simp only [cE] at h <;> try (cases h; done)
    · cases q : cE t N n sc a with
      | none => rw [q] at h; cases h
      | some a' => rw [q] at h; cases h; exact s_not (A.e cx q)
    · cases q : cE t N n sc a with
      | none => rw [q] at h; cases h
      | some a' => rw [q] at h; cases h; exact s_neg (A.e cx q)
  | BoolOp op es pos =>
    simp only [cE] at h
    cases q : es.mapM (cE t N n sc) with
    | none => rw [q] at h; cases h
    | some cs =>
      rw [q] at h
      cases op with
      | And => exact s_and (fun e c m hc => A.e cx hc) q h
      | Or => exact s_or (fun e c m hc => A.e cx hc) q h
  | Compare a ops cs pos =>
    rcases ops with _ | ⟨op, _ | ⟨op', _ | ⟨_, _⟩⟩⟩ <;> rcases cs with _ | ⟨b, _ | ⟨c, _ | ⟨_, _⟩⟩⟩ <;> simp only [cE] at h <;> try (cases h; done)
    · split at h
      · rename_i hs
        split at h
        · rename_i o a' b' h1 h2 h3
          cases h
          exact s_cmp cx.hu hs h1 (A.e cx h2) (A.e cx h3)
        · cases h
      · cases h
    · split at h
      · rename_i hs
        split at h
        · rename_i o o' a' b' c' h1 h2 h3 h4 h5
          cases h
          exact s_chn cx.hu hs h1 h2 (A.e cx h3) (A.e cx h4) (A.e cx h5)
        · cases h
      · cases h
  | IfExp c a b pos =>
    simp only [cE] at h
    split at h
    · rename_i c' a' b' h1 h2 h3
      cases h
      exact s_ite (A.tt cx h1) (A.e cx h2) (A.e cx h3)
    · cases h
  | Tuple es x1 pos =>
    simp only [cE] at h
    cases q : es.mapM (cE t N n sc) with
    | none => rw [q] at h; cases h
    | some cs => rw [q] at h; cases h; exact s_tup (s_args (a_ih A cx) q).1
  | List es pos =>
    simp only [cE] at h
    cases q : es.mapM (cE t N n sc) with
    | none => rw [q] at h; cases h
    | some cs => rw [q] at h; cases h; exact s_lst (s_args (a_ih A cx) q).1
  | Call f args kws pos =>
    cases kws with
    | cons _ _ => simp only [cE] at h; cases h
    | nil =>
      cases f with
      | Name x p => exact a_call A cx h
      | Attribute o m apos =>
        simp only [cE] at h
        split at h
        · rename_i kk o' cs h1 h2 h3
          split at h
          · rename_i g
            cases h
            exact s_mth h1 (A.e cx h2) (cE_shape h2).2.2.2 g (a_ih A cx) h3
          · cases h
        · cases h
      | _ => simp only [cE] at h; cases h
  | Subscript a i pos =>
    have gen : notSlice i = true → (match cE t N n sc a, cE t N n sc i with | some a, some i => some (E.ix a i) | _, _ => none) = some c → PE X (.Subscript a i pos) (lE ea X.K W (wE C c)) := fun hs h => by
      split at h
      · rename_i a' i' h1 h2
        cases h
        exact s_ix (A.e cx h1) (A.e cx h2) hs
      · cases h
    cases i with
    | Slice lo hi st p2 =>
      simp only [cE] at h
      split at h
      · rename_i a' lo' hi' h1 h2 h3
        cases h
        exact s_sl (A.e cx h1) (A.o cx h2) (A.o cx h3)
      · cases h
    | _ => simp only [cE] at h; exact gen rfl h
  | ListComp elt gens sc' pos =>
    obtain ⟨tg, iter, ifs, g, tg', cc, e, rfl, rfl, ok, pi, ns, hin, pg, pt, pe⟩ := a_cpr A cx h
    exact PE.imp (pe_lc cx.calm (by rw [cx.hN]; exact cx.nd) pi ok pg pt pe (fold_of ns)) (s_cpr_rd hin)
  | _ => simp only [cE] at h; cases h
end
theorem all_e {ea : Nat → Addr} {t : Tb} {C : CS} {k : Nat} {N : List Str} : ∀ n, AllE ea t C k N n
  | 0 => all_zero
  | n + 1 => { e := fun cx h => a_e (all_e n) cx h, o := fun cx h => a_o (all_e n) cx h, f := fun cx h => a_f (all_e n) cx h, tt := fun cx h => a_t (all_e n) cx h, g := fun cx hf h => a_g (all_e n) cx hf h, i := fun cx h => a_i (all_e n) cx h }
end Co
namespace Co
open PySem L2
open PySem.Spec PyProof.Rows
def lineOf (ts : List Expr) : Nat := (ts.head?.map (·.pos.line)).getD 0
def swNm (sc : Scope) (l : Nat) (e : Expr) : Option Str := match e with
  | .Name id pos => if sc.names.lookup id == some .local && pos.line == l then some id else none
  | _ => none
/-- whether the names of the left are stored from the right -/
def swK (sc : Scope) (ts vs : List Expr) : Option Bool :=
  if !(ts.length == 2 || ts.length == 3) || vs.length != ts.length then some false
  else if (ts.filterMap (swNm sc (lineOf ts))).length != ts.length || (ts.filterMap (swNm sc (lineOf ts))).eraseDups.length != (ts.filterMap (swNm sc (lineOf ts))).length then some false
  else if vs.all (foldedForSure 8) then some false
  else if vs.all (constantsAlone 8) then none
  else some true
theorem sw_eval {sc : Scope} {env : Env} {ts vs : List Expr} {k k2 : Nat} {p p2 : Pos} (hk : env.scope.kind = .function) (hs : env.scope = sc) (hv : vs.all notStar = true) :
    (swK sc ts vs = some false → swappedStores [.Tuple ts k p] (.Tuple vs k2 p2) env = pure none) ∧ (swK sc ts vs = some true → swappedStores [.Tuple ts k p] (.Tuple vs k2 p2) env = pure (some (ts.filterMap (swNm sc (lineOf ts))))) := by
  subst hs
  have hb : env.blockKind = .function := by
    unfold Env.blockKind
    rw [hk]; rfl
  have hst : (vs.any fun | .Starred .. => true | _ => false) = false := by
    rw [List.any_eq_false]
    intro x hx
    have := List.all_eq_true.mp hv x hx
    cases x <;> first | exact absurd this Bool.false_ne_true | simp
  unfold swappedStores
  simp only [hb, hst]
  generalize hN : List.filterMap _ ts = ns
  have e : ns = ts.filterMap (swNm env.scope (lineOf ts)) := by
    rw [← hN]
    congr 1
  clear hN
  subst e
  have hf : ((ScopeKind.function != ScopeKind.function) : Bool) = false := by decide
  simp only [hf, Bool.or_false, Bool.false_eq_true, if_false]
  unfold swK
  constructor
  · intro h
    split at h
    · rename_i g
      rw [if_pos g]
    · rename_i g
      rw [if_neg g]
      split at h
      · rename_i g2
        rw [if_pos g2]
        split
        · rename_i g5; rfl
        · rfl
      · rename_i g2
        rw [if_neg g2]
        split at h
        · rename_i g3
          rw [if_pos g3]
          split
          · rename_i g5; rfl
          · rfl
        · rename_i g3
          split at h <;> cases h
  · intro h
    split at h
    · cases h
    · rename_i g
      rw [if_neg g]
      split at h
      · cases h
      · rename_i g2
        rw [if_neg g2]
        split at h
        · cases h
        · rename_i g3
          rw [if_neg g3]
          split at h
          · cases h
          · rename_i g4
            rw [if_neg g4]
            split
            · rename_i g5; exact absurd (g5.symm.trans hst) (by decide)
            · rfl
section
variable {X : Cx} {pos : Pos}
/-- X(), an own exception class without own __init__ -/
theorem pmk_own0 {C : Addr} {bmB : List Value} {B newId initId : String} {x : Str} {p : Pos} (F : ExcBaseFacts B newId initId bmB) (q : PySem.W.excIn X.K C bmB newId = true) (gC : X.mg x = some (.ref C))
    (kC : PySem.W.keepIn X.K (.ref C) = true) (r : Raises X (.ref C)) (hg : Gl X x) (hdb : (x == ("__debug__" : Str)) = false) : PMk X (.Call (.Name x p) [] [] pos) (fun _ H Q => Q (.ref C) none H) := by
  intro pins s σ H Q I h
  refine wpAny_Call_Name_kw ?_
  refine ld_glob I hg gC ?_ hdb
  refine PySem.W.callWith_K0 I.kIn kC ?_
  show wpAny _ _ (call (.ref C) []) _ _ _
  obtain ⟨bm, N, nm, qn, bs, hdct, sn, sub, ab, col, dd, k0, k1, k2, k3, k5, mN, hC, hN, hni, T⟩ := exc_obj I.kIn q
  rcases s with ⟨hp, g, dr, tk, os⟩
  exact wpAny_call_exc_subT F T hC hN hni (fun h' e hm => mk_of I hm r h (I.hok.gone hm.new)) (Nat.zero_le _)
end
end Co
namespace Co
open PySem L2
open PySem.Spec PyProof.Rows
def notLc : Expr → Bool
  | .ListComp .. => false | .SetComp .. => false | .DictComp .. => false
  | _ => true
def augOk : Bop → Bool
  | .add => true | .sub => true | .mul => true | _ => false
/-- an except suite's value -/
def cV : Expr → Option PV
  | .Constant c _ _ => (match c with | .int i => some (.int i) | .bool b => some (.bl b) | .none => some .non | .str s => some (.str s) | _ => none)
  | _ => none
def cHd (N : List Str) (sc : Scope) : List Stmt → Option Hd
  | [.Return (some e) _] => (cV e).map .ret
  | [.Assign [.Name x _] e _] => (match slotOf N x, cV e with | some i, some v => if decide (N[i]? = some x) && loc sc x then some (.asg i v) else none | _, _ => none)
  | _ => none
def cEh (t : Tb) (N : List Str) (sc : Scope) : ExceptHandler → Option (Nat × Hd)
  | .ExceptHandler (some (.Name x _)) none body _ => if glb sc x && nmOk x then (match slotOf t.excs x, cHd N sc body with | some j, some s => if decide (t.excs[j]? = some x) then some (j, s) else none | _, _ => none) else none
  | _ => none
def toSs : List S → Ss
  | [] => .nil
  | s :: r => .cons s (toSs r)
/-- name = [..] on one line: the name is stored while the block's frame stands -/
def lcSwap (sc sc' : Scope) (x : Str) (l l' : Nat) : Bool := locL sc x && l == l' && !(sc'.names.any fun (n, k) => n == x && (k == .local || k == .cell))
def cS (t : Tb) (N : List Str) (sc : Scope) (m : Nat) : Nat → Stmt → Option S
  | 0, _ => none
  | n + 1, st => match st with
    | .Expr e _ => (match e with
      | .Constant (.str _) _ _ => some .pass
      | e => if notLc e then (cE t N m sc e).map .ex else none)
    | .Assign [tg] e _ => (match tg, e with
      | .Tuple ts _ _, .Tuple vs _ _ => (match swK sc ts vs, cG t N m sc sc tg, cE t N m sc e with
        | some false, some g, some e => some (.asg g e)
        | some true, some g, some e => (match g with
          | .tp (.cons (.nm i) (.cons (.nm j) .nil)) => if decide (i ≠ j) then some (.asg g e) else none
          | .tp (.cons (.nm i) (.cons (.nm j) (.cons (.nm l) .nil))) => if decide (i ≠ j) && decide (i ≠ l) && decide (j ≠ l) then some (.asg g e) else none
          | _ => none)
        | _, _, _ => none)
      | tg, e => (match cG t N m sc sc tg, cE t N m sc e with | some g, some e => some (.asg g e) | _, _ => none))
    | .AugAssign (.Name x _) op e _ => (match slotOf N x, opOf op, cE t N m sc e with
      | some i, some o, some e => if decide (N[i]? = some x) && loc sc x && augOk o then some (.aug i o e) else none
      | _, _, _ => none)
    | .Return o _ => (match o with | some e => (cE t N m sc e).map .ret | none => some .retN)
    | .If c a b _ => (match cT t N m sc c, a.mapM (cS t N sc m n), b.mapM (cS t N sc m n) with | some c, some a, some b => some (.ife c (toSs a) (toSs b)) | _, _, _ => none)
    | .While c b [] _ => (match cT t N m sc c, b.mapM (cS t N sc m n) with | some c, some b => some (.whl c (toSs b)) | _, _ => none)
    | .For tg it b [] _ => (match cIt t N m sc tg it, cG t N m sc sc tg, b.mapM (cS t N sc m n) with | some g, some tg, some b => some (.for g tg (toSs b)) | _, _, _ => none)
    | .Pass _ => some .pass
    | .Break _ => some .brk
    | .Continue _ => some .cont
    | .Raise (some (.Call (.Name x _) [] [] _)) none _ => if glb sc x && nmOk x then (match slotOf t.excs x with | some j => if decide (t.excs[j]? = some x) then some (.rai j) else none | none => none) else none
    | .Try b (h :: hs) [] [] _ => (match b.mapM (cS t N sc m n), (h :: hs).mapM (cEh t N sc) with | some b, some hs => some (.try (toSs b) hs) | _, _ => none)
    | _ => none
structure LkD (ea : Nat → Addr) (K : PySem.W.Frag) (h : PH) (H : Hp) (D' : Ends) (D : L2.Ends) (W : WX) : Prop where
  nx : LkS K h H D'.nx D.nx
  rt : Lk K h H D'.rt D.rt
  bk : LkS K h H D'.bk D.bk
  ct : LkS K h H D'.ct D.ct
  ex : LkXS ea K h H D'.ex W
theorem LkD.keep {ea : Nat → Addr} {K : PySem.W.Frag} {h h' : PH} {H H' : Hp} {D' : Ends} {D : L2.Ends} {W : WX} (l : LkD ea K h H D' D W) (f : Fr h H h' H') : LkD ea K h' H' D' D W := ⟨l.nx.keep f, l.rt.keep f, l.bk.keep f, l.ct.keep f, l.ex.keep f⟩
theorem LkD.lx {ea : Nat → Addr} {K : PySem.W.Frag} {h : PH} {H : Hp} {D' : Ends} {D : L2.Ends} {W : WX} {pσ : Sl} {σ : L2.St} (l : LkD ea K h H D' D W) (rs : RepS K H pσ σ) (rh : RepH K h H) : LkX ea K h H (fun x h => D'.ex x pσ h) σ W :=
  fun x h' cls d H' rx rh' fr q => l.ex x pσ h' cls d σ H' rx (rs.keep rh fr) rh' fr q
def lS (ea : Nat → Addr) (K : PySem.W.Frag) (W : WX) (t : Ends → Sl → PH → Prop) : TS := fun D σ H => ∃ pσ h D', RepS K H pσ σ ∧ RepH K h H ∧ t D' pσ h ∧ LkD ea K h H D' D W
/-- where statements stand -/
structure CtxS (sub : Nat → Nat → Bool) (ea : Nat → Addr) (t : Tb) (C : CS) (k : Nat) (N : List Str) (sc : Scope) (W : WX) (X : Cx) : Prop extends CtxOk ea t C k N sc W X where
  fnc : ∀ x, sc.names.lookup x = some .cell → X.fn x = true
  pass : PassesOwn (model X.prog X.w) X.A X.env X.xe
  stk : X.stack = X.env :: X.outer
  frm : X.env.frame = some X.env.locals
  kind : sc.kind = .function
  exm : t.excs ≠ [] → ∀ i j, PySem.W.exmOne X.K (.ref (ea i)) (.ref (ea j)) = some (sub i j)
section
variable {sub : Nat → Nat → Bool} {ea : Nat → Addr} {t : Tb} {C : CS} {k : Nat} {N : List Str} {sc : Scope} {W : WX} {X : Cx} {e a b c tg : Expr} {pos : Pos}
/-- an expression, then what follows in the statement -/
theorem lE_st {ta : Sl → PH → QK → XK → Prop} {tk : PV → Ends → Sl → PH → Prop} {σ : L2.St} {H : Hp} {D : L2.Ends} {R : VK}
    (q : lS ea X.K W (fun D σ h => ta σ h (fun v h => tk v D σ h) fun x h => D.ex x σ h) D σ H)
    (hk : ∀ pσ h1 pv v H1 D', RepS X.K H1 pσ σ → RepH X.K h1 H1 → RepV X.K H1 pv v → tk pv D' pσ h1 → LkD ea X.K h1 H1 D' D W → R v H1) : lE ea X.K W ta σ H R := by
  obtain ⟨pσ, h, D', rs, rh, q, ld⟩ := q
  exact ⟨pσ, h, _, _, rs, rh, q, fun pv h1 v H1 rv rh1 fr q1 => hk pσ h1 pv v H1 D' (rs.keep rh fr) rh1 rv q1 (ld.keep fr), ld.lx rs rh⟩
theorem swaps_of {tg? : Option Expr} {l : Nat} {env : Env} (h : notLc e = true) : swapsWith e tg? l env = pure false := by
  cases e <;> first | rfl | cases h
theorem st_ex {e' : E} (hn : notLc e = true) (he : PE X e (lE ea X.K W (wE C e'))) : PS X (.Expr e pos) (lS ea X.K W (wS sub C (.ex e'))) :=
  PS.imp (ps_expr he (swaps_of hn)) fun D σ H q => lE_st (tk := fun _ D σ h => D.nx σ h) (by simpa only [wS] using q) fun pσ h1 pv v H1 D' rs rh _ q ld => ld.nx _ _ _ _ rs rh Fr.refl q
theorem st_ret {e' : E} (he : PE X e (lE ea X.K W (wE C e'))) : PS X (.Return (some e) pos) (lS ea X.K W (wS sub C (.ret e'))) :=
  PS.imp (ps_ret he) fun D σ H ⟨pσ, h, D', rs, rh, q, ld⟩ => ⟨pσ, h, _, _, rs, rh, by simpa only [wS] using q, ld.rt, ld.lx rs rh⟩
theorem st_retN : PS X (.Return none pos) (lS ea X.K W (wS sub C .retN)) :=
  PS.imp ps_retN fun D σ H ⟨pσ, h, D', rs, rh, q, ld⟩ => ld.rt.here non_rep rh (by simpa only [wS] using q)
theorem st_pass : PS X (.Pass pos) (lS ea X.K W (wS sub C .pass)) :=
  PS.imp ps_pass fun D σ H ⟨pσ, h, D', rs, rh, q, ld⟩ => ld.nx _ _ _ _ rs rh Fr.refl (by simpa only [wS] using q)
theorem st_doc {x : Str} {j : Nat} {p2 : Pos} : PS X (.Expr (.Constant (.str x) j p2) pos) (lS ea X.K W (wS sub C .pass)) :=
  PS.imp ps_doc fun D σ H ⟨pσ, h, D', rs, rh, q, ld⟩ => ld.nx _ _ _ _ rs rh Fr.refl (by simpa only [wS] using q)
theorem st_brk : PS X (.Break pos) (lS ea X.K W (wS sub C .brk)) :=
  PS.imp ps_break fun D σ H ⟨pσ, h, D', rs, rh, q, ld⟩ => ld.bk _ _ _ _ rs rh Fr.refl (by simpa only [wS] using q)
theorem st_cont : PS X (.Continue pos) (lS ea X.K W (wS sub C .cont)) :=
  PS.imp ps_continue fun D σ H ⟨pσ, h, D', rs, rh, q, ld⟩ => ld.ct _ _ _ _ rs rh Fr.refl (by simpa only [wS] using q)
theorem asg_rd {e' : E} {g : Tg} : ∀ D σ H, lS ea X.K W (wS sub C (.asg g e')) D σ H → tAsg (lE ea X.K W (wE C e')) (lG X.K (wTg C g) (SB g)) D σ H := fun D σ H q =>
  lE_st (tk := fun v D σ h => wTg C g v σ h D.nx) (by simpa only [wS] using q) fun pσ h1 pv v H1 D' rs rh rv q ld => ⟨pv, pσ, h1, _, rv, rs, rh, q, fun pσ' h' σ' H' rs' rh' fr _ q' => ld.nx _ _ _ _ rs' rh' fr q'⟩
theorem sole_of (hs : notStar tg = true) : (assignEach [tg] X.env).map (·.2) = [assign tg X.env] := by rw [asg_star hs]; rfl
theorem st_asg {e' : E} {g : Tg} (he : PE X e (lE ea X.K W (wE C e'))) (hg : PG X tg (lG X.K (wTg C g) (SB g))) (hs : notStar tg = true) (h1 : swapsWith e (some tg) pos.line X.env = pure false) (h2 : swappedStores [tg] e X.env = pure none) :
    PS X (.Assign [tg] e pos) (lS ea X.K W (wS sub C (.asg g e'))) := PS.imp (ps_asg he hg h1 h2 (sole_of hs)) asg_rd
/-- a name, a comprehension -/
theorem name_rd {K : PySem.W.Frag} {i : Nat} {v : V} {σ : L2.St} {H : Hp} {Q : L2.St → Hp → Prop} (q : lG K (wTg C (.nm i)) (SB (.nm i)) v σ H Q) : gName i v σ H Q := by
  obtain ⟨pv, pσ, h, Q', rv, rs, rh, q, lk⟩ := q
  simp only [wTg] at q
  exact lk _ _ _ _ (rs.set i rv) rh Fr.refl (fun vs m => wipe_set (by simpa [tgIn] using m)) q
end
end Co
namespace Co
open PySem L2
open PySem.Spec PyProof.Rows
section
variable {sub : Nat → Nat → Bool} {ea : Nat → Addr} {t : Tb} {C : CS} {k : Nat} {N : List Str} {sc : Scope} {W : WX} {X : Cx} {e a b c tg : Expr} {pos : Pos}
theorem ss_nil : PSs X [] (lS ea X.K W (wSs sub C .nil)) :=
  PSs.imp pss_nil fun D σ H ⟨pσ, h, D', rs, rh, q, ld⟩ => ld.nx _ _ _ _ rs rh Fr.refl (by simpa only [wSs] using q)
theorem ss_cons {s : Stmt} {r : List Stmt} {s' : S} {r' : Ss} (hs : PS X s (lS ea X.K W (wS sub C s'))) (hr : PSs X r (lS ea X.K W (wSs sub C r'))) : PSs X (s :: r) (lS ea X.K W (wSs sub C (.cons s' r'))) :=
  PSs.imp (pss_cons hs hr) fun D σ H ⟨pσ, h, D', rs, rh, q, ld⟩ => ⟨pσ, h, { D' with nx := wSs sub C r' D' }, rs, rh, by simpa only [wSs] using q,
    ⟨fun pσ' h' σ' H' rs' rh' fr q' => ⟨pσ', h', D', rs', rh', q', ld.keep fr⟩, ld.rt, ld.bk, ld.ct, ld.ex⟩⟩
theorem ss_all {f : Stmt → Option S} : ∀ {ss : List Stmt} {cs : List S}, (∀ s c, s ∈ ss → f s = some c → PS X s (lS ea X.K W (wS sub C c))) → ss.mapM f = some cs → PSs X ss (lS ea X.K W (wSs sub C (toSs cs)))
  | [], _, _, h => by rw [mapM_nil h]; exact ss_nil
  | s :: ss, _, ih, h => by
    obtain ⟨y, zs, h1, h2, rfl⟩ := mapM_cons h
    exact ss_cons (ih s y (by simp) h1) (ss_all (fun s c m => ih s c (List.mem_cons_of_mem _ m)) h2)
theorem lC_st {ta : Sl → PH → (Bool → PH → Prop) → XK → Prop} {tk : Bool → Ends → Sl → PH → Prop} {σ : L2.St} {H : Hp} {D : L2.Ends} {R : Bool → Hp → Prop}
    (q : ∃ pσ h D', RepS X.K H pσ σ ∧ RepH X.K h H ∧ ta pσ h (fun v h => tk v D' pσ h) (fun x h => D'.ex x pσ h) ∧ LkD ea X.K h H D' D W)
    (hk : ∀ pσ h1 b H1 D', RepS X.K H1 pσ σ → RepH X.K h1 H1 → tk b D' pσ h1 → LkD ea X.K h1 H1 D' D W → R b H1) : lC ea X.K W ta σ H R := by
  obtain ⟨pσ, h, D', rs, rh, q, ld⟩ := q
  exact ⟨pσ, h, _, _, rs, rh, q, fun b h1 H1 rh1 fr q1 => hk pσ h1 b H1 D' (rs.keep rh fr) rh1 q1 (ld.keep fr), ld.lx rs rh⟩
theorem st_if {c' : T} {a b : List Stmt} {a' b' : Ss} (hc : PT X c (lC ea X.K W (wT C c'))) (ha : PSs X a (lS ea X.K W (wSs sub C a'))) (hb : PSs X b (lS ea X.K W (wSs sub C b'))) : PS X (.If c a b pos) (lS ea X.K W (wS sub C (.ife c' a' b'))) :=
  PS.imp (ps_if hc ha hb) fun D σ H q => lC_st (tk := fun t D σ h => if t = true then wSs sub C a' D σ h else wSs sub C b' D σ h) (by simpa only [lS, wS] using q) fun pσ h1 b H1 D' rs rh q ld => by
    cases b with
    | true => exact ⟨pσ, h1, D', rs, rh, q, ld⟩
    | false => exact ⟨pσ, h1, D', rs, rh, q, ld⟩
theorem st_whl {c' : T} {b : List Stmt} {b' : Ss} (hp : PassesOwn (model X.prog X.w) X.A X.env X.xe) (hc : PT X c (lC ea X.K W (wT C c'))) (hb : PSs X b (lS ea X.K W (wSs sub C b'))) : PS X (.While c b [] pos) (lS ea X.K W (wS sub C (.whl c' b'))) :=
  PS.imp (ps_while hp hc hb) fun D σ H ⟨pσ, h, D', rs, rh, q, ld⟩ => by
    simp only [wS] at q
    obtain ⟨n, q⟩ := q
    refine ⟨fun m σ1 H1 => ∃ pσ1 h1, RepS X.K H1 pσ1 σ1 ∧ RepH X.K h1 H1 ∧ Fr h H h1 H1 ∧ whlN (fun σ h Q => wT C c' σ h Q fun x h => D'.ex x σ h) (wSs sub C b') D' m pσ1 h1, ⟨n, pσ, h, rs, rh, Fr.refl, q⟩, ?_⟩
    rintro m σ1 H1 ⟨pσ1, h1, rs1, rh1, fr1, q1⟩
    cases m with
    | zero => exact False.elim q1
    | succ m =>
      refine ⟨pσ1, h1, _, _, rs1, rh1, q1, fun tb h2 H2 rh2 fr2 q2 => ?_, (ld.keep fr1).lx rs1 rh1⟩
      cases tb with
      | true =>
        simp only [if_true] at q2 ⊢
        exact ⟨fun σ' H' => ∃ pσ' h', RepS X.K H' pσ' σ' ∧ RepH X.K h' H' ∧ Fr h H h' H' ∧ whlN (fun σ h Q => wT C c' σ h Q fun x h => D'.ex x σ h) (wSs sub C b') D' m pσ' h', fun σ' H' z => ⟨m, Nat.lt_succ_self m, z⟩,
          pσ1, h2, _, rs1.keep rh1 fr2, rh2, q2, ⟨fun pσ' h' σ' H' rs' rh' fr q => ⟨pσ', h', rs', rh', (fr1.trans fr2).trans fr, q⟩, (ld.keep (fr1.trans fr2)).rt, (ld.keep (fr1.trans fr2)).nx,
            fun pσ' h' σ' H' rs' rh' fr q => ⟨pσ', h', rs', rh', (fr1.trans fr2).trans fr, q⟩, (ld.keep (fr1.trans fr2)).ex⟩⟩
      | false =>
        simp only [Bool.false_eq_true, if_false] at q2 ⊢
        exact ld.nx _ _ _ _ (rs1.keep rh1 fr2) rh2 (fr1.trans fr2) q2
theorem st_for {it : Expr} {g : It} {tg' : Tg} {b : List Stmt} {b' : Ss} (hp : PassesOwn (model X.prog X.w) X.A X.env X.xe) (hc : X.calm = true) (hi : PI X tg it (lI ea X.K W (wIt C g))) (hg : PG X tg (lG X.K (wTg C tg') (SB tg'))) (hb : PSs X b (lS ea X.K W (wSs sub C b')))
    (hs : notSet it = true) : PS X (.For tg it b [] pos) (lS ea X.K W (wS sub C (.for g tg' b'))) :=
  PS.imp (ps_for hp hc hi hg hb (fold_of hs)) fun D σ H ⟨pσ, h, D', rs, rh, q, ld⟩ => by
    simp only [wS] at q
    refine ⟨pσ, h, _, _, rs, rh, q, fun xs ok h1 J H1 rh1 fr1 ir q1 => ?_, ld.lx rs rh⟩
    refine ⟨fun i m σ2 H2 => m = xs.length - i ∧ i ≤ xs.length ∧ ∃ pσ2 h2, RepS X.K H2 pσ2 σ2 ∧ RepH X.K h2 H2 ∧ Fr h1 H1 h2 H2 ∧ forL ok (fun v σ h Q => wTg C tg' v σ h Q) (wSs sub C b') D' (xs.drop i) pσ2 h2,
      ⟨_, rfl, Nat.zero_le _, pσ, h1, rs.keep rh fr1, rh1, Fr.refl, q1⟩, ?_⟩
    rintro i m σ2 H2 ⟨rfl, hi, pσ2, h2, rs2, rh2, fr2, q2⟩
    by_cases hlt : i < xs.length
    · have ed : xs.drop i = xs[i] :: xs.drop (i + 1) := List.drop_eq_getElem_cons hlt
      rw [ed] at q2
      simp only [forL] at q2
      obtain ⟨okh, q2⟩ := q2
      obtain ⟨ir1, _⟩ := ir h2 H2 rh2 fr2 okh
      obtain ⟨go, yl⟩ := ir1 i xs[i] (List.getElem?_eq_getElem hlt)
      refine .inr ⟨go, fun σ' H' => ∃ pσ' h', RepS X.K H' pσ' σ' ∧ RepH X.K h' H' ∧ Fr h1 H1 h' H' ∧ forL ok (fun v σ h Q => wTg C tg' v σ h Q) (wSs sub C b') D' (xs.drop (i + 1)) pσ' h',
        fun σ' H' z => ⟨xs.length - (i + 1), by omega, rfl, hlt, z⟩, fun x H' y => ?_⟩
      obtain ⟨rx, rh3, fr3⟩ := yl x H' y
      refine ⟨xs[i], pσ2, h2, _, rx, rs2.keep rh2 fr3, rh3, q2, fun pσ4 h4 σ4 H4 rs4 rh4 fr4 _ q4 => ?_⟩
      have frA : Fr h1 H1 h4 H4 := fr2.trans (fr3.trans fr4)
      have ld4 := ld.keep (fr1.trans frA)
      exact ⟨pσ4, h4, _, rs4, rh4, q4, ⟨fun pσ' h' σ' H' rs' rh' fr q => ⟨pσ', h', rs', rh', frA.trans fr, q⟩, ld4.rt, ld4.nx, fun pσ' h' σ' H' rs' rh' fr q => ⟨pσ', h', rs', rh', frA.trans fr, q⟩, ld4.ex⟩⟩
    · obtain rfl : i = xs.length := by omega
      rw [List.drop_length] at q2
      simp only [forL] at q2
      obtain ⟨okh, q2⟩ := q2
      obtain ⟨_, st⟩ := ir h2 H2 rh2 fr2 okh
      exact .inl ⟨st, ld.nx _ _ _ _ rs2 rh2 (fr1.trans fr2) q2⟩
theorem iop_mulW : OpR X (inplaceOp .Mult) (rI CMulW fun i j => .int (i * j)) := opI fun _ _ _ _ _ _ _ hc q => PyProof.Rows.imul_int q hc.ok
theorem r_aug {op : Operator} {o : Bop} (ho : opOf op = some o) (hk : augOk o = true) : ∃ r, OpR X (inplaceOp op) r ∧ Ok2 X.K (augS o) r := by
  cases op <;> cases ho <;> first | (cases hk; done) | skip
  · refine ⟨_, iop_add.or iop_add_str, ?_⟩
    intro x y h Q' vx vy H Q rx ry rh q lk
    cases x <;> cases y <;> first | exact False.elim q | skip
    · exact .inl ⟨_, _, rep_int rx, rep_int ry, lk.here int_rep rh q⟩
    · exact .inr ⟨_, _, rep_str rx, rep_str ry, by rw [line16]; exact q.1, lk.here str_rep rh q.2⟩
  · refine ⟨_, iop_sub, ok_int0 fun x y h Q q => ?_⟩
    cases x <;> cases y <;> first | exact False.elim q | exact ⟨_, _, rfl, rfl, q⟩
  · refine ⟨_, iop_mulW, ok_int fun x y h Q q => ?_⟩
    cases x <;> cases y <;> first | exact False.elim q | exact ⟨_, _, rfl, rfl, q.1, q.2⟩
theorem st_aug {x : Str} {i : Nat} {op : Operator} {o : Bop} {e' : E} {p2 : Pos} (cx : CtxS sub ea t C k N sc W X) (hi : N[i]? = some x) (hl : loc sc x = true) (ho : opOf op = some o) (hk : augOk o = true)
    (he : PE X e (lE ea X.K W (wE C e'))) : PS X (.AugAssign (.Name x p2) op e pos) (lS ea X.K W (wS sub C (.aug i o e'))) := by
  obtain ⟨r, h1, h2⟩ := r_aug (X := X) ho hk
  have hf : X.fn x = true ∨ X.env.scope.names.lookup x = some .local := by
    rcases loc_of hl with q | q
    · exact .inr (by rw [cx.hsc]; exact q)
    · exact .inl (cx.fnc x q)
  refine PS.imp (ps_aug (i := i) (ti := r) (by rw [cx.hN]; exact cx.nd) (by rw [cx.hN]; exact hi) (by rw [cx.hsc]; exact loc_of hl) he h1 hf) fun D σ H ⟨pσ, h, D', rs, rh, q, ld⟩ => ?_
  simp only [wS] at q
  split at q
  · rename_i pv ev
    obtain ⟨v, e1, rv⟩ := rs.2 i pv ev
    refine ⟨v, e1, pσ, h, _, _, rs, rh, q, fun y h1 vy H1 ry rh1 fr1 q1 => ?_, ld.lx rs rh⟩
    exact h2 pv y h1 _ v vy H1 _ (rv.keep rh fr1) ry rh1 q1 fun z h3 vz H3 rz rh3 fr3 q3 => ld.nx _ _ _ _ ((rs.keep rh (fr1.trans fr3)).set i rz) rh3 (fr1.trans fr3) q3
  · exact q.elim
theorem st_rai {x : Str} {j : Nat} {p p2 : Pos} (cx : CtxS sub ea t C k N sc W X) (hj : t.excs[j]? = some x) (hg : glb sc x = true) (hn : nmOk x = true) : PS X (.Raise (some (.Call (.Name x p) [] [] p2)) none pos) (lS ea X.K W (wS sub C (.rai j))) := by
  have ec := cx.excs j x hj
  refine PS.imp (ps_raise cx.calm cx.tk (pmk_own0 PySem.F.excBase_ValueError ec.inK ec.mg ec.kp ec.rs (glb_of cx.hsc hg) (nm_of hn).1)) fun D σ H ⟨pσ, h, D', rs, rh, q, ld⟩ => ?_
  exact ld.ex (.own j) pσ h _ _ σ H ⟨rfl, rfl⟩ rs rh Fr.refl (by simpa only [wS] using q)
end
end Co
namespace Co
open PySem L2
open PySem.Spec PyProof.Rows
section
variable {sub : Nat → Nat → Bool} {ea : Nat → Addr} {t : Tb} {C : CS} {k : Nat} {N : List Str} {sc : Scope} {W : WX} {X : Cx} {e a b c tg : Expr} {pos : Pos}
theorem cV_pe {v : PV} {Y : Cx} (h : cV e = some v) : PE Y e (tC (vOf v)) ∧ flat v = true ∧ notLc e = true := by
  unfold cV at h
  split at h
  · rename_i cst j p
    cases cst <;> first | (cases h; done) | (cases h; first | exact ⟨pe_non, rfl, rfl⟩ | exact ⟨pe_bl, rfl, rfl⟩ | exact ⟨pe_int, rfl, rfl⟩ | exact ⟨pe_str, rfl, rfl⟩)
  · cases h
theorem rep_vOf {K : PySem.W.Frag} {H : Hp} {v : PV} (f : flat v = true) : RepV K H v (vOf v) := by
  cases v with
  | non => exact non_rep
  | bl b => exact bl_rep
  | int i => exact int_rep
  | str s => exact str_rep
  | tup l => cases f
  | ref a => cases f
  | rol l => cases f
def hdFl (s : Hd) : Prop := match s with | .ret v => flat v = true | .asg i v => flat v = true
/-- a suite's reading -/
def tHd (s : Hd) : TS := match s with
  | .ret v => tRet (tC (vOf v))
  | .asg i v => tAsg (tC (vOf v)) (gName i)
theorem hd_ps {s : Hd} {body : List Stmt} {Y : Cx} (hY : Y.N = N) (hnd : N.Nodup) (hsc : Y.env.scope = sc) (hfn : ∀ x, sc.names.lookup x = some .cell → Y.fn x = true) (h : cHd N sc body = some s) :
    PSs Y body (tHd s) ∧ (∃ b₀ r, body = b₀ :: r) ∧ hdFl s := by
  unfold cHd at h
  split at h
  · rename_i e p
    cases q : cV e with
    | none => rw [q] at h; cases h
    | some v =>
      rw [q] at h; cases h
      obtain ⟨h1, h2, _⟩ := cV_pe (Y := Y) q
      exact ⟨pss_one (ps_ret h1), ⟨_, _, rfl⟩, h2⟩
  · rename_i x p e p2
    split at h
    · rename_i i v hi hv
      split at h
      · rename_i g
        rw [Bool.and_eq_true, decide_eq_true_eq] at g
        cases h
        obtain ⟨h1, h2, h3⟩ := cV_pe (Y := Y) hv
        have hf : Y.fn x = true ∨ Y.env.scope.names.lookup x = some .local := by
          rcases loc_of g.2 with q | q
          · exact .inr (by rw [hsc]; exact q)
          · exact .inl (hfn x q)
        exact ⟨pss_one (ps_set (i := i) (by rw [hY]; exact hnd) (by rw [hY]; exact g.1) (by rw [hsc]; exact loc_of g.2) h1 (swaps_of h3) hf), ⟨_, _, rfl⟩, h2⟩
      · cases h
    · cases h
  · cases h
theorem hd_rd {K : PySem.W.Frag} {s : Hd} {D' : Ends} {D : L2.Ends} {pσ : Sl} {σ : L2.St} {h : PH} {H : Hp} (f : hdFl s) (q : hdS s D' pσ h) (rs : RepS K H pσ σ) (rh : RepH K h H)
    (nx : LkS K h H D'.nx D.nx) (rt : Lk K h H D'.rt D.rt) : tHd s D σ H := by
  cases s with
  | ret v => exact rt.here (rep_vOf f) rh q
  | asg i v => exact nx _ _ _ _ (rs.set i (rep_vOf f)) rh Fr.refl q
def hdL (ea : Nat → Addr) (hs : List (Nat × Hd)) : List (Value × (Addr → Value → Option Addr → TS)) := hs.map fun p => (.ref (ea p.1), fun _ _ _ => tHd p.2)
def hdFlat (hs : List (Nat × Hd)) : Prop := ∀ p ∈ hs, hdFl p.2
theorem eh_ok (cx : CtxS sub ea t C k N sc W X) : ∀ {hds : List ExceptHandler} {hs : List (Nat × Hd)}, hds.mapM (cEh t N sc) = some hs → HdsOk X hds (hdL ea hs) ∧ hdFlat hs ∧ (hs ≠ [] → t.excs ≠ [])
  | [], _, h => by rw [mapM_nil h]; exact ⟨.nil, fun _ m => absurd m List.not_mem_nil, fun z => absurd rfl z⟩
  | hd :: hds, _, h => by
    obtain ⟨y, zs, h1, h2, rfl⟩ := mapM_cons h
    obtain ⟨p1, p2, _⟩ := eh_ok cx h2
    unfold cEh at h1
    split at h1
    · rename_i x p body p3
      split at h1
      · rename_i g
        rw [Bool.and_eq_true] at g
        split at h1
        · rename_i j s hj hs
          split at h1
          · rename_i g2
            rw [decide_eq_true_eq] at g2
            cases h1
            have ec := cx.excs j x g2
            have gen := fun (Y : Cx) (a1 : Y.N = N) (a2 : Y.env.scope = sc) (a3 : ∀ x, sc.names.lookup x = some .cell → Y.fn x = true) => hd_ps (Y := Y) a1 cx.nd a2 a3 hs
            obtain ⟨_, ⟨b0, r, rfl⟩, fl⟩ := gen X cx.hN cx.hsc cx.fnc
            refine ⟨.cons (c := .ref (ea j)) (ts := fun _ _ _ => tHd s) ⟨glb_of cx.hsc g.1, (nm_of g.2).1, .inl ec.mg⟩ (fun a oe cls d pn _ _ => (gen (X.suite a ((a, oe) :: pn)) cx.hN cx.hsc cx.fnc).1) p1, ?_, fun _ z => by rw [z] at g2; cases g2⟩
            intro p hp
            rcases List.mem_cons.1 hp with rfl | hp
            · exact fl
            · exact p2 p hp
          · cases h1
        · cases h1
      · cases h1
    · cases h1
theorem hds_rd {K : PySem.W.Frag} {D' : Ends} {D : L2.Ends} {h0 : PH} {H0 : Hp} (exm : ∀ i j, PySem.W.exmOne K (.ref (ea i)) (.ref (ea j)) = some (sub i j)) (ld : LkD ea K h0 H0 D' D W) : ∀ {hs : List (Nat × Hd)}, hdFlat hs →
    ∀ x pσ h cls d σ H, RepX ea x cls d → RepS K H pσ σ → RepH K h H → Fr h0 H0 h H → hdsS sub x D' pσ h hs → wMany K W D (hdL ea hs) cls d σ H
  | [], _, x, pσ, h, cls, d, σ, H, rx, rs, rh, fr, q => ld.ex x pσ h cls d σ H rx rs rh fr q
  | (j, s) :: hs, fl, .own i, pσ, h, cls, d, σ, H, rx, rs, rh, fr, q => by
    obtain ⟨rfl, rfl⟩ := rx
    have q' : if sub i j = true then hdS s D' pσ h else hdsS sub (.own i) D' pσ h hs := q
    refine ⟨sub i j, exm i j, fun e a _ => ?_, fun e => ?_⟩
    · rw [if_pos e] at q'
      exact hd_rd (fl (j, s) (by simp)) q' rs rh (ld.keep fr).nx (ld.keep fr).rt
    · rw [if_neg (by rw [e]; exact Bool.false_ne_true)] at q'
      exact hds_rd exm ld (fun p m => fl p (by simp [m])) (.own i) pσ h _ _ σ H ⟨rfl, rfl⟩ rs rh fr q'
theorem CtxS.tr (cx : CtxS sub ea t C k N sc W X) {W' : WX} {pn : List (Addr × Obj)} {xe : Value → Shared → Prop} (tk : Takes (X.tr pn xe) W') (ps : PassesOwn (model X.prog X.w) X.A X.env xe) : CtxS sub ea t C k N sc W' (X.tr pn xe) where
  hN := cx.hN
  nd := cx.nd
  hsc := cx.hsc
  calm := cx.calm
  room := cx.room
  tk := tk
  fns := cx.fns
  cons := cx.cons
  blts := cx.blts
  excs := fun i x h => let z := cx.excs i x h; ⟨z.mg, z.inK, z.kp, z.rs⟩
  fnc := cx.fnc
  pass := ps
  stk := cx.stk
  frm := cx.frm
  kind := cx.kind
  exm := cx.exm
theorem st_try {b : List Stmt} {b' : Ss} {h₀ : ExceptHandler} {hds : List ExceptHandler} {hs : List (Nat × Hd)} (cx : CtxS sub ea t C k N sc W X) (hh : (h₀ :: hds).mapM (cEh t N sc) = some hs)
    (hb : ∀ (W' : WX) (Y : Cx), Y.K = X.K → CtxS sub ea t C k N sc W' Y → PSs Y b (lS ea Y.K W' (wSs sub C b'))) : PS X (.Try b (h₀ :: hds) [] [] pos) (lS ea X.K W (wS sub C (.try b' hs))) := by
  obtain ⟨p1, p2, p3⟩ := eh_ok cx hh
  have ne : hs ≠ [] := by
    obtain ⟨y, zs, _, _, rfl⟩ := mapM_cons hh
    exact List.cons_ne_nil _ _
  refine PS.imp (ps_try_many (tb := fun W' => lS ea X.K W' (wSs sub C b')) cx.stk cx.frm cx.tk (fun W' pn xe tk ps => hb W' (X.tr pn xe) rfl (cx.tr tk ps)) p1) fun D σ H ⟨pσ, h, D', rs, rh, q, ld⟩ => ?_
  simp only [wS] at q
  exact ⟨pσ, h, _, rs, rh, q, ⟨ld.nx, ld.rt, ld.bk, ld.ct, fun x pσ' h' cls d σ' H' rx rs' rh' fr q' => hds_rd (cx.exm (p3 ne)) ld p2 x pσ' h' cls d σ' H' rx rs' rh' fr q'⟩⟩
end
end Co
namespace Co
open PySem L2
open PySem.Spec PyProof.Rows
section
variable {sub : Nat → Nat → Bool} {ea : Nat → Addr} {t : Tb} {C : CS} {k : Nat} {N : List Str} {sc : Scope} {W : WX} {X : Cx} {e a b c tg : Expr} {pos : Pos} {n m : Nat}
theorem sw_nt (h : ∀ ts k p, tg ≠ .Tuple ts k p) (h2 : ∀ ts p, tg ≠ .List ts p) : swappedStores [tg] e X.env = pure none := by
  cases tg <;> first | exact absurd rfl (h _ _ _) | exact absurd rfl (h2 _ _) | (cases e <;> rfl)
theorem sw_nv {ts : List Expr} {k : Nat} {p : Pos} (h : ∀ vs k p, e ≠ .Tuple vs k p) : swappedStores [.Tuple ts k p] e X.env = pure none := by
  cases e <;> first | exact absurd rfl (h _ _ _) | rfl
theorem swaps_nn {l : Nat} (h : ∀ x p, tg ≠ .Name x p) : swapsWith e (some tg) l X.env = pure false := by
  cases tg <;> first | exact absurd rfl (h _ _) | (cases e <;> rfl)
theorem swaps_name {x : Str} {p : Pos} {l : Nat} {elt : Expr} {gens : List Comprehension} {sc' : Scope} {pos' : Pos} :
    swapsWith (.ListComp elt gens sc' pos') (some (.Name x p)) l X.env = pure (X.env.blockKind == .function && X.env.kindOf x == some .local && p.line == pos'.line && !(sc'.names.any fun (n, k) => n == x && (k == .local || k == .cell))) := rfl
/-- name = value -/
theorem st_name {x : Str} {p : Pos} {g : Tg} {e' : E} (cx : CtxS sub ea t C k N sc W X) (hg : cG t N n sc sc (.Name x p) = some g) (he : cE t N m sc e = some e') : PS X (.Assign [.Name x p] e pos) (lS ea X.K W (wS sub C (.asg g e'))) := by
  cases n with
  | zero => simp only [cG] at hg; cases hg
  | succ n =>
    have pg := (all_e (n + 1)).g cx.toCtxOk cx.fnc hg
    simp only [cG] at hg
    split at hg
    · split at hg
      · rename_i i hi gg
        rw [Bool.and_eq_true, Bool.and_eq_true, decide_eq_true_eq] at gg
        cases hg
        have gen : swapsWith e (some (.Name x p)) pos.line X.env = pure false → PS X (.Assign [.Name x p] e pos) (lS ea X.K W (wS sub C (.asg (.nm i) e'))) := fun h =>
          st_asg ((all_e m).e cx.toCtxOk he) pg.1 rfl h (sw_nt (by intros; intro z; cases z) (by intros; intro z; cases z))
        cases e with
        | ListComp elt gens sc' pos' =>
          cases q : (X.env.blockKind == .function && X.env.kindOf x == some .local && p.line == pos'.line && !(sc'.names.any fun (n, k) => n == x && (k == .local || k == .cell))) with
          | false => exact gen (by rw [swaps_name, q])
          | true =>
            cases m with
            | zero => simp only [cE] at he; cases he
            | succ m =>
              obtain ⟨tg, iter, ifs, g, tg', cc, e, rfl, rfl, ok, pi, ns, hin, pg, pt, pe⟩ := a_cpr (all_e m) cx.toCtxOk he
              have hl : X.env.scope.names.lookup x = some .local := by
                rw [Bool.and_eq_true, Bool.and_eq_true, Bool.and_eq_true, beq_iff_eq, beq_iff_eq] at q
                exact q.1.1.2
              refine PS.imp (ps_setLc (i := i) cx.calm (by rw [cx.hN]; exact cx.nd) (by rw [cx.hN]; exact gg.1.1) hl (by rw [swaps_name, q]) pi ok pg pt pe (fold_of ns)) fun D σ H q => ?_
              refine s_cpr_rd hin σ H _ ?_
              exact lE_st (tk := fun v D σ h => wTg C (.nm i) v σ h D.nx) (by simpa only [wS] using q) fun pσ h1 pv v H1 D' rs rh rv q ld => by
                simp only [wTg] at q
                exact ld.nx _ _ _ _ (rs.set i rv) rh Fr.refl q
        | SetComp _ _ _ _ => cases m <;> simp only [cE] at he <;> cases he
        | DictComp _ _ _ _ _ => cases m <;> simp only [cE] at he <;> cases he
        | _ => exact gen rfl
      · cases hg
    · cases hg
theorem st_sub {o i : Expr} {p : Pos} {g : Tg} {e' : E} (cx : CtxS sub ea t C k N sc W X) (hg : cG t N n sc sc (.Subscript o i p) = some g) (he : cE t N m sc e = some e') : PS X (.Assign [.Subscript o i p] e pos) (lS ea X.K W (wS sub C (.asg g e'))) :=
  st_asg ((all_e m).e cx.toCtxOk he) ((all_e n).g cx.toCtxOk cx.fnc hg).1 rfl (swaps_nn (by intros; intro z; cases z)) (sw_nt (by intros; intro z; cases z) (by intros; intro z; cases z))
theorem st_tupN {ts : List Expr} {kk : Nat} {p : Pos} {g : Tg} {e' : E} (cx : CtxS sub ea t C k N sc W X) (hg : cG t N n sc sc (.Tuple ts kk p) = some g) (he : cE t N m sc e = some e') (hw : swappedStores [.Tuple ts kk p] e X.env = pure none) :
    PS X (.Assign [.Tuple ts kk p] e pos) (lS ea X.K W (wS sub C (.asg g e'))) :=
  st_asg ((all_e m).e cx.toCtxOk he) ((all_e n).g cx.toCtxOk cx.fnc hg).1 rfl (swaps_nn (by intros; intro z; cases z)) hw
/-- names of the left, each stored alone -/
theorem nm_of_cG {e : Expr} {i : Nat} (h : cG t N n sc sc e = some (.nm i)) : ∃ x p, e = .Name x p ∧ N[i]? = some x ∧ loc sc x = true := by
  cases n with
  | zero => simp only [cG] at h; cases h
  | succ n =>
    cases e with
    | Name x p =>
      simp only [cG] at h
      split at h
      · split at h
        · rename_i i hi gg
          rw [Bool.and_eq_true, Bool.and_eq_true, decide_eq_true_eq] at gg
          cases h
          exact ⟨x, p, rfl, gg.1.1, gg.1.2⟩
        · cases h
      · cases h
    | Tuple es _ _ =>
      simp only [cG] at h
      cases q : es.mapM (cG t N n sc sc) with
      | none => rw [q] at h; cases h
      | some gs => rw [q] at h; cases h
    | Subscript o i p =>
      cases i <;> simp only [cG] at h <;> first | (cases h; done) | (split at h <;> cases h)
    | _ => simp only [cG] at h; cases h
theorem filt_len {f : Expr → Option Str} : ∀ {l : List Expr}, (l.filterMap f).length = l.length → ∀ x ∈ l, (f x).isSome = true
  | [], _, _, m => absurd m List.not_mem_nil
  | a :: l, h, x, m => by
    cases q : f a with
    | none =>
      rw [List.filterMap_cons_none q] at h
      have := List.length_filterMap_le f l
      simp at h
      omega
    | some s =>
      rw [List.filterMap_cons_some q] at h
      rcases List.mem_cons.mp m with rfl | m
      · rw [q]; rfl
      · exact filt_len (by simpa using h) x m
theorem swNm_some {l : Nat} {x : Str} {p : Pos} (h : (swNm sc l (.Name x p)).isSome = true) : sc.names.lookup x = some .local ∧ swNm sc l (.Name x p) = some x := by
  have h' : (if (sc.names.lookup x == some NameKind.local && p.line == l) = true then some x else none).isSome = true := h
  by_cases g : (sc.names.lookup x == some NameKind.local && p.line == l) = true
  · refine ⟨?_, ?_⟩
    · rw [Bool.and_eq_true, beq_iff_eq] at g
      exact g.1
    · show (if _ then some x else none) = some x
      rw [if_pos g]
  · rw [if_neg g] at h'
    cases h'
theorem sw_true_len {ts vs : List Expr} (h : swK sc ts vs = some true) : (ts.filterMap (swNm sc (lineOf ts))).length = ts.length ∧ vs.length = ts.length := by
  unfold swK at h
  split at h
  · cases h
  · rename_i g1
    split at h
    · cases h
    · rename_i g2
      rw [Bool.or_eq_true, not_or] at g1 g2
      exact ⟨Decidable.of_not_not fun z => g2.1 (bne_iff_ne.mpr z), Decidable.of_not_not fun z => g1.2 (bne_iff_ne.mpr z)⟩
theorem st_par2 {ts vs : List Expr} {kk k2 : Nat} {p p2 : Pos} {i j : Nat} {e' : E} (cx : CtxS sub ea t C k N sc W X) (hsw : swK sc ts vs = some true) (hg : cG t N n sc sc (.Tuple ts kk p) = some (.tp (.cons (.nm i) (.cons (.nm j) .nil)))) (he : cE t N m sc (.Tuple vs k2 p2) = some e') (hij : i ≠ j) :
    PS X (.Assign [.Tuple ts kk p] (.Tuple vs k2 p2) pos) (lS ea X.K W (wS sub C (.asg (.tp (.cons (.nm i) (.cons (.nm j) .nil))) e'))) := by
  cases n with
  | zero => simp only [cG] at hg; cases hg
  | succ n =>
    cases m with
    | zero => simp only [cE] at he; cases he
    | succ m =>
      simp only [cG] at hg
      simp only [cE] at he
      cases q : ts.mapM (cG t N n sc sc) with
      | none => rw [q] at hg; cases hg
      | some gs =>
        rw [q] at hg
        rcases gs with _ | ⟨g1, _ | ⟨g2, _ | ⟨_, _⟩⟩⟩ <;> simp [toTgs] at hg
        obtain ⟨rfl, rfl⟩ := hg
        rcases ts with _ | ⟨t1, ts⟩
        · cases mapM_nil q
        · obtain ⟨_, _, q1, q2, z⟩ := mapM_cons q
          cases z
          rcases ts with _ | ⟨t2, ts⟩
          · cases mapM_nil q2
          · obtain ⟨_, _, q3, q4, z⟩ := mapM_cons q2
            cases z
            rcases ts with _ | ⟨t3, ts⟩
            · obtain ⟨x, px, rfl, x1, x2⟩ := nm_of_cG q1
              obtain ⟨y, py, rfl, y1, y2⟩ := nm_of_cG q3
              obtain ⟨s1, s2⟩ := sw_true_len hsw
              have sx := swNm_some (filt_len s1 (.Name x px) (by simp))
              have sy := swNm_some (filt_len s1 (.Name y py) (by simp))
              rcases vs with _ | ⟨v1, _ | ⟨v2, _ | ⟨_, _⟩⟩⟩ <;> simp at s2
              cases qe : [v1, v2].mapM (cE t N m sc) with
              | none => rw [qe] at he; cases he
              | some cs =>
                rw [qe] at he; cases he
                obtain ⟨pa, ps⟩ := s_args (a_ih (all_e m) cx.toCtxOk) qe
                have hw := (sw_eval (k := kk) (k2 := k2) (p := p) (p2 := p2) (env := X.env) (by rw [cx.hsc]; exact cx.kind) cx.hsc ps).2 hsw
                simp only [List.filterMap_cons_some sx.2, List.filterMap_cons_some sy.2, List.filterMap_nil] at hw
                refine PS.imp (ps_par cx.calm (by rw [cx.hN]; exact cx.nd) (by rw [cx.hN]; exact x1) (by rw [cx.hN]; exact y1) hij (by rw [cx.hsc]; exact sx.1) (by rw [cx.hsc]; exact sy.1) pa hw) fun D σ H ⟨pσ, h, D', rs, rh, q, ld⟩ => ?_
                simp only [wS, wE] at q
                refine ⟨pσ, h, _, _, rs, rh, q, fun l h1 us H1 rl rh1 fr1 q1 => ?_, ld.lx rs rh⟩
                obtain ⟨_, q1⟩ := q1
                simp only [wTg, wTgs, tgsLen] at q1
                obtain ⟨ll, q1⟩ := q1
                rcases l with _ | ⟨a1, _ | ⟨a2, _ | ⟨_, _⟩⟩⟩ <;> simp at ll
                obtain ⟨u1, u2, rfl, r1, r2⟩ := two_rep rl
                exact ⟨u1, u2, rfl, ld.nx _ _ _ _ (((rs.keep rh fr1).set i r1).set j r2) rh1 fr1 q1⟩
            · obtain ⟨_, _, _, _, z⟩ := mapM_cons q4
              cases z
end
end Co
namespace Co
open PySem L2
open PySem.Spec PyProof.Rows
section
variable {sub : Nat → Nat → Bool} {ea : Nat → Addr} {t : Tb} {C : CS} {k : Nat} {N : List Str} {sc : Scope} {W : WX} {X : Cx} {e a b c tg : Expr} {pos : Pos} {n m : Nat}
theorem st_par3 {ts vs : List Expr} {kk k2 : Nat} {p p2 : Pos} {i j l : Nat} {e' : E} (cx : CtxS sub ea t C k N sc W X) (hsw : swK sc ts vs = some true) (hg : cG t N n sc sc (.Tuple ts kk p) = some (.tp (.cons (.nm i) (.cons (.nm j) (.cons (.nm l) .nil))))) (he : cE t N m sc (.Tuple vs k2 p2) = some e')
    (hij : i ≠ j) (hil : i ≠ l) (hjl : j ≠ l) : PS X (.Assign [.Tuple ts kk p] (.Tuple vs k2 p2) pos) (lS ea X.K W (wS sub C (.asg (.tp (.cons (.nm i) (.cons (.nm j) (.cons (.nm l) .nil)))) e'))) := by
  cases n with
  | zero => simp only [cG] at hg; cases hg
  | succ n =>
    cases m with
    | zero => simp only [cE] at he; cases he
    | succ m =>
      simp only [cG] at hg
      simp only [cE] at he
      cases q : ts.mapM (cG t N n sc sc) with
      | none => rw [q] at hg; cases hg
      | some gs =>
        rw [q] at hg
        rcases gs with _ | ⟨g1, _ | ⟨g2, _ | ⟨g3, _ | ⟨_, _⟩⟩⟩⟩ <;> simp [toTgs] at hg
        obtain ⟨rfl, rfl, rfl⟩ := hg
        rcases ts with _ | ⟨t1, ts⟩
        · cases mapM_nil q
        · obtain ⟨_, _, q1, q2, z⟩ := mapM_cons q
          cases z
          rcases ts with _ | ⟨t2, ts⟩
          · cases mapM_nil q2
          · obtain ⟨_, _, q3, q4, z⟩ := mapM_cons q2
            cases z
            rcases ts with _ | ⟨t3, ts⟩
            · cases mapM_nil q4
            · obtain ⟨_, _, q5, q6, z⟩ := mapM_cons q4
              cases z
              rcases ts with _ | ⟨t4, ts⟩
              · obtain ⟨x, px, rfl, x1, x2⟩ := nm_of_cG q1
                obtain ⟨y, py, rfl, y1, y2⟩ := nm_of_cG q3
                obtain ⟨w, pw, rfl, w1, w2⟩ := nm_of_cG q5
                obtain ⟨s1, s2⟩ := sw_true_len hsw
                have sx := swNm_some (filt_len s1 (.Name x px) (by simp))
                have sy := swNm_some (filt_len s1 (.Name y py) (by simp))
                have sw := swNm_some (filt_len s1 (.Name w pw) (by simp))
                rcases vs with _ | ⟨v1, _ | ⟨v2, _ | ⟨v3, _ | ⟨_, _⟩⟩⟩⟩ <;> simp at s2
                cases qe : [v1, v2, v3].mapM (cE t N m sc) with
                | none => rw [qe] at he; cases he
                | some cs =>
                  rw [qe] at he; cases he
                  obtain ⟨pa, ps⟩ := s_args (a_ih (all_e m) cx.toCtxOk) qe
                  have hw := (sw_eval (k := kk) (k2 := k2) (p := p) (p2 := p2) (env := X.env) (by rw [cx.hsc]; exact cx.kind) cx.hsc ps).2 hsw
                  simp only [List.filterMap_cons_some sx.2, List.filterMap_cons_some sy.2, List.filterMap_cons_some sw.2, List.filterMap_nil] at hw
                  refine PS.imp (ps_par3 cx.calm (by rw [cx.hN]; exact cx.nd) (by rw [cx.hN]; exact x1) (by rw [cx.hN]; exact y1) (by rw [cx.hN]; exact w1) hij hil hjl (by rw [cx.hsc]; exact sx.1) (by rw [cx.hsc]; exact sy.1) (by rw [cx.hsc]; exact sw.1) pa hw) fun D σ H ⟨pσ, h, D', rs, rh, q, ld⟩ => ?_
                  simp only [wS, wE] at q
                  refine ⟨pσ, h, _, _, rs, rh, q, fun ls h1 us H1 rl rh1 fr1 q1 => ?_, ld.lx rs rh⟩
                  obtain ⟨_, q1⟩ := q1
                  simp only [wTg, wTgs, tgsLen] at q1
                  obtain ⟨ll, q1⟩ := q1
                  rcases ls with _ | ⟨a1, _ | ⟨a2, _ | ⟨a3, _ | ⟨_, _⟩⟩⟩⟩ <;> simp at ll
                  obtain ⟨u1, r, rfl, r1, rr⟩ := RepVs.cons_iff.mp rl
                  obtain ⟨u2, u3, rfl, r2, r3⟩ := two_rep rr
                  exact ⟨u1, u2, u3, rfl, ld.nx _ _ _ _ ((((rs.keep rh fr1).set i r1).set j r2).set l r3) rh1 fr1 q1⟩
              · obtain ⟨_, _, _, _, z⟩ := mapM_cons q6
                cases z
theorem cE_tup {n : Nat} {vs : List Expr} {k2 : Nat} {p2 : Pos} {e' : E} (h : cE t N n sc (.Tuple vs k2 p2) = some e') : vs.all notStar = true := by
  cases n with
  | zero => simp only [cE] at h; cases h
  | succ n =>
    simp only [cE] at h
    cases q : vs.mapM (cE t N n sc) with
    | none => rw [q] at h; cases h
    | some cs =>
      clear h
      induction vs generalizing cs with
      | nil => rfl
      | cons v vs ih =>
        obtain ⟨y, zs, q1, q2, _⟩ := mapM_cons q
        rw [List.all_cons, (cE_shape q1).1, ih zs q2]; rfl
theorem st_assign {e : Expr} {s : S} (cx : CtxS sub ea t C k N sc W X) (h : cS t N sc m (n + 1) (.Assign [tg] e pos) = some s) : PS X (.Assign [tg] e pos) (lS ea X.K W (wS sub C s)) := by
  have gen : (match cG t N m sc sc tg, cE t N m sc e with | some g, some e => some (S.asg g e) | _, _ => none) = some s → (∀ g e', cG t N m sc sc tg = some g → cE t N m sc e = some e' → PS X (.Assign [tg] e pos) (lS ea X.K W (wS sub C (.asg g e')))) → PS X (.Assign [tg] e pos) (lS ea X.K W (wS sub C s)) := fun h f => by
    split at h
    · rename_i g e' h1 h2
      cases h
      exact f g e' h1 h2
    · cases h
  cases tg with
  | Name x p => simp only [cS] at h; exact gen h fun g e' h1 h2 => st_name cx h1 h2
  | Subscript o i p => simp only [cS] at h; exact gen h fun g e' h1 h2 => st_sub cx h1 h2
  | Tuple ts kk p =>
    cases e with
    | Tuple vs k2 p2 =>
      simp only [cS] at h
      split at h
      · rename_i g e' h1 h2 h3
        cases h
        exact st_tupN cx h2 h3 ((sw_eval (by rw [cx.hsc]; exact cx.kind) cx.hsc (cE_tup h3)).1 h1)
      · rename_i g e' h1 h2 h3
        split at h
        · rename_i i j
          split at h
          · rename_i hij
            cases h
            exact st_par2 cx h1 h2 h3 (of_decide_eq_true hij)
          · cases h
        · rename_i i j l
          split at h
          · rename_i hij
            rw [Bool.and_eq_true, Bool.and_eq_true] at hij
            cases h
            exact st_par3 cx h1 h2 h3 (of_decide_eq_true hij.1.1) (of_decide_eq_true hij.1.2) (of_decide_eq_true hij.2)
          · cases h
        · cases h
      · cases h
    | _ => simp only [cS] at h; exact gen h fun g e' h1 h2 => st_tupN cx h1 h2 (sw_nv (by intros; intro z; cases z))
  | _ => simp only [cS] at h; exact gen h fun g e' h1 _ => by cases m <;> simp only [cG] at h1 <;> cases h1
theorem all_s : ∀ (n : Nat) {s : Stmt} {c : S} {W : WX} {X : Cx}, CtxS sub ea t C k N sc W X → cS t N sc m n s = some c → PS X s (lS ea X.K W (wS sub C c))
  | 0, _, _, _, _, _, h => by simp only [cS] at h; cases h
  | n + 1, s, c, W, X, cx, h => by
    have blk : ∀ {Y : Cx} {V : WX} {ss : List Stmt} {cs : List S}, CtxS sub ea t C k N sc V Y → ss.mapM (cS t N sc m n) = some cs → PSs Y ss (lS ea Y.K V (wSs sub C (toSs cs))) := fun cy h => ss_all (fun s c _ hc => all_s n cy hc) h
    have e1 := fun {e : Expr} {c : E} (h : cE t N m sc e = some c) => (all_e m).e cx.toCtxOk h
    cases s with
    | Expr e pos =>
      have gen : (if notLc e = true then (cE t N m sc e).map S.ex else none) = some c → PS X (.Expr e pos) (lS ea X.K W (wS sub C c)) := fun h => by
        split at h
        · rename_i hn
          cases q : cE t N m sc e with
          | none => rw [q] at h; cases h
          | some e' => rw [q] at h; cases h; exact st_ex hn (e1 q)
        · cases h
      cases e with
      | Constant cst j p =>
        cases cst with
        | str x => simp only [cS] at h; cases h; exact st_doc
        | _ => simp only [cS] at h; exact gen h
      | _ => simp only [cS] at h; exact gen h
    | Assign tgs e pos =>
      rcases tgs with _ | ⟨tg, _ | ⟨_, _⟩⟩
      · simp only [cS] at h; cases h
      · exact st_assign cx h
      · simp only [cS] at h; cases h
    | AugAssign tg op e pos =>
      cases tg <;> simp only [cS] at h <;> try (cases h; done)
      split at h
      · rename_i i o e' h1 h2 h3
        split at h
        · rename_i g
          rw [Bool.and_eq_true, Bool.and_eq_true, decide_eq_true_eq] at g
          cases h
          exact st_aug cx g.1.1 g.1.2 h2 g.2 (e1 h3)
        · cases h
      · cases h
    | Return o pos =>
      cases o with
      | none => simp only [cS] at h; cases h; exact st_retN
      | some e =>
        simp only [cS] at h
        cases q : cE t N m sc e with
        | none => rw [q] at h; cases h
        | some e' => rw [q] at h; cases h; exact st_ret (e1 q)
    | If c a b pos =>
      simp only [cS] at h
      split at h
      · rename_i c' a' b' h1 h2 h3
        cases h
        exact st_if ((all_e m).tt cx.toCtxOk h1) (blk cx h2) (blk cx h3)
      · cases h
    | While c b o pos =>
      cases o with
      | cons _ _ => simp only [cS] at h; cases h
      | nil =>
        simp only [cS] at h
        split at h
        · rename_i c' b' h1 h2
          cases h
          exact st_whl cx.pass ((all_e m).tt cx.toCtxOk h1) (blk cx h2)
        · cases h
    | For tg it b o pos =>
      cases o with
      | cons _ _ => simp only [cS] at h; cases h
      | nil =>
        simp only [cS] at h
        split at h
        · rename_i g tg' b' h1 h2 h3
          cases h
          obtain ⟨p1, p2⟩ := (all_e m).i cx.toCtxOk h1
          exact st_for cx.pass cx.calm p1 ((all_e m).g cx.toCtxOk cx.fnc h2).1 (blk cx h3) p2
        · cases h
    | Pass pos => simp only [cS] at h; cases h; exact st_pass
    | Break pos => simp only [cS] at h; cases h; exact st_brk
    | Continue pos => simp only [cS] at h; cases h; exact st_cont
    | Raise ex cause pos =>
      cases ex with
      | none => simp only [cS] at h; cases h
      | some ex =>
        cases ex with
        | Call f args kws p2 =>
          cases f with
          | Name x p =>
            cases args with
            | cons _ _ => simp only [cS] at h; cases h
            | nil =>
              cases kws with
              | cons _ _ => simp only [cS] at h; cases h
              | nil =>
                cases cause with
                | some _ => simp only [cS] at h; cases h
                | none =>
                  simp only [cS] at h
                  split at h
                  · rename_i g
                    rw [Bool.and_eq_true] at g
                    split at h
                    · rename_i j hj
                      split at h
                      · rename_i g2
                        rw [decide_eq_true_eq] at g2
                        cases h
                        exact st_rai cx g2 g.1 g.2
                      · cases h
                    · cases h
                  · cases h
          | _ => simp only [cS] at h; cases h
        | _ => simp only [cS] at h; cases h
    | Try b hs o f pos =>
      cases hs with
      | nil => simp only [cS] at h; cases h
      | cons h₀ hds =>
        cases o with
        | cons _ _ => simp only [cS] at h; cases h
        | nil =>
          cases f with
          | cons _ _ => simp only [cS] at h; cases h
          | nil =>
            simp only [cS] at h
            split at h
            · rename_i b' hs' h1 h2
              cases h
              exact st_try cx h2 fun W' Y e cy => blk cy h1
            · cases h
    | _ => simp only [cS] at h; cases h
end
/-- a def of the text: its name, parameters, slots, core -/
structure Fd where
  name : Str
  ps : List Str
  N : List Str
  body : Ss
def Fd.fn (d : Fd) : Fn := ⟨d.ps.length, d.N.length, d.body⟩
def cDef (t : Tb) (N : List Str) (st : Stmt) : Option Ss := ((defBody st).mapM (cS t N (defScope st) 40 40)).map toSs
/-- the text's def is the core's -/
def scopeB (N P : List Str) (sc : Scope) : Bool := (match sc.kind with | .function => true | _ => false) && !sc.isCoroutine && !sc.isGenerator && decide N.Nodup && decide (N.take P.length = P) && P.all (loc sc) && sc.names.all (fun y => match y.2 with | .free => false | _ => true)
theorem scope_of {N P : List Str} {sc : Scope} (h : scopeB N P sc = true) : FnScope N P sc := by
  unfold scopeB at h
  simp only [Bool.and_eq_true, decide_eq_true_eq, Bool.not_eq_true'] at h
  rcases h with ⟨⟨⟨⟨⟨⟨h1, h2⟩, h3⟩, h4⟩, h5⟩, h6⟩, h7⟩
  refine ⟨?_, h2, h3, h4, h5, fun x hx => loc_of (List.all_eq_true.mp h6 x hx), fun y hy e => ?_⟩
  · split at h1
    · assumption
    · cases h1
  · have := List.all_eq_true.mp h7 y hy
    rw [e] at this
    cases this
section
variable {P : Program} {w : World} {K : PySem.W.Frag} {mg : Str → Option Value} {base : Heap} {sub : Nat → Nat → Bool} {ea : Nat → Addr} {t : Tb} {fds : List Fd}
/-- what the top has left -/
structure TopOk (K : PySem.W.Frag) (mg : Str → Option Value) (sub : Nat → Nat → Bool) (ea : Nat → Addr) (t : Tb) (fds : List Fd) : Prop where
  names : t.fns = fds.map (·.name)
  fns : ∀ (i : Nat) (d : Fd), fds[i]? = some d → ∃ (st : Stmt) (f : Addr) (fd : FuncData) (x : Str), mg d.name = some (.ref f) ∧ Fun K x x st f fd ∧ Binds K fd d.ps [] ∧ scopeB d.N d.ps (defScope st) = true ∧ cDef t d.N st = some d.body
  cons : ∀ x v, t.cons.lookup x = some v → ∃ vv u, mg x = some u ∧ RelV vv u ∧ ∀ H, RepV K H v vv
  blts : ∀ x, t.blts.contains x = true → mg x = none
  excs : ∀ i x, t.excs[i]? = some x → mg x = some (.ref (ea i)) ∧ PySem.W.excIn K (ea i) [.type "ValueError", .type "Exception", .type "BaseException", .type "object"] "ValueError.__new__" = true ∧
    PySem.W.keepIn K (.ref (ea i)) = true ∧ PySem.W.subIn K (.ref (ea i)) (.type "BaseException") = some true ∧ PySem.W.typeIn K (.ref (ea i)) = some (.type "type")
  exm : t.excs ≠ [] → ∀ i j, PySem.W.exmOne K (.ref (ea i)) (.ref (ea j)) = some (sub i j)
theorem start_rep {H : Hp} {N : List Str} {pvs : List PV} {vs : List V} (r : RepVs K H pvs vs) : RepS K H (startP N.length pvs) (L2.start N vs) := by
  unfold startP L2.start
  refine ⟨by simp [r.length], fun i pv e => ?_⟩
  by_cases hi : i < pvs.length
  · rw [List.getElem?_append_left (by simpa using hi), List.getElem?_map] at e
    cases q : pvs[i]? with
    | none => (rw [q] at e; cases e)
    | some x =>
      rw [q] at e; cases e
      obtain ⟨v, e1, r1⟩ := r.get q
      refine ⟨v, ?_, r1⟩
      rw [List.getElem?_append_left (by rw [List.length_map, ← r.length]; exact hi), List.getElem?_map, e1]
      rfl
  · rw [List.getElem?_append_right (by simpa using hi), List.getElem?_replicate] at e
    split at e <;> cases e
theorem fn_all (T : TopOk K mg sub ea t fds) : ∀ (k i : Nat) (d : Fd) (f : Addr) (fd : FuncData) (x : Str) (st : Stmt), fds[i]? = some d → Fun K x x st f fd → scopeB d.N d.ps (defScope st) = true → cDef t d.N st = some d.body →
    FnOk P w K mg base (L2.CX P w) k f fd d.ps (lSp ea K (callN sub (fds.map Fd.fn) k i))
  | 0, i, d, f, fd, x, st, _, _, _, _ => by
    refine ⟨fun vs H Q E h => ?_, fun A outer s H args us vs Q E _ _ _ _ h => ?_⟩
    · obtain ⟨_, _, _, _, _, _, q, _⟩ := h; exact False.elim q
    · obtain ⟨_, _, _, _, _, _, q, _⟩ := h; exact False.elim q
  | k + 1, i, d, f, fd, x, st, hd, F, hs, hc => by
    have hl : (fds.map Fd.fn)[i]? = some d.fn := by rw [List.getElem?_map, hd]; rfl
    refine F.okX (scope_of hs) (fun vs H Q E h => ?_) (fun cdv A outer s H vs Q E hr h => ?_)
    · obtain ⟨pvs, h, Q', X', r, rh, q, _⟩ := h
      simp only [callN, hl] at q
      rw [← r.length]; exact q.1
    · unfold cDef at hc
      cases q : (defBody st).mapM (cS t d.N (defScope st) 40 40) with
      | none => rw [q] at hc; cases hc
      | some cs =>
        rw [q] at hc
        have hb : toSs cs = d.body := Option.some.inj hc
        have tk := takes_of (X := cxOf (L2.CX P w) P w K mg base d.N x (defScope st) f cdv A outer s H E) (E := E) rfl rfl rfl rfl
        have ok : CtxOk ea t (callN sub (fds.map Fd.fn) k) k d.N (defScope st) (fun cls d _ H => E cls d H) (cxOf (L2.CX P w) P w K mg base d.N x (defScope st) f cdv A outer s H E) :=
          ⟨rfl, (scope_of hs).nd, rfl, rfl, hr, tk, fun i y hy => by
            rw [T.names, List.getElem?_map] at hy
            cases qd : fds[i]? with
            | none => rw [qd] at hy; cases hy
            | some d2 =>
              rw [qd] at hy; cases hy
              obtain ⟨st2, f2, fd2, x2, m1, F2, b2, s2, c2⟩ := T.fns i d2 qd
              exact ⟨f2, fd2, d2.ps, m1, F2.kp, b2, fn_all T k i d2 f2 fd2 x2 st2 qd F2 s2 c2⟩,
            T.cons, T.blts, fun i y hy => let ⟨a1, a2, a3, a4, a5⟩ := T.excs i y hy; ⟨a1, a2, a3, raises_own a4 a5⟩⟩
        have cx : CtxS sub ea t (callN sub (fds.map Fd.fn) k) k d.N (defScope st) (fun cls d _ H => E cls d H) (cxOf (L2.CX P w) P w K mg base d.N x (defScope st) f cdv A outer s H E) :=
          { ok with fnc := fun _ _ => rfl, pass := passes_of rfl, stk := rfl, frm := rfl, kind := (scope_of hs).kind, exm := T.exm }
        refine ⟨_, ss_all (fun s c _ h => all_s 40 cx h) q, ?_⟩
        obtain ⟨pvs, h, Q', X', r, rh, q1, lk, lx⟩ := h
        simp only [callN, hl] at q1
        rw [hb]
        exact ⟨_, h, _, start_rep r, rh, q1.2, ⟨fun pσ' h' σ' H' rs' rh' fr q => lk _ _ _ _ non_rep rh' fr q, lk, fun _ _ _ _ _ _ _ q => q, fun _ _ _ _ _ _ _ q => q, fun x pσ' h' cls d σ' H' rx _ rh' fr q => lx x h' cls d H' rx rh' fr q⟩⟩
end
end Co
namespace Co
open PySem L2
open PySem.Spec PyProof.Rows
/-- the law's promise: the script's ints, then True -/
def spLaw (K : PySem.W.Frag) : Sp := fun vs H Q _ => ∃ (a : Addr) (ns : List Int), vs = [.ref a] ∧ ns.length ≤ 63 ∧ FzL K H a (ns.map V.int) ∧ ∀ H', Q (.bl true) H'
def noH : PH := fun _ => none
theorem repH_no {K : PySem.W.Frag} {H : Hp} : RepH K noH H := fun a o z => by unfold noH at z; cases z
section
variable {P : Program} {w : World} {K : PySem.W.Frag} {mg : Str → Option Value} {base : Heap} {sub : Nat → Nat → Bool} {ea : Nat → Addr} {t : Tb} {fds : List Fd}
theorem law_ok (T : TopOk K mg sub ea t fds) {k iL : Nat} {d : Fd} {f : Addr} {fd : FuncData} {x : Str} {st : Stmt} (hd : fds[iL]? = some d) (F : Fun K x x st f fd) (hs : scopeB d.N d.ps (defScope st) = true) (hc : cDef t d.N st = some d.body)
    (hlaw : ∀ ns : List Int, ns.length ≤ 63 → callN sub (fds.map Fd.fn) k iL [.rol (ns.map PV.int)] noH (fun v _ => v = .bl true) fun _ _ => False) : FnOk P w K mg base (L2.CX P w) k f fd d.ps (spLaw K) :=
  (fn_all T k iL d f fd x st hd F hs hc).imp fun vs H Q E ⟨a, ns, e, hl, hf, hq⟩ => by
    subst e
    refine ⟨_, noH, _, _, RepVs.cons_iff.mpr ⟨_, _, rfl, rol_rep hf (rep_ints ns), RepVs.nil_iff.mpr rfl⟩, repH_no, hlaw ns hl, fun pv h' v H' r _ _ q => ?_, fun _ _ _ _ _ _ _ _ z => z.elim⟩
    subst q
    rw [rep_bl r]; exact hq H'
theorem spLaw_of {H : Hp} {a : Addr} {ns : List Int} (hl : ns.length ≤ 63) (hO : Only H) (hS : SqL K H a (ns.map V.int)) : spLaw K [.ref a] H (fun v _ => v = .bl true) fun _ _ _ => False := by
  refine ⟨a, ns, rfl, hl, ?_, fun _ => rfl⟩
  rcases hS with (q | ⟨o, q⟩) | q
  · rcases hO a with z | ⟨o, xs, z⟩
    · rw [q] at z; cases z
    · rw [q] at z; cases z
  · exact .inl ⟨o, q⟩
  · exact .inr (.inr q)
theorem noCX (prog : Program) (w : World) (H : Hp) (s : Shared) (e : Value) (s' : Shared) (h : L2.CX prog w [] H s (fun _ _ _ => False) e s') : False := by
  rcases h with ⟨_, _, _, _, _, _, _, _, _, _, _, _, z⟩
  exact z
/-- a def where the top has left it -/
def DefAt (K : PySem.W.Frag) (mg : Str → Option Value) (x : Str) (st : Stmt) : Prop := ∃ (f : Addr) (fd : FuncData), mg x = some (.ref f) ∧ Fun K x x st f fd
theorem def_at {h : Heap} {x : Str} {st : Stmt} {f : Addr} {oc : Value} {od an : Option Addr} {osl : Array (Option Value)} {kV doc pm cdv ct : Value} (X : K.In h) (G : h.Ns mainGlobals mg) (a : PySem.W.nsIn K mainGlobals x = some (some (.ref f)))
    (l : K.lookup f = some ⟨oc, od, .func (PySem.W.fnOf x x (defArgs st) (defBody st) (defScope st) .none kV doc pm an cdv ct), osl⟩) (c : PySem.W.codeIn K cdv x = true) (k : PySem.W.keepIn K (.ref f) = true) : DefAt K mg x st :=
  ⟨f, _, PySem.W.mg_of X G a, fun_mk l c k⟩
/-- what is static of a def -/
structure DefS (t : Tb) (d : Fd) (st : Stmt) : Prop where
  sc : scopeB d.N d.ps (defScope st) = true
  co : cDef t d.N st = some d.body
  bd : ∀ (kV doc pm : Value) (an : Option Addr) (cdv ct : Value) (us : List Value), us.length = d.ps.length → bindArgs (PySem.W.fnOf d.name d.name (defArgs st) (defBody st) (defScope st) .none kV doc pm an cdv ct) ⟨us, []⟩ = pure (d.ps.zip us)
/-- all defs, with their texts -/
def DefsOk (K : PySem.W.Frag) (mg : Str → Option Value) (t : Tb) : List (Fd × Stmt) → Prop
  | [] => True
  | (d, st) :: r => (DefAt K mg d.name st ∧ DefS t d st) ∧ DefsOk K mg t r
theorem defs_at : ∀ {l : List (Fd × Stmt)}, DefsOk K mg t l → ∀ (i : Nat) (d : Fd), (l.map (·.1))[i]? = some d → ∃ (st : Stmt) (f : Addr) (fd : FuncData) (x : Str), mg d.name = some (.ref f) ∧ Fun K x x st f fd ∧ Binds K fd d.ps [] ∧ scopeB d.N d.ps (defScope st) = true ∧ cDef t d.N st = some d.body
  | [], _, i, d, e => by simp at e
  | (d0, st) :: r, ⟨⟨⟨f, fd, m, F⟩, s⟩, _⟩, 0, d, e => by
    simp at e; subst e
    exact ⟨st, f, fd, _, m, F, F.binds s.bd, s.sc, s.co⟩
  | (d0, st) :: r, ⟨_, h⟩, i + 1, d, e => defs_at h i d (by simpa using e)
theorem blts_of {h : Heap} (X : K.In h) (G : h.Ns mainGlobals mg) : ∀ {l : List Str}, (∀ x ∈ l, PySem.W.nsIn K mainGlobals x = some none) → ∀ x, l.contains x = true → mg x = none := fun {l} hl x hx => PySem.W.mg_none_of X G (hl x (by simpa using hx))
theorem bind_law {d : Fd} {st : Stmt} {f : Addr} {fd : FuncData} (F : Fun K d.name d.name st f fd) (S : DefS t d st) (hp : d.ps = [("script" : Str)]) : ∀ (s : Shared) (u : Value), BindsTo s fd ⟨[u], []⟩ [("script", u)] := by
  rcases F.ex with ⟨oc, od, kV, doc, pm, an, cdv, ct, osl, rfl, lk, hcd⟩
  intro s u
  have q := S.bd kV doc pm an cdv ct [u] (by rw [hp]; rfl)
  rw [hp] at q
  exact .of_eq q
structure ExcAt (K : PySem.W.Frag) (mg : Str → Option Value) (x : Str) (C : Addr) : Prop where
  m : mg x = some (.ref C)
  i : PySem.W.excIn K C [.type "ValueError", .type "Exception", .type "BaseException", .type "object"] "ValueError.__new__" = true
  k : PySem.W.keepIn K (.ref C) = true
  s : PySem.W.subIn K (.ref C) (.type "BaseException") = some true
  t : PySem.W.typeIn K (.ref C) = some (.type "type")
  c : PySem.W.isClsIn K C = true
theorem exc_at {h : Heap} {x : Str} {C : Addr} (X : K.In h) (G : h.Ns mainGlobals mg) (a : PySem.W.nsIn K mainGlobals x = some (some (.ref C)))
    (i : PySem.W.excIn K C [.type "ValueError", .type "Exception", .type "BaseException", .type "object"] "ValueError.__new__" = true) (k : PySem.W.keepIn K (.ref C) = true) (s : PySem.W.subIn K (.ref C) (.type "BaseException") = some true)
    (t : PySem.W.typeIn K (.ref C) = some (.type "type")) (c : PySem.W.isClsIn K C = true) : ExcAt K mg x C := ⟨PySem.W.mg_of X G a, i, k, s, t, c⟩
theorem exm_at {x : Str} {S C : Addr} {b : Bool} (e : ExcAt K mg x C) (h : PySem.W.subIn K (.ref S) (.ref C) = some b) : PySem.W.exmOne K (.ref S) (.ref C) = some b := by
  have e1 : (PySem.W.subIn K (.ref C) (.type "BaseException") == some true) = true := by rw [e.s] <;> rfl
  have e2 : ((PySem.W.clsIn K C).isSome && PySem.W.typeIn K (.ref C) == some (.type "type")) = true := by
    have h2' : (PySem.W.clsIn K C).isSome = true := e.c
    rw [h2', e.t] <;> rfl
  show (if (PySem.W.subIn K (.ref C) (.type "BaseException") == some true) = true then (if ((PySem.W.clsIn K C).isSome && PySem.W.typeIn K (.ref C) == some (.type "type")) = true then PySem.W.subIn K (.ref S) (.ref C) else none) else none) = some b
  rw [if_pos e1, if_pos e2]
  exact h
def clampN (n i : Nat) : Nat := if i < n then i else 0
def eaOf (l : List Addr) (i : Nat) : Addr := l.getD (clampN l.length i) 0
def subOf (T : List (List Bool)) (i j : Nat) : Bool := (T.getD (clampN T.length i) []).getD (clampN T.length j) false
theorem exm_of_all {l : List Addr} {T : List (List Bool)} (hl : l.length = T.length) (h0 : 0 < T.length) (h : ∀ i j, i < T.length → j < T.length → PySem.W.exmOne K (.ref (l.getD i 0)) (.ref (l.getD j 0)) = some ((T.getD i []).getD j false)) :
    ∀ i j, PySem.W.exmOne K (.ref (eaOf l i)) (.ref (eaOf l j)) = some (subOf T i j) := fun i j => by
  unfold eaOf subOf
  rw [hl]
  have c : ∀ i, clampN T.length i < T.length := fun i => by unfold clampN; split <;> omega
  exact h _ _ (c i) (c j)
/-- all classes, by their names -/
def ExcsOk (K : PySem.W.Frag) (mg : Str → Option Value) : List (Str × Addr) → Prop
  | [] => True
  | (x, C) :: r => ExcAt K mg x C ∧ ExcsOk K mg r
theorem excs_get : ∀ {l : List (Str × Addr)}, ExcsOk K mg l → ∀ (i : Nat) (x : Str), (l.map (·.1))[i]? = some x → ExcAt K mg x ((l.map (·.2)).getD i 0) ∧ i < l.length
  | [], _, i, x, e => by simp at e
  | (y, C) :: r, ⟨h, _⟩, 0, x, e => by
    simp at e; subst e
    exact ⟨h, Nat.succ_pos _⟩
  | (y, C) :: r, ⟨_, h⟩, i + 1, x, e => by
    obtain ⟨h1, h2⟩ := excs_get h i x (by simpa using e)
    exact ⟨by simpa using h1, Nat.succ_lt_succ h2⟩
theorem excs_top {l : List (Str × Addr)} (h : ExcsOk K mg l) : ∀ i x, (l.map (·.1))[i]? = some x → mg x = some (.ref (eaOf (l.map (·.2)) i)) ∧ PySem.W.excIn K (eaOf (l.map (·.2)) i) [.type "ValueError", .type "Exception", .type "BaseException", .type "object"] "ValueError.__new__" = true ∧
    PySem.W.keepIn K (.ref (eaOf (l.map (·.2)) i)) = true ∧ PySem.W.subIn K (.ref (eaOf (l.map (·.2)) i)) (.type "BaseException") = some true ∧ PySem.W.typeIn K (.ref (eaOf (l.map (·.2)) i)) = some (.type "type") := fun i x e => by
  obtain ⟨h1, h2⟩ := excs_get h i x e
  have c : clampN (l.map (·.2)).length i = i := by unfold clampN; rw [if_pos (by rw [List.length_map]; exact h2)]
  unfold eaOf
  rw [c]
  exact ⟨h1.m, h1.i, h1.k, h1.s, h1.t⟩
theorem cutIt {p q : Prop} (h : p) (k : p → q) : q := k h
def ConOk (K : PySem.W.Frag) (mg : Str → Option Value) (x : Str) (v : PV) : Prop := ∃ vv u, mg x = some u ∧ RelV vv u ∧ ∀ H, RepV K H v vv
def ConsOk (K : PySem.W.Frag) (mg : Str → Option Value) : List (Str × PV) → Prop
  | [] => True
  | (x, v) :: r => ConOk K mg x v ∧ ConsOk K mg r
theorem cons_get : ∀ {l : List (Str × PV)}, ConsOk K mg l → ∀ x v, l.lookup x = some v → ConOk K mg x v
  | [], _, x, v, e => by cases e
  | (y, u) :: r, ⟨h, h2⟩, x, v, e => by
    rw [List.lookup_cons] at e
    split at e
    · rename_i q
      cases e
      rw [beq_iff_eq] at q
      rw [q]; exact h
    · exact cons_get h2 x v e
theorem con_int {h : Heap} {x : Str} {i : Int} {tk : Tok} (X : K.In h) (G : h.Ns mainGlobals mg) (a : PySem.W.nsIn K mainGlobals x = some (some (.int i tk))) : ConOk K mg x (.int i) := ⟨.int i, _, PySem.W.mg_of X G a, ⟨_, rfl⟩, fun _ => int_rep⟩
theorem con_str {h : Heap} {x : Str} {i : Str} {tk : Tok} (X : K.In h) (G : h.Ns mainGlobals mg) (a : PySem.W.nsIn K mainGlobals x = some (some (.str i tk))) : ConOk K mg x (.str i) := ⟨.str i, _, PySem.W.mg_of X G a, ⟨_, rfl⟩, fun _ => str_rep⟩
theorem cut_def {q : Prop} {h : Heap} {x : Str} {st : Stmt} {f : Addr} {oc : Value} {od an : Option Addr} {osl : Array (Option Value)} {kV doc pm cdv ct : Value} (X : K.In h) (G : h.Ns mainGlobals mg) (a : PySem.W.nsIn K mainGlobals x = some (some (.ref f)))
    (l : K.lookup f = some ⟨oc, od, .func (PySem.W.fnOf x x (defArgs st) (defBody st) (defScope st) .none kV doc pm an cdv ct), osl⟩) (c : PySem.W.codeIn K cdv x = true) (k : PySem.W.keepIn K (.ref f) = true) (r : DefAt K mg x st → q) : q := r (def_at X G a l c k)
theorem cut_exc {q : Prop} {h : Heap} {x : Str} {C : Addr} (X : K.In h) (G : h.Ns mainGlobals mg) (a : PySem.W.nsIn K mainGlobals x = some (some (.ref C)))
    (i : PySem.W.excIn K C [.type "ValueError", .type "Exception", .type "BaseException", .type "object"] "ValueError.__new__" = true) (k : PySem.W.keepIn K (.ref C) = true) (s : PySem.W.subIn K (.ref C) (.type "BaseException") = some true)
    (t : PySem.W.typeIn K (.ref C) = some (.type "type")) (c : PySem.W.isClsIn K C = true) (r : ExcAt K mg x C → q) : q := r (exc_at X G a i k s t c)
theorem cut_exm {q : Prop} {h : Heap} {x y : Str} {S C : Addr} {b : Bool} (X : K.In h) (e : ExcAt K mg x C) (_ : ExcAt K mg y S) (hs : PySem.W.subIn K (.ref S) (.ref C) = some b) (r : PySem.W.exmOne K (.ref S) (.ref C) = some b → q) : q := r (exm_at e hs)
theorem cut_int {q : Prop} {h : Heap} {x : Str} {i : Int} {tk : Tok} (X : K.In h) (G : h.Ns mainGlobals mg) (a : PySem.W.nsIn K mainGlobals x = some (some (.int i tk))) (r : ConOk K mg x (.int i) → q) : q := r (con_int X G a)
theorem cut_str {q : Prop} {h : Heap} {x : Str} {i : Str} {tk : Tok} (X : K.In h) (G : h.Ns mainGlobals mg) (a : PySem.W.nsIn K mainGlobals x = some (some (.str i tk))) (r : ConOk K mg x (.str i) → q) : q := r (con_str X G a)
theorem cut_blt {q : Prop} {h : Heap} {x : Str} (X : K.In h) (G : h.Ns mainGlobals mg) (a : PySem.W.nsIn K mainGlobals x = some none) (r : mg x = none → q) : q := r (PySem.W.mg_none_of X G a)
def NonesOk (mg : Str → Option Value) : List Str → Prop
  | [] => True
  | x :: r => mg x = none ∧ NonesOk mg r
theorem nones_get : ∀ {l : List Str}, NonesOk mg l → ∀ x, l.contains x = true → mg x = none
  | [], _, x, h => by simp at h
  | y :: r, ⟨h, h2⟩, x, e => by
    rw [List.contains_cons, Bool.or_eq_true, beq_iff_eq] at e
    rcases e with rfl | e
    · exact h
    · exact nones_get h2 x e
/-- all together -/
theorem law_top {prog : Program} {h : Heap} {fa : Addr} {ld : List (Fd × Stmt)} {lx : List (Str × Addr)} {sT : List (List Bool)} {iL k : Nat} {dl : Fd} {st : Stmt} (X : K.In h) (hmg : mg dl.name = some (.ref fa)) (hd : DefsOk K mg t ld) (hx : ExcsOk K mg lx) (hc : ConsOk K mg t.cons) (hb : NonesOk mg t.blts)
    (h1 : t.fns = (ld.map (·.1)).map (·.name)) (h2 : t.excs = lx.map (·.1)) (h3 : (lx.map (·.2)).length = sT.length) (h0 : 0 < sT.length) (hm : ∀ i j, i < sT.length → j < sT.length → PySem.W.exmOne K (.ref ((lx.map (·.2)).getD i 0)) (.ref ((lx.map (·.2)).getD j 0)) = some ((sT.getD i []).getD j false))
    (hl : (ld.map (·.1))[iL]? = some dl) (hp : dl.ps = [("script" : Str)]) (D : DefAt K mg dl.name st) (S : DefS t dl st)
    (hlaw : ∀ ns : List Int, ns.length ≤ 63 → callN (subOf sT) ((ld.map (·.1)).map Fd.fn) k iL [.rol (ns.map PV.int)] noH (fun v _ => v = .bl true) fun _ _ => False) :
    ∃ fd : FuncData, (∀ (s : Shared) (u : Value), BindsTo s fd ⟨[u], []⟩ [("script", u)]) ∧ ∀ base : Heap, K.In base → base.Ns mainGlobals mg → FnOk prog w K mg base (L2.CX prog w) k fa fd [("script" : Str)] (spLaw K) := by
  obtain ⟨f, fd, m, F⟩ := D
  have e := hmg.symm.trans m
  cases e
  have T : TopOk K mg (subOf sT) (eaOf (lx.map (·.2))) t (ld.map (·.1)) :=
    { names := h1, fns := defs_at hd, cons := cons_get hc, blts := nones_get hb, excs := by rw [h2]; exact excs_top hx, exm := fun _ => exm_of_all h3 h0 hm }
  refine ⟨fd, bind_law F S hp, fun base _ _ => ?_⟩
  have := law_ok (P := prog) (w := w) (base := base) T hl F S.sc S.co hlaw
  rw [hp] at this
  exact this
end
end Co
namespace Co
open PySem
/-- the calls, not to be unfolded -/
@[irreducible] def Lv (sub : Nat → Nat → Bool) (P : List Fn) (k : Nat) : CS := callN sub P k
section
variable {sub : Nat → Nat → Bool} {P : List Fn}
theorem Lv_eq (k : Nat) : Lv sub P k = callN sub P k := by unfold Lv; rfl
theorem Lv_call {k i : Nat} {vs : List PV} {h : PH} {Q : QK} {X : XK} (d : Fn) (hd : P[i]? = some d) (hl : vs.length = d.np) (hb : wSs sub (Lv sub P k) d.body (endF Q X) (startP d.ns vs) h) : Lv sub P (k + 1) i vs h Q X := by
  rw [Lv_eq]
  simp only [callN, hd]
  rw [Lv_eq] at hb
  exact ⟨hl, hb⟩
end
/-- what stood stands as it stood -/
def Ext (h h' : PH) : Prop := ∀ a o, h a = some o → h' a = some o
theorem Ext.refl (h : PH) : Ext h h := fun _ _ e => e
theorem Ext.trans {h h1 h2 : PH} (a : Ext h h1) (b : Ext h1 h2) : Ext h h2 := fun c o e => b c o (a c o e)
theorem Ext.new {h : PH} {p : Nat} {o : PO} (e : h p = none) : Ext h (pupd h p o) := fun a u q => by
  unfold pupd
  rw [if_neg (fun z => by subst z; rw [e] at q; cases q)]
  exact q
theorem pupd_same {h : PH} {p : Nat} {o : PO} : pupd h p o p = some o := by unfold pupd; rw [if_pos rfl]
theorem pupd_ne {h : PH} {p a : Nat} {o : PO} (n : a ≠ p) : pupd h p o a = h a := by unfold pupd; rw [if_neg n]
theorem ne_new {h : PH} {a p : Nat} {o : PO} (e : h a = some o) (n : h p = none) : a ≠ p := fun z => by subst z; rw [n] at e; cases e
theorem whl_inv {α : Type} (st : α → Sl) (hp : α → PH) (I : α → Prop) (μ : α → Nat) {c : Sl → PH → (Bool → PH → Prop) → Prop} {b : Ends → Sl → PH → Prop} {D : Ends} (x0 : α) (h0 : I x0)
    (step : ∀ (N : Sl → PH → Prop) (x : α), I x → (∀ y, I y → μ y < μ x → N (st y) (hp y)) → c (st x) (hp x) fun t h => if t = true then b { D with nx := N, ct := N, bk := D.nx } (st x) h else D.nx (st x) h) : ∃ n, whlN c b D n (st x0) (hp x0) := by
  have key : ∀ m x, I x → μ x < m → whlN c b D m (st x) (hp x) := by
    intro m
    induction m with
    | zero => intro x _ h; exact absurd h (Nat.not_lt_zero _)
    | succ m ih =>
      intro x hx hm
      exact step (whlN c b D m) x hx fun y hy hl => ih y hy (by omega)
  exact ⟨_, key _ x0 h0 (Nat.lt_succ_self _)⟩
theorem for_inv {α : Type} (st : α → Sl) (hp : α → PH) (I : Nat → α → Prop) {ok : PH → Prop} {tg : PV → Sl → PH → (Sl → PH → Prop) → Prop} {b : Ends → Sl → PH → Prop} {D : Ends} {xs : List PV} (x0 : α) (h0 : I 0 x0)
    (step : ∀ (N : Sl → PH → Prop) (i : Nat) (v : PV) (x : α), xs[i]? = some v → I i x → (∀ y, I (i + 1) y → N (st y) (hp y)) → ok (hp x) ∧ tg v (st x) (hp x) fun σ h => b { D with nx := N, ct := N, bk := D.nx } σ h)
    (fin : ∀ x, I xs.length x → ok (hp x) ∧ D.nx (st x) (hp x)) : forL ok tg b D xs (st x0) (hp x0) := by
  have key : ∀ (m i : Nat) (x : α), xs.length - i = m → i ≤ xs.length → I i x → forL ok tg b D (xs.drop i) (st x) (hp x) := by
    intro m
    induction m with
    | zero =>
      intro i x hm hi hx
      obtain rfl : i = xs.length := by omega
      rw [List.drop_length]
      exact fin x hx
    | succ m ih =>
      intro i x hm hi hx
      have hlt : i < xs.length := (by omega)
      (rw [List.drop_eq_getElem_cons hlt])
      exact step (forL ok tg b D (xs.drop (i + 1))) i xs[i] x (List.getElem?_eq_getElem hlt) hx fun y hy => ih (i + 1) y (by omega) (by omega) hy
  have := key _ 0 x0 rfl (Nat.zero_le _) h0
  rwa [List.drop_zero] at this
/-- a comprehension whose turns leave the heap as Hv has it -/
theorem cpr_inv (Hv : PH → Prop) (p : PV → Bool) (f : PV → PV) {ok : PH → Prop} {tg : PV → Sl → PH → (Sl → PH → Prop) → Prop} {c : Sl → PH → (Bool → PH → Prop) → Prop} {e : Sl → PH → QK → Prop} {σ : Sl} {Q : List PV → PH → Prop} {xs : List PV} {h0 : PH}
    (hl : xs.length ≤ 16777216) (hh : Hv h0) (hok : ∀ h, Hv h → ok h)
    (step : ∀ x ∈ xs, ∀ h, Hv h → ∀ (R : PV → PH → Prop) (S : PH → Prop), (p x = true → ∀ h', Hv h' → R (f x) h') → (p x = false → ∀ h', Hv h' → S h') → tg x σ h fun σ2 h => c σ2 h fun b h => if b = true then e σ2 h R else S h)
    (hQ : ∀ h, Hv h → Q ((xs.filter p).map f) h) : cprL ok tg c e σ Q [] xs h0 := by
  have key : ∀ (ys acc : List PV) (h : PH), acc.length + ys.length ≤ 16777216 → (∀ x ∈ ys, x ∈ xs) → Hv h → (∀ h, Hv h → Q (acc ++ (ys.filter p).map f) h) → cprL ok tg c e σ Q acc ys h := by
    intro ys
    induction ys with
    | nil =>
      intro acc h _ _ hv q
      exact ⟨hok h hv, by simpa using q h hv⟩
    | cons y ys ih =>
      intro acc h hz hm hv q
      refine ⟨hok h hv, step y (hm y (by simp)) h hv _ _ (fun e h' hv' => ?_) (fun e h' hv' => ?_)⟩
      · simp only [List.length_cons] at hz
        refine ⟨by omega, ih (acc ++ [f y]) h' (by simp only [List.length_append, List.length_cons, List.length_nil]; omega) (fun x hx => hm x (by simp [hx])) hv' fun h2 hv2 => ?_⟩
        have := q h2 hv2
        rw [List.filter_cons_of_pos e, List.map_cons] at this
        simpa using this
      · refine ih acc h' (by simp only [List.length_cons] at hz; omega) (fun x hx => hm x (by simp [hx])) hv' fun h2 hv2 => ?_
        have := q h2 hv2
        rw [List.filter_cons_of_neg (by rw [e]; exact Bool.false_ne_true)] at this
        exact this
  exact key xs [] h0 (by simpa using hl) (fun _ h => h) hh (by simpa using hQ)
end Co
namespace Co
theorem ss_cons_eq {sub : Nat → Nat → Bool} {C : CS} {s : S} {r : Ss} {D : Ends} {σ : Sl} {h : PH} : wSs sub C (.cons s r) D σ h = wS sub C s { D with nx := wSs sub C r D } σ h := by simp only [wSs]
theorem ss_nil_eq {sub : Nat → Nat → Bool} {C : CS} {D : Ends} {σ : Sl} {h : PH} : wSs sub C .nil D σ h = D.nx σ h := by simp only [wSs]
end Co
namespace Co
open PySem
theorem bop_addi {h : PH} {Q : QK} {i j : Int} : bopS .add (.int i) (.int j) h Q = Q (.int (i + j)) h := rfl
theorem bop_adds {h : PH} {Q : QK} {i j : Str} : bopS .add (.str i) (.str j) h Q = (i.length + j.length ≤ 16777216 ∧ Q (.str (i ++ j)) h) := rfl
theorem bop_addt {h : PH} {Q : QK} {i j : List PV} : bopS .add (.tup i) (.tup j) h Q = (i.length + j.length ≤ 16777216 ∧ Q (.tup (i ++ j)) h) := rfl
theorem bop_addl {h : PH} {Q : QK} {a b : Nat} : bopS .add (.ref a) (.ref b) h Q = (match h a, h b with | some (.lst xs), some (.lst ys) => xs.length + ys.length ≤ 16777216 ∧ newL h (xs ++ ys) Q | _, _ => False) := rfl
theorem bop_sub {h : PH} {Q : QK} {i j : Int} : bopS .sub (.int i) (.int j) h Q = Q (.int (i - j)) h := rfl
theorem bop_mul {h : PH} {Q : QK} {i j : Int} : bopS .mul (.int i) (.int j) h Q = (CMul i j ∧ Q (.int (i * j)) h) := rfl
theorem bop_fdiv {h : PH} {Q : QK} {i j : Int} : bopS .fdiv (.int i) (.int j) h Q = (CDiv j ∧ Q (.int (i / j)) h) := rfl
theorem bop_mod {h : PH} {Q : QK} {i j : Int} : bopS .mod (.int i) (.int j) h Q = (0 < j ∧ Q (.int (i % j)) h) := rfl
theorem bop_pow {h : PH} {Q : QK} {i j : Int} : bopS .pow (.int i) (.int j) h Q = (CPow i j ∧ Q (.int (i ^ j.toNat)) h) := rfl
theorem bop_mull {h : PH} {Q : QK} {a : Nat} {n : Int} : bopS .mul (.ref a) (.int n) h Q = (match rdL h a with
    | some xs => (-(2 ^ 63) ≤ n ∧ n < 2 ^ 63) ∧ xs.length * n.toNat ≤ 16777216 ∧ newL h (List.replicate n.toNat xs).flatten Q
    | none => False) := rfl
theorem bop_mult {h : PH} {Q : QK} {l : List PV} {n : Int} : bopS .mul (.tup l) (.int n) h Q = ((2 ≤ n ∧ n ≤ 1000) ∧ l ≠ [] ∧ l.length ≤ 1000 ∧ Q (.tup (List.replicate n.toNat l).flatten) h) := rfl
theorem neg_int {h : PH} {Q : QK} {i : Int} : negS (.int i) h Q = Q (.int (-i)) h := rfl
theorem tru_non {h : PH} {Q : Bool → PH → Prop}  : truS .non h Q = Q false h := rfl
theorem tru_bl {h : PH} {Q : Bool → PH → Prop} {b : Bool} : truS (.bl b) h Q = Q b h := rfl
theorem tru_int {h : PH} {Q : Bool → PH → Prop} {i : Int} : truS (.int i) h Q = Q (i != 0) h := rfl
theorem tru_str {h : PH} {Q : Bool → PH → Prop} {i : Str} : truS (.str i) h Q = (i.length ≤ 16777216 ∧ Q (i.length != 0) h) := rfl
theorem tru_tup {h : PH} {Q : Bool → PH → Prop} {i : List PV} : truS (.tup i) h Q = Q (!i.isEmpty) h := rfl
theorem tru_rol {h : PH} {Q : Bool → PH → Prop} {i : List PV} : truS (.rol i) h Q = Q (!i.isEmpty) h := rfl
theorem tru_ref {h : PH} {Q : Bool → PH → Prop} {a : Nat} : truS (.ref a) h Q = (match rdL h a with | some xs => Q (!xs.isEmpty) h | none => False) := rfl
theorem eq_int {h : PH} {Q : Bool → Prop} {i j : Int} : eqS (.int i) (.int j) h Q = Q (decide (i = j)) := rfl
theorem eq_bl {h : PH} {Q : Bool → Prop} {i j : Bool} : eqS (.bl i) (.bl j) h Q = Q (decide (i = j)) := rfl
theorem eq_str {h : PH} {Q : Bool → Prop} {i j : Str} : eqS (.str i) (.str j) h Q = Q (decide (i = j)) := rfl
theorem eq_non {h : PH} {Q : Bool → Prop}  : eqS .non .non h Q = Q true := rfl
theorem cop_eq {h : PH} {Q : QK} {x y : PV} : copS .eq x y h Q = eqS x y h fun b => Q (.bl b) h := rfl
theorem cop_ne {h : PH} {Q : QK} {x y : PV} : copS .ne x y h Q = eqS x y h fun b => Q (.bl (!b)) h := rfl
theorem cop_in {h : PH} {Q : QK} {x y : PV} : copS .In x y h Q = inS x y h fun b => Q (.bl b) h := rfl
theorem cop_ni {h : PH} {Q : QK} {x y : PV} : copS .notin x y h Q = inS x y h fun b => Q (.bl (!b)) h := rfl
theorem cop_is {h : PH} {Q : QK} {x : PV} : copS .is x .non h Q = Q (.bl (isnS x)) h := rfl
theorem cop_isn {h : PH} {Q : QK} {x : PV} : copS .isnot x .non h Q = Q (.bl (!isnS x)) h := rfl
theorem cop_lt {h : PH} {Q : QK} {i j : Int} : copS .lt (.int i) (.int j) h Q = Q (.bl (decide (i < j))) h := rfl
theorem cop_le {h : PH} {Q : QK} {i j : Int} : copS .le (.int i) (.int j) h Q = Q (.bl (decide (i ≤ j))) h := rfl
theorem cop_gt {h : PH} {Q : QK} {i j : Int} : copS .gt (.int i) (.int j) h Q = Q (.bl (decide (j < i))) h := rfl
theorem cop_ge {h : PH} {Q : QK} {i j : Int} : copS .ge (.int i) (.int j) h Q = Q (.bl (decide (j ≤ i))) h := rfl
theorem blt_lens {h : PH} {Q : QK} {s : Str} : bltS .len [.str s] h Q = (s.length ≤ 16777216 ∧ Q (.int s.length) h) := rfl
theorem blt_lent {h : PH} {Q : QK} {s : List PV} : bltS .len [.tup s] h Q = Q (.int s.length) h := rfl
theorem blt_leno {h : PH} {Q : QK} {s : List PV} : bltS .len [.rol s] h Q = Q (.int s.length) h := rfl
theorem blt_lenr {h : PH} {Q : QK} {a : Nat} : bltS .len [.ref a] h Q = (match rdL h a with | some xs => Q (.int xs.length) h | none => False) := rfl
theorem blt_abs {h : PH} {Q : QK} {i : Int} : bltS .abs [.int i] h Q = Q (.int (if i < 0 then -i else i)) h := rfl
theorem blt_int {h : PH} {Q : QK} {i : Int} : bltS .int [.int i] h Q = Q (.int i) h := rfl
theorem blt_intb {h : PH} {Q : QK} {i : Bool} : bltS .int [.bl i] h Q = Q (.int (if i then 1 else 0)) h := rfl
theorem blt_max2 {h : PH} {Q : QK} {i j : Int} : bltS .max2 [.int i, .int j] h Q = Q (.int (if j > i then j else i)) h := rfl
theorem blt_min2 {h : PH} {Q : QK} {i j : Int} : bltS .min2 [.int i, .int j] h Q = Q (.int (if j < i then j else i)) h := rfl
theorem blt_sum {h : PH} {Q : QK} {a : Nat} : bltS .sum [.ref a] h Q = (match (rdL h a).bind intsOf with | some ns => Q (.int ns.sum) h | none => False) := rfl
theorem blt_all {h : PH} {Q : QK} {a : Nat} : bltS .all [.ref a] h Q = (match (rdL h a).bind blsOf with | some ns => Q (.bl (ns.all id)) h | none => False) := rfl
theorem blt_any {h : PH} {Q : QK} {a : Nat} : bltS .any [.ref a] h Q = (match (rdL h a).bind blsOf with | some ns => Q (.bl (ns.any id)) h | none => False) := rfl
theorem blt_max1 {h : PH} {Q : QK} {a : Nat} : bltS .max1 [.ref a] h Q = (match (rdL h a).bind intsOf with | some ns => 0 < ns.length ∧ ∀ m, m ∈ ns → (∀ y, y ∈ ns → y ≤ m) → Q (.int m) h | none => False) := rfl
theorem blt_min1 {h : PH} {Q : QK} {a : Nat} : bltS .min1 [.ref a] h Q = (match (rdL h a).bind intsOf with | some ns => 0 < ns.length ∧ ∀ m, m ∈ ns → (∀ y, y ∈ ns → m ≤ y) → Q (.int m) h | none => False) := rfl
theorem blt_tupt {h : PH} {Q : QK} {s : List PV} : bltS .tuple [.tup s] h Q = Q (.tup s) h := rfl
theorem blt_tupo {h : PH} {Q : QK} {s : List PV} : bltS .tuple [.rol s] h Q = Q (.tup s) h := rfl
theorem blt_tupr {h : PH} {Q : QK} {a : Nat} : bltS .tuple [.ref a] h Q = (match rdL h a with | some xs => Q (.tup xs) h | none => False) := rfl
theorem blt_lstt {h : PH} {Q : QK} {s : List PV} : bltS .list [.tup s] h Q = newL h s Q := rfl
theorem blt_lsto {h : PH} {Q : QK} {s : List PV} : bltS .list [.rol s] h Q = newL h s Q := rfl
theorem blt_lstr {h : PH} {Q : QK} {a : Nat} : bltS .list [.ref a] h Q = (match rdL h a with | some xs => newL h xs Q | none => False) := rfl
theorem blt_sorted {h : PH} {Q : QK} {a : Nat} : bltS .sorted [.ref a] h Q = (match (rdL h a).bind intsOf with | some ns => ∀ ms : List Int, ms.Perm ns → ms.Pairwise (· ≤ ·) → newL h (ms.map PV.int) Q | none => False) := rfl
theorem ix_tup {h : PH} {Q : QK} {s : List PV} {i : Int} : ixS (.tup s) (.int i) h Q = (match (L2.ixN s.length i).bind fun j => s[j]? with | some v => Q v h | none => False) := rfl
theorem ix_rol {h : PH} {Q : QK} {s : List PV} {i : Int} : ixS (.rol s) (.int i) h Q = (match (L2.ixN s.length i).bind fun j => s[j]? with | some v => Q v h | none => False) := rfl
theorem ix_ref {h : PH} {Q : QK} {a : Nat} {i : Int} : ixS (.ref a) (.int i) h Q = (match rdL h a with | some xs => (match (L2.ixN xs.length i).bind fun j => xs[j]? with | some v => Q v h | none => False) | none => False) := rfl
theorem sl_tup {h : PH} {Q : QK} {s : List PV} {lo hi : Option Int} : slS (.tup s) lo hi h Q = Q (.tup (cut s lo hi)) h := rfl
theorem sl_rol {h : PH} {Q : QK} {s : List PV} {lo hi : Option Int} : slS (.rol s) lo hi h Q = newL h (cut s lo hi) Q := rfl
theorem sl_ref {h : PH} {Q : QK} {a : Nat} {lo hi : Option Int} : slS (.ref a) lo hi h Q = (match rdL h a with | some xs => newL h (cut xs lo hi) Q | none => False) := rfl
theorem mth_ref {h : PH} {Q : QK} {m : Mth} {a : Nat} {vs : List PV} : mthS m (.ref a) vs h Q = (match h a with | some (.lst xs) => mthL m xs vs fun y ys => Q y (pupd h a (.lst ys)) | _ => False) := rfl
theorem lstOk_ref {h : PH} {a : Nat} {P : Prop} : lstOk (.ref a) h P = (match h a with | some (.lst _) => P | _ => False) := rfl
theorem seqS_tup {h : PH} {s : List PV} {P : List PV → Prop} : seqS (.tup s) h P = P s := rfl
theorem seqS_rol {h : PH} {s : List PV} {P : List PV → Prop} : seqS (.rol s) h P = P s := rfl
theorem seqS_ref {h : PH} {a : Nat} {P : List PV → Prop} : seqS (.ref a) h P = (match rdL h a with | some xs => P xs | none => False) := rfl
theorem intS_int {i : Int} {P : Int → Prop} : intS (.int i) P = P i := rfl
theorem int2S_int {i j : Int} {P : Int → Int → Prop} : int2S (.int i) (.int j) P = P i j := rfl
theorem refOk_non {h : PH} : refOk .non h = True := rfl
theorem refOk_bl {h : PH} {b : Bool} : refOk (.bl b) h = True := rfl
theorem refOk_int {h : PH} {b : Int} : refOk (.int b) h = True := rfl
theorem refOk_str {h : PH} {b : Str} : refOk (.str b) h = True := rfl
theorem refOk_tup {h : PH} {b : List PV} : refOk (.tup b) h = True := rfl
theorem refOk_rol {h : PH} {b : List PV} : refOk (.rol b) h = True := rfl
theorem isi_ {h : PH} {Q : QK} {x : PV} {ts : List Ty} : isiS x ts h Q = (refOk x h ∧ Q (.bl (ts.any (isTy h x))) h) := rfl
theorem seqOf_tup {h : PH} {l : List PV} : seqOf (.tup l) h = some l := rfl
theorem seqOf_rol {h : PH} {l : List PV} : seqOf (.rol l) h = some l := rfl
theorem refOk_of {h : PH} {a : Nat} {o : PO} (e : h a = some o) : refOk (.ref a) h := by show (h a).isSome = true; rw [e]; rfl
theorem ss_whl {sub : Nat → Nat → Bool} {C : CS} {c : T} {b r : Ss} {D : Ends} {σ : Sl} {h : PH} (g : ∃ n, whlN (fun σ h Q => wT C c σ h Q fun x h => D.ex x σ h) (wSs sub C b) { D with nx := wSs sub C r D } n σ h) : wSs sub C (.cons (.whl c b) r) D σ h := by
  simp only [wSs, wS]
  exact g
/-- a comprehension, not to be looked into -/
def cprW (C : CS) (t : Tg) (c : T) (e : E) (ok : PH → Prop) (σ : Sl) (Q : List PV → PH → Prop) (xs : List PV) (h : PH) : Prop := cprL ok (fun v σ h Q => wTg C t v σ h Q) (fun σ h Q => wT C c σ h Q fun _ _ => False) (fun σ h Q => wE C e σ h Q fun _ _ => False) σ Q [] xs h
theorem wE_cpr {C : CS} {g : It} {t : Tg} {c : T} {e : E} {own : List Nat} {σ : Sl} {h : PH} {Q : QK} {X : XK} : wE C (.cpr g t c e own) σ h Q X = wIt C g σ h (fun xs ok h => cprW C t c e ok (wipe σ own) (fun acc h => newL h acc Q) xs h) X := by simp only [wE, cprW]
theorem rdL_same {h : PH} {p : Nat} {xs : List PV} : rdL (pupd h p (.lst xs)) p = some xs := by unfold rdL; rw [pupd_same]
theorem rdL_of {h : PH} {p : Nat} {xs : List PV} (e : h p = some (.lst xs)) : rdL h p = some xs := by unfold rdL; rw [e]
theorem seqOf_of {h : PH} {p : Nat} {xs : List PV} (e : h p = some (.lst xs)) : seqOf (.ref p) h = some xs := rdL_of e
theorem ixN_z {n : Nat} : L2.ixN (n + 1) 0 = some 0 := by unfold L2.ixN; rw [if_pos (by decide), if_pos (by omega)]; rfl
theorem ixN_pos {n : Nat} {i : Int} (h : 0 ≤ i) (h2 : i < (n : Int)) : L2.ixN n i = some i.toNat := by unfold L2.ixN; rw [if_pos h, if_pos h2]
theorem ixN_neg {n : Nat} {i : Int} (h : i < 0) (h2 : -(n : Int) ≤ i) : L2.ixN n i = some (i + n).toNat := by unfold L2.ixN; rw [if_neg (by omega), if_pos h2]
theorem abs_eq (a : Int) : (if a < 0 then -a else a) = (a.natAbs : Int) := by split <;> omega
theorem log2_lt_of {n p : Nat} (hp : 0 < p) (h : n < 2 ^ p) : n.log2 < p := by
  cases n with
  | zero => simpa using hp
  | succ n => exact (Nat.log2_lt (by omega)).2 h
theorem cmul_b {i j : Int} (m n : Nat) (hm : 0 < m) (hn : 0 < n) (hi : i.natAbs < 2 ^ m) (hj : j.natAbs < 2 ^ n) (hmn : m + n ≤ 1000000) : CMul i j := by
  have a := log2_lt_of hm hi
  have b := log2_lt_of hn hj
  unfold CMul
  omega
theorem cdiv_b {j : Int} (h0 : 0 < j) (n : Nat) (hj : j.natAbs < 2 ^ n) (hn : n ≤ 9000) : CDiv j := by
  refine ⟨h0, ?_⟩
  cases n with
  | zero => simp only [Nat.pow_zero] at hj; omega
  | succ n => have := log2_lt_of (Nat.succ_pos n) hj; omega
/-- small numbers -/
theorem cmul_s {i j : Int} (hi : i.natAbs < 2 ^ 1000) (hj : j.natAbs < 2 ^ 1000) : CMul i j := cmul_b 1000 1000 (by decide) (by decide) hi hj (by decide)
theorem cdiv_s {j : Int} (h0 : 0 < j) (hj : j.natAbs < 2 ^ 1000) : CDiv j := cdiv_b h0 1000 hj (by decide)
theorem gcd_step (a b : Nat) (h : b ≠ 0) : Nat.gcd b (a % b) = Nat.gcd a b := by rw [Nat.gcd_comm a b, Nat.gcd_rec b a, Nat.gcd_comm]
abbrev I3 := Int × Int × Int
def pv3 (x : I3) : PV := .tup [.int x.1, .int x.2.1, .int x.2.2]
def wfS (l r : I3) : I3 := (l.1 - l.1 / r.1 * r.1, l.2.1 - l.1 / r.1 * r.2.1, l.2.2 - l.1 / r.1 * r.2.2)
def wfG : Nat → I3 → I3 → I3
  | 0, l, _ => l
  | n + 1, l, r => if r.1 = 0 then l else wfG n r (wfS l r)
def wf (a b : Int) : I3 := wfG (b.toNat + 1) (a, 1, 0) (b, 0, 1)
theorem wfS_fst (l r : I3) : (wfS l r).1 = l.1 % r.1 := by
  simp only [wfS]
  have := Int.mul_ediv_add_emod l.1 r.1
  grind
/-- what stays so through the steps; M bounds the factors -/
structure WfI (a b M : Int) (l r : I3) : Prop where
  l0 : 0 ≤ l.1
  r0 : 0 ≤ r.1
  bl : l.1 = l.2.1 * a + l.2.2 * b
  br : r.1 = r.2.1 * a + r.2.2 * b
  g : Nat.gcd l.1.natAbs r.1.natAbs = Int.gcd a b
  m1 : (l.2.1.natAbs : Int) * r.1 + r.2.1.natAbs * l.1 ≤ M
  m2 : (l.2.2.natAbs : Int) * r.1 + r.2.2.natAbs * l.1 ≤ M
  b1 : (r.2.1.natAbs : Int) ≤ M + 1
  b2 : (r.2.2.natAbs : Int) ≤ M + 1
  c1 : (l.2.1.natAbs : Int) ≤ M + 1
  c2 : (l.2.2.natAbs : Int) ≤ M + 1
  lM : l.1 ≤ M
  rM : r.1 ≤ M
theorem wf_bound {x y t l r M : Int} (hl : 0 ≤ l) (hr : 0 < r) (ht : t = l / r) (h : (x.natAbs : Int) * r + y.natAbs * l ≤ M) : (y.natAbs : Int) * (l - t * r) + ((x - t * y).natAbs : Int) * r ≤ M := by
  have t0 : 0 ≤ t := ht ▸ Int.ediv_nonneg hl (by omega)
  have e : ((x - t * y).natAbs : Int) ≤ x.natAbs + t * y.natAbs := by
    have h1 : (x - t * y).natAbs ≤ x.natAbs + (t * y).natAbs := by omega
    rw [Int.natAbs_mul] at h1
    have h2 : ((t.natAbs * y.natAbs : Nat) : Int) = t * y.natAbs := by rw [Int.natCast_mul]; congr 1; omega
    omega
  have e2 := Int.mul_le_mul_of_nonneg_right e (Int.le_of_lt hr)
  grind
theorem nat_le_mul {y : Nat} {l M : Int} (hl : 0 < l) (h : (y : Int) * l ≤ M) : (y : Int) ≤ M := by
  have : (y : Int) * 1 ≤ y * l := Int.mul_le_mul_of_nonneg_left (by omega) (by omega)
  omega
theorem WfI.step {a b M : Int} {l r : I3} (i : WfI a b M l r) (h : r.1 ≠ 0) : WfI a b M r (wfS l r) := by
  have hr : 0 < r.1 := by have := i.r0; omega
  have q1 := wf_bound i.l0 hr rfl i.m1
  have q2 := wf_bound i.l0 hr rfl i.m2
  have s0 : 0 ≤ (wfS l r).1 := by rw [wfS_fst]; exact Int.emod_nonneg _ h
  have s1 : (wfS l r).1 < r.1 := by rw [wfS_fst]; exact Int.emod_lt_of_pos _ hr
  refine ⟨i.r0, s0, i.br, ?_, ?_, q1, q2, ?_, ?_, i.b1, i.b2, i.rM, by have := i.rM; omega⟩
  · have := i.bl; have := i.br; simp only [wfS]; grind
  · rw [← i.g, wfS_fst, Int.natAbs_emod_of_nonneg i.l0]
    exact gcd_step _ _ (by omega)
  · have : ((wfS l r).2.1.natAbs : Int) * r.1 ≤ M := by
      have := Int.mul_nonneg (show (0:Int) ≤ (r.2.1.natAbs : Int) by omega) s0
      simp only [wfS] at this q1 ⊢
      omega
    have := nat_le_mul hr this
    omega
  · have : ((wfS l r).2.2.natAbs : Int) * r.1 ≤ M := by
      have := Int.mul_nonneg (show (0:Int) ≤ (r.2.2.natAbs : Int) by omega) s0
      simp only [wfS] at this q2 ⊢
      omega
    have := nat_le_mul hr this
    omega
theorem WfI.start {a b M : Int} (ha : 0 ≤ a) (hb : 0 ≤ b) (hM : a ≤ M) (hN : b ≤ M) : WfI a b M (a, 1, 0) (b, 0, 1) :=
  ⟨ha, hb, by simp, by simp, rfl, by simp; omega, by simp; omega, by simp; omega, by simp; omega, by simp; omega, by simp; omega, hM, hN⟩
theorem wfG_I {a b M : Int} : ∀ (n : Nat) (l r : I3), WfI a b M l r → r.1 < (n : Int) → ∃ r', WfI a b M (wfG n l r) r' ∧ r'.1 = 0
  | 0, l, r, i, h => by have := i.r0; omega
  | n + 1, l, r, i, h => by
    unfold wfG
    split
    · rename_i e; exact ⟨r, i, e⟩
    · rename_i e
      refine wfG_I n r (wfS l r) (i.step e) ?_
      have : (wfS l r).1 < r.1 := by rw [wfS_fst]; exact Int.emod_lt_of_pos _ (by have := i.r0; omega)
      omega
theorem wf_spec {a b M : Int} (ha : 0 ≤ a) (hb : 0 ≤ b) (hM : a ≤ M) (hN : b ≤ M) : (wf a b).1 = Int.gcd a b ∧ (wf a b).1 = (wf a b).2.1 * a + (wf a b).2.2 * b ∧ ((wf a b).2.1.natAbs : Int) ≤ M + 1 ∧ ((wf a b).2.2.natAbs : Int) ≤ M + 1 := by
  obtain ⟨r', i, e⟩ := wfG_I (b.toNat + 1) _ _ (WfI.start ha hb hM hN) (by simp only; omega)
  have := i.g
  rw [e, Int.natAbs_zero, Nat.gcd_zero_right] at this
  have l0 := i.l0
  exact ⟨by unfold wf; omega, i.bl, i.c1, i.c2⟩
theorem pow_emod (b s : Int) (n : Nat) : (b % s) ^ n % s = b ^ n % s := by
  induction n with
  | zero => rw [Int.pow_zero, Int.pow_zero]
  | succ n ih => rw [Int.pow_succ, Int.pow_succ, Int.mul_emod, ih, Int.emod_emod, ← Int.mul_emod]
theorem mul_emod_l (a b s : Int) : a % s * b % s = a * b % s := by rw [Int.mul_emod, Int.emod_emod, ← Int.mul_emod]
theorem mul_emod_r (a b s : Int) : a * (b % s) % s = a * b % s := by rw [Int.mul_emod, Int.emod_emod, ← Int.mul_emod]
theorem pow_half (B : Int) (n : Nat) : B ^ n = (if n % 2 = 1 then B else 1) * (B * B) ^ (n / 2) := by
  have hm : B * B = B ^ 2 := by grind
  rw [hm, ← Int.pow_mul]
  split
  · have : n = 2 * (n / 2) + 1 := by omega
    conv => lhs; rw [this, Int.pow_succ]
    grind
  · have : n = 2 * (n / 2) := by omega
    conv => lhs; rw [this]
    simp
structure TapeAt (a c : Nat) (h : PH) : Prop where
  ne : a ≠ c
  st : ∃ (xs : List Int) (s : Int), h a = some (.lst [.ref c, .int s]) ∧ h c = some (.lst (xs.map .int)) ∧ 0 ≤ s ∧ s < 2147483647
/-- what a draw leaves -/
structure DrawR (a c : Nat) (h h' : PH) : Prop where
  t : TapeAt a c h'
  fr : ∀ b, b ≠ a → b ≠ c → h' b = h b
theorem TapeAt.ext {a c : Nat} {h h' : PH} (t : TapeAt a c h) (e : Ext h h') : TapeAt a c h' := by
  obtain ⟨n, xs, s, h1, h2, h3⟩ := t
  exact ⟨n, xs, s, e _ _ h1, e _ _ h2, h3⟩
theorem TapeAt.ne_of {a c p : Nat} {h : PH} (t : TapeAt a c h) (f : h p = none) : p ≠ a ∧ p ≠ c := by
  obtain ⟨n, xs, s, h1, h2, h3⟩ := t
  exact ⟨fun e => by (rw [e, h1] at f; exact nomatch f), fun e => by (rw [e, h2] at f; exact nomatch f)⟩
def SmL (P : PV → PV → Prop) : List PV → List PV → Prop
  | [], [] => True
  | x :: xs, y :: ys => P x y ∧ SmL P xs ys
  | _, _ => False
def Sm (h : PH) : Nat → PV → PV → Prop
  | _, .non, .non => True
  | _, .bl a, .bl b => a = b
  | _, .int a, .int b => a = b
  | _, .str a, .str b => a = b
  | n + 1, .tup l, .tup m => l.length ≤ 16777216 ∧ SmL (Sm h n) l m
  | n + 1, .ref a, .ref b => ∃ xs ys, h a = some (.lst xs) ∧ h b = some (.lst ys) ∧ xs.length ≤ 16777216 ∧ SmL (Sm h n) xs ys
  | _, _, _ => False
theorem SmL.imp {P R : PV → PV → Prop} (f : ∀ x y, P x y → R x y) : ∀ xs ys, SmL P xs ys → SmL R xs ys
  | [], [], _ => trivial
  | x :: xs, y :: ys, h => ⟨f x y h.1, SmL.imp f xs ys h.2⟩
  | [], _ :: _, h => h.elim
  | _ :: _, [], h => h.elim
theorem SmL.len {P : PV → PV → Prop} : ∀ xs ys, SmL P xs ys → xs.length = ys.length
  | [], [], _ => rfl
  | x :: xs, y :: ys, h => by simp only [List.length_cons, SmL.len xs ys h.2]
  | [], _ :: _, h => h.elim
  | _ :: _, [], h => h.elim
theorem SmL.at {P : PV → PV → Prop} : ∀ (xs ys : List PV), SmL P xs ys → ∀ i, i < xs.length → ∃ x y, xs[i]? = some x ∧ ys[i]? = some y ∧ P x y
  | [], [], _, i, hi => absurd hi (Nat.not_lt_zero _)
  | x :: xs, y :: ys, h, 0, hi => ⟨x, y, rfl, rfl, h.1⟩
  | x :: xs, y :: ys, h, i + 1, hi => by
    obtain ⟨u, v, a, b, c⟩ := SmL.at xs ys h.2 i (by simpa using hi)
    exact ⟨u, v, by simpa using a, by simpa using b, c⟩
  | [], _ :: _, h, _, _ => h.elim
  | _ :: _, [], h, _, _ => h.elim
theorem Sm.ext {h h' : PH} (e : Ext h h') : ∀ (n : Nat) (x y : PV), Sm h n x y → Sm h' n x y
  | 0, x, y, s => by cases x <;> cases y <;> first | exact s | exact False.elim s
  | n + 1, x, y, s => by
    cases x <;> cases y <;> first | exact s | exact False.elim s | skip
    · exact ⟨s.1, SmL.imp (Sm.ext e n) _ _ s.2⟩
    · obtain ⟨xs, ys, h1, h2, h3, h4⟩ := s
      exact ⟨xs, ys, e _ _ h1, e _ _ h2, h3, SmL.imp (Sm.ext e n) _ _ h4⟩
theorem rgL_len (n : Nat) : (rgL 0 (n : Int)).length = n := by simp [rgL]
theorem rgL_mem {n : Nat} {x : PV} (hx : x ∈ rgL 0 (n : Int)) : ∃ i : Nat, i < n ∧ x = .int (i : Int) := by
  simp only [rgL, List.mem_map, List.mem_range] at hx
  obtain ⟨i, hi, rfl⟩ := hx
  exact ⟨i, by omega, by simp⟩
theorem blsOf_bl {α : Type} (f : α → Bool) : ∀ xs : List α, blsOf (xs.map fun x => PV.bl (f x)) = some (xs.map f)
  | [] => rfl
  | x :: xs => by simp only [List.map_cons, blsOf, blsOf_bl f xs, Option.map_some]
theorem intsOf_int : ∀ xs : List Int, intsOf (xs.map PV.int) = some xs
  | [] => rfl
  | x :: xs => by simp only [List.map_cons, intsOf, intsOf_int xs, Option.map_some]
theorem ixN_nat {n i : Nat} (h : i < n) : L2.ixN n (i : Int) = some i := by
  unfold L2.ixN
  (rw [if_pos (by omega)]; rw [if_pos (by omega)])
  simp
theorem filter_true {α : Type} (p : α → Bool) (hp : ∀ x, p x = true) (xs : List α) : xs.filter p = xs := List.filter_eq_self.2 fun x _ => hp x
def PV.isStr : PV → Bool | .str _ => true | _ => false
theorem ixS_of {x : PV} {i : Int} {h : PH} {Q : QK} {xs : List PV} {j : Nat} {v : PV} (n : x.isStr = false) (e : seqOf x h = some xs) (e2 : L2.ixN xs.length i = some j) (e3 : xs[j]? = some v) (q : Q v h) : ixS x (.int i) h Q := by
  cases x <;> first | (cases n; done) | (cases e; done) | (simp only [seqOf] at e; simp only [ixS, seqOf, e, e2, Option.bind_some, e3]; exact q) | (cases e; simp only [ixS, seqOf, e2, Option.bind_some, e3]; exact q)
def rgI (n : Nat) : List Int := (List.range n).map Int.ofNat
theorem rgI_mem {n : Nat} {x : Int} : x ∈ rgI n ↔ 0 ≤ x ∧ x < n := by
  simp only [rgI, List.mem_map, List.mem_range]
  constructor
  · rintro ⟨i, hi, rfl⟩; simp only [Int.ofNat_eq_natCast]; omega
  · intro h; exact ⟨x.toNat, by omega, by simp only [Int.ofNat_eq_natCast]; omega⟩
theorem rgI_len (n : Nat) : (rgI n).length = n := by simp [rgI]
theorem rgL_rgI (m : Int) : rgL 0 m = (rgI m.toNat).map PV.int := by
  simp only [rgL, rgI, List.map_map, Int.sub_zero]
  congr 1
  funext i
  simp
theorem cpr_int (Hv : PH → Prop) (p : Int → Bool) (f : Int → PV) {C : CS} {t : Tg} {c : T} {e : E} {ok : PH → Prop} {σ : Sl} {Q : List PV → PH → Prop} {xs : List Int} {h0 : PH}
    (hl : xs.length ≤ 16777216) (hh : Hv h0) (hok : ∀ h, Hv h → ok h)
    (step : ∀ x ∈ xs, ∀ h, Hv h → ∀ (R : PV → PH → Prop) (S : PH → Prop), (p x = true → ∀ h', Hv h' → R (f x) h') → (p x = false → ∀ h', Hv h' → S h') → wTg C t (.int x) σ h fun σ2 h => wT C c σ2 h (fun b h => if b = true then wE C e σ2 h R (fun _ _ => False) else S h) (fun _ _ => False))
    (hQ : ∀ h, Hv h → Q ((xs.filter p).map f) h) : cprW C t c e ok σ Q (xs.map PV.int) h0 := by
  refine cpr_inv Hv (fun v => match v with | .int i => p i | _ => false) (fun v => match v with | .int i => f i | v => v) (by simpa using hl) hh hok ?_ ?_
  · intro v hv h hvh R S r s
    obtain ⟨i, hi, rfl⟩ := List.mem_map.1 hv
    exact step i hi h hvh R S r s
  · intro h hvh
    have := hQ h hvh
    rw [List.filter_map, List.map_map]
    exact this
theorem cpr_gen {α : Type} (g : α → PV) (Hv : PH → Prop) (p : α → Bool) (f : α → PV) {C : CS} {t : Tg} {c : T} {e : E} {ok : PH → Prop} {σ : Sl} {Q : List PV → PH → Prop} {xs : List α} {h0 : PH}
    (hl : xs.length ≤ 16777216) (hh : Hv h0) (hok : ∀ h, Hv h → ok h)
    (step : ∀ x ∈ xs, ∀ h, Hv h → ∀ (R : PV → PH → Prop) (S : PH → Prop), (p x = true → ∀ h', Hv h' → R (f x) h') → (p x = false → ∀ h', Hv h' → S h') → wTg C t (g x) σ h fun σ2 h => wT C c σ2 h (fun b h => if b = true then wE C e σ2 h R (fun _ _ => False) else S h) (fun _ _ => False))
    (hQ : ∀ h, Hv h → Q ((xs.filter p).map f) h) : cprW C t c e ok σ Q (xs.map g) h0 := by
  unfold cprW
  have key : ∀ (ys : List α) (acc : List PV) (h : PH), acc.length + ys.length ≤ 16777216 → (∀ x ∈ ys, x ∈ xs) → Hv h → (∀ h, Hv h → Q (acc ++ (ys.filter p).map f) h) → cprL ok (fun v σ h Q => wTg C t v σ h Q) (fun σ h Q => wT C c σ h Q fun _ _ => False) (fun σ h Q => wE C e σ h Q fun _ _ => False) σ Q acc (ys.map g) h := by
    intro ys
    induction ys with
    | nil =>
      intro acc h _ _ hv q
      exact ⟨hok h hv, by simpa using q h hv⟩
    | cons y ys ih =>
      intro acc h hz hm hv q
      rw [List.length_cons] at hz
      refine ⟨hok h hv, step y (hm y (by simp)) h hv _ _ (fun ep h' hv' => ?_) (fun ep h' hv' => ?_)⟩
      · refine ⟨by omega, ih (acc ++ [f y]) h' (by simp only [List.length_append, List.length_cons, List.length_nil]; omega) (fun x hx => hm x (by simp [hx])) hv' fun h2 hv2 => ?_⟩
        have := q h2 hv2
        rw [List.filter_cons_of_pos ep, List.map_cons] at this
        simpa using this
      · refine ih acc h' (by omega) (fun x hx => hm x (by simp [hx])) hv' fun h2 hv2 => ?_
        have := q h2 hv2
        rw [List.filter_cons_of_neg (by rw [ep]; exact Bool.false_ne_true)] at this
        exact this
  exact key xs [] h0 (by simpa using hl) (fun _ h => h) hh (by simpa using hQ)
theorem toD_ints {h : PH} {n : Nat} : ∀ xs : List Int, (xs.map PV.int).mapM (toD h n) = some (xs.map PyData.int)
  | [] => rfl
  | x :: xs => by
    rw [List.map_cons, List.mapM_cons, toD_ints xs]
    cases n <;> rfl
theorem eqvAll_nil (xs : List PyData) : PyData.eqvAll xs [] = xs.isEmpty := by cases xs <;> simp [PyData.eqvAll]
theorem eqv_tnil (xs : List PyData) : PyData.eqv (.tuple xs) (.tuple []) = xs.isEmpty := by simp only [PyData.eqv, eqvAll_nil]
theorem eqv_lnil (xs : List PyData) : PyData.eqv (.list xs) (.list []) = xs.isEmpty := by simp only [PyData.eqv, eqvAll_nil]
/-- a list of numbers beside the empty list -/
theorem eqS_nil {h : PH} {a b : Nat} {xs : List Int} {Q : Bool → Prop} (ha : h a = some (.lst (xs.map .int))) (hb : h b = some (.lst [])) (q : Q xs.isEmpty) : eqS (.ref a) (.ref b) h Q := by
  refine ⟨.list (xs.map .int), .list [], by simp only [toD, rdL_of ha, toD_ints, Option.map_some], by simp only [toD, rdL_of hb]; rfl, ?_⟩
  rw [eqv_lnil, List.isEmpty_map]
  exact q
theorem eqS_tnil {h : PH} {xs : List Int} {Q : Bool → Prop} (q : Q xs.isEmpty) : eqS (.tup (xs.map .int)) (.tup []) h Q := by
  refine ⟨.tuple (xs.map .int), .tuple [], by simp only [toD, toD_ints, Option.map_some], by simp only [toD]; rfl, ?_⟩
  rw [eqv_tnil, List.isEmpty_map]
  exact q
theorem sqrt_uniq {r s n : Int} (r0 : 0 ≤ r) (s0 : 0 ≤ s) (h1 : r * r ≤ n) (h2 : n < (r + 1) * (r + 1)) (h3 : s * s ≤ n) (h4 : n < (s + 1) * (s + 1)) : r = s := by
  have key : ∀ a b : Int, 0 ≤ a → a + 1 ≤ b → (a + 1) * (a + 1) ≤ b * b := fun a b h0 h => Int.mul_self_le_mul_self (by omega) h
  by_cases c : r < s
  · have := key r s r0 (by omega); omega
  · by_cases c2 : s < r
    · have := key s r s0 (by omega); omega
    · omega
theorem inv_gcd {a s m : Int} (hs : 0 < s) (e : a * m % s = 1 % s) : Int.gcd (a % s) s = 1 := by
  have h1 : ((Int.gcd (a % s) s : Nat) : Int) ∣ s := Int.gcd_dvd_right (a % s) s
  have h2 : ((Int.gcd (a % s) s : Nat) : Int) ∣ a % s := Int.gcd_dvd_left (a % s) s
  have h3 : ((Int.gcd (a % s) s : Nat) : Int) ∣ a := by
    have := Int.mul_ediv_add_emod a s
    have h9 := Int.dvd_add (Int.dvd_trans h1 ⟨a / s, rfl⟩) h2
    rwa [this] at h9
  have h4 : s ∣ a * m - 1 := Int.dvd_of_emod_eq_zero (Int.emod_eq_emod_iff_emod_sub_eq_zero.1 e)
  have h5 : ((Int.gcd (a % s) s : Nat) : Int) ∣ 1 := by
    have : (1 : Int) = a * m - (a * m - 1) := by omega
    rw [this]
    exact Int.dvd_sub (Int.dvd_trans h3 ⟨_, rfl⟩) (Int.dvd_trans h1 h4)
  have := Int.le_of_dvd (by decide) h5
  have : 0 < Int.gcd (a % s) s := Int.gcd_pos_of_ne_zero_right _ (by omega)
  omega
theorem inv_uniq {a s x y : Int} (x0 : 0 ≤ x) (x1 : x < s) (y0 : 0 ≤ y) (y1 : y < s) (h1 : a * x % s = 1 % s) (h2 : a * y % s = 1 % s) : x = y := by
  obtain ⟨p, hp⟩ := Int.dvd_of_emod_eq_zero (Int.emod_eq_emod_iff_emod_sub_eq_zero.1 h1)
  obtain ⟨q, hq⟩ := Int.dvd_of_emod_eq_zero (Int.emod_eq_emod_iff_emod_sub_eq_zero.1 h2)
  have e : x - y = s * (x * (p - q) - p * (x - y)) := by grind
  have : x * (p - q) - p * (x - y) = 0 := by
    generalize x * (p - q) - p * (x - y) = z at e
    have c1 : z < 1 := by
      by_cases c : z < 1
      · exact c
      · have := Int.mul_le_mul_of_nonneg_left (show 1 ≤ z by omega) (show 0 ≤ s by omega); omega
    have c2 : -1 < z := by
      by_cases c : -1 < z
      · exact c
      · have := Int.mul_le_mul_of_nonneg_left (show z ≤ -1 by omega) (show 0 ≤ s by omega); omega
    omega
  rw [this] at e
  omega
/-- the number of figures, the least first -/
def valD (b : Int) : List Int → Int | [] => 0 | d :: r => d + b * valD b r
theorem valD_snoc (b d : Int) : ∀ l : List Int, valD b (l ++ [d]) = valD b l + b ^ l.length * d
  | [] => by simp [valD]
  | c :: l => by simp only [List.cons_append, valD, valD_snoc b d l, List.length_cons, Int.pow_succ]; grind
theorem valD_nonneg {b : Int} (b0 : 0 ≤ b) : ∀ l : List Int, (∀ d ∈ l, 0 ≤ d) → 0 ≤ valD b l
  | [], _ => by simp [valD]
  | d :: l, h => by
    have h1 := valD_nonneg b0 l fun x hx => h x (by simp [hx])
    have h2 := h d (by simp)
    have := Int.mul_nonneg b0 h1
    simp only [valD]
    omega
theorem valD_drop {b : Int} (b1 : 1 ≤ b) : ∀ (l : List Int) (j : Nat), (∀ d ∈ l, 0 ≤ d) → valD b (l.drop j) ≤ valD b l
  | l, 0, _ => by simp
  | [], j + 1, _ => by simp
  | d :: l, j + 1, h => by
    have h0 : ∀ x ∈ l, 0 ≤ x := fun x hx => h x (by simp [hx])
    have h1 := valD_drop b1 l j h0
    have h2 := valD_nonneg (b := b) (by omega) l h0
    have h3 := h d (by simp)
    have h4 := Int.mul_le_mul_of_nonneg_right b1 h2
    simp only [List.drop_succ_cons, valD]
    omega
end Co
namespace Co.Nt
def Pr (p : Nat) : Prop := 2 ≤ p ∧ ∀ d, d ∣ p → d = 1 ∨ d = p
/-- the least factor -/
def Lf (n p : Nat) : Prop := 2 ≤ p ∧ p ∣ n ∧ ∀ d, 2 ≤ d → d ∣ n → p ≤ d
theorem Lf.pr {n p : Nat} (h : Lf n p) : Pr p := by
  refine ⟨h.1, fun d hd => ?_⟩
  have hp := h.1
  have d0 : d ≠ 0 := fun e => by rw [e, Nat.zero_dvd] at hd; omega
  by_cases d1 : d = 1
  · exact Or.inl d1
  · have := h.2.2 d (by omega) (Nat.dvd_trans hd h.2.1)
    have := Nat.le_of_dvd (by omega) hd
    exact Or.inr (by omega)
theorem Lf.uniq {n p q : Nat} (h : Lf n p) (g : Lf n q) : p = q := Nat.le_antisymm (h.2.2 q g.1 g.2.1) (g.2.2 p h.1 h.2.1)
theorem Lf.ex (n : Nat) (hn : 2 ≤ n) : ∃ p, Lf n p := by
  have key : ∀ k, 2 + k ≤ n → (∀ d, 2 ≤ d → d < 2 + k → ¬ d ∣ n) → ∃ p, Lf n p := by
    intro k
    generalize hm : n - (2 + k) = m
    induction m generalizing k with
    | zero =>
      intro h1 h2
      obtain rfl : n = 2 + k := by omega
      exact ⟨2 + k, hn, Nat.dvd_refl _, fun d d2 hd => by
        by_cases c : 2 + k ≤ d
        · exact c
        · exact absurd hd (h2 d d2 (by omega))⟩
    | succ m ih =>
      intro h1 h2
      by_cases c : 2 + k ∣ n
      · exact ⟨2 + k, by omega, c, fun d d2 hd => by
          by_cases c2 : 2 + k ≤ d
          · exact c2
          · exact absurd hd (h2 d d2 (by omega))⟩
      · refine ih (k + 1) (by omega) (by omega) fun d d2 dl hd => ?_
        by_cases c2 : d = 2 + k
        · exact c (c2 ▸ hd)
        · exact h2 d d2 (by omega) hd
  exact key 0 (by omega) fun d d2 dl => by omega
theorem Pr.cop {p n : Nat} (h : Pr p) (hn : ¬ p ∣ n) : Nat.Coprime p n := by
  rcases h.2 _ (Nat.gcd_dvd_left p n) with e | e
  · exact e
  · exact absurd (e ▸ Nat.gcd_dvd_right p n) hn
theorem Pr.mul {p a b : Nat} (h : Pr p) (hd : p ∣ a * b) : p ∣ a ∨ p ∣ b := by
  by_cases c : p ∣ a
  · exact Or.inl c
  · exact Or.inr ((h.cop c).dvd_of_dvd_mul_left hd)
theorem Pr.pow {p a : Nat} (h : Pr p) : ∀ k, p ∣ a ^ k → p ∣ a
  | 0, hd => by
    rw [Nat.pow_zero] at hd
    have := Nat.le_of_dvd (by decide) hd
    have := h.1
    omega
  | k + 1, hd => by
    rw [Nat.pow_succ] at hd
    rcases h.mul hd with e | e
    · exact h.pow k e
    · exact e
theorem dvd_pow_self (p : Nat) {e : Nat} (he : 1 ≤ e) : p ∣ p ^ e := by
  obtain ⟨k, rfl⟩ : ∃ k, e = k + 1 := ⟨e - 1, by omega⟩
  exact ⟨p ^ k, by rw [Nat.pow_succ, Nat.mul_comm]⟩
theorem Pr.eq {p q : Nat} (hp : Pr p) (hq : Pr q) (hd : p ∣ q) : p = q := by
  rcases hq.2 p hd with e | e
  · have := hp.1; omega
  · exact e
theorem Pr.lf {p : Nat} (h : Pr p) : Lf p p := by
  refine ⟨h.1, Nat.dvd_refl _, fun d d2 hd => ?_⟩
  rcases h.2 d hd with e | e <;> omega
/-- a number without a divisor up to its root is its own least factor -/
theorem Lf.root {n s : Nat} (hn : 2 ≤ n) (h : ∀ d, 2 ≤ d → d < s → ¬ d ∣ n) (hs : n < s * s) : Lf n n := by
  obtain ⟨p, hp⟩ := Lf.ex n hn
  obtain ⟨m, hm⟩ := hp.2.1
  have ps : s ≤ p := by
    by_cases c : s ≤ p
    · exact c
    · exact absurd hp.2.1 (h p hp.1 (by omega))
  have : m < s := by
    by_cases c : m < s
    · exact c
    · have := Nat.mul_le_mul ps (show s ≤ m by omega)
      omega
  have m1 : m = 1 := by
    by_cases c0 : m = 0
    · rw [c0] at hm; omega
    · by_cases c1 : m = 1
      · exact c1
      · exact absurd ⟨p, by rw [hm, Nat.mul_comm]⟩ (h m (by omega) this)
  rw [m1, Nat.mul_one] at hm
  rwa [← hm] at hp
/-- what is no multiple of 2, 3 and no 6 k + 5, 6 k + 7 below s has no factor below s -/
theorem no_div_step {n s : Nat} (h2 : ¬ 2 ∣ n) (h3 : ¬ 3 ∣ n) (hs : s % 6 = 5) (h : ∀ d, 2 ≤ d → d < s → ¬ d ∣ n) (a : ¬ s ∣ n) (b : ¬ (s + 2) ∣ n) : ∀ d, 2 ≤ d → d < s + 6 → ¬ d ∣ n := by
  intro d d2 dl hd
  by_cases c : d < s
  · exact h d d2 c hd
  · have : d = s ∨ d = s + 1 ∨ d = s + 2 ∨ d = s + 3 ∨ d = s + 4 ∨ d = s + 5 := by omega
    rcases this with e | e | e | e | e | e
    · exact a (e ▸ hd)
    · exact h2 (Nat.dvd_trans (Nat.dvd_of_mod_eq_zero (by omega)) hd)
    · exact b (e ▸ hd)
    · exact h2 (Nat.dvd_trans (Nat.dvd_of_mod_eq_zero (by omega)) hd)
    · exact h3 (Nat.dvd_trans (Nat.dvd_of_mod_eq_zero (by omega)) hd)
    · exact h2 (Nat.dvd_trans (Nat.dvd_of_mod_eq_zero (by omega)) hd)
theorem Lf.of_least {n s : Nat} (s2 : 2 ≤ s) (hs : s ∣ n) (h : ∀ d, 2 ≤ d → d < s → ¬ d ∣ n) : Lf n s := ⟨s2, hs, fun d d2 hd => by
  by_cases c : s ≤ d
  · exact c
  · exact absurd hd (h d d2 (by omega))⟩
def FacL : Nat → Nat → List (Nat × Nat) → Prop
  | _, n, [] => n = 1
  | lo, n, (p, e) :: r => lo < p ∧ Pr p ∧ 1 ≤ e ∧ ∃ m, n = p ^ e * m ∧ FacL p m r
theorem FacL.pos : ∀ {lo n : Nat} {l : List (Nat × Nat)}, FacL lo n l → 1 ≤ n
  | _, _, [], h => by simp only [FacL] at h; omega
  | _, _, (p, e) :: r, ⟨_, hp, _, m, rfl, h⟩ => Nat.mul_pos (Nat.pow_pos (by have := hp.1; omega)) h.pos
/-- a prime divides just what it is listed for -/
theorem FacL.dvd : ∀ {lo n : Nat} {l : List (Nat × Nat)}, FacL lo n l → ∀ q, Pr q → (q ∣ n ↔ q ∈ l.map Prod.fst)
  | _, _, [], h, q, hq => by
    simp only [FacL] at h
    subst h
    constructor
    · intro hd; have := Nat.le_of_dvd (by decide) hd; have := hq.1; omega
    · intro hm; cases hm
  | _, _, (p, e) :: r, ⟨_, hp, he, m, rfl, h⟩, q, hq => by
    rw [List.map_cons, List.mem_cons, ← h.dvd q hq]
    constructor
    · intro hd
      rcases hq.mul hd with c | c
      · exact Or.inl (hq.eq hp (hq.pow e c))
      · exact Or.inr c
    · rintro (c | c)
      · exact Nat.dvd_trans (c ▸ dvd_pow_self p he) (Nat.dvd_mul_right _ _)
      · exact Nat.dvd_trans c (Nat.dvd_mul_left _ _)
theorem FacL.gt : ∀ {lo n : Nat} {l : List (Nat × Nat)}, FacL lo n l → ∀ q ∈ l.map Prod.fst, lo < q ∧ Pr q
  | _, _, [], _, q, hm => by cases hm
  | lo, _, (p, e) :: r, ⟨hl, hp, _, m, _, h⟩, q, hm => by
    rcases List.mem_cons.1 hm with c | c
    · exact c ▸ ⟨hl, hp⟩
    · have := h.gt q c
      exact ⟨by omega, this.2⟩
theorem FacL.ndvd {lo n : Nat} {l : List (Nat × Nat)} (h : FacL lo n l) {q : Nat} (hq : Pr q) (hl : q ≤ lo) : ¬ q ∣ n := fun hd => by
  have := (h.gt q ((h.dvd q hq).1 hd)).1
  omega
/-- how often, by the rest that is no multiple -/
theorem pow_uniq {p m m' : Nat} (hp : 2 ≤ p) (hm : ¬ p ∣ m) (hm' : ¬ p ∣ m') : ∀ e e', p ^ e * m = p ^ e' * m' → e = e' ∧ m = m'
  | 0, 0, h => by simpa using h
  | 0, e' + 1, h => by
    exfalso
    rw [Nat.pow_zero, Nat.one_mul] at h
    exact hm ⟨p ^ e' * m', by rw [h, Nat.pow_succ]; grind⟩
  | e + 1, 0, h => by
    exfalso
    rw [Nat.pow_zero, Nat.one_mul] at h
    exact hm' ⟨p ^ e * m, by rw [← h, Nat.pow_succ]; grind⟩
  | e + 1, e' + 1, h => by
    have : p ^ e * m = p ^ e' * m' := by
      apply Nat.eq_of_mul_eq_mul_left (show 0 < p by omega)
      rw [Nat.pow_succ, Nat.pow_succ] at h
      grind
    have := pow_uniq hp hm hm' e e' this
    exact ⟨by omega, this.2⟩
theorem FacL.uniq : ∀ {lo lo' n : Nat} {l l' : List (Nat × Nat)}, FacL lo n l → FacL lo' n l' → l = l'
  | _, _, _, [], [], _, _ => rfl
  | _, _, _, [], (p, e) :: r, h, g => by
    simp only [FacL] at h
    have := (g.dvd p g.2.1).2 (by simp)
    rw [h] at this
    have := Nat.le_of_dvd (by decide) this
    have := g.2.1.1
    omega
  | _, _, _, (p, e) :: r, [], h, g => by
    simp only [FacL] at g
    have := (h.dvd p h.2.1).2 (by simp)
    rw [g] at this
    have := Nat.le_of_dvd (by decide) this
    have := h.2.1.1
    omega
  | _, _, n, (p, e) :: r, (p', e') :: r', h, g => by
    have h1 := (g.dvd p h.2.1).1 ((h.dvd p h.2.1).2 (by simp))
    have h2 := (h.dvd p' g.2.1).1 ((g.dvd p' g.2.1).2 (by simp))
    obtain ⟨_, hp, _, m, hm, hr⟩ := h
    obtain ⟨_, gp, _, m', gm, gr⟩ := g
    have a : p' ≤ p := by
      rcases List.mem_cons.1 h1 with c | c
      · omega
      · have := (gr.gt p c).1; omega
    have b : p ≤ p' := by
      rcases List.mem_cons.1 h2 with c | c
      · omega
      · have := (hr.gt p' c).1; omega
    obtain rfl : p = p' := by omega
    rw [hm] at gm
    obtain ⟨rfl, rfl⟩ := pow_uniq hp.1 (hr.ndvd hp (Nat.le_refl _)) (gr.ndvd gp (Nat.le_refl _)) _ _ gm
    rw [hr.uniq gr]
end Co.Nt
namespace Co.Nt
/-- 1, 2, .. n -/
def rg1 (n : Nat) : List Nat := (List.range n).map (· + 1)
theorem rg1_mem {n k : Nat} : k ∈ rg1 n ↔ 1 ≤ k ∧ k ≤ n := by
  simp only [rg1, List.mem_map, List.mem_range]
  constructor
  · rintro ⟨i, hi, rfl⟩; omega
  · intro h; exact ⟨k - 1, by omega, by omega⟩
theorem rg1_sorted (n : Nat) : (rg1 n).Pairwise (· < ·) := by
  unfold rg1
  rw [List.pairwise_map]
  exact List.Pairwise.imp (fun h => Nat.succ_lt_succ h) List.pairwise_lt_range
def divs (n : Nat) : List Nat := (rg1 n).filter fun k => decide (k ∣ n)
theorem divs_mem {n k : Nat} (hn : 1 ≤ n) : k ∈ divs n ↔ k ∣ n := by
  rw [divs, List.mem_filter, rg1_mem, decide_eq_true_eq]
  constructor
  · exact fun h => h.2
  · intro h
    have := Nat.le_of_dvd hn h
    have : k ≠ 0 := fun e => by rw [e, Nat.zero_dvd] at h; omega
    exact ⟨⟨by omega, by omega⟩, h⟩
theorem divs_sorted (n : Nat) : (divs n).Pairwise (· < ·) := (rg1_sorted n).filter _
/-- sorted lists of the same members are the same -/
theorem sorted_eq : ∀ {xs ys : List Nat}, xs.Pairwise (· < ·) → ys.Pairwise (· < ·) → (∀ k, k ∈ xs ↔ k ∈ ys) → xs = ys
  | [], [], _, _, _ => rfl
  | [], y :: ys, _, _, h => by have := (h y).2 (by simp); cases this
  | x :: xs, [], _, _, h => by have := (h x).1 (by simp); cases this
  | x :: xs, y :: ys, a, b, h => by
    rw [List.pairwise_cons] at a b
    have e : x = y := by
      have h1 := (h x).1 (by simp)
      have h2 := (h y).2 (by simp)
      rcases List.mem_cons.1 h1 with c | c
      · exact c
      · rcases List.mem_cons.1 h2 with d | d
        · exact d.symm
        · have := b.1 x c; have := a.1 y d; omega
    subst e
    rw [sorted_eq a.2 b.2 fun k => ?_]
    constructor
    · intro hk
      rcases List.mem_cons.1 ((h k).1 (by simp [hk])) with c | c
      · have := a.1 k hk; omega
      · exact c
    · intro hk
      rcases List.mem_cons.1 ((h k).2 (by simp [hk])) with c | c
      · have := b.1 k hk; omega
      · exact c
theorem sorted_of {xs ms : List Nat} (hp : ms.Perm xs) (hs : ms.Pairwise (· ≤ ·)) (hn : xs.Nodup) : ms.Pairwise (· < ·) := by
  have : ms.Nodup := hp.nodup_iff.2 hn
  exact List.Pairwise.imp₂ (fun a b h1 h2 => Nat.lt_of_le_of_ne h1 h2) hs this
def prodL : List (Nat × Nat) → Nat
  | [] => 1
  | (p, e) :: r => p ^ e * prodL r
theorem prodL_snoc (p e : Nat) : ∀ l, prodL (l ++ [(p, e)]) = prodL l * p ^ e
  | [] => by simp [prodL]
  | (q, f) :: r => by simp only [List.cons_append, prodL, prodL_snoc p e r]; grind
theorem FacL.prod : ∀ {lo n : Nat} {l : List (Nat × Nat)}, FacL lo n l → n = prodL l
  | _, _, [], h => h
  | _, _, (p, e) :: r, ⟨_, _, _, m, hm, h⟩ => by rw [hm, prodL, h.prod]
theorem prodL_dvd : ∀ (l : List (Nat × Nat)) (q : Nat), Pr q → (∀ x ∈ l, Pr x.1) → q ∣ prodL l → q ∈ l.map Prod.fst
  | [], q, hq, _, hd => by
    have := Nat.le_of_dvd (by decide) hd
    have := hq.1
    simp only [prodL] at *
    omega
  | (p, e) :: r, q, hq, hl, hd => by
    rw [List.map_cons, List.mem_cons]
    rcases hq.mul hd with c | c
    · exact Or.inl (hq.eq (hl (p, e) (by simp)) (hq.pow e c))
    · exact Or.inr (prodL_dvd r q hq (fun x hx => hl x (by simp [hx])) c)
theorem prodL_pos : ∀ (l : List (Nat × Nat)), (∀ x ∈ l, Pr x.1) → 1 ≤ prodL l
  | [], _ => Nat.le_refl _
  | (p, e) :: r, h => Nat.mul_pos (Nat.pow_pos (by have := (h (p, e) (by simp)).1; simp only at this; omega)) (prodL_pos r fun x hx => h x (by simp [hx]))
theorem FacL.sorted : ∀ {lo n : Nat} {l : List (Nat × Nat)}, FacL lo n l → (l.map Prod.fst).Pairwise (· < ·)
  | _, _, [], _ => List.Pairwise.nil
  | _, _, (p, e) :: r, ⟨_, _, _, m, _, h⟩ => by
    rw [List.map_cons, List.pairwise_cons]
    exact ⟨fun q hq => (h.gt q hq).1, h.sorted⟩
theorem FacL.pr {lo n : Nat} {l : List (Nat × Nat)} (h : FacL lo n l) : ∀ x ∈ l, Pr x.1 := fun x hx => (h.gt x.1 (List.mem_map_of_mem hx)).2
theorem FacL.e1 : ∀ {lo n : Nat} {l : List (Nat × Nat)}, FacL lo n l → ∀ x ∈ l, 1 ≤ x.2
  | _, _, [], _, x, hx => by cases hx
  | _, _, (p, e) :: r, ⟨_, _, he, m, _, h⟩, x, hx => by
    rcases List.mem_cons.1 hx with c | c
    · exact c ▸ he
    · exact h.e1 x c
theorem FacL.fresh {lo n : Nat} {l : List (Nat × Nat)} (h : FacL lo n l) {i p e : Nat} (hi : l[i]? = some (p, e)) : ¬ p ∣ prodL (l.take i) := fun hd => by
  have hil := (List.getElem?_eq_some_iff.1 hi).1
  have pe : l[i] = (p, e) := (List.getElem?_eq_some_iff.1 hi).2
  have pp : Pr p := by have := h.pr l[i] (List.getElem_mem hil); rwa [pe] at this
  have := prodL_dvd (l.take i) p pp (fun x hx => h.pr x (List.mem_of_mem_take hx)) hd
  rw [List.map_take] at this
  obtain ⟨j, hj, ej⟩ := List.mem_iff_getElem.1 this
  rw [List.length_take] at hj
  rw [List.getElem_take] at ej
  have s := List.pairwise_iff_getElem.1 h.sorted j i (by rw [List.length_map]; omega) (by rw [List.length_map]; omega) (by omega)
  rw [ej] at s
  simp only [List.getElem_map, pe] at s
  omega
def mulD (p e : Nat) (D : List Nat) : List Nat := (List.range (e + 1)).flatMap fun j => D.map (· * p ^ j)
theorem mulD_zero (p : Nat) (D : List Nat) : mulD p 0 D = D := by simp [mulD]
theorem mulD_succ (p e : Nat) (D : List Nat) : mulD p (e + 1) D = mulD p e D ++ D.map (· * p ^ (e + 1)) := by
  unfold mulD
  rw [List.range_succ, List.flatMap_append]
  simp
theorem mulD_len (p : Nat) (D : List Nat) : ∀ e, (mulD p e D).length = D.length * (e + 1)
  | 0 => by rw [mulD_zero]; omega
  | e + 1 => by rw [mulD_succ, List.length_append, mulD_len p D e, List.length_map]; grind
/-- all divisors of m, each once -/
structure AllD (m : Nat) (D : List Nat) : Prop where
  mem : ∀ d, d ∈ D ↔ d ∣ m
  nd : D.Nodup
theorem mul_pow_inj {p a b i j : Nat} (hp : 2 ≤ p) (ha : ¬ p ∣ a) (hb : ¬ p ∣ b) (h : a * p ^ i = b * p ^ j) : a = b ∧ i = j := by
  have := pow_uniq hp ha hb i j (by rw [Nat.mul_comm, h, Nat.mul_comm])
  exact ⟨this.2, this.1⟩
theorem AllD.mul {m p e : Nat} {D : List Nat} (h : AllD m D) (m1 : 1 ≤ m) (hp : Pr p) (hm : ¬ p ∣ m) : AllD (m * p ^ e) (mulD p e D) := by
  have nd : ∀ a ∈ D, ¬ p ∣ a := fun a ha hd => hm (Nat.dvd_trans hd ((h.mem a).1 ha))
  induction e with
  | zero => rw [mulD_zero, Nat.pow_zero, Nat.mul_one]; exact h
  | succ e ih =>
    rw [mulD_succ]
    constructor
    · intro d
      rw [List.mem_append, ih.mem, List.mem_map]
      constructor
      · rintro (c | ⟨a, ha, rfl⟩)
        · exact Nat.dvd_trans c (Nat.mul_dvd_mul_left m (Nat.pow_dvd_pow p (Nat.le_succ e)))
        · exact Nat.mul_dvd_mul ((h.mem a).1 ha) (Nat.dvd_refl _)
      · intro hd
        by_cases c : d ∣ m * p ^ e
        · exact Or.inl c
        · refine Or.inr ?_
          -- the whole power of p divides d
          have key : ∀ j, j ≤ e + 1 → p ^ j ∣ d := by
            intro j
            induction j with
            | zero => intro _; exact Nat.one_dvd _
            | succ j ihj =>
              intro hj
              obtain ⟨t, ht⟩ := ihj (by omega)
              by_cases pt : p ∣ t
              · obtain ⟨s, hs⟩ := pt
                exact ⟨s, by rw [ht, hs, Nat.pow_succ]; grind⟩
              · exfalso
                refine c ?_
                have ct : Nat.Coprime t (p ^ (e + 1)) := Nat.Coprime.pow_right _ (hp.cop pt).symm
                have tm : t ∣ m := ct.dvd_of_dvd_mul_right (Nat.dvd_trans ⟨p ^ j, by rw [ht, Nat.mul_comm]⟩ hd)
                rw [ht, Nat.mul_comm]
                exact Nat.mul_dvd_mul tm (Nat.pow_dvd_pow p (by omega))
          obtain ⟨a, ha⟩ := key (e + 1) (Nat.le_refl _)
          refine ⟨a, (h.mem a).2 ?_, by rw [ha, Nat.mul_comm]⟩
          rw [ha, Nat.mul_comm] at hd
          exact Nat.dvd_of_mul_dvd_mul_right (Nat.pow_pos (by have := hp.1; omega)) hd
    · rw [List.nodup_append]
      refine ⟨ih.nd, ?_, ?_⟩
      · refine List.Pairwise.map _ (fun a b hab hc => hab ?_) h.nd
        exact Nat.eq_of_mul_eq_mul_right (Nat.pow_pos (by have := hp.1; omega)) hc
      · intro x hx y hy e2
        subst e2
        obtain ⟨a, ha, rfl⟩ := List.mem_map.1 hy
        have hd := (ih.mem _).1 hx
        have : p ^ (e + 1) ∣ m * p ^ e := Nat.dvd_trans ⟨a, by rw [Nat.mul_comm]⟩ hd
        rw [Nat.pow_succ, Nat.mul_comm m] at this
        exact hm (Nat.dvd_of_mul_dvd_mul_left (Nat.pow_pos (by have := hp.1; omega)) this)
theorem AllD.one : AllD 1 [1] := ⟨fun d => by rw [List.mem_singleton, Nat.dvd_one], by simp⟩
def divL : List (Nat × Nat) → List Nat → List Nat
  | [], D => D
  | (p, e) :: r, D => divL r (mulD p e D)
theorem divL_snoc (p e : Nat) : ∀ l D, divL (l ++ [(p, e)]) D = mulD p e (divL l D)
  | [], D => rfl
  | (q, f) :: r, D => by simp only [List.cons_append, divL]; exact divL_snoc p e r _
theorem FacL.all {lo n : Nat} {l : List (Nat × Nat)} (h : FacL lo n l) : ∀ i, i ≤ l.length → AllD (prodL (l.take i)) (divL (l.take i) [1])
  | 0, _ => by simp only [List.take_zero, prodL, divL]; exact AllD.one
  | i + 1, hi => by
    have he : l[i]? = some l[i] := List.getElem?_eq_getElem (by omega)
    rw [List.take_add_one, he]
    simp only [Option.toList_some]
    generalize hx : l[i] = x at he
    obtain ⟨p, e⟩ := x
    rw [prodL_snoc, divL_snoc]
    have px : Pr p := by have := h.pr l[i] (List.getElem_mem (by omega)); rwa [hx] at this
    exact (h.all i (by omega)).mul (prodL_pos _ fun x hx => h.pr x (List.mem_of_mem_take hx)) px (h.fresh he)
theorem sq2 : ∀ e : Nat, (e + 1) * (e + 1) ≤ 3 * 2 ^ e
  | 0 => by decide
  | 1 => by decide
  | 2 => by decide
  | e + 3 => by
    have := sq2 (e + 2)
    rw [Nat.pow_succ]
    grind
theorem sq3 : ∀ e : Nat, (e + 1) * (e + 1) ≤ 2 * 3 ^ e
  | 0 => by decide
  | 1 => by decide
  | e + 2 => by
    have := sq3 (e + 1)
    rw [Nat.pow_succ]
    grind
theorem sq4 : ∀ e : Nat, (e + 1) * (e + 1) ≤ 4 ^ e
  | 0 => by decide
  | e + 1 => by
    have := sq4 e
    rw [Nat.pow_succ]
    grind
theorem divL_len : ∀ (l : List (Nat × Nat)) (D : List Nat), (divL l D).length = D.length * (divL l [1]).length
  | [], D => by simp [divL]
  | (p, e) :: r, D => by
    simp only [divL]
    rw [divL_len r (mulD p e D), divL_len r (mulD p e [1]), mulD_len, mulD_len]
    simp only [List.length_singleton]
    grind
theorem FacL.few : ∀ {lo n : Nat} {l : List (Nat × Nat)}, FacL lo n l → (divL l [1]).length * (divL l [1]).length ≤ (if lo < 2 then 6 else if lo < 3 then 2 else 1) * n
  | lo, n, [], h => by
    simp only [FacL] at h
    subst h
    simp only [divL, List.length_singleton]
    split <;> (try split) <;> omega
  | lo, n, (p, e) :: r, ⟨hl, hp, _, m, hm, h⟩ => by
    have ih := h.few
    have hlen : (divL ((p, e) :: r) [1]).length = (e + 1) * (divL r [1]).length := by
      simp only [divL]
      rw [divL_len r, mulD_len]
      simp
    rw [hlen, hm]
    generalize (divL r [1]).length = x at ih
    have p2 := hp.1
    have s2 := sq2 e
    have s3 := sq3 e
    have s4 := sq4 e
    have e1 : (e + 1) * x * ((e + 1) * x) = ((e + 1) * (e + 1)) * (x * x) := by grind
    rw [e1]
    have fin : ∀ K c d : Nat, (e + 1) * (e + 1) ≤ c * p ^ e → x * x ≤ d * m → c * d ≤ K → ((e + 1) * (e + 1)) * (x * x) ≤ K * (p ^ e * m) := fun K c d h1 h2 h3 => by
      refine Nat.le_trans (Nat.mul_le_mul h1 h2) ?_
      have : c * p ^ e * (d * m) = c * d * (p ^ e * m) := by grind
      rw [this]
      exact Nat.mul_le_mul_right _ h3
    by_cases c2 : p = 2
    · subst c2
      rw [if_neg (by decide), if_pos (by decide)] at ih
      rw [if_pos (by omega)]
      exact fin 6 3 2 s2 ih (by decide)
    · by_cases c3 : p = 3
      · subst c3
        rw [if_neg (by decide), if_neg (by decide)] at ih
        refine fin _ 2 1 s3 ih ?_
        split <;> (try split) <;> omega
      · rw [if_neg (by omega), if_neg (by omega)] at ih
        refine fin _ 1 1 ?_ ih ?_
        · rw [Nat.one_mul]
          exact Nat.le_trans s4 (Nat.pow_le_pow_left (by
            by_cases z : p = 4
            · exact absurd ((hp.2 2 ⟨2, by rw [z]⟩)) (by omega)
            · omega) e)
        · split <;> (try split) <;> omega
theorem FacL.pow_len : ∀ {lo n : Nat} {l : List (Nat × Nat)}, FacL lo n l → 2 ^ l.length ≤ n
  | _, n, [], h => by simp only [FacL] at h; subst h; decide
  | lo, n, (p, e) :: r, ⟨_, hp, he, m, hm, h⟩ => by
    have ih := h.pow_len
    have p2 : 2 ≤ p ^ e := Nat.le_trans hp.1 (Nat.le_of_dvd (Nat.pow_pos (by have := hp.1; omega)) (dvd_pow_self p he))
    have := Nat.mul_le_mul p2 ih
    rw [List.length_cons, Nat.pow_succ, hm, Nat.mul_comm]
    exact this
theorem FacL.short {lo n : Nat} {l : List (Nat × Nat)} (h : FacL lo n l) (nm : n ≤ 10000000000) : l.length ≤ 40 := by
  by_cases z : l.length ≤ 40
  · exact z
  · have h1 := Nat.pow_le_pow_right (n := 2) (by decide) (show 40 ≤ l.length by omega)
    have h2 := h.pow_len
    omega
theorem divL_app : ∀ (l r : List (Nat × Nat)) (D : List Nat), divL (l ++ r) D = divL r (divL l D)
  | [], _, _ => rfl
  | (p, e) :: l, r, D => by simp only [List.cons_append, divL]; exact divL_app l r _
theorem divL_pos : ∀ (l : List (Nat × Nat)), 0 < (divL l [1]).length
  | [] => by decide
  | (p, e) :: r => by
    simp only [divL]
    rw [divL_len, mulD_len]
    exact Nat.mul_pos (by simp) (divL_pos r)
theorem prodL_app : ∀ (l r : List (Nat × Nat)), prodL (l ++ r) = prodL l * prodL r
  | [], _ => by simp [prodL]
  | (p, e) :: l, r => by simp only [List.cons_append, prodL, prodL_app l r]; grind
theorem FacL.take_dvd {lo n : Nat} {l : List (Nat × Nat)} (h : FacL lo n l) (i : Nat) : prodL (l.take i) ∣ n := by
  refine ⟨prodL (l.drop i), ?_⟩
  rw [← prodL_app, List.take_append_drop]
  exact h.prod
theorem FacL.small {lo n : Nat} {l : List (Nat × Nat)} (h : FacL lo n l) {i p e : Nat} (hi : l[i]? = some (p, e)) : 2 ≤ p ∧ p ≤ n ∧ p ^ e ≤ n := by
  have hil := (List.getElem?_eq_some_iff.1 hi).1
  have pe : l[i] = (p, e) := (List.getElem?_eq_some_iff.1 hi).2
  have pp : Pr p := by have := h.pr l[i] (List.getElem_mem hil); rwa [pe] at this
  have e1 : 1 ≤ e := by have := h.e1 l[i] (List.getElem_mem hil); rwa [pe] at this
  have d := h.take_dvd (i + 1)
  rw [List.take_add_one, hi] at d
  simp only [Option.toList_some] at d
  rw [prodL_snoc] at d
  have d2 : p ^ e ∣ n := Nat.dvd_trans ⟨_, Nat.mul_comm _ _⟩ d
  exact ⟨pp.1, Nat.le_of_dvd h.pos (Nat.dvd_trans (dvd_pow_self p e1) d2), Nat.le_of_dvd h.pos d2⟩
end Co.Nt
namespace Co.Nt
/-- how many of 1 .. n hold -/
def cnt (f : Nat → Bool) (n : Nat) : Nat := (List.range n).countP fun i => f (i + 1)
theorem cnt_add (f : Nat → Bool) (a b : Nat) : cnt f (a + b) = cnt f a + cnt (fun k => f (a + k)) b := by
  unfold cnt
  rw [List.range_add, List.countP_append, List.countP_map]
  congr 1
theorem cnt_zero (f : Nat → Bool) : cnt f 0 = 0 := rfl
theorem cnt_congr {f g : Nat → Bool} {n : Nat} (h : ∀ k, 1 ≤ k → k ≤ n → f k = g k) : cnt f n = cnt g n := by
  unfold cnt
  refine List.countP_congr fun i hi => ?_
  rw [List.mem_range] at hi
  rw [h (i + 1) (by omega) (by omega)]
theorem cnt_succ (f : Nat → Bool) (n : Nat) : cnt f (n + 1) = cnt f n + (if f (n + 1) = true then 1 else 0) := by
  unfold cnt
  rw [List.range_succ, List.countP_append, List.countP_singleton]
/-- what comes again after m, p times -/
theorem cnt_per (f : Nat → Bool) (m : Nat) (h : ∀ k, f (m + k) = f k) : ∀ p, cnt f (m * p) = p * cnt f m
  | 0 => by rw [Nat.mul_zero, cnt_zero, Nat.zero_mul]
  | p + 1 => by
    rw [Nat.mul_succ, Nat.add_comm, cnt_add, cnt_congr (g := f) (fun k _ _ => h k), cnt_per f m h p]
    grind
/-- the multiples of p -/
theorem cnt_mul (g : Nat → Bool) (p : Nat) (hp : 1 ≤ p) : ∀ m, cnt (fun k => decide (p ∣ k) && g k) (p * m) = cnt (fun k => g (p * k)) m
  | 0 => by rw [Nat.mul_zero, cnt_zero, cnt_zero]
  | m + 1 => by
    rw [Nat.mul_succ, cnt_add, cnt_mul g p hp m, cnt_succ]
    congr 1
    obtain ⟨q, rfl⟩ : ∃ q, p = q + 1 := ⟨p - 1, by omega⟩
    rw [cnt_succ]
    have z : cnt (fun k => decide (q + 1 ∣ (q + 1) * m + k) && g ((q + 1) * m + k)) q = 0 := by
      unfold cnt
      rw [List.countP_eq_zero]
      intro i hi
      rw [List.mem_range] at hi
      (simp only [Bool.and_eq_true, decide_eq_true_eq])
      rintro ⟨hd, _⟩
      rw [Nat.dvd_add_right ⟨m, rfl⟩] at hd
      have := Nat.le_of_dvd (by omega) hd
      omega
    have d : q + 1 ∣ (q + 1) * m + (q + 1) := ⟨m + 1, by rw [Nat.mul_succ]⟩
    simp only [z, decide_eq_true d, Bool.true_and, Nat.zero_add, Nat.mul_succ]
/-- none of the primes divides k -/
def noneOf (S : List Nat) (k : Nat) : Bool := S.all fun p => !decide (p ∣ k)
theorem noneOf_snoc (S : List Nat) (p k : Nat) : noneOf (S ++ [p]) k = (noneOf S k && !decide (p ∣ k)) := by simp [noneOf]
theorem noneOf_per {S : List Nat} {m : Nat} (h : ∀ p ∈ S, p ∣ m) (k : Nat) : noneOf S (m + k) = noneOf S k := by
  unfold noneOf
  (rw [Bool.eq_iff_iff, List.all_eq_true, List.all_eq_true])
  constructor
  · intro a p hp
    have := a p hp
    rwa [decide_eq_decide.2 (Nat.dvd_add_right (h p hp))] at this
  · intro a p hp
    have := a p hp
    rwa [decide_eq_decide.2 (Nat.dvd_add_right (h p hp))]
theorem noneOf_mul {S : List Nat} {p : Nat} (hp : Pr p) (h : ∀ q ∈ S, Pr q ∧ q ≠ p) (k : Nat) : noneOf S (p * k) = noneOf S k := by
  unfold noneOf
  (rw [Bool.eq_iff_iff, List.all_eq_true, List.all_eq_true])
  have key : ∀ q ∈ S, (q ∣ p * k ↔ q ∣ k) := fun q hq => by
    constructor
    · intro hd
      rcases (h q hq).1.mul hd with c | c
      · exact absurd ((h q hq).1.eq hp c) (h q hq).2
      · exact c
    · exact fun hd => Nat.dvd_trans hd (Nat.dvd_mul_left _ _)
  constructor
  · intro a q hq
    have := a q hq
    rwa [decide_eq_decide.2 (key q hq)] at this
  · intro a q hq
    have := a q hq
    rwa [decide_eq_decide.2 (key q hq)]
theorem cnt_split (f g : Nat → Bool) (n : Nat) : cnt f n = cnt (fun k => g k && f k) n + cnt (fun k => f k && !g k) n := by
  induction n with
  | zero => simp [cnt_zero]
  | succ n ih =>
    rw [cnt_succ, cnt_succ, cnt_succ, ih]
    cases f (n + 1) <;> cases g (n + 1) <;> simp <;> omega
/-- one prime more -/
theorem cnt_prime {m p : Nat} {S : List Nat} (hp : Pr p) (hd : p ∣ m) (h : ∀ q ∈ S, Pr q ∧ q ≠ p ∧ q ∣ m) : cnt (noneOf (S ++ [p])) m = cnt (noneOf S) m / p * (p - 1) := by
  obtain ⟨t, rfl⟩ := hd
  have p2 := hp.1
  have ht : ∀ q ∈ S, q ∣ t := fun q hq => by
    rcases (h q hq).1.mul (h q hq).2.2 with c | c
    · exact absurd ((h q hq).1.eq hp c) (h q hq).2.1
    · exact c
  have e1 : cnt (noneOf S) (p * t) = p * cnt (noneOf S) t := by
    rw [Nat.mul_comm p t]
    exact cnt_per _ t (noneOf_per ht) p
  have e2 : cnt (fun k => decide (p ∣ k) && noneOf S k) (p * t) = cnt (noneOf S) t := by
    rw [cnt_mul _ p (by omega)]
    exact cnt_congr fun k _ _ => noneOf_mul hp (fun q hq => ⟨(h q hq).1, (h q hq).2.1⟩) k
  have e3 := cnt_split (noneOf S) (fun k => decide (p ∣ k)) (p * t)
  have e4 : cnt (noneOf (S ++ [p])) (p * t) = cnt (fun k => noneOf S k && !decide (p ∣ k)) (p * t) := cnt_congr fun k _ _ => noneOf_snoc S p k
  rw [e4, e1, Nat.mul_div_cancel_left _ (by omega)]
  rw [e1, e2] at e3
  obtain ⟨r, rfl⟩ : ∃ r, p = r + 1 := ⟨p - 1, by omega⟩
  rw [Nat.add_sub_cancel]
  grind
/-- how many of 1 .. n have no common divisor with n -/
def phi (n : Nat) : Nat := cnt (fun k => decide (Nat.gcd k n = 1)) n
theorem gcd_noneOf {lo n : Nat} {l : List (Nat × Nat)} (h : FacL lo n l) (k : Nat) : decide (Nat.gcd k n = 1) = noneOf (l.map Prod.fst) k := by
  have n1 := h.pos
  rw [noneOf, Bool.eq_iff_iff, decide_eq_true_eq, List.all_eq_true]
  constructor
  · intro g p hp
    have pr := (h.gt p hp).2
    (simp only [Bool.not_eq_true', decide_eq_false_iff_not])
    intro hd
    have := Nat.dvd_gcd hd ((h.dvd p pr).2 hp)
    rw [g] at this
    have := Nat.le_of_dvd (by decide) this
    have := pr.1
    omega
  · intro a
    by_cases c : Nat.gcd k n = 1
    · exact c
    · exfalso
      have g0 : 0 < Nat.gcd k n := Nat.gcd_pos_of_pos_right _ n1
      obtain ⟨p, hp⟩ := Lf.ex (Nat.gcd k n) (by omega)
      have d1 := Nat.dvd_trans hp.2.1 (Nat.gcd_dvd_left k n)
      have d2 := Nat.dvd_trans hp.2.1 (Nat.gcd_dvd_right k n)
      have := a p ((h.dvd p hp.pr).1 d2)
      simp only [Bool.not_eq_true', decide_eq_false_iff_not] at this
      exact this d1
theorem phi_eq {lo n : Nat} {l : List (Nat × Nat)} (h : FacL lo n l) : phi n = cnt (noneOf (l.map Prod.fst)) n := cnt_congr fun k _ _ => gcd_noneOf h k
/-- so far: the first primes alone -/
theorem phi_step {lo n : Nat} {l : List (Nat × Nat)} (h : FacL lo n l) {i : Nat} (hi : i < l.length) : cnt (noneOf ((l.map Prod.fst).take (i + 1))) n = cnt (noneOf ((l.map Prod.fst).take i)) n / (l[i]).1 * ((l[i]).1 - 1) := by
  have hm : (l.map Prod.fst)[i]? = some (l[i]).1 := by rw [List.getElem?_map, List.getElem?_eq_getElem hi]; rfl
  rw [List.take_add_one, hm]
  have inl : (l[i]).1 ∈ l.map Prod.fst := List.mem_map_of_mem (List.getElem_mem hi)
  refine cnt_prime (h.gt _ inl).2 ((h.dvd _ (h.gt _ inl).2).2 inl) fun q hq => ?_
  have q1 := List.mem_of_mem_take hq
  refine ⟨(h.gt q q1).2, ?_, (h.dvd q (h.gt q q1).2).2 q1⟩
  obtain ⟨j, hj, ej⟩ := List.mem_iff_getElem.1 hq
  rw [List.length_take] at hj
  rw [List.getElem_take] at ej
  have s := List.pairwise_iff_getElem.1 h.sorted j i (by rw [List.length_map]; omega) (by rw [List.length_map]; omega) (by omega)
  rw [ej, List.getElem_map] at s
  omega
theorem cnt_le (f : Nat → Bool) (n : Nat) : cnt f n ≤ n := by
  unfold cnt
  have := List.countP_le_length (p := fun i => f (i + 1)) (l := List.range n)
  rwa [List.length_range] at this
theorem cnt_nil (n : Nat) : cnt (noneOf []) n = n := by
  unfold cnt
  have : (List.range n).countP (fun i => noneOf [] (i + 1)) = (List.range n).length := List.countP_eq_length.2 fun _ _ => rfl
  rw [this, List.length_range]
end Co.Nt
namespace Co.G
open PySem
def tb : Tb where
  fns := ["is_count", "power", "check_factored", "least_factor", "is_prime", "factors", "primes_of", "divisors", "unit_count", "made_of", "least_maker", "split_of", "_law_tape", "_law_draw", "_law_pick", "_law_same", "_law_common", "_law_parts", "_law_walk", "_law_refused", "law"]
  excs := ["VerseError", "BadNumber", "BadSize"]
  cons := [("MOST_FACTORED", (.int 10000000000))]
  blts := ["abs", "all", "any", "bool", "int", "isinstance", "len", "list", "max", "min", "range", "sorted", "str", "tuple"]
abbrev topS (i : Nat) : Stmt := PySem.Challenge.pw_spiralverses_k01_factors_and_divisors.main.body.getD i (.Pass ⟨0, 0, 0, 0⟩)
/-- is_count -/
def b_is_count : Ss := (.cons (.ret (.and (.isi (.v 0) [.int] false) (.and (.not (.isi (.v 0) [.bool] false)) (.cmp .ge (.v 0) (.k (.int 0))))))
  .nil)
def d_is_count : Fd := ⟨"is_count", ["value"], ["value"], b_is_count⟩
abbrev I_is_count : Nat := 0
/-- power -/
def b_power : Ss := (.cons (.asg (.tp (.cons (.nm 3) (.cons (.nm 4) .nil))) (.tup (.cons (.bin .mod (.k (.int 1)) (.v 2)) (.cons (.bin .mod (.v 0) (.v 2)) .nil))))
  (.cons (.whl (.e (.cmp .gt (.v 1) (.k (.int 0)))) (.cons (.ife (.e (.cmp .eq (.bin .mod (.v 1) (.k (.int 2))) (.k (.int 1)))) (.cons (.asg (.nm 3) (.bin .mod (.bin .mul (.v 3) (.v 4)) (.v 2)))
  .nil) .nil)
  (.cons (.asg (.tp (.cons (.nm 4) (.cons (.nm 1) .nil))) (.tup (.cons (.bin .mod (.bin .mul (.v 4) (.v 4)) (.v 2)) (.cons (.bin .fdiv (.v 1) (.k (.int 2))) .nil))))
  .nil)))
  (.cons (.ret (.v 3))
  .nil)))
def d_power : Fd := ⟨"power", ["base", "count", "size"], ["base", "count", "size", "found", "factor"], b_power⟩
abbrev I_power : Nat := 1
/-- check_factored -/
def b_check_factored : Ss := (.cons (.ife (.or (.not (.e (.call 0 (.cons (.v 0) .nil)))) (.e (.cmp .lt (.v 0) (.k (.int 1))))) (.cons (.rai 1)
  .nil) .nil)
  (.cons (.ife (.e (.cmp .gt (.v 0) (.k (.int 10000000000)))) (.cons (.rai 2)
  .nil) .nil)
  .nil))
def d_check_factored : Fd := ⟨"check_factored", ["number"], ["number"], b_check_factored⟩
abbrev I_check_factored : Nat := 2
/-- least_factor -/
def b_least_factor : Ss := (.cons (.ex (.call 2 (.cons (.v 0) .nil)))
  (.cons (.ife (.e (.cmp .lt (.v 0) (.k (.int 2)))) (.cons (.rai 1)
  .nil) .nil)
  (.cons (.for (.seq (.tup (.cons (.k (.int 2)) (.cons (.k (.int 3)) .nil)))) (.nm 1) (.cons (.ife (.e (.cmp .eq (.bin .mod (.v 0) (.v 1)) (.k (.int 0)))) (.cons (.ret (.v 1))
  .nil) .nil)
  .nil))
  (.cons (.asg (.nm 2) (.k (.int 5)))
  (.cons (.whl (.e (.cmp .le (.bin .mul (.v 2) (.v 2)) (.v 0))) (.cons (.ife (.e (.cmp .eq (.bin .mod (.v 0) (.v 2)) (.k (.int 0)))) (.cons (.ret (.v 2))
  .nil) .nil)
  (.cons (.ife (.e (.cmp .eq (.bin .mod (.v 0) (.bin .add (.v 2) (.k (.int 2)))) (.k (.int 0)))) (.cons (.ret (.bin .add (.v 2) (.k (.int 2))))
  .nil) .nil)
  (.cons (.aug 2 .add (.k (.int 6)))
  .nil))))
  (.cons (.ret (.v 0))
  .nil))))))
def d_least_factor : Fd := ⟨"least_factor", ["number"], ["number", "small", "step"], b_least_factor⟩
abbrev I_least_factor : Nat := 3
/-- is_prime -/
def b_is_prime : Ss := (.cons (.ife (.or (.not (.e (.call 0 (.cons (.v 0) .nil)))) (.e (.cmp .lt (.v 0) (.k (.int 2))))) (.cons (.ret (.k (.bl false)))
  .nil) .nil)
  (.cons (.ret (.cmp .eq (.call 3 (.cons (.v 0) .nil)) (.v 0)))
  .nil))
def d_is_prime : Fd := ⟨"is_prime", ["number"], ["number"], b_is_prime⟩
abbrev I_is_prime : Nat := 4
/-- factors -/
def b_factors : Ss := (.cons (.ex (.call 2 (.cons (.v 0) .nil)))
  (.cons (.asg (.nm 1) (.lst .nil))
  (.cons (.whl (.e (.cmp .gt (.v 0) (.k (.int 1)))) (.cons (.asg (.tp (.cons (.nm 2) (.cons (.nm 3) .nil))) (.tup (.cons (.call 3 (.cons (.v 0) .nil)) (.cons (.k (.int 0)) .nil))))
  (.cons (.whl (.e (.cmp .eq (.bin .mod (.v 0) (.v 2)) (.k (.int 0)))) (.cons (.asg (.tp (.cons (.nm 0) (.cons (.nm 3) .nil))) (.tup (.cons (.bin .fdiv (.v 0) (.v 2)) (.cons (.bin .add (.v 3) (.k (.int 1))) .nil))))
  .nil))
  (.cons (.ex (.mth .append (.v 1) (.cons (.tup (.cons (.v 2) (.cons (.v 3) .nil))) .nil)))
  .nil))))
  (.cons (.ret (.blt .tuple (.cons (.v 1) .nil)))
  .nil))))
def d_factors : Fd := ⟨"factors", ["number"], ["number", "found", "prime", "often"], b_factors⟩
abbrev I_factors : Nat := 5
/-- primes_of -/
def b_primes_of : Ss := (.cons (.ret (.blt .tuple (.cons (.cpr (.seq (.call 5 (.cons (.v 0) .nil))) (.tp (.cons (.nm 1) (.cons (.nm 2) .nil))) .yes (.v 1) [1, 2]) .nil)))
  .nil)
def d_primes_of : Fd := ⟨"primes_of", ["number"], ["number", "prime", "often"], b_primes_of⟩
abbrev I_primes_of : Nat := 6
/-- divisors -/
def b_divisors : Ss := (.cons (.asg (.nm 1) (.lst (.cons (.k (.int 1)) .nil)))
  (.cons (.for (.seq (.call 5 (.cons (.v 0) .nil))) (.tp (.cons (.nm 2) (.cons (.nm 3) .nil))) (.cons (.asg (.nm 4) (.v 1))
  (.cons (.for (.rng1 (.v 3)) (.nm 5) (.cons (.asg (.nm 4) (.cpr (.seq (.v 4)) (.nm 6) .yes (.bin .mul (.v 6) (.v 2)) [6]))
  (.cons (.asg (.nm 1) (.bin .add (.v 1) (.v 4)))
  .nil)))
  .nil)))
  (.cons (.ret (.blt .tuple (.cons (.blt .sorted (.cons (.v 1) .nil)) .nil)))
  .nil)))
def d_divisors : Fd := ⟨"divisors", ["number"], ["number", "found", "prime", "often", "rows", "turn", "item"], b_divisors⟩
abbrev I_divisors : Nat := 7
/-- unit_count -/
def b_unit_count : Ss := (.cons (.asg (.nm 1) (.v 0))
  (.cons (.for (.seq (.call 6 (.cons (.v 0) .nil))) (.nm 2) (.cons (.asg (.nm 1) (.bin .mul (.bin .fdiv (.v 1) (.v 2)) (.bin .sub (.v 2) (.k (.int 1)))))
  .nil))
  (.cons (.ret (.v 1))
  .nil)))
def d_unit_count : Fd := ⟨"unit_count", ["number"], ["number", "found", "prime"], b_unit_count⟩
abbrev I_unit_count : Nat := 8
/-- made_of -/
def b_made_of : Ss := (.cons (.asg (.nm 2) (.v 0))
  (.cons (.for (.seq (.v 1)) (.nm 3) (.cons (.ife (.or (.not (.e (.call 0 (.cons (.v 3) .nil)))) (.or (.e (.cmp .lt (.v 3) (.k (.int 2)))) (.e (.cmp .ne (.bin .mod (.v 0) (.v 3)) (.k (.int 0)))))) (.cons (.ret (.k (.bl false)))
  .nil) .nil)
  (.cons (.whl (.e (.cmp .eq (.bin .mod (.v 2) (.v 3)) (.k (.int 0)))) (.cons (.asg (.nm 2) (.bin .fdiv (.v 2) (.v 3)))
  .nil))
  .nil)))
  (.cons (.ret (.cmp .eq (.v 2) (.k (.int 1))))
  .nil)))
def d_made_of : Fd := ⟨"made_of", ["number", "primes"], ["number", "primes", "rest", "prime"], b_made_of⟩
abbrev I_made_of : Nat := 9
/-- least_maker -/
def b_least_maker : Ss := (.cons (.asg (.nm 1) (.call 6 (.cons (.bin .sub (.v 0) (.k (.int 1))) .nil)))
  (.cons (.asg (.nm 2) (.k (.int 1)))
  (.cons (.whl (.or (.e (.blt .any (.cons (.cpr (.seq (.v 1)) (.nm 3) .yes (.cmp .eq (.call 1 (.cons (.v 2) (.cons (.bin .fdiv (.bin .sub (.v 0) (.k (.int 1))) (.v 3)) (.cons (.v 0) .nil)))) (.k (.int 1))) [3]) .nil))) (.e (.cmp .eq (.bin .mod (.v 2) (.v 0)) (.k (.int 0))))) (.cons (.aug 2 .add (.k (.int 1)))
  .nil))
  (.cons (.ret (.v 2))
  .nil))))
def d_least_maker : Fd := ⟨"least_maker", ["prime"], ["prime", "parts", "number", "part"], b_least_maker⟩
abbrev I_least_maker : Nat := 10
/-- split_of -/
def b_split_of : Ss := (.cons (.ex (.call 2 (.cons (.v 0) .nil)))
  (.cons (.ife (.or (.e (.cmp .lt (.v 0) (.k (.int 2)))) (.e (.cmp .eq (.call 3 (.cons (.v 0) .nil)) (.v 0)))) (.cons (.ret (.k .non))
  .nil) .nil)
  (.cons (.ret (.tup (.cons (.call 3 (.cons (.v 0) .nil)) (.cons (.bin .fdiv (.v 0) (.call 3 (.cons (.v 0) .nil))) .nil))))
  .nil)))
def d_split_of : Fd := ⟨"split_of", ["number"], ["number"], b_split_of⟩
abbrev I_split_of : Nat := 11
/-- _law_tape -/
def b__law_tape : Ss := (.cons (.asg (.nm 1) (.k (.int 7)))
  (.cons (.for (.seq (.v 0)) (.nm 2) (.cons (.asg (.nm 1) (.bin .mod (.blt .int (.cons (.bin .add (.bin .mul (.v 1) (.k (.int 31))) (.v 2)) .nil)) (.k (.int 1000003))))
  .nil))
  (.cons (.ret (.lst (.cons (.cpr (.seq (.v 0)) (.nm 2) .yes (.blt .abs (.cons (.blt .int (.cons (.v 2) .nil)) .nil)) [2]) (.cons (.bin .add (.v 1) (.k (.int 1))) .nil))))
  .nil)))
def d__law_tape : Fd := ⟨"_law_tape", ["script"], ["script", "seed", "cell"], b__law_tape⟩
abbrev I__law_tape : Nat := 12
/-- _law_draw -/
def b__law_draw : Ss := (.cons (.asg (.nm 2) (.ix (.v 0) (.k (.int 0))))
  (.cons (.whl (.and (.e (.cmp .gt (.blt .len (.cons (.v 2) .nil)) (.k (.int 0)))) (.e (.cmp .eq (.ix (.v 2) (.k (.int 0))) (.k (.int 0))))) (.cons (.ex (.mth .popAt (.v 2) (.cons (.k (.int 0)) .nil)))
  .nil))
  (.cons (.ife (.e (.cmp .gt (.blt .len (.cons (.v 2) .nil)) (.k (.int 0)))) (.cons (.asg (.nm 3) (.ix (.v 2) (.k (.int 0))))
  (.cons (.asg (.sub (.v 2) (.k (.int 0))) (.bin .fdiv (.v 3) (.v 1)))
  (.cons (.ret (.bin .mod (.blt .int (.cons (.v 3) .nil)) (.v 1)))
  .nil))) .nil)
  (.cons (.asg (.sub (.v 0) (.k (.int 1))) (.bin .mod (.blt .int (.cons (.bin .add (.bin .mul (.ix (.v 0) (.k (.int 1))) (.k (.int 48271))) (.k (.int 12345))) .nil)) (.k (.int 2147483647))))
  (.cons (.ret (.bin .mod (.blt .int (.cons (.bin .fdiv (.ix (.v 0) (.k (.int 1))) (.k (.int 64))) .nil)) (.v 1)))
  .nil)))))
def d__law_draw : Fd := ⟨"_law_draw", ["tape", "many"], ["tape", "many", "cells", "number"], b__law_draw⟩
abbrev I__law_draw : Nat := 13
/-- _law_pick -/
def b__law_pick : Ss := (.cons (.ret (.ix (.v 1) (.call 13 (.cons (.v 0) (.cons (.blt .len (.cons (.v 1) .nil)) .nil)))))
  .nil)
def d__law_pick : Fd := ⟨"_law_pick", ["tape", "choices"], ["tape", "choices"], b__law_pick⟩
abbrev I__law_pick : Nat := 14
/-- _law_same -/
def b__law_same : Ss := (.cons (.ife (.e (.cmp .is (.v 1) (.k .non))) (.cons (.ret (.cmp .is (.v 0) (.k .non)))
  .nil) .nil)
  (.cons (.ife (.e (.isi (.v 1) [.bool] false)) (.cons (.ret (.and (.isi (.v 0) [.bool] false) (.cmp .eq (.v 0) (.v 1))))
  .nil) .nil)
  (.cons (.ife (.e (.isi (.v 1) [.tuple, .list] true)) (.cons (.ife (.or (.e (.cmp .ne (.isi (.v 1) [.tuple] false) (.isi (.v 0) [.tuple] false))) (.e (.cmp .ne (.isi (.v 1) [.list] false) (.isi (.v 0) [.list] false)))) (.cons (.ret (.k (.bl false)))
  .nil) .nil)
  (.cons (.ret (.and (.cmp .eq (.blt .len (.cons (.v 0) .nil)) (.blt .len (.cons (.v 1) .nil))) (.blt .all (.cons (.cpr (.rng1 (.blt .len (.cons (.v 1) .nil))) (.nm 2) .yes (.call 15 (.cons (.ix (.v 0) (.v 2)) (.cons (.ix (.v 1) (.v 2)) .nil))) [2]) .nil))))
  .nil)) .nil)
  (.cons (.ife (.e (.isi (.v 1) [.str] false)) (.cons (.ret (.and (.isi (.v 0) [.str] false) (.cmp .eq (.v 0) (.v 1))))
  .nil) .nil)
  (.cons (.ret (.and (.isi (.v 0) [.int] false) (.and (.not (.isi (.v 0) [.bool] false)) (.cmp .eq (.v 0) (.v 1)))))
  .nil)))))
def d__law_same : Fd := ⟨"_law_same", ["actual", "due"], ["actual", "due", "k"], b__law_same⟩
abbrev I__law_same : Nat := 15
/-- _law_common -/
def b__law_common : Ss := (.cons (.asg (.tp (.cons (.nm 0) (.cons (.nm 1) .nil))) (.tup (.cons (.blt .abs (.cons (.v 0) .nil)) (.cons (.blt .abs (.cons (.v 1) .nil)) .nil))))
  (.cons (.whl (.e (.cmp .ne (.v 1) (.k (.int 0)))) (.cons (.asg (.tp (.cons (.nm 0) (.cons (.nm 1) .nil))) (.tup (.cons (.v 1) (.cons (.bin .mod (.v 0) (.v 1)) .nil))))
  .nil))
  (.cons (.ret (.v 0))
  .nil)))
def d__law_common : Fd := ⟨"_law_common", ["one", "other"], ["one", "other"], b__law_common⟩
abbrev I__law_common : Nat := 16
/-- _law_parts -/
def b__law_parts : Ss := (.cons (.asg (.tp (.cons (.nm 1) (.cons (.nm 2) .nil))) (.tup (.cons (.lst .nil) (.cons (.k (.int 2)) .nil))))
  (.cons (.whl (.e (.cmp .le (.bin .mul (.v 2) (.v 2)) (.v 0))) (.cons (.asg (.nm 3) (.k (.int 0)))
  (.cons (.whl (.e (.cmp .eq (.bin .mod (.v 0) (.v 2)) (.k (.int 0)))) (.cons (.asg (.tp (.cons (.nm 0) (.cons (.nm 3) .nil))) (.tup (.cons (.bin .fdiv (.v 0) (.v 2)) (.cons (.bin .add (.v 3) (.k (.int 1))) .nil))))
  .nil))
  (.cons (.ife (.e (.cmp .gt (.v 3) (.k (.int 0)))) (.cons (.ex (.mth .append (.v 1) (.cons (.tup (.cons (.v 2) (.cons (.v 3) .nil))) .nil)))
  .nil) .nil)
  (.cons (.asg (.nm 2) (.bin .add (.v 2) (.k (.int 1))))
  .nil)))))
  (.cons (.ret (.bin .add (.v 1) (.ite (.e (.cmp .gt (.v 0) (.k (.int 1)))) (.lst (.cons (.tup (.cons (.v 0) (.cons (.k (.int 1)) .nil))) .nil)) (.lst .nil))))
  .nil)))
def d__law_parts : Fd := ⟨"_law_parts", ["number"], ["number", "found", "small", "often"], b__law_parts⟩
abbrev I__law_parts : Nat := 17
/-- _law_walk -/
def b__law_walk : Ss := (.cons (.asg (.tp (.cons (.nm 3) (.cons (.nm 4) .nil))) (.tup (.cons (.bin .mod (.v 0) (.v 1)) (.cons (.k (.int 1)) .nil))))
  (.cons (.whl (.and (.e (.cmp .ne (.v 3) (.bin .mod (.k (.int 1)) (.v 1)))) (.not (.and (.e (.v 2)) (.e (.cmp .eq (.v 3) (.bin .mod (.neg (.k (.int 1))) (.v 1))))))) (.cons (.asg (.tp (.cons (.nm 3) (.cons (.nm 4) .nil))) (.tup (.cons (.bin .mod (.bin .mul (.v 3) (.v 0)) (.v 1)) (.cons (.bin .add (.v 4) (.k (.int 1))) .nil))))
  .nil))
  (.cons (.ret (.v 4))
  .nil)))
def d__law_walk : Fd := ⟨"_law_walk", ["number", "size", "folded"], ["number", "size", "folded", "rest", "count"], b__law_walk⟩
abbrev I__law_walk : Nat := 18
/-- _law_refused -/
def b__law_refused : Ss := (.cons (.try (.cons (.asg (.nm 1) (.call 5 (.cons (.v 0) .nil)))
  .nil) [(1, .ret (.str "number")), (2, .ret (.str "size"))])
  (.cons (.ret (.tup (.cons (.k (.str "told")) (.cons (.v 1) .nil))))
  .nil))
def d__law_refused : Fd := ⟨"_law_refused", ["value"], ["value", "told"], b__law_refused⟩
abbrev I__law_refused : Nat := 19
/-- law -/
def b_law : Ss := (.cons (.asg (.nm 1) (.call 12 (.cons (.v 0) .nil)))
  (.cons (.asg (.nm 2) (.bin .add (.k (.int 1)) (.call 13 (.cons (.v 1) (.cons (.k (.int 6000)) .nil)))))
  (.cons (.ife (.e (.cmp .eq (.call 13 (.cons (.v 1) (.cons (.k (.int 3)) .nil))) (.k (.int 0)))) (.cons (.asg (.nm 2) (.k (.int 1)))
  (.cons (.for (.rng1 (.bin .add (.k (.int 1)) (.call 13 (.cons (.v 1) (.cons (.k (.int 4)) .nil))))) (.nm 3) (.cons (.asg (.nm 2) (.bin .mul (.v 2) (.call 14 (.cons (.v 1) (.cons (.lst (.cons (.k (.int 2)) (.cons (.k (.int 2)) (.cons (.k (.int 3)) (.cons (.k (.int 3)) (.cons (.k (.int 5)) (.cons (.k (.int 7)) (.cons (.k (.int 11)) (.cons (.k (.int 13)) .nil))))))))) .nil)))))
  .nil))
  .nil)) .nil)
  (.cons (.asg (.nm 4) (.call 17 (.cons (.v 2) .nil)))
  (.cons (.ife (.or (.not (.e (.call 15 (.cons (.call 5 (.cons (.v 2) .nil)) (.cons (.blt .tuple (.cons (.v 4) .nil)) .nil))))) (.not (.e (.call 15 (.cons (.call 6 (.cons (.v 2) .nil)) (.cons (.blt .tuple (.cons (.cpr (.seq (.v 4)) (.tp (.cons (.nm 8) (.cons (.nm 14) .nil))) .yes (.v 8) [8, 14]) .nil)) .nil)))))) (.cons (.ret (.k (.bl false)))
  .nil) .nil)
  (.cons (.ife (.not (.e (.call 15 (.cons (.call 7 (.cons (.v 2) .nil)) (.cons (.blt .tuple (.cons (.cpr (.rng2 (.k (.int 1)) (.bin .add (.v 2) (.k (.int 1)))) (.nm 15) (.e (.cmp .eq (.bin .mod (.v 2) (.v 15)) (.k (.int 0)))) (.v 15) [15]) .nil)) .nil))))) (.cons (.ret (.k (.bl false)))
  .nil) .nil)
  (.cons (.ife (.not (.e (.call 15 (.cons (.call 8 (.cons (.v 2) .nil)) (.cons (.blt .len (.cons (.cpr (.rng2 (.k (.int 1)) (.bin .add (.v 2) (.k (.int 1)))) (.nm 15) (.e (.cmp .eq (.call 16 (.cons (.v 15) (.cons (.v 2) .nil))) (.k (.int 1)))) (.v 15) [15]) .nil)) .nil))))) (.cons (.ret (.k (.bl false)))
  .nil) .nil)
  (.cons (.ife (.or (.not (.e (.call 15 (.cons (.call 4 (.cons (.v 2) .nil)) (.cons (.cmp .eq (.v 4) (.lst (.cons (.tup (.cons (.v 2) (.cons (.k (.int 1)) .nil))) .nil))) .nil))))) (.and (.e (.cmp .gt (.v 2) (.k (.int 1)))) (.not (.e (.call 15 (.cons (.call 3 (.cons (.v 2) .nil)) (.cons (.ix (.ix (.v 4) (.k (.int 0))) (.k (.int 0))) .nil))))))) (.cons (.ret (.k (.bl false)))
  .nil) .nil)
  (.cons (.ife (.not (.e (.call 15 (.cons (.call 11 (.cons (.v 2) .nil)) (.cons (.ite (.or (.e (.cmp .eq (.v 2) (.k (.int 1)))) (.e (.cmp .eq (.v 4) (.lst (.cons (.tup (.cons (.v 2) (.cons (.k (.int 1)) .nil))) .nil))))) (.k .non) (.tup (.cons (.ix (.ix (.v 4) (.k (.int 0))) (.k (.int 0))) (.cons (.bin .fdiv (.v 2) (.ix (.ix (.v 4) (.k (.int 0))) (.k (.int 0)))) .nil)))) .nil))))) (.cons (.ret (.k (.bl false)))
  .nil) .nil)
  (.cons (.asg (.nm 5) (.cpr (.seq (.v 4)) (.tp (.cons (.nm 8) (.cons (.nm 14) .nil))) .yes (.v 8) [8, 14]))
  (.cons (.asg (.nm 6) (.ite (.e (.cmp .eq (.call 13 (.cons (.v 1) (.cons (.k (.int 2)) .nil))) (.k (.int 0)))) (.sl (.v 5) .none (.some (.neg (.k (.int 1))))) (.bin .add (.v 5) (.lst (.cons (.call 14 (.cons (.v 1) (.cons (.lst (.cons (.k (.int 2)) (.cons (.k (.int 3)) (.cons (.k (.int 17)) (.cons (.k (.int 1)) (.cons (.v 2) .nil)))))) .nil))) .nil)))))
  (.cons (.asg (.nm 7) (.v 2))
  (.cons (.for (.seq (.v 6)) (.nm 8) (.cons (.whl (.and (.e (.cmp .gt (.v 8) (.k (.int 1)))) (.e (.cmp .eq (.bin .mod (.v 7) (.v 8)) (.k (.int 0))))) (.cons (.asg (.nm 7) (.bin .fdiv (.v 7) (.v 8)))
  .nil))
  .nil))
  (.cons (.asg (.nm 9) (.and (.cmp .eq (.v 7) (.k (.int 1))) (.blt .all (.cons (.cpr (.seq (.v 6)) (.nm 8) .yes (.and (.cmp .gt (.v 8) (.k (.int 1))) (.cmp .eq (.bin .mod (.v 2) (.v 8)) (.k (.int 0)))) [8]) .nil))))
  (.cons (.ife (.or (.not (.e (.call 15 (.cons (.call 9 (.cons (.v 2) (.cons (.blt .tuple (.cons (.v 5) .nil)) .nil))) (.cons (.k (.bl true)) .nil))))) (.not (.e (.call 15 (.cons (.call 9 (.cons (.v 2) (.cons (.blt .tuple (.cons (.v 6) .nil)) .nil))) (.cons (.v 9) .nil)))))) (.cons (.ret (.k (.bl false)))
  .nil) .nil)
  (.cons (.asg (.nm 8) (.call 14 (.cons (.v 1) (.cons (.lst (.cons (.k (.int 2)) (.cons (.k (.int 3)) (.cons (.k (.int 5)) (.cons (.k (.int 7)) (.cons (.k (.int 23)) (.cons (.k (.int 41)) (.cons (.k (.int 71)) (.cons (.k (.int 101)) (.cons (.k (.int 191)) (.cons (.k (.int 313)) .nil))))))))))) .nil))))
  (.cons (.asg (.nm 10) (.cpr (.rng2 (.k (.int 1)) (.bin .add (.v 8) (.k (.int 1)))) (.nm 16) (.and (.e (.cmp .ne (.bin .mod (.v 16) (.v 8)) (.k (.int 0)))) (.e (.cmp .eq (.call 18 (.cons (.v 16) (.cons (.v 8) (.cons (.k (.bl false)) .nil)))) (.bin .sub (.v 8) (.k (.int 1)))))) (.v 16) [16]))
  (.cons (.ife (.not (.e (.call 15 (.cons (.call 10 (.cons (.v 8) .nil)) (.cons (.ix (.v 10) (.k (.int 0))) .nil))))) (.cons (.ret (.k (.bl false)))
  .nil) .nil)
  (.cons (.asg (.tp (.cons (.nm 11) (.cons (.nm 12) .nil))) (.tup (.cons (.call 14 (.cons (.v 1) (.cons (.lst (.cons (.k (.int 99991)) (.cons (.k (.int 90001)) (.cons (.k (.int 65537)) .nil)))) .nil))) (.cons (.call 14 (.cons (.v 1) (.cons (.lst (.cons (.k (.int 99989)) (.cons (.k (.int 99971)) (.cons (.k (.int 99961)) .nil)))) .nil))) .nil))))
  (.cons (.ife (.or (.not (.e (.call 15 (.cons (.call 5 (.cons (.bin .mul (.v 11) (.v 12)) .nil)) (.cons (.tup (.cons (.tup (.cons (.blt .min2 (.cons (.v 11) (.cons (.v 12) .nil))) (.cons (.k (.int 1)) .nil))) (.cons (.tup (.cons (.blt .max2 (.cons (.v 11) (.cons (.v 12) .nil))) (.cons (.k (.int 1)) .nil))) .nil))) .nil))))) (.not (.e (.call 15 (.cons (.call 4 (.cons (.bin .mul (.v 11) (.v 12)) .nil)) (.cons (.k (.bl false)) .nil)))))) (.cons (.ret (.k (.bl false)))
  .nil) .nil)
  (.cons (.asg (.nm 13) (.lst (.cons (.call 19 (.cons (.k (.int 0)) .nil)) (.cons (.call 19 (.cons (.neg (.k (.int 3))) .nil)) (.cons (.call 19 (.cons (.k (.bl true)) .nil)) (.cons (.call 19 (.cons (.k .non) .nil)) (.cons (.call 19 (.cons (.bin .add (.bin .pow (.k (.int 10)) (.k (.int 10))) (.k (.int 1))) .nil)) .nil)))))))
  (.cons (.ret (.and (.call 15 (.cons (.v 13) (.cons (.bin .add (.bin .mul (.lst (.cons (.k (.str "number")) .nil)) (.k (.int 4))) (.lst (.cons (.k (.str "size")) .nil))) .nil))) (.call 15 (.cons (.lst (.cons (.call 4 (.cons (.k (.int 1)) .nil)) (.cons (.call 4 (.cons (.k .non) .nil)) (.cons (.call 5 (.cons (.k (.int 1)) .nil)) (.cons (.call 7 (.cons (.k (.int 1)) .nil)) .nil))))) (.cons (.lst (.cons (.k (.bl false)) (.cons (.k (.bl false)) (.cons (.tup .nil) (.cons (.tup (.cons (.k (.int 1)) .nil)) .nil))))) .nil)))))
  .nil))))))))))))))))))))))
def d_law : Fd := ⟨"law", ["script"], ["script", "tape", "number", "turn", "due", "primes", "bent", "rest", "prime", "right", "makers", "one", "other", "wrong", "often", "k", "g"], b_law⟩
abbrev I_law : Nat := 20
def fds : List Fd := [d_is_count, d_power, d_check_factored, d_least_factor, d_is_prime, d_factors, d_primes_of, d_divisors, d_unit_count, d_made_of, d_least_maker, d_split_of, d__law_tape, d__law_draw, d__law_pick, d__law_same, d__law_common, d__law_parts, d__law_walk, d__law_refused, d_law]
theorem s_is_count : DefS tb d_is_count (topS 5) := ⟨by decide +kernel, by kernel_rfl, fun _ _ _ _ _ _ us hl => match us, hl with | [_], _ => rfl⟩
theorem s_power : DefS tb d_power (topS 6) := ⟨by decide +kernel, by kernel_rfl, fun _ _ _ _ _ _ us hl => match us, hl with | [_, _, _], _ => rfl⟩
theorem s_check_factored : DefS tb d_check_factored (topS 9) := ⟨by decide +kernel, by kernel_rfl, fun _ _ _ _ _ _ us hl => match us, hl with | [_], _ => rfl⟩
theorem s_least_factor : DefS tb d_least_factor (topS 10) := ⟨by decide +kernel, by kernel_rfl, fun _ _ _ _ _ _ us hl => match us, hl with | [_], _ => rfl⟩
theorem s_is_prime : DefS tb d_is_prime (topS 11) := ⟨by decide +kernel, by kernel_rfl, fun _ _ _ _ _ _ us hl => match us, hl with | [_], _ => rfl⟩
theorem s_factors : DefS tb d_factors (topS 12) := ⟨by decide +kernel, by kernel_rfl, fun _ _ _ _ _ _ us hl => match us, hl with | [_], _ => rfl⟩
theorem s_primes_of : DefS tb d_primes_of (topS 13) := ⟨by decide +kernel, by kernel_rfl, fun _ _ _ _ _ _ us hl => match us, hl with | [_], _ => rfl⟩
theorem s_divisors : DefS tb d_divisors (topS 14) := ⟨by decide +kernel, by kernel_rfl, fun _ _ _ _ _ _ us hl => match us, hl with | [_], _ => rfl⟩
theorem s_unit_count : DefS tb d_unit_count (topS 15) := ⟨by decide +kernel, by kernel_rfl, fun _ _ _ _ _ _ us hl => match us, hl with | [_], _ => rfl⟩
theorem s_made_of : DefS tb d_made_of (topS 16) := ⟨by decide +kernel, by kernel_rfl, fun _ _ _ _ _ _ us hl => match us, hl with | [_, _], _ => rfl⟩
theorem s_least_maker : DefS tb d_least_maker (topS 17) := ⟨by decide +kernel, by kernel_rfl, fun _ _ _ _ _ _ us hl => match us, hl with | [_], _ => rfl⟩
theorem s_split_of : DefS tb d_split_of (topS 18) := ⟨by decide +kernel, by kernel_rfl, fun _ _ _ _ _ _ us hl => match us, hl with | [_], _ => rfl⟩
theorem s__law_tape : DefS tb d__law_tape (topS 20) := ⟨by decide +kernel, by kernel_rfl, fun _ _ _ _ _ _ us hl => match us, hl with | [_], _ => rfl⟩
theorem s__law_draw : DefS tb d__law_draw (topS 21) := ⟨by decide +kernel, by kernel_rfl, fun _ _ _ _ _ _ us hl => match us, hl with | [_, _], _ => rfl⟩
theorem s__law_pick : DefS tb d__law_pick (topS 22) := ⟨by decide +kernel, by kernel_rfl, fun _ _ _ _ _ _ us hl => match us, hl with | [_, _], _ => rfl⟩
theorem s__law_same : DefS tb d__law_same (topS 23) := ⟨by decide +kernel, by kernel_rfl, fun _ _ _ _ _ _ us hl => match us, hl with | [_, _], _ => rfl⟩
theorem s__law_common : DefS tb d__law_common (topS 24) := ⟨by decide +kernel, by kernel_rfl, fun _ _ _ _ _ _ us hl => match us, hl with | [_, _], _ => rfl⟩
theorem s__law_parts : DefS tb d__law_parts (topS 25) := ⟨by decide +kernel, by kernel_rfl, fun _ _ _ _ _ _ us hl => match us, hl with | [_], _ => rfl⟩
theorem s__law_walk : DefS tb d__law_walk (topS 26) := ⟨by decide +kernel, by kernel_rfl, fun _ _ _ _ _ _ us hl => match us, hl with | [_, _, _], _ => rfl⟩
theorem s__law_refused : DefS tb d__law_refused (topS 27) := ⟨by decide +kernel, by kernel_rfl, fun _ _ _ _ _ _ us hl => match us, hl with | [_], _ => rfl⟩
theorem s_law : DefS tb d_law (topS 28) := ⟨by decide +kernel, by kernel_rfl, fun _ _ _ _ _ _ us hl => match us, hl with | [_], _ => rfl⟩
def subT : List (List Bool) := [[true, false, false], [true, true, false], [true, false, true]]
abbrev X_VerseError : Nat := 0
abbrev X_BadNumber : Nat := 1
abbrev X_BadSize : Nat := 2
abbrev fns : List Fn := fds.map Fd.fn
abbrev L (k : Nat) : CS := Lv (subOf subT) fns k
end Co.G
namespace Co.G
open PySem Co
local macro_rules | `(tactic| walk_at "st") => `(tactic| ((try simp only [↓wE_cpr, wS, wE, wEs, wEo, wT, wTg, wTgs, wIt, tgsLen, endF, List.set_cons_zero, List.set_cons_succ, List.getElem?_cons_zero, List.getElem?_cons_succ, List.length_cons, List.length_nil, Nat.reduceAdd, Nat.reduceLeDiff, Nat.reduceLT, seqOf_tup, seqOf_rol, true_and, and_true, decide_eq_true_eq, Bool.not_eq_true', Bool.not_true, Bool.not_false, decide_eq_false_iff_not, ite_not, ixN_z, ixN_pos, ixN_neg, Int.reduceLE, Int.reduceLT, Int.reduceNeg, Int.reduceAdd, Int.reduceToNat, Int.cast_ofNat_Int, ↓reduceIte, Option.bind_some, pv3, Bool.false_eq_true, Bool.true_eq_false, eq_self, isnS, Bool.not_eq_eq_eq_not, zipOk, zipL, List.zip_cons_cons, List.zip_nil_right, List.zip_nil_left, List.map_cons, List.map_nil, wipe, okOf, List.nil_append, List.cons_append, augS, hdS, hdsS, rdL_same, isTy, List.any_cons, List.any_nil, Bool.or_false, Bool.or_true, Bool.true_or, List.eraseIdx_cons_zero, decide_true, decide_false, Int.reduceEq, Option.some.injEq, bop_addi, bop_adds, bop_addt, bop_addl, bop_sub, bop_mul, bop_mull, bop_mult, bop_fdiv, bop_mod, bop_pow, neg_int, tru_non, tru_bl, tru_int, tru_str, tru_tup, tru_rol, tru_ref, eq_int, eq_bl, eq_str, eq_non, cop_eq, cop_ne, cop_in, cop_ni, cop_is, cop_isn, cop_lt, cop_le, cop_gt, cop_ge, blt_lens, blt_lent, blt_leno, blt_lenr, blt_abs, blt_int, blt_intb, blt_max2, blt_min2, blt_sum, blt_all, blt_any, blt_max1, blt_min1, blt_tupt, blt_tupo, blt_tupr, blt_lstt, blt_lsto, blt_lstr, blt_sorted, ix_tup, ix_rol, ix_ref, sl_tup, sl_rol, sl_ref, mth_ref, lstOk_ref, seqS_tup, seqS_rol, seqS_ref, intS_int, int2S_int, refOk_non, refOk_bl, refOk_int, refOk_str, refOk_tup, refOk_rol, isi_]); (repeat (rw [ss_nil_eq]; (try dsimp only))); rw [ss_cons_eq]; simp only [↓wE_cpr, wS, wE, wEs, wEo, wT, wTg, wTgs, wIt, tgsLen, endF, List.set_cons_zero, List.set_cons_succ, List.getElem?_cons_zero, List.getElem?_cons_succ, List.length_cons, List.length_nil, Nat.reduceAdd, Nat.reduceLeDiff, Nat.reduceLT, seqOf_tup, seqOf_rol, true_and, and_true, decide_eq_true_eq, Bool.not_eq_true', Bool.not_true, Bool.not_false, decide_eq_false_iff_not, ite_not, ixN_z, ixN_pos, ixN_neg, Int.reduceLE, Int.reduceLT, Int.reduceNeg, Int.reduceAdd, Int.reduceToNat, Int.cast_ofNat_Int, ↓reduceIte, Option.bind_some, pv3, Bool.false_eq_true, Bool.true_eq_false, eq_self, isnS, Bool.not_eq_eq_eq_not, zipOk, zipL, List.zip_cons_cons, List.zip_nil_right, List.zip_nil_left, List.map_cons, List.map_nil, wipe, okOf, List.nil_append, List.cons_append, augS, hdS, hdsS, rdL_same, isTy, List.any_cons, List.any_nil, Bool.or_false, Bool.or_true, Bool.true_or, List.eraseIdx_cons_zero, decide_true, decide_false, Int.reduceEq, Option.some.injEq, bop_addi, bop_adds, bop_addt, bop_addl, bop_sub, bop_mul, bop_mull, bop_mult, bop_fdiv, bop_mod, bop_pow, neg_int, tru_non, tru_bl, tru_int, tru_str, tru_tup, tru_rol, tru_ref, eq_int, eq_bl, eq_str, eq_non, cop_eq, cop_ne, cop_in, cop_ni, cop_is, cop_isn, cop_lt, cop_le, cop_gt, cop_ge, blt_lens, blt_lent, blt_leno, blt_lenr, blt_abs, blt_int, blt_intb, blt_max2, blt_min2, blt_sum, blt_all, blt_any, blt_max1, blt_min1, blt_tupt, blt_tupo, blt_tupr, blt_lstt, blt_lsto, blt_lstr, blt_sorted, ix_tup, ix_rol, ix_ref, sl_tup, sl_rol, sl_ref, mth_ref, lstOk_ref, seqS_tup, seqS_rol, seqS_ref, intS_int, int2S_int, refOk_non, refOk_bl, refOk_int, refOk_str, refOk_tup, refOk_rol, isi_]))
local macro_rules | `(tactic| walk_at "ev") => `(tactic| (try simp only [↓wE_cpr, wS, wE, wEs, wEo, wT, wTg, wTgs, wIt, tgsLen, endF, List.set_cons_zero, List.set_cons_succ, List.getElem?_cons_zero, List.getElem?_cons_succ, List.length_cons, List.length_nil, Nat.reduceAdd, Nat.reduceLeDiff, Nat.reduceLT, seqOf_tup, seqOf_rol, true_and, and_true, decide_eq_true_eq, Bool.not_eq_true', Bool.not_true, Bool.not_false, decide_eq_false_iff_not, ite_not, ixN_z, ixN_pos, ixN_neg, Int.reduceLE, Int.reduceLT, Int.reduceNeg, Int.reduceAdd, Int.reduceToNat, Int.cast_ofNat_Int, ↓reduceIte, Option.bind_some, pv3, Bool.false_eq_true, Bool.true_eq_false, eq_self, isnS, Bool.not_eq_eq_eq_not, zipOk, zipL, List.zip_cons_cons, List.zip_nil_right, List.zip_nil_left, List.map_cons, List.map_nil, wipe, okOf, List.nil_append, List.cons_append, augS, hdS, hdsS, rdL_same, isTy, List.any_cons, List.any_nil, Bool.or_false, Bool.or_true, Bool.true_or, List.eraseIdx_cons_zero, decide_true, decide_false, Int.reduceEq, Option.some.injEq, bop_addi, bop_adds, bop_addt, bop_addl, bop_sub, bop_mul, bop_mull, bop_mult, bop_fdiv, bop_mod, bop_pow, neg_int, tru_non, tru_bl, tru_int, tru_str, tru_tup, tru_rol, tru_ref, eq_int, eq_bl, eq_str, eq_non, cop_eq, cop_ne, cop_in, cop_ni, cop_is, cop_isn, cop_lt, cop_le, cop_gt, cop_ge, blt_lens, blt_lent, blt_leno, blt_lenr, blt_abs, blt_int, blt_intb, blt_max2, blt_min2, blt_sum, blt_all, blt_any, blt_max1, blt_min1, blt_tupt, blt_tupo, blt_tupr, blt_lstt, blt_lsto, blt_lstr, blt_sorted, ix_tup, ix_rol, ix_ref, sl_tup, sl_rol, sl_ref, mth_ref, lstOk_ref, seqS_tup, seqS_rol, seqS_ref, intS_int, int2S_int, refOk_non, refOk_bl, refOk_int, refOk_str, refOk_tup, refOk_rol, isi_]))
local macro_rules | `(tactic| walk_at "un") => `(tactic| (try simp only [cprW, cprL, wS, wE, wEs, wEo, wT, wTg, wTgs, wIt, tgsLen, endF, List.set_cons_zero, List.set_cons_succ, List.getElem?_cons_zero, List.getElem?_cons_succ, List.length_cons, List.length_nil, Nat.reduceAdd, Nat.reduceLeDiff, Nat.reduceLT, seqOf_tup, seqOf_rol, true_and, and_true, decide_eq_true_eq, Bool.not_eq_true', Bool.not_true, Bool.not_false, decide_eq_false_iff_not, ite_not, ixN_z, ixN_pos, ixN_neg, Int.reduceLE, Int.reduceLT, Int.reduceNeg, Int.reduceAdd, Int.reduceToNat, Int.cast_ofNat_Int, ↓reduceIte, Option.bind_some, pv3, Bool.false_eq_true, Bool.true_eq_false, eq_self, isnS, Bool.not_eq_eq_eq_not, zipOk, zipL, List.zip_cons_cons, List.zip_nil_right, List.zip_nil_left, List.map_cons, List.map_nil, wipe, okOf, List.nil_append, List.cons_append, augS, hdS, hdsS, rdL_same, isTy, List.any_cons, List.any_nil, Bool.or_false, Bool.or_true, Bool.true_or, List.eraseIdx_cons_zero, decide_true, decide_false, Int.reduceEq, Option.some.injEq, bop_addi, bop_adds, bop_addt, bop_addl, bop_sub, bop_mul, bop_mull, bop_mult, bop_fdiv, bop_mod, bop_pow, neg_int, tru_non, tru_bl, tru_int, tru_str, tru_tup, tru_rol, tru_ref, eq_int, eq_bl, eq_str, eq_non, cop_eq, cop_ne, cop_in, cop_ni, cop_is, cop_isn, cop_lt, cop_le, cop_gt, cop_ge, blt_lens, blt_lent, blt_leno, blt_lenr, blt_abs, blt_int, blt_intb, blt_max2, blt_min2, blt_sum, blt_all, blt_any, blt_max1, blt_min1, blt_tupt, blt_tupo, blt_tupr, blt_lstt, blt_lsto, blt_lstr, blt_sorted, ix_tup, ix_rol, ix_ref, sl_tup, sl_rol, sl_ref, mth_ref, lstOk_ref, seqS_tup, seqS_rol, seqS_ref, intS_int, int2S_int, refOk_non, refOk_bl, refOk_int, refOk_str, refOk_tup, refOk_rol, isi_]))
local macro_rules | `(tactic| walk_at "in") => `(tactic| (simp only [Fd.fn, startP, List.map_cons, List.map_nil, List.length_cons, List.length_nil, List.replicate, List.append_nil, Nat.sub_self, List.cons_append, List.nil_append, Nat.reduceSub, Nat.reduceAdd]))
local macro_rules | `(tactic| walk_at "nx") => `(tactic| (rw [ss_nil_eq]; (try dsimp only)))
section
variable {h : PH} {Q : QK} {X : XK} {k : Nat}
/-- what is_count tells -/
def isCnt : PV → Bool | .int i => decide (0 ≤ i) | _ => false
theorem sp_is_count (v : PV) (hv : refOk v h) (q : Q (.bl (isCnt v)) h) : L (k + 1) I_is_count [v] h Q X := by
  refine Lv_call d_is_count.fn rfl rfl ?_
  simp only [d_is_count, b_is_count]
  walk_at "in"
  walk_at "st"
  refine ⟨hv, ?_⟩
  cases v <;> simp_all [isTy, isCnt, refOk, cop_ge]
end
end Co.G
namespace Co.G
open PySem Co
local macro_rules | `(tactic| walk_at "st") => `(tactic| ((try simp only [↓wE_cpr, wS, wE, wEs, wEo, wT, wTg, wTgs, wIt, tgsLen, endF, List.set_cons_zero, List.set_cons_succ, List.getElem?_cons_zero, List.getElem?_cons_succ, List.length_cons, List.length_nil, Nat.reduceAdd, Nat.reduceLeDiff, Nat.reduceLT, seqOf_tup, seqOf_rol, true_and, and_true, decide_eq_true_eq, Bool.not_eq_true', Bool.not_true, Bool.not_false, decide_eq_false_iff_not, ite_not, ixN_z, ixN_pos, ixN_neg, Int.reduceLE, Int.reduceLT, Int.reduceNeg, Int.reduceAdd, Int.reduceToNat, Int.cast_ofNat_Int, ↓reduceIte, Option.bind_some, pv3, Bool.false_eq_true, Bool.true_eq_false, eq_self, isnS, Bool.not_eq_eq_eq_not, zipOk, zipL, List.zip_cons_cons, List.zip_nil_right, List.zip_nil_left, List.map_cons, List.map_nil, wipe, okOf, List.nil_append, List.cons_append, augS, hdS, hdsS, rdL_same, isTy, List.any_cons, List.any_nil, Bool.or_false, Bool.or_true, Bool.true_or, List.eraseIdx_cons_zero, decide_true, decide_false, Int.reduceEq, Option.some.injEq, bop_addi, bop_adds, bop_addt, bop_addl, bop_sub, bop_mul, bop_mull, bop_mult, bop_fdiv, bop_mod, bop_pow, neg_int, tru_non, tru_bl, tru_int, tru_str, tru_tup, tru_rol, tru_ref, eq_int, eq_bl, eq_str, eq_non, cop_eq, cop_ne, cop_in, cop_ni, cop_is, cop_isn, cop_lt, cop_le, cop_gt, cop_ge, blt_lens, blt_lent, blt_leno, blt_lenr, blt_abs, blt_int, blt_intb, blt_max2, blt_min2, blt_sum, blt_all, blt_any, blt_max1, blt_min1, blt_tupt, blt_tupo, blt_tupr, blt_lstt, blt_lsto, blt_lstr, blt_sorted, ix_tup, ix_rol, ix_ref, sl_tup, sl_rol, sl_ref, mth_ref, lstOk_ref, seqS_tup, seqS_rol, seqS_ref, intS_int, int2S_int, refOk_non, refOk_bl, refOk_int, refOk_str, refOk_tup, refOk_rol, isi_]); (repeat (rw [ss_nil_eq]; (try dsimp only))); rw [ss_cons_eq]; simp only [↓wE_cpr, wS, wE, wEs, wEo, wT, wTg, wTgs, wIt, tgsLen, endF, List.set_cons_zero, List.set_cons_succ, List.getElem?_cons_zero, List.getElem?_cons_succ, List.length_cons, List.length_nil, Nat.reduceAdd, Nat.reduceLeDiff, Nat.reduceLT, seqOf_tup, seqOf_rol, true_and, and_true, decide_eq_true_eq, Bool.not_eq_true', Bool.not_true, Bool.not_false, decide_eq_false_iff_not, ite_not, ixN_z, ixN_pos, ixN_neg, Int.reduceLE, Int.reduceLT, Int.reduceNeg, Int.reduceAdd, Int.reduceToNat, Int.cast_ofNat_Int, ↓reduceIte, Option.bind_some, pv3, Bool.false_eq_true, Bool.true_eq_false, eq_self, isnS, Bool.not_eq_eq_eq_not, zipOk, zipL, List.zip_cons_cons, List.zip_nil_right, List.zip_nil_left, List.map_cons, List.map_nil, wipe, okOf, List.nil_append, List.cons_append, augS, hdS, hdsS, rdL_same, isTy, List.any_cons, List.any_nil, Bool.or_false, Bool.or_true, Bool.true_or, List.eraseIdx_cons_zero, decide_true, decide_false, Int.reduceEq, Option.some.injEq, bop_addi, bop_adds, bop_addt, bop_addl, bop_sub, bop_mul, bop_mull, bop_mult, bop_fdiv, bop_mod, bop_pow, neg_int, tru_non, tru_bl, tru_int, tru_str, tru_tup, tru_rol, tru_ref, eq_int, eq_bl, eq_str, eq_non, cop_eq, cop_ne, cop_in, cop_ni, cop_is, cop_isn, cop_lt, cop_le, cop_gt, cop_ge, blt_lens, blt_lent, blt_leno, blt_lenr, blt_abs, blt_int, blt_intb, blt_max2, blt_min2, blt_sum, blt_all, blt_any, blt_max1, blt_min1, blt_tupt, blt_tupo, blt_tupr, blt_lstt, blt_lsto, blt_lstr, blt_sorted, ix_tup, ix_rol, ix_ref, sl_tup, sl_rol, sl_ref, mth_ref, lstOk_ref, seqS_tup, seqS_rol, seqS_ref, intS_int, int2S_int, refOk_non, refOk_bl, refOk_int, refOk_str, refOk_tup, refOk_rol, isi_]))
local macro_rules | `(tactic| walk_at "ev") => `(tactic| (try simp only [↓wE_cpr, wS, wE, wEs, wEo, wT, wTg, wTgs, wIt, tgsLen, endF, List.set_cons_zero, List.set_cons_succ, List.getElem?_cons_zero, List.getElem?_cons_succ, List.length_cons, List.length_nil, Nat.reduceAdd, Nat.reduceLeDiff, Nat.reduceLT, seqOf_tup, seqOf_rol, true_and, and_true, decide_eq_true_eq, Bool.not_eq_true', Bool.not_true, Bool.not_false, decide_eq_false_iff_not, ite_not, ixN_z, ixN_pos, ixN_neg, Int.reduceLE, Int.reduceLT, Int.reduceNeg, Int.reduceAdd, Int.reduceToNat, Int.cast_ofNat_Int, ↓reduceIte, Option.bind_some, pv3, Bool.false_eq_true, Bool.true_eq_false, eq_self, isnS, Bool.not_eq_eq_eq_not, zipOk, zipL, List.zip_cons_cons, List.zip_nil_right, List.zip_nil_left, List.map_cons, List.map_nil, wipe, okOf, List.nil_append, List.cons_append, augS, hdS, hdsS, rdL_same, isTy, List.any_cons, List.any_nil, Bool.or_false, Bool.or_true, Bool.true_or, List.eraseIdx_cons_zero, decide_true, decide_false, Int.reduceEq, Option.some.injEq, bop_addi, bop_adds, bop_addt, bop_addl, bop_sub, bop_mul, bop_mull, bop_mult, bop_fdiv, bop_mod, bop_pow, neg_int, tru_non, tru_bl, tru_int, tru_str, tru_tup, tru_rol, tru_ref, eq_int, eq_bl, eq_str, eq_non, cop_eq, cop_ne, cop_in, cop_ni, cop_is, cop_isn, cop_lt, cop_le, cop_gt, cop_ge, blt_lens, blt_lent, blt_leno, blt_lenr, blt_abs, blt_int, blt_intb, blt_max2, blt_min2, blt_sum, blt_all, blt_any, blt_max1, blt_min1, blt_tupt, blt_tupo, blt_tupr, blt_lstt, blt_lsto, blt_lstr, blt_sorted, ix_tup, ix_rol, ix_ref, sl_tup, sl_rol, sl_ref, mth_ref, lstOk_ref, seqS_tup, seqS_rol, seqS_ref, intS_int, int2S_int, refOk_non, refOk_bl, refOk_int, refOk_str, refOk_tup, refOk_rol, isi_]))
local macro_rules | `(tactic| walk_at "un") => `(tactic| (try simp only [cprW, cprL, wS, wE, wEs, wEo, wT, wTg, wTgs, wIt, tgsLen, endF, List.set_cons_zero, List.set_cons_succ, List.getElem?_cons_zero, List.getElem?_cons_succ, List.length_cons, List.length_nil, Nat.reduceAdd, Nat.reduceLeDiff, Nat.reduceLT, seqOf_tup, seqOf_rol, true_and, and_true, decide_eq_true_eq, Bool.not_eq_true', Bool.not_true, Bool.not_false, decide_eq_false_iff_not, ite_not, ixN_z, ixN_pos, ixN_neg, Int.reduceLE, Int.reduceLT, Int.reduceNeg, Int.reduceAdd, Int.reduceToNat, Int.cast_ofNat_Int, ↓reduceIte, Option.bind_some, pv3, Bool.false_eq_true, Bool.true_eq_false, eq_self, isnS, Bool.not_eq_eq_eq_not, zipOk, zipL, List.zip_cons_cons, List.zip_nil_right, List.zip_nil_left, List.map_cons, List.map_nil, wipe, okOf, List.nil_append, List.cons_append, augS, hdS, hdsS, rdL_same, isTy, List.any_cons, List.any_nil, Bool.or_false, Bool.or_true, Bool.true_or, List.eraseIdx_cons_zero, decide_true, decide_false, Int.reduceEq, Option.some.injEq, bop_addi, bop_adds, bop_addt, bop_addl, bop_sub, bop_mul, bop_mull, bop_mult, bop_fdiv, bop_mod, bop_pow, neg_int, tru_non, tru_bl, tru_int, tru_str, tru_tup, tru_rol, tru_ref, eq_int, eq_bl, eq_str, eq_non, cop_eq, cop_ne, cop_in, cop_ni, cop_is, cop_isn, cop_lt, cop_le, cop_gt, cop_ge, blt_lens, blt_lent, blt_leno, blt_lenr, blt_abs, blt_int, blt_intb, blt_max2, blt_min2, blt_sum, blt_all, blt_any, blt_max1, blt_min1, blt_tupt, blt_tupo, blt_tupr, blt_lstt, blt_lsto, blt_lstr, blt_sorted, ix_tup, ix_rol, ix_ref, sl_tup, sl_rol, sl_ref, mth_ref, lstOk_ref, seqS_tup, seqS_rol, seqS_ref, intS_int, int2S_int, refOk_non, refOk_bl, refOk_int, refOk_str, refOk_tup, refOk_rol, isi_]))
local macro_rules | `(tactic| walk_at "in") => `(tactic| (simp only [Fd.fn, startP, List.map_cons, List.map_nil, List.length_cons, List.length_nil, List.replicate, List.append_nil, Nat.sub_self, List.cons_append, List.nil_append, Nat.reduceSub, Nat.reduceAdd]))
local macro_rules | `(tactic| walk_at "nx") => `(tactic| (rw [ss_nil_eq]; (try dsimp only)))
section
variable {h : PH} {Q : QK} {X : XK} {k : Nat}
theorem sp_power (b c s : Int) (hc : 0 ≤ c) (hs : 0 < s) (hs2 : s < 2 ^ 1000) (q : Q (.int (b ^ c.toNat % s)) h) : L (k + 1) I_power [.int b, .int c, .int s] h Q X := by
  refine Lv_call d_power.fn rfl rfl ?_
  simp only [d_power, b_power]
  walk_at "in"
  walk_at "st"
  refine ⟨hs, hs, ?_⟩
  refine ss_whl ?_
  refine whl_inv (α := (Int × Int) × Int) (st := fun p => [some (.int b), some (.int p.2), some (.int s), some (.int p.1.1), some (.int p.1.2)]) (hp := fun _ => h)
    (I := fun p => 0 ≤ p.2 ∧ 0 ≤ p.1.1 ∧ p.1.1 < s ∧ 0 ≤ p.1.2 ∧ p.1.2 < s ∧ p.1.1 * p.1.2 ^ p.2.toNat % s = b ^ c.toNat % s) (μ := fun p => p.2.toNat) ((1 % s, b % s), c)
    ⟨hc, Int.emod_nonneg _ (by omega), Int.emod_lt_of_pos _ hs, Int.emod_nonneg _ (by omega), Int.emod_lt_of_pos _ hs, ?_⟩ ?_
  · simp only
    rw [mul_emod_l, Int.one_mul, pow_emod]
  rintro N ⟨⟨f, g⟩, n⟩ ⟨n0, f0, f1, g0, g1, e⟩ hN
  simp only at n0 f0 f1 g0 g1 e ⊢
  walk_at "ev"
  split
  · rename_i np
    have half := pow_half g n.toNat
    have hn2 : (n / 2).toNat = n.toNat / 2 := by omega
    walk_at "st"
    split
    · rename_i od
      walk_at "st"
      refine ⟨cmul_s (by omega) (by omega), hs, ?_⟩
      walk_at "nx"
      walk_at "st"
      refine ⟨cmul_s (by omega) (by omega), hs, cdiv_s (by decide) (by decide), ?_⟩
      walk_at "nx"
      refine hN ((f * g % s, g * g % s), n / 2) ⟨by simp only; omega, Int.emod_nonneg _ (by omega), Int.emod_lt_of_pos _ hs, Int.emod_nonneg _ (by omega), Int.emod_lt_of_pos _ hs, ?_⟩ (by simp only; omega)
      simp only
      rw [← e, half, if_pos (by omega), mul_emod_l, ← mul_emod_r, pow_emod, mul_emod_r, hn2, Int.mul_assoc]
    · rename_i od
      walk_at "nx"
      walk_at "st"
      refine ⟨cmul_s (by omega) (by omega), hs, cdiv_s (by decide) (by decide), ?_⟩
      walk_at "nx"
      refine hN ((f, g * g % s), n / 2) ⟨by simp only; omega, f0, f1, Int.emod_nonneg _ (by omega), Int.emod_lt_of_pos _ hs, ?_⟩ (by simp only; omega)
      simp only
      rw [← e, half, if_neg (by omega), ← mul_emod_r, pow_emod, mul_emod_r, hn2, Int.one_mul]
  · rename_i np
    walk_at "st"
    obtain rfl : n = 0 := by omega
    rw [← e] at q
    simp only [Int.toNat_zero, Int.pow_zero, Int.mul_one] at q
    rwa [Int.emod_eq_of_lt f0 f1] at q
end
end Co.G
namespace Co.G
open PySem Co
local macro_rules | `(tactic| walk_at "st") => `(tactic| ((try simp only [↓wE_cpr, wS, wE, wEs, wEo, wT, wTg, wTgs, wIt, tgsLen, endF, List.set_cons_zero, List.set_cons_succ, List.getElem?_cons_zero, List.getElem?_cons_succ, List.length_cons, List.length_nil, Nat.reduceAdd, Nat.reduceLeDiff, Nat.reduceLT, seqOf_tup, seqOf_rol, true_and, and_true, decide_eq_true_eq, Bool.not_eq_true', Bool.not_true, Bool.not_false, decide_eq_false_iff_not, ite_not, ixN_z, ixN_pos, ixN_neg, Int.reduceLE, Int.reduceLT, Int.reduceNeg, Int.reduceAdd, Int.reduceToNat, Int.cast_ofNat_Int, ↓reduceIte, Option.bind_some, pv3, Bool.false_eq_true, Bool.true_eq_false, eq_self, isnS, Bool.not_eq_eq_eq_not, zipOk, zipL, List.zip_cons_cons, List.zip_nil_right, List.zip_nil_left, List.map_cons, List.map_nil, wipe, okOf, List.nil_append, List.cons_append, augS, hdS, hdsS, rdL_same, isTy, List.any_cons, List.any_nil, Bool.or_false, Bool.or_true, Bool.true_or, List.eraseIdx_cons_zero, decide_true, decide_false, Int.reduceEq, Option.some.injEq, bop_addi, bop_adds, bop_addt, bop_addl, bop_sub, bop_mul, bop_mull, bop_mult, bop_fdiv, bop_mod, bop_pow, neg_int, tru_non, tru_bl, tru_int, tru_str, tru_tup, tru_rol, tru_ref, eq_int, eq_bl, eq_str, eq_non, cop_eq, cop_ne, cop_in, cop_ni, cop_is, cop_isn, cop_lt, cop_le, cop_gt, cop_ge, blt_lens, blt_lent, blt_leno, blt_lenr, blt_abs, blt_int, blt_intb, blt_max2, blt_min2, blt_sum, blt_all, blt_any, blt_max1, blt_min1, blt_tupt, blt_tupo, blt_tupr, blt_lstt, blt_lsto, blt_lstr, blt_sorted, ix_tup, ix_rol, ix_ref, sl_tup, sl_rol, sl_ref, mth_ref, lstOk_ref, seqS_tup, seqS_rol, seqS_ref, intS_int, int2S_int, refOk_non, refOk_bl, refOk_int, refOk_str, refOk_tup, refOk_rol, isi_]); (repeat (rw [ss_nil_eq]; (try dsimp only))); rw [ss_cons_eq]; simp only [↓wE_cpr, wS, wE, wEs, wEo, wT, wTg, wTgs, wIt, tgsLen, endF, List.set_cons_zero, List.set_cons_succ, List.getElem?_cons_zero, List.getElem?_cons_succ, List.length_cons, List.length_nil, Nat.reduceAdd, Nat.reduceLeDiff, Nat.reduceLT, seqOf_tup, seqOf_rol, true_and, and_true, decide_eq_true_eq, Bool.not_eq_true', Bool.not_true, Bool.not_false, decide_eq_false_iff_not, ite_not, ixN_z, ixN_pos, ixN_neg, Int.reduceLE, Int.reduceLT, Int.reduceNeg, Int.reduceAdd, Int.reduceToNat, Int.cast_ofNat_Int, ↓reduceIte, Option.bind_some, pv3, Bool.false_eq_true, Bool.true_eq_false, eq_self, isnS, Bool.not_eq_eq_eq_not, zipOk, zipL, List.zip_cons_cons, List.zip_nil_right, List.zip_nil_left, List.map_cons, List.map_nil, wipe, okOf, List.nil_append, List.cons_append, augS, hdS, hdsS, rdL_same, isTy, List.any_cons, List.any_nil, Bool.or_false, Bool.or_true, Bool.true_or, List.eraseIdx_cons_zero, decide_true, decide_false, Int.reduceEq, Option.some.injEq, bop_addi, bop_adds, bop_addt, bop_addl, bop_sub, bop_mul, bop_mull, bop_mult, bop_fdiv, bop_mod, bop_pow, neg_int, tru_non, tru_bl, tru_int, tru_str, tru_tup, tru_rol, tru_ref, eq_int, eq_bl, eq_str, eq_non, cop_eq, cop_ne, cop_in, cop_ni, cop_is, cop_isn, cop_lt, cop_le, cop_gt, cop_ge, blt_lens, blt_lent, blt_leno, blt_lenr, blt_abs, blt_int, blt_intb, blt_max2, blt_min2, blt_sum, blt_all, blt_any, blt_max1, blt_min1, blt_tupt, blt_tupo, blt_tupr, blt_lstt, blt_lsto, blt_lstr, blt_sorted, ix_tup, ix_rol, ix_ref, sl_tup, sl_rol, sl_ref, mth_ref, lstOk_ref, seqS_tup, seqS_rol, seqS_ref, intS_int, int2S_int, refOk_non, refOk_bl, refOk_int, refOk_str, refOk_tup, refOk_rol, isi_]))
local macro_rules | `(tactic| walk_at "ev") => `(tactic| (try simp only [↓wE_cpr, wS, wE, wEs, wEo, wT, wTg, wTgs, wIt, tgsLen, endF, List.set_cons_zero, List.set_cons_succ, List.getElem?_cons_zero, List.getElem?_cons_succ, List.length_cons, List.length_nil, Nat.reduceAdd, Nat.reduceLeDiff, Nat.reduceLT, seqOf_tup, seqOf_rol, true_and, and_true, decide_eq_true_eq, Bool.not_eq_true', Bool.not_true, Bool.not_false, decide_eq_false_iff_not, ite_not, ixN_z, ixN_pos, ixN_neg, Int.reduceLE, Int.reduceLT, Int.reduceNeg, Int.reduceAdd, Int.reduceToNat, Int.cast_ofNat_Int, ↓reduceIte, Option.bind_some, pv3, Bool.false_eq_true, Bool.true_eq_false, eq_self, isnS, Bool.not_eq_eq_eq_not, zipOk, zipL, List.zip_cons_cons, List.zip_nil_right, List.zip_nil_left, List.map_cons, List.map_nil, wipe, okOf, List.nil_append, List.cons_append, augS, hdS, hdsS, rdL_same, isTy, List.any_cons, List.any_nil, Bool.or_false, Bool.or_true, Bool.true_or, List.eraseIdx_cons_zero, decide_true, decide_false, Int.reduceEq, Option.some.injEq, bop_addi, bop_adds, bop_addt, bop_addl, bop_sub, bop_mul, bop_mull, bop_mult, bop_fdiv, bop_mod, bop_pow, neg_int, tru_non, tru_bl, tru_int, tru_str, tru_tup, tru_rol, tru_ref, eq_int, eq_bl, eq_str, eq_non, cop_eq, cop_ne, cop_in, cop_ni, cop_is, cop_isn, cop_lt, cop_le, cop_gt, cop_ge, blt_lens, blt_lent, blt_leno, blt_lenr, blt_abs, blt_int, blt_intb, blt_max2, blt_min2, blt_sum, blt_all, blt_any, blt_max1, blt_min1, blt_tupt, blt_tupo, blt_tupr, blt_lstt, blt_lsto, blt_lstr, blt_sorted, ix_tup, ix_rol, ix_ref, sl_tup, sl_rol, sl_ref, mth_ref, lstOk_ref, seqS_tup, seqS_rol, seqS_ref, intS_int, int2S_int, refOk_non, refOk_bl, refOk_int, refOk_str, refOk_tup, refOk_rol, isi_]))
local macro_rules | `(tactic| walk_at "un") => `(tactic| (try simp only [cprW, cprL, wS, wE, wEs, wEo, wT, wTg, wTgs, wIt, tgsLen, endF, List.set_cons_zero, List.set_cons_succ, List.getElem?_cons_zero, List.getElem?_cons_succ, List.length_cons, List.length_nil, Nat.reduceAdd, Nat.reduceLeDiff, Nat.reduceLT, seqOf_tup, seqOf_rol, true_and, and_true, decide_eq_true_eq, Bool.not_eq_true', Bool.not_true, Bool.not_false, decide_eq_false_iff_not, ite_not, ixN_z, ixN_pos, ixN_neg, Int.reduceLE, Int.reduceLT, Int.reduceNeg, Int.reduceAdd, Int.reduceToNat, Int.cast_ofNat_Int, ↓reduceIte, Option.bind_some, pv3, Bool.false_eq_true, Bool.true_eq_false, eq_self, isnS, Bool.not_eq_eq_eq_not, zipOk, zipL, List.zip_cons_cons, List.zip_nil_right, List.zip_nil_left, List.map_cons, List.map_nil, wipe, okOf, List.nil_append, List.cons_append, augS, hdS, hdsS, rdL_same, isTy, List.any_cons, List.any_nil, Bool.or_false, Bool.or_true, Bool.true_or, List.eraseIdx_cons_zero, decide_true, decide_false, Int.reduceEq, Option.some.injEq, bop_addi, bop_adds, bop_addt, bop_addl, bop_sub, bop_mul, bop_mull, bop_mult, bop_fdiv, bop_mod, bop_pow, neg_int, tru_non, tru_bl, tru_int, tru_str, tru_tup, tru_rol, tru_ref, eq_int, eq_bl, eq_str, eq_non, cop_eq, cop_ne, cop_in, cop_ni, cop_is, cop_isn, cop_lt, cop_le, cop_gt, cop_ge, blt_lens, blt_lent, blt_leno, blt_lenr, blt_abs, blt_int, blt_intb, blt_max2, blt_min2, blt_sum, blt_all, blt_any, blt_max1, blt_min1, blt_tupt, blt_tupo, blt_tupr, blt_lstt, blt_lsto, blt_lstr, blt_sorted, ix_tup, ix_rol, ix_ref, sl_tup, sl_rol, sl_ref, mth_ref, lstOk_ref, seqS_tup, seqS_rol, seqS_ref, intS_int, int2S_int, refOk_non, refOk_bl, refOk_int, refOk_str, refOk_tup, refOk_rol, isi_]))
local macro_rules | `(tactic| walk_at "in") => `(tactic| (simp only [Fd.fn, startP, List.map_cons, List.map_nil, List.length_cons, List.length_nil, List.replicate, List.append_nil, Nat.sub_self, List.cons_append, List.nil_append, Nat.reduceSub, Nat.reduceAdd]))
local macro_rules | `(tactic| walk_at "nx") => `(tactic| (rw [ss_nil_eq]; (try dsimp only)))
section
variable {h : PH} {Q : QK} {X : XK} {k : Nat}
theorem sp_check_factored (n : Int) (q : 1 ≤ n → n ≤ 10000000000 → Q .non h) (x1 : n < 1 → X (.own X_BadNumber) h) (x2 : 10000000000 < n → X (.own X_BadSize) h) : L (k + 2) I_check_factored [.int n] h Q X := by
  refine Lv_call d_check_factored.fn rfl rfl ?_
  simp only [d_check_factored, b_check_factored]
  walk_at "in"
  walk_at "st"
  refine sp_is_count _ trivial ?_
  walk_at "ev"
  by_cases h0 : 0 ≤ n
  · simp only [isCnt, decide_eq_true h0]
    walk_at "ev"
    split
    · rename_i h1
      walk_at "st"
      exact x1 h1
    · rename_i h1
      walk_at "nx"
      walk_at "st"
      split
      · rename_i h2
        walk_at "st"
        exact x2 h2
      · rename_i h2
        walk_at "nx"
        walk_at "nx"
        exact q (by omega) (by omega)
  · simp only [isCnt, decide_eq_false h0]
    walk_at "ev"
    walk_at "st"
    exact x1 (by omega)
theorem sp_check_factored_no (v : PV) (hv : refOk v h) (hc : isCnt v = false) (x1 : X (.own X_BadNumber) h) : L (k + 2) I_check_factored [v] h Q X := by
  refine Lv_call d_check_factored.fn rfl rfl ?_
  simp only [d_check_factored, b_check_factored]
  walk_at "in"
  walk_at "st"
  refine sp_is_count _ hv ?_
  rw [hc]
  walk_at "ev"
  walk_at "st"
  exact x1
end
end Co.G
namespace Co.G
open PySem Co
local macro_rules | `(tactic| walk_at "st") => `(tactic| ((try simp only [↓wE_cpr, wS, wE, wEs, wEo, wT, wTg, wTgs, wIt, tgsLen, endF, List.set_cons_zero, List.set_cons_succ, List.getElem?_cons_zero, List.getElem?_cons_succ, List.length_cons, List.length_nil, Nat.reduceAdd, Nat.reduceLeDiff, Nat.reduceLT, seqOf_tup, seqOf_rol, true_and, and_true, decide_eq_true_eq, Bool.not_eq_true', Bool.not_true, Bool.not_false, decide_eq_false_iff_not, ite_not, ixN_z, ixN_pos, ixN_neg, Int.reduceLE, Int.reduceLT, Int.reduceNeg, Int.reduceAdd, Int.reduceToNat, Int.cast_ofNat_Int, ↓reduceIte, Option.bind_some, pv3, Bool.false_eq_true, Bool.true_eq_false, eq_self, isnS, Bool.not_eq_eq_eq_not, zipOk, zipL, List.zip_cons_cons, List.zip_nil_right, List.zip_nil_left, List.map_cons, List.map_nil, wipe, okOf, List.nil_append, List.cons_append, augS, hdS, hdsS, rdL_same, isTy, List.any_cons, List.any_nil, Bool.or_false, Bool.or_true, Bool.true_or, List.eraseIdx_cons_zero, decide_true, decide_false, Int.reduceEq, Option.some.injEq, bop_addi, bop_adds, bop_addt, bop_addl, bop_sub, bop_mul, bop_mull, bop_mult, bop_fdiv, bop_mod, bop_pow, neg_int, tru_non, tru_bl, tru_int, tru_str, tru_tup, tru_rol, tru_ref, eq_int, eq_bl, eq_str, eq_non, cop_eq, cop_ne, cop_in, cop_ni, cop_is, cop_isn, cop_lt, cop_le, cop_gt, cop_ge, blt_lens, blt_lent, blt_leno, blt_lenr, blt_abs, blt_int, blt_intb, blt_max2, blt_min2, blt_sum, blt_all, blt_any, blt_max1, blt_min1, blt_tupt, blt_tupo, blt_tupr, blt_lstt, blt_lsto, blt_lstr, blt_sorted, ix_tup, ix_rol, ix_ref, sl_tup, sl_rol, sl_ref, mth_ref, lstOk_ref, seqS_tup, seqS_rol, seqS_ref, intS_int, int2S_int, refOk_non, refOk_bl, refOk_int, refOk_str, refOk_tup, refOk_rol, isi_]); (repeat (rw [ss_nil_eq]; (try dsimp only))); rw [ss_cons_eq]; simp only [↓wE_cpr, wS, wE, wEs, wEo, wT, wTg, wTgs, wIt, tgsLen, endF, List.set_cons_zero, List.set_cons_succ, List.getElem?_cons_zero, List.getElem?_cons_succ, List.length_cons, List.length_nil, Nat.reduceAdd, Nat.reduceLeDiff, Nat.reduceLT, seqOf_tup, seqOf_rol, true_and, and_true, decide_eq_true_eq, Bool.not_eq_true', Bool.not_true, Bool.not_false, decide_eq_false_iff_not, ite_not, ixN_z, ixN_pos, ixN_neg, Int.reduceLE, Int.reduceLT, Int.reduceNeg, Int.reduceAdd, Int.reduceToNat, Int.cast_ofNat_Int, ↓reduceIte, Option.bind_some, pv3, Bool.false_eq_true, Bool.true_eq_false, eq_self, isnS, Bool.not_eq_eq_eq_not, zipOk, zipL, List.zip_cons_cons, List.zip_nil_right, List.zip_nil_left, List.map_cons, List.map_nil, wipe, okOf, List.nil_append, List.cons_append, augS, hdS, hdsS, rdL_same, isTy, List.any_cons, List.any_nil, Bool.or_false, Bool.or_true, Bool.true_or, List.eraseIdx_cons_zero, decide_true, decide_false, Int.reduceEq, Option.some.injEq, bop_addi, bop_adds, bop_addt, bop_addl, bop_sub, bop_mul, bop_mull, bop_mult, bop_fdiv, bop_mod, bop_pow, neg_int, tru_non, tru_bl, tru_int, tru_str, tru_tup, tru_rol, tru_ref, eq_int, eq_bl, eq_str, eq_non, cop_eq, cop_ne, cop_in, cop_ni, cop_is, cop_isn, cop_lt, cop_le, cop_gt, cop_ge, blt_lens, blt_lent, blt_leno, blt_lenr, blt_abs, blt_int, blt_intb, blt_max2, blt_min2, blt_sum, blt_all, blt_any, blt_max1, blt_min1, blt_tupt, blt_tupo, blt_tupr, blt_lstt, blt_lsto, blt_lstr, blt_sorted, ix_tup, ix_rol, ix_ref, sl_tup, sl_rol, sl_ref, mth_ref, lstOk_ref, seqS_tup, seqS_rol, seqS_ref, intS_int, int2S_int, refOk_non, refOk_bl, refOk_int, refOk_str, refOk_tup, refOk_rol, isi_]))
local macro_rules | `(tactic| walk_at "ev") => `(tactic| (try simp only [↓wE_cpr, wS, wE, wEs, wEo, wT, wTg, wTgs, wIt, tgsLen, endF, List.set_cons_zero, List.set_cons_succ, List.getElem?_cons_zero, List.getElem?_cons_succ, List.length_cons, List.length_nil, Nat.reduceAdd, Nat.reduceLeDiff, Nat.reduceLT, seqOf_tup, seqOf_rol, true_and, and_true, decide_eq_true_eq, Bool.not_eq_true', Bool.not_true, Bool.not_false, decide_eq_false_iff_not, ite_not, ixN_z, ixN_pos, ixN_neg, Int.reduceLE, Int.reduceLT, Int.reduceNeg, Int.reduceAdd, Int.reduceToNat, Int.cast_ofNat_Int, ↓reduceIte, Option.bind_some, pv3, Bool.false_eq_true, Bool.true_eq_false, eq_self, isnS, Bool.not_eq_eq_eq_not, zipOk, zipL, List.zip_cons_cons, List.zip_nil_right, List.zip_nil_left, List.map_cons, List.map_nil, wipe, okOf, List.nil_append, List.cons_append, augS, hdS, hdsS, rdL_same, isTy, List.any_cons, List.any_nil, Bool.or_false, Bool.or_true, Bool.true_or, List.eraseIdx_cons_zero, decide_true, decide_false, Int.reduceEq, Option.some.injEq, bop_addi, bop_adds, bop_addt, bop_addl, bop_sub, bop_mul, bop_mull, bop_mult, bop_fdiv, bop_mod, bop_pow, neg_int, tru_non, tru_bl, tru_int, tru_str, tru_tup, tru_rol, tru_ref, eq_int, eq_bl, eq_str, eq_non, cop_eq, cop_ne, cop_in, cop_ni, cop_is, cop_isn, cop_lt, cop_le, cop_gt, cop_ge, blt_lens, blt_lent, blt_leno, blt_lenr, blt_abs, blt_int, blt_intb, blt_max2, blt_min2, blt_sum, blt_all, blt_any, blt_max1, blt_min1, blt_tupt, blt_tupo, blt_tupr, blt_lstt, blt_lsto, blt_lstr, blt_sorted, ix_tup, ix_rol, ix_ref, sl_tup, sl_rol, sl_ref, mth_ref, lstOk_ref, seqS_tup, seqS_rol, seqS_ref, intS_int, int2S_int, refOk_non, refOk_bl, refOk_int, refOk_str, refOk_tup, refOk_rol, isi_]))
local macro_rules | `(tactic| walk_at "un") => `(tactic| (try simp only [cprW, cprL, wS, wE, wEs, wEo, wT, wTg, wTgs, wIt, tgsLen, endF, List.set_cons_zero, List.set_cons_succ, List.getElem?_cons_zero, List.getElem?_cons_succ, List.length_cons, List.length_nil, Nat.reduceAdd, Nat.reduceLeDiff, Nat.reduceLT, seqOf_tup, seqOf_rol, true_and, and_true, decide_eq_true_eq, Bool.not_eq_true', Bool.not_true, Bool.not_false, decide_eq_false_iff_not, ite_not, ixN_z, ixN_pos, ixN_neg, Int.reduceLE, Int.reduceLT, Int.reduceNeg, Int.reduceAdd, Int.reduceToNat, Int.cast_ofNat_Int, ↓reduceIte, Option.bind_some, pv3, Bool.false_eq_true, Bool.true_eq_false, eq_self, isnS, Bool.not_eq_eq_eq_not, zipOk, zipL, List.zip_cons_cons, List.zip_nil_right, List.zip_nil_left, List.map_cons, List.map_nil, wipe, okOf, List.nil_append, List.cons_append, augS, hdS, hdsS, rdL_same, isTy, List.any_cons, List.any_nil, Bool.or_false, Bool.or_true, Bool.true_or, List.eraseIdx_cons_zero, decide_true, decide_false, Int.reduceEq, Option.some.injEq, bop_addi, bop_adds, bop_addt, bop_addl, bop_sub, bop_mul, bop_mull, bop_mult, bop_fdiv, bop_mod, bop_pow, neg_int, tru_non, tru_bl, tru_int, tru_str, tru_tup, tru_rol, tru_ref, eq_int, eq_bl, eq_str, eq_non, cop_eq, cop_ne, cop_in, cop_ni, cop_is, cop_isn, cop_lt, cop_le, cop_gt, cop_ge, blt_lens, blt_lent, blt_leno, blt_lenr, blt_abs, blt_int, blt_intb, blt_max2, blt_min2, blt_sum, blt_all, blt_any, blt_max1, blt_min1, blt_tupt, blt_tupo, blt_tupr, blt_lstt, blt_lsto, blt_lstr, blt_sorted, ix_tup, ix_rol, ix_ref, sl_tup, sl_rol, sl_ref, mth_ref, lstOk_ref, seqS_tup, seqS_rol, seqS_ref, intS_int, int2S_int, refOk_non, refOk_bl, refOk_int, refOk_str, refOk_tup, refOk_rol, isi_]))
local macro_rules | `(tactic| walk_at "in") => `(tactic| (simp only [Fd.fn, startP, List.map_cons, List.map_nil, List.length_cons, List.length_nil, List.replicate, List.append_nil, Nat.sub_self, List.cons_append, List.nil_append, Nat.reduceSub, Nat.reduceAdd]))
local macro_rules | `(tactic| walk_at "nx") => `(tactic| (rw [ss_nil_eq]; (try dsimp only)))
section
variable {h : PH} {Q : QK} {X : XK} {k : Nat}
theorem emod0 (n s : Nat) : ((n : Int) % (s : Int) = 0) ↔ s ∣ n := by
  rw [← Int.natCast_emod, Nat.dvd_iff_mod_eq_zero]
  omega
theorem sp_least_factor (n : Nat) (n2 : 2 ≤ n) (nm : n ≤ 10000000000) (q : ∀ p : Nat, Nt.Lf n p → Q (.int p) h) : L (k + 3) I_least_factor [.int n] h Q X := by
  refine Lv_call d_least_factor.fn rfl rfl ?_
  simp only [d_least_factor, b_least_factor]
  walk_at "in"
  walk_at "st"
  refine sp_check_factored n (fun _ _ => ?_) (fun e => by omega) (fun e => by omega)
  walk_at "st"
  rw [if_neg (by omega)]
  walk_at "st"
  simp only [forL]
  refine ⟨rfl, ?_⟩
  walk_at "st"
  have d2 := emod0 n 2
  have d3 := emod0 n 3
  split
  · rename_i e
    walk_at "st"
    exact q 2 (Nt.Lf.of_least (by decide) (d2.1 e) (fun d _ _ => by omega))
  rename_i e2
  have e2' : ¬ 2 ∣ n := fun c => e2 (d2.2 c)
  walk_at "st"
  split
  · rename_i e
    walk_at "st"
    refine q 3 (Nt.Lf.of_least (by decide) (d3.1 e) (fun d h1 h2 hd => ?_))
    obtain rfl : d = 2 := by omega
    exact e2' hd
  rename_i e3
  have e3' : ¬ 3 ∣ n := fun c => e3 (d3.2 c)
  walk_at "st"
  refine ss_whl ?_
  refine whl_inv (α := Nat) (st := fun s => [some (.int n), some (.int 3), some (.int s)]) (hp := fun _ => h) (I := fun s => s % 6 = 5 ∧ s ≤ n + 6 ∧ ∀ d, 2 ≤ d → d < s → ¬ d ∣ n) (μ := fun s => n + 6 - s) 5 ⟨by decide, by omega, fun d h1 h2 hd => ?_⟩ ?_
  · have : d = 2 ∨ d = 3 ∨ d = 4 := by omega
    rcases this with rfl | rfl | rfl
    · exact e2' hd
    · exact e3' hd
    · exact e2' (Nat.dvd_trans (by decide) hd)
  rintro N s ⟨s6, sn, sd⟩ hN
  simp only at s6 sn sd ⊢
  walk_at "ev"
  refine ⟨cmul_s (by omega) (by omega), ?_⟩
  have ds := emod0 n s
  have ds2 := emod0 n (s + 2)
  have mono : s ≤ s * s := Nat.le_mul_self s
  split
  · rename_i le
    have le' : s * s ≤ n := by rw [← Int.natCast_mul] at le; omega
    walk_at "st"
    refine ⟨by omega, ?_⟩
    split
    · rename_i e
      walk_at "st"
      exact q s (Nt.Lf.of_least (by omega) (ds.1 e) sd)
    rename_i e
    walk_at "st"
    refine ⟨by omega, ?_⟩
    rw [show ((s : Int) + 2) = ((s + 2 : Nat) : Int) by omega]
    split
    · rename_i e'
      walk_at "st"
      refine q (s + 2) (Nt.Lf.of_least (by omega) (ds2.1 e') fun d h1 h2 hd => ?_)
      by_cases c : d < s
      · exact sd d h1 c hd
      · have : d = s ∨ d = s + 1 := by omega
        rcases this with c | c
        · exact e (ds.2 (c ▸ hd))
        · exact e2' (Nat.dvd_trans (Nat.dvd_of_mod_eq_zero (by omega)) hd)
    rename_i e'
    walk_at "st"
    walk_at "nx"
    exact hN (s + 6) ⟨by omega, by omega, Nt.no_div_step e2' e3' s6 sd (fun c => e (ds.2 c)) (fun c => e' (ds2.2 c))⟩ (by omega)
  · rename_i gt
    have gt' : n < s * s := by rw [← Int.natCast_mul] at gt; omega
    walk_at "st"
    exact q n (Nt.Lf.root n2 sd gt')
theorem sp_least_factor_1 (x : X (.own X_BadNumber) h) : L (k + 3) I_least_factor [.int 1] h Q X := by
  refine Lv_call d_least_factor.fn rfl rfl ?_
  simp only [d_least_factor, b_least_factor]
  walk_at "in"
  walk_at "st"
  refine sp_check_factored 1 (fun _ _ => ?_) (fun e => by omega) (fun e => by omega)
  walk_at "st"
  walk_at "st"
  exact x
end
end Co.G
namespace Co.G
open PySem Co
local macro_rules | `(tactic| walk_at "st") => `(tactic| ((try simp only [↓wE_cpr, wS, wE, wEs, wEo, wT, wTg, wTgs, wIt, tgsLen, endF, List.set_cons_zero, List.set_cons_succ, List.getElem?_cons_zero, List.getElem?_cons_succ, List.length_cons, List.length_nil, Nat.reduceAdd, Nat.reduceLeDiff, Nat.reduceLT, seqOf_tup, seqOf_rol, true_and, and_true, decide_eq_true_eq, Bool.not_eq_true', Bool.not_true, Bool.not_false, decide_eq_false_iff_not, ite_not, ixN_z, ixN_pos, ixN_neg, Int.reduceLE, Int.reduceLT, Int.reduceNeg, Int.reduceAdd, Int.reduceToNat, Int.cast_ofNat_Int, ↓reduceIte, Option.bind_some, pv3, Bool.false_eq_true, Bool.true_eq_false, eq_self, isnS, Bool.not_eq_eq_eq_not, zipOk, zipL, List.zip_cons_cons, List.zip_nil_right, List.zip_nil_left, List.map_cons, List.map_nil, wipe, okOf, List.nil_append, List.cons_append, augS, hdS, hdsS, rdL_same, isTy, List.any_cons, List.any_nil, Bool.or_false, Bool.or_true, Bool.true_or, List.eraseIdx_cons_zero, decide_true, decide_false, Int.reduceEq, Option.some.injEq, bop_addi, bop_adds, bop_addt, bop_addl, bop_sub, bop_mul, bop_mull, bop_mult, bop_fdiv, bop_mod, bop_pow, neg_int, tru_non, tru_bl, tru_int, tru_str, tru_tup, tru_rol, tru_ref, eq_int, eq_bl, eq_str, eq_non, cop_eq, cop_ne, cop_in, cop_ni, cop_is, cop_isn, cop_lt, cop_le, cop_gt, cop_ge, blt_lens, blt_lent, blt_leno, blt_lenr, blt_abs, blt_int, blt_intb, blt_max2, blt_min2, blt_sum, blt_all, blt_any, blt_max1, blt_min1, blt_tupt, blt_tupo, blt_tupr, blt_lstt, blt_lsto, blt_lstr, blt_sorted, ix_tup, ix_rol, ix_ref, sl_tup, sl_rol, sl_ref, mth_ref, lstOk_ref, seqS_tup, seqS_rol, seqS_ref, intS_int, int2S_int, refOk_non, refOk_bl, refOk_int, refOk_str, refOk_tup, refOk_rol, isi_]); (repeat (rw [ss_nil_eq]; (try dsimp only))); rw [ss_cons_eq]; simp only [↓wE_cpr, wS, wE, wEs, wEo, wT, wTg, wTgs, wIt, tgsLen, endF, List.set_cons_zero, List.set_cons_succ, List.getElem?_cons_zero, List.getElem?_cons_succ, List.length_cons, List.length_nil, Nat.reduceAdd, Nat.reduceLeDiff, Nat.reduceLT, seqOf_tup, seqOf_rol, true_and, and_true, decide_eq_true_eq, Bool.not_eq_true', Bool.not_true, Bool.not_false, decide_eq_false_iff_not, ite_not, ixN_z, ixN_pos, ixN_neg, Int.reduceLE, Int.reduceLT, Int.reduceNeg, Int.reduceAdd, Int.reduceToNat, Int.cast_ofNat_Int, ↓reduceIte, Option.bind_some, pv3, Bool.false_eq_true, Bool.true_eq_false, eq_self, isnS, Bool.not_eq_eq_eq_not, zipOk, zipL, List.zip_cons_cons, List.zip_nil_right, List.zip_nil_left, List.map_cons, List.map_nil, wipe, okOf, List.nil_append, List.cons_append, augS, hdS, hdsS, rdL_same, isTy, List.any_cons, List.any_nil, Bool.or_false, Bool.or_true, Bool.true_or, List.eraseIdx_cons_zero, decide_true, decide_false, Int.reduceEq, Option.some.injEq, bop_addi, bop_adds, bop_addt, bop_addl, bop_sub, bop_mul, bop_mull, bop_mult, bop_fdiv, bop_mod, bop_pow, neg_int, tru_non, tru_bl, tru_int, tru_str, tru_tup, tru_rol, tru_ref, eq_int, eq_bl, eq_str, eq_non, cop_eq, cop_ne, cop_in, cop_ni, cop_is, cop_isn, cop_lt, cop_le, cop_gt, cop_ge, blt_lens, blt_lent, blt_leno, blt_lenr, blt_abs, blt_int, blt_intb, blt_max2, blt_min2, blt_sum, blt_all, blt_any, blt_max1, blt_min1, blt_tupt, blt_tupo, blt_tupr, blt_lstt, blt_lsto, blt_lstr, blt_sorted, ix_tup, ix_rol, ix_ref, sl_tup, sl_rol, sl_ref, mth_ref, lstOk_ref, seqS_tup, seqS_rol, seqS_ref, intS_int, int2S_int, refOk_non, refOk_bl, refOk_int, refOk_str, refOk_tup, refOk_rol, isi_]))
local macro_rules | `(tactic| walk_at "ev") => `(tactic| (try simp only [↓wE_cpr, wS, wE, wEs, wEo, wT, wTg, wTgs, wIt, tgsLen, endF, List.set_cons_zero, List.set_cons_succ, List.getElem?_cons_zero, List.getElem?_cons_succ, List.length_cons, List.length_nil, Nat.reduceAdd, Nat.reduceLeDiff, Nat.reduceLT, seqOf_tup, seqOf_rol, true_and, and_true, decide_eq_true_eq, Bool.not_eq_true', Bool.not_true, Bool.not_false, decide_eq_false_iff_not, ite_not, ixN_z, ixN_pos, ixN_neg, Int.reduceLE, Int.reduceLT, Int.reduceNeg, Int.reduceAdd, Int.reduceToNat, Int.cast_ofNat_Int, ↓reduceIte, Option.bind_some, pv3, Bool.false_eq_true, Bool.true_eq_false, eq_self, isnS, Bool.not_eq_eq_eq_not, zipOk, zipL, List.zip_cons_cons, List.zip_nil_right, List.zip_nil_left, List.map_cons, List.map_nil, wipe, okOf, List.nil_append, List.cons_append, augS, hdS, hdsS, rdL_same, isTy, List.any_cons, List.any_nil, Bool.or_false, Bool.or_true, Bool.true_or, List.eraseIdx_cons_zero, decide_true, decide_false, Int.reduceEq, Option.some.injEq, bop_addi, bop_adds, bop_addt, bop_addl, bop_sub, bop_mul, bop_mull, bop_mult, bop_fdiv, bop_mod, bop_pow, neg_int, tru_non, tru_bl, tru_int, tru_str, tru_tup, tru_rol, tru_ref, eq_int, eq_bl, eq_str, eq_non, cop_eq, cop_ne, cop_in, cop_ni, cop_is, cop_isn, cop_lt, cop_le, cop_gt, cop_ge, blt_lens, blt_lent, blt_leno, blt_lenr, blt_abs, blt_int, blt_intb, blt_max2, blt_min2, blt_sum, blt_all, blt_any, blt_max1, blt_min1, blt_tupt, blt_tupo, blt_tupr, blt_lstt, blt_lsto, blt_lstr, blt_sorted, ix_tup, ix_rol, ix_ref, sl_tup, sl_rol, sl_ref, mth_ref, lstOk_ref, seqS_tup, seqS_rol, seqS_ref, intS_int, int2S_int, refOk_non, refOk_bl, refOk_int, refOk_str, refOk_tup, refOk_rol, isi_]))
local macro_rules | `(tactic| walk_at "un") => `(tactic| (try simp only [cprW, cprL, wS, wE, wEs, wEo, wT, wTg, wTgs, wIt, tgsLen, endF, List.set_cons_zero, List.set_cons_succ, List.getElem?_cons_zero, List.getElem?_cons_succ, List.length_cons, List.length_nil, Nat.reduceAdd, Nat.reduceLeDiff, Nat.reduceLT, seqOf_tup, seqOf_rol, true_and, and_true, decide_eq_true_eq, Bool.not_eq_true', Bool.not_true, Bool.not_false, decide_eq_false_iff_not, ite_not, ixN_z, ixN_pos, ixN_neg, Int.reduceLE, Int.reduceLT, Int.reduceNeg, Int.reduceAdd, Int.reduceToNat, Int.cast_ofNat_Int, ↓reduceIte, Option.bind_some, pv3, Bool.false_eq_true, Bool.true_eq_false, eq_self, isnS, Bool.not_eq_eq_eq_not, zipOk, zipL, List.zip_cons_cons, List.zip_nil_right, List.zip_nil_left, List.map_cons, List.map_nil, wipe, okOf, List.nil_append, List.cons_append, augS, hdS, hdsS, rdL_same, isTy, List.any_cons, List.any_nil, Bool.or_false, Bool.or_true, Bool.true_or, List.eraseIdx_cons_zero, decide_true, decide_false, Int.reduceEq, Option.some.injEq, bop_addi, bop_adds, bop_addt, bop_addl, bop_sub, bop_mul, bop_mull, bop_mult, bop_fdiv, bop_mod, bop_pow, neg_int, tru_non, tru_bl, tru_int, tru_str, tru_tup, tru_rol, tru_ref, eq_int, eq_bl, eq_str, eq_non, cop_eq, cop_ne, cop_in, cop_ni, cop_is, cop_isn, cop_lt, cop_le, cop_gt, cop_ge, blt_lens, blt_lent, blt_leno, blt_lenr, blt_abs, blt_int, blt_intb, blt_max2, blt_min2, blt_sum, blt_all, blt_any, blt_max1, blt_min1, blt_tupt, blt_tupo, blt_tupr, blt_lstt, blt_lsto, blt_lstr, blt_sorted, ix_tup, ix_rol, ix_ref, sl_tup, sl_rol, sl_ref, mth_ref, lstOk_ref, seqS_tup, seqS_rol, seqS_ref, intS_int, int2S_int, refOk_non, refOk_bl, refOk_int, refOk_str, refOk_tup, refOk_rol, isi_]))
local macro_rules | `(tactic| walk_at "in") => `(tactic| (simp only [Fd.fn, startP, List.map_cons, List.map_nil, List.length_cons, List.length_nil, List.replicate, List.append_nil, Nat.sub_self, List.cons_append, List.nil_append, Nat.reduceSub, Nat.reduceAdd]))
local macro_rules | `(tactic| walk_at "nx") => `(tactic| (rw [ss_nil_eq]; (try dsimp only)))
section
variable {h : PH} {Q : QK} {X : XK} {k : Nat}
theorem sp_is_prime (n : Nat) (nm : n ≤ 10000000000) (q : ∀ b : Bool, (b = true ↔ Nt.Pr n) → Q (.bl b) h) : L (k + 4) I_is_prime [.int n] h Q X := by
  refine Lv_call d_is_prime.fn rfl rfl ?_
  simp only [d_is_prime, b_is_prime]
  walk_at "in"
  walk_at "st"
  refine sp_is_count _ trivial ?_
  simp only [isCnt, decide_eq_true (show (0 : Int) ≤ n by omega)]
  walk_at "ev"
  split
  · rename_i e
    walk_at "st"
    exact q false ⟨fun c => (by cases c), fun c => (by have := c.1; omega)⟩
  · rename_i e
    walk_at "nx"
    walk_at "st"
    refine sp_least_factor n (by omega) nm fun p hp => ?_
    walk_at "ev"
    refine q _ ⟨fun c => ?_, fun c => ?_⟩
    · have := of_decide_eq_true c
      obtain rfl : p = n := by omega
      exact hp.pr
    · exact decide_eq_true (by rw [hp.uniq c.lf])
theorem sp_is_prime_no (v : PV) (hv : refOk v h) (hc : isCnt v = false) (q : Q (.bl false) h) : L (k + 4) I_is_prime [v] h Q X := by
  refine Lv_call d_is_prime.fn rfl rfl ?_
  simp only [d_is_prime, b_is_prime]
  walk_at "in"
  walk_at "st"
  refine sp_is_count _ hv ?_
  rw [hc]
  walk_at "ev"
  walk_at "st"
  exact q
end
end Co.G
namespace Co.G
open PySem Co
local macro_rules | `(tactic| walk_at "st") => `(tactic| ((try simp only [↓wE_cpr, wS, wE, wEs, wEo, wT, wTg, wTgs, wIt, tgsLen, endF, List.set_cons_zero, List.set_cons_succ, List.getElem?_cons_zero, List.getElem?_cons_succ, List.length_cons, List.length_nil, Nat.reduceAdd, Nat.reduceLeDiff, Nat.reduceLT, seqOf_tup, seqOf_rol, true_and, and_true, decide_eq_true_eq, Bool.not_eq_true', Bool.not_true, Bool.not_false, decide_eq_false_iff_not, ite_not, ixN_z, ixN_pos, ixN_neg, Int.reduceLE, Int.reduceLT, Int.reduceNeg, Int.reduceAdd, Int.reduceToNat, Int.cast_ofNat_Int, ↓reduceIte, Option.bind_some, pv3, Bool.false_eq_true, Bool.true_eq_false, eq_self, isnS, Bool.not_eq_eq_eq_not, zipOk, zipL, List.zip_cons_cons, List.zip_nil_right, List.zip_nil_left, List.map_cons, List.map_nil, wipe, okOf, List.nil_append, List.cons_append, augS, hdS, hdsS, rdL_same, isTy, List.any_cons, List.any_nil, Bool.or_false, Bool.or_true, Bool.true_or, List.eraseIdx_cons_zero, decide_true, decide_false, Int.reduceEq, Option.some.injEq, bop_addi, bop_adds, bop_addt, bop_addl, bop_sub, bop_mul, bop_mull, bop_mult, bop_fdiv, bop_mod, bop_pow, neg_int, tru_non, tru_bl, tru_int, tru_str, tru_tup, tru_rol, tru_ref, eq_int, eq_bl, eq_str, eq_non, cop_eq, cop_ne, cop_in, cop_ni, cop_is, cop_isn, cop_lt, cop_le, cop_gt, cop_ge, blt_lens, blt_lent, blt_leno, blt_lenr, blt_abs, blt_int, blt_intb, blt_max2, blt_min2, blt_sum, blt_all, blt_any, blt_max1, blt_min1, blt_tupt, blt_tupo, blt_tupr, blt_lstt, blt_lsto, blt_lstr, blt_sorted, ix_tup, ix_rol, ix_ref, sl_tup, sl_rol, sl_ref, mth_ref, lstOk_ref, seqS_tup, seqS_rol, seqS_ref, intS_int, int2S_int, refOk_non, refOk_bl, refOk_int, refOk_str, refOk_tup, refOk_rol, isi_]); (repeat (rw [ss_nil_eq]; (try dsimp only))); rw [ss_cons_eq]; simp only [↓wE_cpr, wS, wE, wEs, wEo, wT, wTg, wTgs, wIt, tgsLen, endF, List.set_cons_zero, List.set_cons_succ, List.getElem?_cons_zero, List.getElem?_cons_succ, List.length_cons, List.length_nil, Nat.reduceAdd, Nat.reduceLeDiff, Nat.reduceLT, seqOf_tup, seqOf_rol, true_and, and_true, decide_eq_true_eq, Bool.not_eq_true', Bool.not_true, Bool.not_false, decide_eq_false_iff_not, ite_not, ixN_z, ixN_pos, ixN_neg, Int.reduceLE, Int.reduceLT, Int.reduceNeg, Int.reduceAdd, Int.reduceToNat, Int.cast_ofNat_Int, ↓reduceIte, Option.bind_some, pv3, Bool.false_eq_true, Bool.true_eq_false, eq_self, isnS, Bool.not_eq_eq_eq_not, zipOk, zipL, List.zip_cons_cons, List.zip_nil_right, List.zip_nil_left, List.map_cons, List.map_nil, wipe, okOf, List.nil_append, List.cons_append, augS, hdS, hdsS, rdL_same, isTy, List.any_cons, List.any_nil, Bool.or_false, Bool.or_true, Bool.true_or, List.eraseIdx_cons_zero, decide_true, decide_false, Int.reduceEq, Option.some.injEq, bop_addi, bop_adds, bop_addt, bop_addl, bop_sub, bop_mul, bop_mull, bop_mult, bop_fdiv, bop_mod, bop_pow, neg_int, tru_non, tru_bl, tru_int, tru_str, tru_tup, tru_rol, tru_ref, eq_int, eq_bl, eq_str, eq_non, cop_eq, cop_ne, cop_in, cop_ni, cop_is, cop_isn, cop_lt, cop_le, cop_gt, cop_ge, blt_lens, blt_lent, blt_leno, blt_lenr, blt_abs, blt_int, blt_intb, blt_max2, blt_min2, blt_sum, blt_all, blt_any, blt_max1, blt_min1, blt_tupt, blt_tupo, blt_tupr, blt_lstt, blt_lsto, blt_lstr, blt_sorted, ix_tup, ix_rol, ix_ref, sl_tup, sl_rol, sl_ref, mth_ref, lstOk_ref, seqS_tup, seqS_rol, seqS_ref, intS_int, int2S_int, refOk_non, refOk_bl, refOk_int, refOk_str, refOk_tup, refOk_rol, isi_]))
local macro_rules | `(tactic| walk_at "ev") => `(tactic| (try simp only [↓wE_cpr, wS, wE, wEs, wEo, wT, wTg, wTgs, wIt, tgsLen, endF, List.set_cons_zero, List.set_cons_succ, List.getElem?_cons_zero, List.getElem?_cons_succ, List.length_cons, List.length_nil, Nat.reduceAdd, Nat.reduceLeDiff, Nat.reduceLT, seqOf_tup, seqOf_rol, true_and, and_true, decide_eq_true_eq, Bool.not_eq_true', Bool.not_true, Bool.not_false, decide_eq_false_iff_not, ite_not, ixN_z, ixN_pos, ixN_neg, Int.reduceLE, Int.reduceLT, Int.reduceNeg, Int.reduceAdd, Int.reduceToNat, Int.cast_ofNat_Int, ↓reduceIte, Option.bind_some, pv3, Bool.false_eq_true, Bool.true_eq_false, eq_self, isnS, Bool.not_eq_eq_eq_not, zipOk, zipL, List.zip_cons_cons, List.zip_nil_right, List.zip_nil_left, List.map_cons, List.map_nil, wipe, okOf, List.nil_append, List.cons_append, augS, hdS, hdsS, rdL_same, isTy, List.any_cons, List.any_nil, Bool.or_false, Bool.or_true, Bool.true_or, List.eraseIdx_cons_zero, decide_true, decide_false, Int.reduceEq, Option.some.injEq, bop_addi, bop_adds, bop_addt, bop_addl, bop_sub, bop_mul, bop_mull, bop_mult, bop_fdiv, bop_mod, bop_pow, neg_int, tru_non, tru_bl, tru_int, tru_str, tru_tup, tru_rol, tru_ref, eq_int, eq_bl, eq_str, eq_non, cop_eq, cop_ne, cop_in, cop_ni, cop_is, cop_isn, cop_lt, cop_le, cop_gt, cop_ge, blt_lens, blt_lent, blt_leno, blt_lenr, blt_abs, blt_int, blt_intb, blt_max2, blt_min2, blt_sum, blt_all, blt_any, blt_max1, blt_min1, blt_tupt, blt_tupo, blt_tupr, blt_lstt, blt_lsto, blt_lstr, blt_sorted, ix_tup, ix_rol, ix_ref, sl_tup, sl_rol, sl_ref, mth_ref, lstOk_ref, seqS_tup, seqS_rol, seqS_ref, intS_int, int2S_int, refOk_non, refOk_bl, refOk_int, refOk_str, refOk_tup, refOk_rol, isi_]))
local macro_rules | `(tactic| walk_at "un") => `(tactic| (try simp only [cprW, cprL, wS, wE, wEs, wEo, wT, wTg, wTgs, wIt, tgsLen, endF, List.set_cons_zero, List.set_cons_succ, List.getElem?_cons_zero, List.getElem?_cons_succ, List.length_cons, List.length_nil, Nat.reduceAdd, Nat.reduceLeDiff, Nat.reduceLT, seqOf_tup, seqOf_rol, true_and, and_true, decide_eq_true_eq, Bool.not_eq_true', Bool.not_true, Bool.not_false, decide_eq_false_iff_not, ite_not, ixN_z, ixN_pos, ixN_neg, Int.reduceLE, Int.reduceLT, Int.reduceNeg, Int.reduceAdd, Int.reduceToNat, Int.cast_ofNat_Int, ↓reduceIte, Option.bind_some, pv3, Bool.false_eq_true, Bool.true_eq_false, eq_self, isnS, Bool.not_eq_eq_eq_not, zipOk, zipL, List.zip_cons_cons, List.zip_nil_right, List.zip_nil_left, List.map_cons, List.map_nil, wipe, okOf, List.nil_append, List.cons_append, augS, hdS, hdsS, rdL_same, isTy, List.any_cons, List.any_nil, Bool.or_false, Bool.or_true, Bool.true_or, List.eraseIdx_cons_zero, decide_true, decide_false, Int.reduceEq, Option.some.injEq, bop_addi, bop_adds, bop_addt, bop_addl, bop_sub, bop_mul, bop_mull, bop_mult, bop_fdiv, bop_mod, bop_pow, neg_int, tru_non, tru_bl, tru_int, tru_str, tru_tup, tru_rol, tru_ref, eq_int, eq_bl, eq_str, eq_non, cop_eq, cop_ne, cop_in, cop_ni, cop_is, cop_isn, cop_lt, cop_le, cop_gt, cop_ge, blt_lens, blt_lent, blt_leno, blt_lenr, blt_abs, blt_int, blt_intb, blt_max2, blt_min2, blt_sum, blt_all, blt_any, blt_max1, blt_min1, blt_tupt, blt_tupo, blt_tupr, blt_lstt, blt_lsto, blt_lstr, blt_sorted, ix_tup, ix_rol, ix_ref, sl_tup, sl_rol, sl_ref, mth_ref, lstOk_ref, seqS_tup, seqS_rol, seqS_ref, intS_int, int2S_int, refOk_non, refOk_bl, refOk_int, refOk_str, refOk_tup, refOk_rol, isi_]))
local macro_rules | `(tactic| walk_at "in") => `(tactic| (simp only [Fd.fn, startP, List.map_cons, List.map_nil, List.length_cons, List.length_nil, List.replicate, List.append_nil, Nat.sub_self, List.cons_append, List.nil_append, Nat.reduceSub, Nat.reduceAdd]))
local macro_rules | `(tactic| walk_at "nx") => `(tactic| (rw [ss_nil_eq]; (try dsimp only)))
section
variable {h : PH} {Q : QK} {X : XK} {k : Nat}
def pvPE (x : Nat × Nat) : PV := .tup [.int x.1, .int x.2]
theorem sp_factors (n : Nat) (n1 : 1 ≤ n) (nm : n ≤ 10000000000) (q : ∀ l : List (Nat × Nat), Nt.FacL 0 n l → ∀ h', Ext h h' → Q (.tup (l.map pvPE)) h') : L (k + 4) I_factors [.int n] h Q X := by
  refine Lv_call d_factors.fn rfl rfl ?_
  simp only [d_factors, b_factors]
  walk_at "in"
  walk_at "st"
  refine sp_check_factored n (fun _ _ => ?_) (fun e => by omega) (fun e => by omega)
  walk_at "st"
  intro a fa
  refine ss_whl ?_
  refine whl_inv (α := (Nat × Nat × List (Nat × Nat)) × (Option PV × Option PV × PH)) (st := fun x => [some (.int x.1.1), some (.ref a), x.2.1, x.2.2.1]) (hp := fun x => x.2.2.2)
    (I := fun x => 1 ≤ x.1.1 ∧ x.1.1 ≤ n ∧ (∀ d, 2 ≤ d → d ∣ x.1.1 → x.1.2.1 < d) ∧ (∀ r, Nt.FacL x.1.2.1 x.1.1 r → Nt.FacL 0 n (x.1.2.2 ++ r)) ∧ 2 ^ x.1.2.2.length * x.1.1 ≤ n ∧ x.2.2.2 a = some (.lst (x.1.2.2.map pvPE)) ∧ Ext h x.2.2.2)
    (μ := fun x => x.1.1) ((n, 0, []), (none, none, _)) ⟨n1, Nat.le_refl _, fun d d2 _ => by simp only; omega, fun r hr => hr, by simp, pupd_same, Ext.new fa⟩ ?_
  rintro N ⟨⟨m, lo, l⟩, ⟨u, w, h1⟩⟩ ⟨m1, mn, lod, cl, len, hl, he⟩ hN
  simp only at m1 mn lod cl len hl he ⊢
  walk_at "ev"
  split
  · rename_i m2
    walk_at "st"
    refine sp_least_factor m (by omega) (by omega) fun p hp => ?_
    walk_at "ev"
    refine ss_whl ?_
    have p2 := hp.1
    refine whl_inv (α := Nat × Nat) (st := fun x => [some (.int x.1), some (.ref a), some (.int p), some (.int x.2)]) (hp := fun _ => h1) (I := fun x => m = p ^ x.2 * x.1 ∧ 1 ≤ x.1) (μ := fun x => x.1) (m, 0) ⟨by simp, m1⟩ ?_
    rintro N2 ⟨c, e⟩ ⟨hm, c1⟩ hN2
    simp only at hm c1 ⊢
    have dv := emod0 c p
    have cle : c ≤ m := by rw [hm]; exact Nat.le_mul_of_pos_left _ (Nat.pow_pos (by omega))
    walk_at "ev"
    refine ⟨by omega, ?_⟩
    split
    · rename_i d
      obtain ⟨t, ht⟩ := dv.1 d
      walk_at "st"
      refine ⟨cdiv_s (by omega) (by have := Nat.le_of_dvd (by omega) hp.2.1; omega), ?_⟩
      walk_at "nx"
      have ct : c / p = t := by rw [ht]; exact Nat.mul_div_cancel_left _ (by omega)
      have t1 : 1 ≤ t := by
        by_cases c0 : t = 0
        · rw [c0] at ht; omega
        · omega
      have := hN2 (t, e + 1) ⟨by simp only; rw [hm, ht, Nat.pow_succ]; grind, t1⟩ (by simp only; rw [ht]; have := Nat.mul_le_mul_right t p2; omega)
      rw [← Int.natCast_ediv, ct]
      simpa using this
    · rename_i d
      have nd : ¬ p ∣ c := fun z => d (dv.2 z)
      have e1 : 1 ≤ e := by
        by_cases c0 : e = 0
        · rw [c0, Nat.pow_zero, Nat.one_mul] at hm; exact absurd (hm ▸ hp.2.1) nd
        · omega
      have cl2 : 2 * c ≤ m := by
        rw [hm]
        refine Nat.mul_le_mul_right c (Nat.le_trans p2 ?_)
        have := Nat.pow_le_pow_right (n := p) (by omega) e1
        rwa [Nat.pow_one] at this
      have ll : l.length ≤ 40 := by
        by_cases z : l.length ≤ 40
        · exact z
        · have h1 := Nat.pow_le_pow_right (n := 2) (by decide) (show 40 ≤ l.length by omega)
          have h2 := Nat.mul_le_mul h1 m1
          omega
      walk_at "st"
      simp only [hl, mthL]
      refine ⟨by simp only [List.length_map]; omega, ?_⟩
      walk_at "nx"
      have := hN ((c, p, l ++ [(p, e)]), (some (.int p), some (.int e), pupd h1 a (.lst ((l ++ [(p, e)]).map pvPE)))) ⟨c1, by simp only; omega, fun d d2 hd => ?_, fun r hr => ?_, ?_, pupd_same, ?_⟩ (by simp only; omega)
      · simpa [pvPE] using this
      · simp only at hd ⊢
        have := hp.2.2 d d2 (Nat.dvd_trans hd ⟨p ^ e, by rw [hm, Nat.mul_comm]⟩)
        by_cases z : d = p
        · exact absurd (z ▸ hd) nd
        · omega
      · simp only at hr ⊢
        have := cl ((p, e) :: r) ⟨lod p p2 hp.2.1, hp.pr, e1, c, hm, hr⟩
        simpa using this
      · simp only [List.length_append, List.length_singleton, Nat.pow_succ]
        have := Nat.mul_le_mul_left (2 ^ l.length) cl2
        grind
      · intro u o eu
        exact (pupd_ne (ne_new eu fa)).trans (he u o eu)
  · rename_i m2
    obtain rfl : m = 1 := by omega
    walk_at "st"
    rw [rdL_of hl]
    walk_at "ev"
    have := cl [] rfl
    rw [List.append_nil] at this
    exact q l this h1 he
theorem sp_factors_no (v : PV) (hv : refOk v h) (hc : isCnt v = false) (x1 : X (.own X_BadNumber) h) : L (k + 4) I_factors [v] h Q X := by
  refine Lv_call d_factors.fn rfl rfl ?_
  simp only [d_factors, b_factors]
  walk_at "in"
  walk_at "st"
  exact sp_check_factored_no v hv hc x1
theorem sp_factors_bad (n : Int) (x1 : n < 1 → X (.own X_BadNumber) h) (x2 : 10000000000 < n → X (.own X_BadSize) h) (hn : ¬ (1 ≤ n ∧ n ≤ 10000000000)) : L (k + 4) I_factors [.int n] h Q X := by
  refine Lv_call d_factors.fn rfl rfl ?_
  simp only [d_factors, b_factors]
  walk_at "in"
  walk_at "st"
  exact sp_check_factored n (fun a b => absurd ⟨a, b⟩ hn) x1 x2
end
end Co.G
namespace Co.G
open PySem Co
local macro_rules | `(tactic| walk_at "st") => `(tactic| ((try simp only [↓wE_cpr, wS, wE, wEs, wEo, wT, wTg, wTgs, wIt, tgsLen, endF, List.set_cons_zero, List.set_cons_succ, List.getElem?_cons_zero, List.getElem?_cons_succ, List.length_cons, List.length_nil, Nat.reduceAdd, Nat.reduceLeDiff, Nat.reduceLT, seqOf_tup, seqOf_rol, true_and, and_true, decide_eq_true_eq, Bool.not_eq_true', Bool.not_true, Bool.not_false, decide_eq_false_iff_not, ite_not, ixN_z, ixN_pos, ixN_neg, Int.reduceLE, Int.reduceLT, Int.reduceNeg, Int.reduceAdd, Int.reduceToNat, Int.cast_ofNat_Int, ↓reduceIte, Option.bind_some, pv3, Bool.false_eq_true, Bool.true_eq_false, eq_self, isnS, Bool.not_eq_eq_eq_not, zipOk, zipL, List.zip_cons_cons, List.zip_nil_right, List.zip_nil_left, List.map_cons, List.map_nil, wipe, okOf, List.nil_append, List.cons_append, augS, hdS, hdsS, rdL_same, isTy, List.any_cons, List.any_nil, Bool.or_false, Bool.or_true, Bool.true_or, List.eraseIdx_cons_zero, decide_true, decide_false, Int.reduceEq, Option.some.injEq, bop_addi, bop_adds, bop_addt, bop_addl, bop_sub, bop_mul, bop_mull, bop_mult, bop_fdiv, bop_mod, bop_pow, neg_int, tru_non, tru_bl, tru_int, tru_str, tru_tup, tru_rol, tru_ref, eq_int, eq_bl, eq_str, eq_non, cop_eq, cop_ne, cop_in, cop_ni, cop_is, cop_isn, cop_lt, cop_le, cop_gt, cop_ge, blt_lens, blt_lent, blt_leno, blt_lenr, blt_abs, blt_int, blt_intb, blt_max2, blt_min2, blt_sum, blt_all, blt_any, blt_max1, blt_min1, blt_tupt, blt_tupo, blt_tupr, blt_lstt, blt_lsto, blt_lstr, blt_sorted, ix_tup, ix_rol, ix_ref, sl_tup, sl_rol, sl_ref, mth_ref, lstOk_ref, seqS_tup, seqS_rol, seqS_ref, intS_int, int2S_int, refOk_non, refOk_bl, refOk_int, refOk_str, refOk_tup, refOk_rol, isi_]); (repeat (rw [ss_nil_eq]; (try dsimp only))); rw [ss_cons_eq]; simp only [↓wE_cpr, wS, wE, wEs, wEo, wT, wTg, wTgs, wIt, tgsLen, endF, List.set_cons_zero, List.set_cons_succ, List.getElem?_cons_zero, List.getElem?_cons_succ, List.length_cons, List.length_nil, Nat.reduceAdd, Nat.reduceLeDiff, Nat.reduceLT, seqOf_tup, seqOf_rol, true_and, and_true, decide_eq_true_eq, Bool.not_eq_true', Bool.not_true, Bool.not_false, decide_eq_false_iff_not, ite_not, ixN_z, ixN_pos, ixN_neg, Int.reduceLE, Int.reduceLT, Int.reduceNeg, Int.reduceAdd, Int.reduceToNat, Int.cast_ofNat_Int, ↓reduceIte, Option.bind_some, pv3, Bool.false_eq_true, Bool.true_eq_false, eq_self, isnS, Bool.not_eq_eq_eq_not, zipOk, zipL, List.zip_cons_cons, List.zip_nil_right, List.zip_nil_left, List.map_cons, List.map_nil, wipe, okOf, List.nil_append, List.cons_append, augS, hdS, hdsS, rdL_same, isTy, List.any_cons, List.any_nil, Bool.or_false, Bool.or_true, Bool.true_or, List.eraseIdx_cons_zero, decide_true, decide_false, Int.reduceEq, Option.some.injEq, bop_addi, bop_adds, bop_addt, bop_addl, bop_sub, bop_mul, bop_mull, bop_mult, bop_fdiv, bop_mod, bop_pow, neg_int, tru_non, tru_bl, tru_int, tru_str, tru_tup, tru_rol, tru_ref, eq_int, eq_bl, eq_str, eq_non, cop_eq, cop_ne, cop_in, cop_ni, cop_is, cop_isn, cop_lt, cop_le, cop_gt, cop_ge, blt_lens, blt_lent, blt_leno, blt_lenr, blt_abs, blt_int, blt_intb, blt_max2, blt_min2, blt_sum, blt_all, blt_any, blt_max1, blt_min1, blt_tupt, blt_tupo, blt_tupr, blt_lstt, blt_lsto, blt_lstr, blt_sorted, ix_tup, ix_rol, ix_ref, sl_tup, sl_rol, sl_ref, mth_ref, lstOk_ref, seqS_tup, seqS_rol, seqS_ref, intS_int, int2S_int, refOk_non, refOk_bl, refOk_int, refOk_str, refOk_tup, refOk_rol, isi_]))
local macro_rules | `(tactic| walk_at "ev") => `(tactic| (try simp only [↓wE_cpr, wS, wE, wEs, wEo, wT, wTg, wTgs, wIt, tgsLen, endF, List.set_cons_zero, List.set_cons_succ, List.getElem?_cons_zero, List.getElem?_cons_succ, List.length_cons, List.length_nil, Nat.reduceAdd, Nat.reduceLeDiff, Nat.reduceLT, seqOf_tup, seqOf_rol, true_and, and_true, decide_eq_true_eq, Bool.not_eq_true', Bool.not_true, Bool.not_false, decide_eq_false_iff_not, ite_not, ixN_z, ixN_pos, ixN_neg, Int.reduceLE, Int.reduceLT, Int.reduceNeg, Int.reduceAdd, Int.reduceToNat, Int.cast_ofNat_Int, ↓reduceIte, Option.bind_some, pv3, Bool.false_eq_true, Bool.true_eq_false, eq_self, isnS, Bool.not_eq_eq_eq_not, zipOk, zipL, List.zip_cons_cons, List.zip_nil_right, List.zip_nil_left, List.map_cons, List.map_nil, wipe, okOf, List.nil_append, List.cons_append, augS, hdS, hdsS, rdL_same, isTy, List.any_cons, List.any_nil, Bool.or_false, Bool.or_true, Bool.true_or, List.eraseIdx_cons_zero, decide_true, decide_false, Int.reduceEq, Option.some.injEq, bop_addi, bop_adds, bop_addt, bop_addl, bop_sub, bop_mul, bop_mull, bop_mult, bop_fdiv, bop_mod, bop_pow, neg_int, tru_non, tru_bl, tru_int, tru_str, tru_tup, tru_rol, tru_ref, eq_int, eq_bl, eq_str, eq_non, cop_eq, cop_ne, cop_in, cop_ni, cop_is, cop_isn, cop_lt, cop_le, cop_gt, cop_ge, blt_lens, blt_lent, blt_leno, blt_lenr, blt_abs, blt_int, blt_intb, blt_max2, blt_min2, blt_sum, blt_all, blt_any, blt_max1, blt_min1, blt_tupt, blt_tupo, blt_tupr, blt_lstt, blt_lsto, blt_lstr, blt_sorted, ix_tup, ix_rol, ix_ref, sl_tup, sl_rol, sl_ref, mth_ref, lstOk_ref, seqS_tup, seqS_rol, seqS_ref, intS_int, int2S_int, refOk_non, refOk_bl, refOk_int, refOk_str, refOk_tup, refOk_rol, isi_]))
local macro_rules | `(tactic| walk_at "un") => `(tactic| (try simp only [cprW, cprL, wS, wE, wEs, wEo, wT, wTg, wTgs, wIt, tgsLen, endF, List.set_cons_zero, List.set_cons_succ, List.getElem?_cons_zero, List.getElem?_cons_succ, List.length_cons, List.length_nil, Nat.reduceAdd, Nat.reduceLeDiff, Nat.reduceLT, seqOf_tup, seqOf_rol, true_and, and_true, decide_eq_true_eq, Bool.not_eq_true', Bool.not_true, Bool.not_false, decide_eq_false_iff_not, ite_not, ixN_z, ixN_pos, ixN_neg, Int.reduceLE, Int.reduceLT, Int.reduceNeg, Int.reduceAdd, Int.reduceToNat, Int.cast_ofNat_Int, ↓reduceIte, Option.bind_some, pv3, Bool.false_eq_true, Bool.true_eq_false, eq_self, isnS, Bool.not_eq_eq_eq_not, zipOk, zipL, List.zip_cons_cons, List.zip_nil_right, List.zip_nil_left, List.map_cons, List.map_nil, wipe, okOf, List.nil_append, List.cons_append, augS, hdS, hdsS, rdL_same, isTy, List.any_cons, List.any_nil, Bool.or_false, Bool.or_true, Bool.true_or, List.eraseIdx_cons_zero, decide_true, decide_false, Int.reduceEq, Option.some.injEq, bop_addi, bop_adds, bop_addt, bop_addl, bop_sub, bop_mul, bop_mull, bop_mult, bop_fdiv, bop_mod, bop_pow, neg_int, tru_non, tru_bl, tru_int, tru_str, tru_tup, tru_rol, tru_ref, eq_int, eq_bl, eq_str, eq_non, cop_eq, cop_ne, cop_in, cop_ni, cop_is, cop_isn, cop_lt, cop_le, cop_gt, cop_ge, blt_lens, blt_lent, blt_leno, blt_lenr, blt_abs, blt_int, blt_intb, blt_max2, blt_min2, blt_sum, blt_all, blt_any, blt_max1, blt_min1, blt_tupt, blt_tupo, blt_tupr, blt_lstt, blt_lsto, blt_lstr, blt_sorted, ix_tup, ix_rol, ix_ref, sl_tup, sl_rol, sl_ref, mth_ref, lstOk_ref, seqS_tup, seqS_rol, seqS_ref, intS_int, int2S_int, refOk_non, refOk_bl, refOk_int, refOk_str, refOk_tup, refOk_rol, isi_]))
local macro_rules | `(tactic| walk_at "in") => `(tactic| (simp only [Fd.fn, startP, List.map_cons, List.map_nil, List.length_cons, List.length_nil, List.replicate, List.append_nil, Nat.sub_self, List.cons_append, List.nil_append, Nat.reduceSub, Nat.reduceAdd]))
local macro_rules | `(tactic| walk_at "nx") => `(tactic| (rw [ss_nil_eq]; (try dsimp only)))
section
variable {h : PH} {Q : QK} {X : XK} {k : Nat}
theorem sp_primes_of (n : Nat) (n1 : 1 ≤ n) (nm : n ≤ 10000000000) (q : ∀ l : List (Nat × Nat), Nt.FacL 0 n l → ∀ h', Ext h h' → Q (.tup (l.map fun x => .int (x.1 : Int))) h') : L (k + 5) I_primes_of [.int n] h Q X := by
  refine Lv_call d_primes_of.fn rfl rfl ?_
  simp only [d_primes_of, b_primes_of]
  walk_at "in"
  walk_at "st"
  refine sp_factors n n1 nm fun l hl h1 e1 => ?_
  walk_at "ev"
  refine cpr_gen pvPE (fun h' => h' = h1) (fun _ => true) (fun x => .int (x.1 : Int)) ?_ rfl (fun _ _ => rfl) ?_ ?_
  · have := hl.short nm
    omega
  · intro x hx h' eh R S r s
    simp only [pvPE]
    walk_at "ev"
    exact r rfl h' eh
  · intro h' eh
    rw [eh, filter_true _ (fun _ => rfl)]
    intro p fp
    walk_at "ev"
    exact q l hl _ (e1.trans (Ext.new fp))
end
end Co.G
namespace Co.G
open PySem Co
local macro_rules | `(tactic| walk_at "st") => `(tactic| ((try simp only [↓wE_cpr, wS, wE, wEs, wEo, wT, wTg, wTgs, wIt, tgsLen, endF, List.set_cons_zero, List.set_cons_succ, List.getElem?_cons_zero, List.getElem?_cons_succ, List.length_cons, List.length_nil, Nat.reduceAdd, Nat.reduceLeDiff, Nat.reduceLT, seqOf_tup, seqOf_rol, true_and, and_true, decide_eq_true_eq, Bool.not_eq_true', Bool.not_true, Bool.not_false, decide_eq_false_iff_not, ite_not, ixN_z, ixN_pos, ixN_neg, Int.reduceLE, Int.reduceLT, Int.reduceNeg, Int.reduceAdd, Int.reduceToNat, Int.cast_ofNat_Int, ↓reduceIte, Option.bind_some, pv3, Bool.false_eq_true, Bool.true_eq_false, eq_self, isnS, Bool.not_eq_eq_eq_not, zipOk, zipL, List.zip_cons_cons, List.zip_nil_right, List.zip_nil_left, List.map_cons, List.map_nil, wipe, okOf, List.nil_append, List.cons_append, augS, hdS, hdsS, rdL_same, isTy, List.any_cons, List.any_nil, Bool.or_false, Bool.or_true, Bool.true_or, List.eraseIdx_cons_zero, decide_true, decide_false, Int.reduceEq, Option.some.injEq, bop_addi, bop_adds, bop_addt, bop_addl, bop_sub, bop_mul, bop_mull, bop_mult, bop_fdiv, bop_mod, bop_pow, neg_int, tru_non, tru_bl, tru_int, tru_str, tru_tup, tru_rol, tru_ref, eq_int, eq_bl, eq_str, eq_non, cop_eq, cop_ne, cop_in, cop_ni, cop_is, cop_isn, cop_lt, cop_le, cop_gt, cop_ge, blt_lens, blt_lent, blt_leno, blt_lenr, blt_abs, blt_int, blt_intb, blt_max2, blt_min2, blt_sum, blt_all, blt_any, blt_max1, blt_min1, blt_tupt, blt_tupo, blt_tupr, blt_lstt, blt_lsto, blt_lstr, blt_sorted, ix_tup, ix_rol, ix_ref, sl_tup, sl_rol, sl_ref, mth_ref, lstOk_ref, seqS_tup, seqS_rol, seqS_ref, intS_int, int2S_int, refOk_non, refOk_bl, refOk_int, refOk_str, refOk_tup, refOk_rol, isi_]); (repeat (rw [ss_nil_eq]; (try dsimp only))); rw [ss_cons_eq]; simp only [↓wE_cpr, wS, wE, wEs, wEo, wT, wTg, wTgs, wIt, tgsLen, endF, List.set_cons_zero, List.set_cons_succ, List.getElem?_cons_zero, List.getElem?_cons_succ, List.length_cons, List.length_nil, Nat.reduceAdd, Nat.reduceLeDiff, Nat.reduceLT, seqOf_tup, seqOf_rol, true_and, and_true, decide_eq_true_eq, Bool.not_eq_true', Bool.not_true, Bool.not_false, decide_eq_false_iff_not, ite_not, ixN_z, ixN_pos, ixN_neg, Int.reduceLE, Int.reduceLT, Int.reduceNeg, Int.reduceAdd, Int.reduceToNat, Int.cast_ofNat_Int, ↓reduceIte, Option.bind_some, pv3, Bool.false_eq_true, Bool.true_eq_false, eq_self, isnS, Bool.not_eq_eq_eq_not, zipOk, zipL, List.zip_cons_cons, List.zip_nil_right, List.zip_nil_left, List.map_cons, List.map_nil, wipe, okOf, List.nil_append, List.cons_append, augS, hdS, hdsS, rdL_same, isTy, List.any_cons, List.any_nil, Bool.or_false, Bool.or_true, Bool.true_or, List.eraseIdx_cons_zero, decide_true, decide_false, Int.reduceEq, Option.some.injEq, bop_addi, bop_adds, bop_addt, bop_addl, bop_sub, bop_mul, bop_mull, bop_mult, bop_fdiv, bop_mod, bop_pow, neg_int, tru_non, tru_bl, tru_int, tru_str, tru_tup, tru_rol, tru_ref, eq_int, eq_bl, eq_str, eq_non, cop_eq, cop_ne, cop_in, cop_ni, cop_is, cop_isn, cop_lt, cop_le, cop_gt, cop_ge, blt_lens, blt_lent, blt_leno, blt_lenr, blt_abs, blt_int, blt_intb, blt_max2, blt_min2, blt_sum, blt_all, blt_any, blt_max1, blt_min1, blt_tupt, blt_tupo, blt_tupr, blt_lstt, blt_lsto, blt_lstr, blt_sorted, ix_tup, ix_rol, ix_ref, sl_tup, sl_rol, sl_ref, mth_ref, lstOk_ref, seqS_tup, seqS_rol, seqS_ref, intS_int, int2S_int, refOk_non, refOk_bl, refOk_int, refOk_str, refOk_tup, refOk_rol, isi_]))
local macro_rules | `(tactic| walk_at "ev") => `(tactic| (try simp only [↓wE_cpr, wS, wE, wEs, wEo, wT, wTg, wTgs, wIt, tgsLen, endF, List.set_cons_zero, List.set_cons_succ, List.getElem?_cons_zero, List.getElem?_cons_succ, List.length_cons, List.length_nil, Nat.reduceAdd, Nat.reduceLeDiff, Nat.reduceLT, seqOf_tup, seqOf_rol, true_and, and_true, decide_eq_true_eq, Bool.not_eq_true', Bool.not_true, Bool.not_false, decide_eq_false_iff_not, ite_not, ixN_z, ixN_pos, ixN_neg, Int.reduceLE, Int.reduceLT, Int.reduceNeg, Int.reduceAdd, Int.reduceToNat, Int.cast_ofNat_Int, ↓reduceIte, Option.bind_some, pv3, Bool.false_eq_true, Bool.true_eq_false, eq_self, isnS, Bool.not_eq_eq_eq_not, zipOk, zipL, List.zip_cons_cons, List.zip_nil_right, List.zip_nil_left, List.map_cons, List.map_nil, wipe, okOf, List.nil_append, List.cons_append, augS, hdS, hdsS, rdL_same, isTy, List.any_cons, List.any_nil, Bool.or_false, Bool.or_true, Bool.true_or, List.eraseIdx_cons_zero, decide_true, decide_false, Int.reduceEq, Option.some.injEq, bop_addi, bop_adds, bop_addt, bop_addl, bop_sub, bop_mul, bop_mull, bop_mult, bop_fdiv, bop_mod, bop_pow, neg_int, tru_non, tru_bl, tru_int, tru_str, tru_tup, tru_rol, tru_ref, eq_int, eq_bl, eq_str, eq_non, cop_eq, cop_ne, cop_in, cop_ni, cop_is, cop_isn, cop_lt, cop_le, cop_gt, cop_ge, blt_lens, blt_lent, blt_leno, blt_lenr, blt_abs, blt_int, blt_intb, blt_max2, blt_min2, blt_sum, blt_all, blt_any, blt_max1, blt_min1, blt_tupt, blt_tupo, blt_tupr, blt_lstt, blt_lsto, blt_lstr, blt_sorted, ix_tup, ix_rol, ix_ref, sl_tup, sl_rol, sl_ref, mth_ref, lstOk_ref, seqS_tup, seqS_rol, seqS_ref, intS_int, int2S_int, refOk_non, refOk_bl, refOk_int, refOk_str, refOk_tup, refOk_rol, isi_]))
local macro_rules | `(tactic| walk_at "un") => `(tactic| (try simp only [cprW, cprL, wS, wE, wEs, wEo, wT, wTg, wTgs, wIt, tgsLen, endF, List.set_cons_zero, List.set_cons_succ, List.getElem?_cons_zero, List.getElem?_cons_succ, List.length_cons, List.length_nil, Nat.reduceAdd, Nat.reduceLeDiff, Nat.reduceLT, seqOf_tup, seqOf_rol, true_and, and_true, decide_eq_true_eq, Bool.not_eq_true', Bool.not_true, Bool.not_false, decide_eq_false_iff_not, ite_not, ixN_z, ixN_pos, ixN_neg, Int.reduceLE, Int.reduceLT, Int.reduceNeg, Int.reduceAdd, Int.reduceToNat, Int.cast_ofNat_Int, ↓reduceIte, Option.bind_some, pv3, Bool.false_eq_true, Bool.true_eq_false, eq_self, isnS, Bool.not_eq_eq_eq_not, zipOk, zipL, List.zip_cons_cons, List.zip_nil_right, List.zip_nil_left, List.map_cons, List.map_nil, wipe, okOf, List.nil_append, List.cons_append, augS, hdS, hdsS, rdL_same, isTy, List.any_cons, List.any_nil, Bool.or_false, Bool.or_true, Bool.true_or, List.eraseIdx_cons_zero, decide_true, decide_false, Int.reduceEq, Option.some.injEq, bop_addi, bop_adds, bop_addt, bop_addl, bop_sub, bop_mul, bop_mull, bop_mult, bop_fdiv, bop_mod, bop_pow, neg_int, tru_non, tru_bl, tru_int, tru_str, tru_tup, tru_rol, tru_ref, eq_int, eq_bl, eq_str, eq_non, cop_eq, cop_ne, cop_in, cop_ni, cop_is, cop_isn, cop_lt, cop_le, cop_gt, cop_ge, blt_lens, blt_lent, blt_leno, blt_lenr, blt_abs, blt_int, blt_intb, blt_max2, blt_min2, blt_sum, blt_all, blt_any, blt_max1, blt_min1, blt_tupt, blt_tupo, blt_tupr, blt_lstt, blt_lsto, blt_lstr, blt_sorted, ix_tup, ix_rol, ix_ref, sl_tup, sl_rol, sl_ref, mth_ref, lstOk_ref, seqS_tup, seqS_rol, seqS_ref, intS_int, int2S_int, refOk_non, refOk_bl, refOk_int, refOk_str, refOk_tup, refOk_rol, isi_]))
local macro_rules | `(tactic| walk_at "in") => `(tactic| (simp only [Fd.fn, startP, List.map_cons, List.map_nil, List.length_cons, List.length_nil, List.replicate, List.append_nil, Nat.sub_self, List.cons_append, List.nil_append, Nat.reduceSub, Nat.reduceAdd]))
local macro_rules | `(tactic| walk_at "nx") => `(tactic| (rw [ss_nil_eq]; (try dsimp only)))
section
variable {h : PH} {Q : QK} {X : XK} {k : Nat}
def natV (D : List Nat) : List PV := D.map fun d : Nat => .int (d : Int)
theorem natV_int (D : List Nat) : natV D = (D.map fun d : Nat => (d : Int)).map PV.int := by simp [natV]
theorem sp_divisors (n : Nat) (n1 : 1 ≤ n) (nm : n ≤ 10000000000) (q : ∀ h', Ext h h' → Q (.tup (natV (Nt.divs n))) h') : L (k + 5) I_divisors [.int n] h Q X := by
  refine Lv_call d_divisors.fn rfl rfl ?_
  simp only [d_divisors, b_divisors]
  walk_at "in"
  walk_at "st"
  intro a0 f0
  walk_at "st"
  refine sp_factors n n1 nm fun l hl h1 e1 => ?_
  have few : (Nt.divL l [1]).length < 300000 := by
    have := hl.few
    rw [if_pos (by decide)] at this
    by_cases c : (Nt.divL l [1]).length < 300000
    · exact c
    · have := Nat.mul_le_mul (show 300000 ≤ (Nt.divL l [1]).length by omega) (show 300000 ≤ (Nt.divL l [1]).length by omega)
      omega
  have pre : ∀ i, (Nt.divL (l.take i) [1]).length ≤ (Nt.divL l [1]).length := fun i => by
    have h1 : Nt.divL l [1] = Nt.divL (l.drop i) (Nt.divL (l.take i) [1]) := by
      rw [← Nt.divL_app, List.take_append_drop]
    have h2 := congrArg List.length h1
    rw [Nt.divL_len _ (Nt.divL (l.take i) [1])] at h2
    rw [h2]
    exact Nat.le_mul_of_pos_right _ (Nt.divL_pos (l.drop i))
  walk_at "ev"
  refine for_inv (α := (Nat × PH) × (Option PV × Option PV × Option PV × Option PV)) (st := fun x => [some (.int n), some (.ref x.1.1), x.2.1, x.2.2.1, x.2.2.2.1, x.2.2.2.2, none]) (hp := fun x => x.1.2)
    (I := fun i x => x.1.2 x.1.1 = some (.lst (natV (Nt.divL (l.take i) [1]))) ∧ Ext h x.1.2) ((a0, h1), (none, none, none, none)) ⟨?_, ?_⟩ ?_ ?_
  · have := e1 a0 _ pupd_same
    simpa [natV, Nt.divL] using this
  · exact (Ext.new f0).trans e1
  · rintro N i v ⟨⟨a, h2⟩, ⟨u1, u2, u3, u4⟩⟩ hv ⟨ha, he⟩ hN
    simp only at ha he ⊢
    rw [List.getElem?_map] at hv
    cases hi : l[i]? with
    | none => rw [hi] at hv; cases hv
    | some x =>
      rw [hi] at hv
      simp only [Option.map_some, Option.some.injEq] at hv
      subst hv
      obtain ⟨p, e⟩ := x
      have hil : i < l.length := (List.getElem?_eq_some_iff.1 hi).1
      have tk : l.take (i + 1) = l.take i ++ [(p, e)] := by rw [List.take_add_one, hi]; rfl
      have ple := hl.small hi
      have dle : ∀ d ∈ Nt.divL (l.take i) [1], d ≤ n := fun d hd => by
        have := (hl.all i (by omega)).mem d |>.1 hd
        have h2 := Nat.dvd_trans this (hl.take_dvd i)
        exact Nat.le_of_dvd n1 h2
      have pn := pre (i + 1)
      rw [tk, Nt.divL_snoc, Nt.mulD_len] at pn
      have elt : e + 1 ≤ 300000 := Nat.le_trans (Nat.le_trans (Nat.le_mul_of_pos_left _ (Nt.divL_pos (l.take i))) pn) (by omega)
      refine ⟨rfl, ?_⟩
      simp only [pvPE]
      walk_at "st"
      walk_at "st"
      refine ⟨⟨by omega, by omega⟩, ?_⟩
      generalize hD : Nt.divL (l.take i) [1] = D at ha dle pn
      refine for_inv (α := (Nat × Nat × PH) × Option PV) (st := fun x => [some (.int n), some (.ref x.1.1), some (.int p), some (.int e), some (.ref x.1.2.1), x.2, none]) (hp := fun x => x.1.2.2)
        (I := fun j x => x.1.2.2 x.1.1 = some (.lst (natV (Nt.mulD p j D))) ∧ x.1.2.2 x.1.2.1 = some (.lst (natV (D.map (· * p ^ j)))) ∧ Ext h x.1.2.2) ((a, a, h2), u4) ⟨by rw [Nt.mulD_zero]; exact ha, by simpa using ha, he⟩ ?_ ?_
      · rintro N2 j w ⟨⟨b, r, h3⟩, u5⟩ hw ⟨hb, hr, he3⟩ hN2
        simp only at hb hr he3 ⊢
        have hje : j < e := by
          have := (List.getElem?_eq_some_iff.1 hw).1
          rw [rgL_len] at this
          exact this
        refine ⟨trivial, ?_⟩
        walk_at "st"
        rw [rdL_of hr]
        walk_at "ev"
        refine cpr_gen (α := Nat) (fun d : Nat => .int (d : Int)) (fun h' => h' = h3) (fun _ => true) (fun d : Nat => .int ((d * p : Nat) : Int)) ?_ rfl (fun h' eh => by rw [eh]; exact seqOf_of hr) ?_ ?_
        · rw [List.length_map]
          have := Nat.le_mul_of_pos_right D.length (show 0 < e + 1 by omega)
          omega
        · intro d hd h' eh R S r' s'
          obtain ⟨d0, hd0, rfl⟩ := List.mem_map.1 hd
          have c1 := dle d0 hd0
          have c2 : p ^ j ≤ n := Nat.le_trans (Nat.pow_le_pow_right (by omega) (by omega)) ple.2.2
          have c3 : d0 * p ^ j ≤ n * n := Nat.mul_le_mul c1 c2
          have c4 : n * n ≤ 10000000000 * 10000000000 := Nat.mul_le_mul nm nm
          walk_at "ev"
          refine ⟨cmul_s (by omega) (by omega), ?_⟩
          have := r' rfl h' eh
          rwa [Int.natCast_mul] at this
        intro h4 eh4
        rw [eh4, filter_true _ (fun _ => rfl)]
        intro r2 fr2
        walk_at "ev"
        have hb2 := (pupd_ne (o := .lst (((D.map (· * p ^ j)).map fun d : Nat => PV.int ((d * p : Nat) : Int)))) (ne_new hb fr2)).trans hb
        have hr2 : pupd h3 r2 (.lst (((D.map (· * p ^ j)).map fun d : Nat => PV.int ((d * p : Nat) : Int)))) r2 = some (.lst (natV (D.map (· * p ^ (j + 1))))) := by
          rw [pupd_same, natV, List.map_map, List.map_map]
          congr 3
          funext d
          simp only [Function.comp, Nat.pow_succ, Nat.mul_assoc]
        have e5 := he3.trans (Ext.new (o := .lst (((D.map (· * p ^ j)).map fun d : Nat => PV.int ((d * p : Nat) : Int)))) fr2)
        generalize pupd h3 r2 (.lst (((D.map (· * p ^ j)).map fun d : Nat => PV.int ((d * p : Nat) : Int)))) = h5 at hb2 hr2 e5 ⊢
        walk_at "st"
        simp only [hb2, hr2]
        have ml : (Nt.mulD p j D).length + (D.map (· * p ^ (j + 1))).length ≤ 300000 := by
          rw [Nt.mulD_len, List.length_map]
          have := Nat.mul_le_mul_left D.length (show j + 1 + 1 ≤ e + 1 by omega)
          rw [Nat.mul_succ] at this
          omega
        refine ⟨by simp only [natV, List.length_map] at ml ⊢; omega, ?_⟩
        intro b2 fb2
        walk_at "nx"
        refine hN2 ((b2, r2, _), some w) ⟨?_, (pupd_ne (ne_new hr2 fb2)).trans hr2, e5.trans (Ext.new fb2)⟩
        rw [Nt.mulD_succ]
        simp only [natV, List.map_append]
        exact pupd_same
      · rintro ⟨⟨b, r, h3⟩, u5⟩ ⟨hb, hr, he3⟩
        simp only [rgL_len] at hb hr he3 ⊢
        refine ⟨trivial, ?_⟩
        walk_at "nx"
        refine hN ((b, h3), (some (.int p), some (.int e), some (.ref r), u5)) ⟨?_, he3⟩
        rw [tk, Nt.divL_snoc, hD]
        exact hb
  · rintro ⟨⟨a, h2⟩, ⟨u1, u2, u3, u4⟩⟩ ⟨ha, he⟩
    simp only [List.length_map, List.take_length] at ha he ⊢
    refine ⟨rfl, ?_⟩
    have all := hl.all l.length (Nat.le_refl _)
    rw [List.take_length, ← hl.prod] at all
    walk_at "st"
    rw [rdL_of ha, natV_int]
    simp only [Option.bind_some, intsOf_int]
    intro ms mp ms2 b fb
    walk_at "ev"
    have : ms = (Nt.divs n).map fun d : Nat => (d : Int) := by
      have : ∃ ns : List Nat, ms = ns.map fun d : Nat => (d : Int) := by
        refine ⟨ms.map Int.toNat, ?_⟩
        rw [List.map_map]
        conv => lhs; rw [← List.map_id ms]
        refine List.map_congr_left fun x hx => ?_
        have := mp.mem_iff.1 hx
        obtain ⟨d, _, rfl⟩ := List.mem_map.1 this
        simp
      obtain ⟨ns, rfl⟩ := this
      congr 1
      have np : ns.Perm (Nt.divL l [1]) := by
        have := mp.map Int.toNat
        simpa [List.map_map, Function.comp_def] using this
      rw [List.pairwise_map] at ms2
      have s1 := Nt.sorted_of np (List.Pairwise.imp (fun h => by omega) ms2) all.nd
      refine Nt.sorted_eq s1 (Nt.divs_sorted n) fun k => ?_
      rw [np.mem_iff, all.mem, Nt.divs_mem n1]
    rw [this, ← natV_int]
    exact q _ (he.trans (Ext.new fb))
end
end Co.G
namespace Co.G
open PySem Co
local macro_rules | `(tactic| walk_at "st") => `(tactic| ((try simp only [↓wE_cpr, wS, wE, wEs, wEo, wT, wTg, wTgs, wIt, tgsLen, endF, List.set_cons_zero, List.set_cons_succ, List.getElem?_cons_zero, List.getElem?_cons_succ, List.length_cons, List.length_nil, Nat.reduceAdd, Nat.reduceLeDiff, Nat.reduceLT, seqOf_tup, seqOf_rol, true_and, and_true, decide_eq_true_eq, Bool.not_eq_true', Bool.not_true, Bool.not_false, decide_eq_false_iff_not, ite_not, ixN_z, ixN_pos, ixN_neg, Int.reduceLE, Int.reduceLT, Int.reduceNeg, Int.reduceAdd, Int.reduceToNat, Int.cast_ofNat_Int, ↓reduceIte, Option.bind_some, pv3, Bool.false_eq_true, Bool.true_eq_false, eq_self, isnS, Bool.not_eq_eq_eq_not, zipOk, zipL, List.zip_cons_cons, List.zip_nil_right, List.zip_nil_left, List.map_cons, List.map_nil, wipe, okOf, List.nil_append, List.cons_append, augS, hdS, hdsS, rdL_same, isTy, List.any_cons, List.any_nil, Bool.or_false, Bool.or_true, Bool.true_or, List.eraseIdx_cons_zero, decide_true, decide_false, Int.reduceEq, Option.some.injEq, bop_addi, bop_adds, bop_addt, bop_addl, bop_sub, bop_mul, bop_mull, bop_mult, bop_fdiv, bop_mod, bop_pow, neg_int, tru_non, tru_bl, tru_int, tru_str, tru_tup, tru_rol, tru_ref, eq_int, eq_bl, eq_str, eq_non, cop_eq, cop_ne, cop_in, cop_ni, cop_is, cop_isn, cop_lt, cop_le, cop_gt, cop_ge, blt_lens, blt_lent, blt_leno, blt_lenr, blt_abs, blt_int, blt_intb, blt_max2, blt_min2, blt_sum, blt_all, blt_any, blt_max1, blt_min1, blt_tupt, blt_tupo, blt_tupr, blt_lstt, blt_lsto, blt_lstr, blt_sorted, ix_tup, ix_rol, ix_ref, sl_tup, sl_rol, sl_ref, mth_ref, lstOk_ref, seqS_tup, seqS_rol, seqS_ref, intS_int, int2S_int, refOk_non, refOk_bl, refOk_int, refOk_str, refOk_tup, refOk_rol, isi_]); (repeat (rw [ss_nil_eq]; (try dsimp only))); rw [ss_cons_eq]; simp only [↓wE_cpr, wS, wE, wEs, wEo, wT, wTg, wTgs, wIt, tgsLen, endF, List.set_cons_zero, List.set_cons_succ, List.getElem?_cons_zero, List.getElem?_cons_succ, List.length_cons, List.length_nil, Nat.reduceAdd, Nat.reduceLeDiff, Nat.reduceLT, seqOf_tup, seqOf_rol, true_and, and_true, decide_eq_true_eq, Bool.not_eq_true', Bool.not_true, Bool.not_false, decide_eq_false_iff_not, ite_not, ixN_z, ixN_pos, ixN_neg, Int.reduceLE, Int.reduceLT, Int.reduceNeg, Int.reduceAdd, Int.reduceToNat, Int.cast_ofNat_Int, ↓reduceIte, Option.bind_some, pv3, Bool.false_eq_true, Bool.true_eq_false, eq_self, isnS, Bool.not_eq_eq_eq_not, zipOk, zipL, List.zip_cons_cons, List.zip_nil_right, List.zip_nil_left, List.map_cons, List.map_nil, wipe, okOf, List.nil_append, List.cons_append, augS, hdS, hdsS, rdL_same, isTy, List.any_cons, List.any_nil, Bool.or_false, Bool.or_true, Bool.true_or, List.eraseIdx_cons_zero, decide_true, decide_false, Int.reduceEq, Option.some.injEq, bop_addi, bop_adds, bop_addt, bop_addl, bop_sub, bop_mul, bop_mull, bop_mult, bop_fdiv, bop_mod, bop_pow, neg_int, tru_non, tru_bl, tru_int, tru_str, tru_tup, tru_rol, tru_ref, eq_int, eq_bl, eq_str, eq_non, cop_eq, cop_ne, cop_in, cop_ni, cop_is, cop_isn, cop_lt, cop_le, cop_gt, cop_ge, blt_lens, blt_lent, blt_leno, blt_lenr, blt_abs, blt_int, blt_intb, blt_max2, blt_min2, blt_sum, blt_all, blt_any, blt_max1, blt_min1, blt_tupt, blt_tupo, blt_tupr, blt_lstt, blt_lsto, blt_lstr, blt_sorted, ix_tup, ix_rol, ix_ref, sl_tup, sl_rol, sl_ref, mth_ref, lstOk_ref, seqS_tup, seqS_rol, seqS_ref, intS_int, int2S_int, refOk_non, refOk_bl, refOk_int, refOk_str, refOk_tup, refOk_rol, isi_]))
local macro_rules | `(tactic| walk_at "ev") => `(tactic| (try simp only [↓wE_cpr, wS, wE, wEs, wEo, wT, wTg, wTgs, wIt, tgsLen, endF, List.set_cons_zero, List.set_cons_succ, List.getElem?_cons_zero, List.getElem?_cons_succ, List.length_cons, List.length_nil, Nat.reduceAdd, Nat.reduceLeDiff, Nat.reduceLT, seqOf_tup, seqOf_rol, true_and, and_true, decide_eq_true_eq, Bool.not_eq_true', Bool.not_true, Bool.not_false, decide_eq_false_iff_not, ite_not, ixN_z, ixN_pos, ixN_neg, Int.reduceLE, Int.reduceLT, Int.reduceNeg, Int.reduceAdd, Int.reduceToNat, Int.cast_ofNat_Int, ↓reduceIte, Option.bind_some, pv3, Bool.false_eq_true, Bool.true_eq_false, eq_self, isnS, Bool.not_eq_eq_eq_not, zipOk, zipL, List.zip_cons_cons, List.zip_nil_right, List.zip_nil_left, List.map_cons, List.map_nil, wipe, okOf, List.nil_append, List.cons_append, augS, hdS, hdsS, rdL_same, isTy, List.any_cons, List.any_nil, Bool.or_false, Bool.or_true, Bool.true_or, List.eraseIdx_cons_zero, decide_true, decide_false, Int.reduceEq, Option.some.injEq, bop_addi, bop_adds, bop_addt, bop_addl, bop_sub, bop_mul, bop_mull, bop_mult, bop_fdiv, bop_mod, bop_pow, neg_int, tru_non, tru_bl, tru_int, tru_str, tru_tup, tru_rol, tru_ref, eq_int, eq_bl, eq_str, eq_non, cop_eq, cop_ne, cop_in, cop_ni, cop_is, cop_isn, cop_lt, cop_le, cop_gt, cop_ge, blt_lens, blt_lent, blt_leno, blt_lenr, blt_abs, blt_int, blt_intb, blt_max2, blt_min2, blt_sum, blt_all, blt_any, blt_max1, blt_min1, blt_tupt, blt_tupo, blt_tupr, blt_lstt, blt_lsto, blt_lstr, blt_sorted, ix_tup, ix_rol, ix_ref, sl_tup, sl_rol, sl_ref, mth_ref, lstOk_ref, seqS_tup, seqS_rol, seqS_ref, intS_int, int2S_int, refOk_non, refOk_bl, refOk_int, refOk_str, refOk_tup, refOk_rol, isi_]))
local macro_rules | `(tactic| walk_at "un") => `(tactic| (try simp only [cprW, cprL, wS, wE, wEs, wEo, wT, wTg, wTgs, wIt, tgsLen, endF, List.set_cons_zero, List.set_cons_succ, List.getElem?_cons_zero, List.getElem?_cons_succ, List.length_cons, List.length_nil, Nat.reduceAdd, Nat.reduceLeDiff, Nat.reduceLT, seqOf_tup, seqOf_rol, true_and, and_true, decide_eq_true_eq, Bool.not_eq_true', Bool.not_true, Bool.not_false, decide_eq_false_iff_not, ite_not, ixN_z, ixN_pos, ixN_neg, Int.reduceLE, Int.reduceLT, Int.reduceNeg, Int.reduceAdd, Int.reduceToNat, Int.cast_ofNat_Int, ↓reduceIte, Option.bind_some, pv3, Bool.false_eq_true, Bool.true_eq_false, eq_self, isnS, Bool.not_eq_eq_eq_not, zipOk, zipL, List.zip_cons_cons, List.zip_nil_right, List.zip_nil_left, List.map_cons, List.map_nil, wipe, okOf, List.nil_append, List.cons_append, augS, hdS, hdsS, rdL_same, isTy, List.any_cons, List.any_nil, Bool.or_false, Bool.or_true, Bool.true_or, List.eraseIdx_cons_zero, decide_true, decide_false, Int.reduceEq, Option.some.injEq, bop_addi, bop_adds, bop_addt, bop_addl, bop_sub, bop_mul, bop_mull, bop_mult, bop_fdiv, bop_mod, bop_pow, neg_int, tru_non, tru_bl, tru_int, tru_str, tru_tup, tru_rol, tru_ref, eq_int, eq_bl, eq_str, eq_non, cop_eq, cop_ne, cop_in, cop_ni, cop_is, cop_isn, cop_lt, cop_le, cop_gt, cop_ge, blt_lens, blt_lent, blt_leno, blt_lenr, blt_abs, blt_int, blt_intb, blt_max2, blt_min2, blt_sum, blt_all, blt_any, blt_max1, blt_min1, blt_tupt, blt_tupo, blt_tupr, blt_lstt, blt_lsto, blt_lstr, blt_sorted, ix_tup, ix_rol, ix_ref, sl_tup, sl_rol, sl_ref, mth_ref, lstOk_ref, seqS_tup, seqS_rol, seqS_ref, intS_int, int2S_int, refOk_non, refOk_bl, refOk_int, refOk_str, refOk_tup, refOk_rol, isi_]))
local macro_rules | `(tactic| walk_at "in") => `(tactic| (simp only [Fd.fn, startP, List.map_cons, List.map_nil, List.length_cons, List.length_nil, List.replicate, List.append_nil, Nat.sub_self, List.cons_append, List.nil_append, Nat.reduceSub, Nat.reduceAdd]))
local macro_rules | `(tactic| walk_at "nx") => `(tactic| (rw [ss_nil_eq]; (try dsimp only)))
section
variable {h : PH} {Q : QK} {X : XK} {k : Nat}
theorem sp_unit_count (n : Nat) (n1 : 1 ≤ n) (nm : n ≤ 10000000000) (q : ∀ h', Ext h h' → Q (.int (Nt.phi n : Nat)) h') : L (k + 6) I_unit_count [.int n] h Q X := by
  refine Lv_call d_unit_count.fn rfl rfl ?_
  simp only [d_unit_count, b_unit_count]
  walk_at "in"
  walk_at "st"
  walk_at "st"
  refine sp_primes_of n n1 nm fun l hl h1 e1 => ?_
  walk_at "ev"
  refine for_inv (α := Nat × Option PV) (st := fun x => [some (.int n), some (.int x.1), x.2]) (hp := fun _ => h1) (I := fun i x => x.1 = Nt.cnt (Nt.noneOf ((l.map Prod.fst).take i)) n) (n, none) ?_ ?_ ?_
  · simp only [List.take_zero, Nt.cnt_nil]
  · rintro N i v ⟨f, u⟩ hv hf hN
    simp only at hf ⊢
    rw [List.getElem?_map] at hv
    cases hi : l[i]? with
    | none => rw [hi] at hv; cases hv
    | some x =>
      rw [hi] at hv
      simp only [Option.map_some, Option.some.injEq] at hv
      subst hv
      obtain ⟨hil, ex⟩ := List.getElem?_eq_some_iff.1 hi
      obtain ⟨p, e⟩ := x
      have ps := hl.small hi
      have fl : f ≤ n := by rw [hf]; exact Nt.cnt_le _ _
      have dl : f / p ≤ f := Nat.div_le_self _ _
      refine ⟨rfl, ?_⟩
      walk_at "st"
      rw [← Int.natCast_ediv]
      have := hN (f / p * (p - 1), some (.int p)) (by simp only; rw [Nt.phi_step hl hil, ex, hf])
      simp only at this
      generalize f / p = g at dl this ⊢
      refine ⟨cdiv_s (by omega) (by omega), cmul_s (by omega) (by omega), ?_⟩
      walk_at "nx"
      rw [show ((g : Int) * ((p : Int) - 1)) = ((g * (p - 1) : Nat) : Int) by rw [Int.natCast_mul]; congr 1; omega]
      exact this
  · rintro ⟨f, u⟩ hf
    simp only [List.length_map] at hf ⊢
    refine ⟨rfl, ?_⟩
    walk_at "st"
    rw [List.take_of_length_le (by rw [List.length_map]; exact Nat.le_refl _), ← Nt.phi_eq hl] at hf
    rw [hf]
    exact q h1 e1
end
end Co.G
namespace Co.G
open PySem Co
local macro_rules | `(tactic| walk_at "st") => `(tactic| ((try simp only [↓wE_cpr, wS, wE, wEs, wEo, wT, wTg, wTgs, wIt, tgsLen, endF, List.set_cons_zero, List.set_cons_succ, List.getElem?_cons_zero, List.getElem?_cons_succ, List.length_cons, List.length_nil, Nat.reduceAdd, Nat.reduceLeDiff, Nat.reduceLT, seqOf_tup, seqOf_rol, true_and, and_true, decide_eq_true_eq, Bool.not_eq_true', Bool.not_true, Bool.not_false, decide_eq_false_iff_not, ite_not, ixN_z, ixN_pos, ixN_neg, Int.reduceLE, Int.reduceLT, Int.reduceNeg, Int.reduceAdd, Int.reduceToNat, Int.cast_ofNat_Int, ↓reduceIte, Option.bind_some, pv3, Bool.false_eq_true, Bool.true_eq_false, eq_self, isnS, Bool.not_eq_eq_eq_not, zipOk, zipL, List.zip_cons_cons, List.zip_nil_right, List.zip_nil_left, List.map_cons, List.map_nil, wipe, okOf, List.nil_append, List.cons_append, augS, hdS, hdsS, rdL_same, isTy, List.any_cons, List.any_nil, Bool.or_false, Bool.or_true, Bool.true_or, List.eraseIdx_cons_zero, decide_true, decide_false, Int.reduceEq, Option.some.injEq, bop_addi, bop_adds, bop_addt, bop_addl, bop_sub, bop_mul, bop_mull, bop_mult, bop_fdiv, bop_mod, bop_pow, neg_int, tru_non, tru_bl, tru_int, tru_str, tru_tup, tru_rol, tru_ref, eq_int, eq_bl, eq_str, eq_non, cop_eq, cop_ne, cop_in, cop_ni, cop_is, cop_isn, cop_lt, cop_le, cop_gt, cop_ge, blt_lens, blt_lent, blt_leno, blt_lenr, blt_abs, blt_int, blt_intb, blt_max2, blt_min2, blt_sum, blt_all, blt_any, blt_max1, blt_min1, blt_tupt, blt_tupo, blt_tupr, blt_lstt, blt_lsto, blt_lstr, blt_sorted, ix_tup, ix_rol, ix_ref, sl_tup, sl_rol, sl_ref, mth_ref, lstOk_ref, seqS_tup, seqS_rol, seqS_ref, intS_int, int2S_int, refOk_non, refOk_bl, refOk_int, refOk_str, refOk_tup, refOk_rol, isi_]); (repeat (rw [ss_nil_eq]; (try dsimp only))); rw [ss_cons_eq]; simp only [↓wE_cpr, wS, wE, wEs, wEo, wT, wTg, wTgs, wIt, tgsLen, endF, List.set_cons_zero, List.set_cons_succ, List.getElem?_cons_zero, List.getElem?_cons_succ, List.length_cons, List.length_nil, Nat.reduceAdd, Nat.reduceLeDiff, Nat.reduceLT, seqOf_tup, seqOf_rol, true_and, and_true, decide_eq_true_eq, Bool.not_eq_true', Bool.not_true, Bool.not_false, decide_eq_false_iff_not, ite_not, ixN_z, ixN_pos, ixN_neg, Int.reduceLE, Int.reduceLT, Int.reduceNeg, Int.reduceAdd, Int.reduceToNat, Int.cast_ofNat_Int, ↓reduceIte, Option.bind_some, pv3, Bool.false_eq_true, Bool.true_eq_false, eq_self, isnS, Bool.not_eq_eq_eq_not, zipOk, zipL, List.zip_cons_cons, List.zip_nil_right, List.zip_nil_left, List.map_cons, List.map_nil, wipe, okOf, List.nil_append, List.cons_append, augS, hdS, hdsS, rdL_same, isTy, List.any_cons, List.any_nil, Bool.or_false, Bool.or_true, Bool.true_or, List.eraseIdx_cons_zero, decide_true, decide_false, Int.reduceEq, Option.some.injEq, bop_addi, bop_adds, bop_addt, bop_addl, bop_sub, bop_mul, bop_mull, bop_mult, bop_fdiv, bop_mod, bop_pow, neg_int, tru_non, tru_bl, tru_int, tru_str, tru_tup, tru_rol, tru_ref, eq_int, eq_bl, eq_str, eq_non, cop_eq, cop_ne, cop_in, cop_ni, cop_is, cop_isn, cop_lt, cop_le, cop_gt, cop_ge, blt_lens, blt_lent, blt_leno, blt_lenr, blt_abs, blt_int, blt_intb, blt_max2, blt_min2, blt_sum, blt_all, blt_any, blt_max1, blt_min1, blt_tupt, blt_tupo, blt_tupr, blt_lstt, blt_lsto, blt_lstr, blt_sorted, ix_tup, ix_rol, ix_ref, sl_tup, sl_rol, sl_ref, mth_ref, lstOk_ref, seqS_tup, seqS_rol, seqS_ref, intS_int, int2S_int, refOk_non, refOk_bl, refOk_int, refOk_str, refOk_tup, refOk_rol, isi_]))
local macro_rules | `(tactic| walk_at "ev") => `(tactic| (try simp only [↓wE_cpr, wS, wE, wEs, wEo, wT, wTg, wTgs, wIt, tgsLen, endF, List.set_cons_zero, List.set_cons_succ, List.getElem?_cons_zero, List.getElem?_cons_succ, List.length_cons, List.length_nil, Nat.reduceAdd, Nat.reduceLeDiff, Nat.reduceLT, seqOf_tup, seqOf_rol, true_and, and_true, decide_eq_true_eq, Bool.not_eq_true', Bool.not_true, Bool.not_false, decide_eq_false_iff_not, ite_not, ixN_z, ixN_pos, ixN_neg, Int.reduceLE, Int.reduceLT, Int.reduceNeg, Int.reduceAdd, Int.reduceToNat, Int.cast_ofNat_Int, ↓reduceIte, Option.bind_some, pv3, Bool.false_eq_true, Bool.true_eq_false, eq_self, isnS, Bool.not_eq_eq_eq_not, zipOk, zipL, List.zip_cons_cons, List.zip_nil_right, List.zip_nil_left, List.map_cons, List.map_nil, wipe, okOf, List.nil_append, List.cons_append, augS, hdS, hdsS, rdL_same, isTy, List.any_cons, List.any_nil, Bool.or_false, Bool.or_true, Bool.true_or, List.eraseIdx_cons_zero, decide_true, decide_false, Int.reduceEq, Option.some.injEq, bop_addi, bop_adds, bop_addt, bop_addl, bop_sub, bop_mul, bop_mull, bop_mult, bop_fdiv, bop_mod, bop_pow, neg_int, tru_non, tru_bl, tru_int, tru_str, tru_tup, tru_rol, tru_ref, eq_int, eq_bl, eq_str, eq_non, cop_eq, cop_ne, cop_in, cop_ni, cop_is, cop_isn, cop_lt, cop_le, cop_gt, cop_ge, blt_lens, blt_lent, blt_leno, blt_lenr, blt_abs, blt_int, blt_intb, blt_max2, blt_min2, blt_sum, blt_all, blt_any, blt_max1, blt_min1, blt_tupt, blt_tupo, blt_tupr, blt_lstt, blt_lsto, blt_lstr, blt_sorted, ix_tup, ix_rol, ix_ref, sl_tup, sl_rol, sl_ref, mth_ref, lstOk_ref, seqS_tup, seqS_rol, seqS_ref, intS_int, int2S_int, refOk_non, refOk_bl, refOk_int, refOk_str, refOk_tup, refOk_rol, isi_]))
local macro_rules | `(tactic| walk_at "un") => `(tactic| (try simp only [cprW, cprL, wS, wE, wEs, wEo, wT, wTg, wTgs, wIt, tgsLen, endF, List.set_cons_zero, List.set_cons_succ, List.getElem?_cons_zero, List.getElem?_cons_succ, List.length_cons, List.length_nil, Nat.reduceAdd, Nat.reduceLeDiff, Nat.reduceLT, seqOf_tup, seqOf_rol, true_and, and_true, decide_eq_true_eq, Bool.not_eq_true', Bool.not_true, Bool.not_false, decide_eq_false_iff_not, ite_not, ixN_z, ixN_pos, ixN_neg, Int.reduceLE, Int.reduceLT, Int.reduceNeg, Int.reduceAdd, Int.reduceToNat, Int.cast_ofNat_Int, ↓reduceIte, Option.bind_some, pv3, Bool.false_eq_true, Bool.true_eq_false, eq_self, isnS, Bool.not_eq_eq_eq_not, zipOk, zipL, List.zip_cons_cons, List.zip_nil_right, List.zip_nil_left, List.map_cons, List.map_nil, wipe, okOf, List.nil_append, List.cons_append, augS, hdS, hdsS, rdL_same, isTy, List.any_cons, List.any_nil, Bool.or_false, Bool.or_true, Bool.true_or, List.eraseIdx_cons_zero, decide_true, decide_false, Int.reduceEq, Option.some.injEq, bop_addi, bop_adds, bop_addt, bop_addl, bop_sub, bop_mul, bop_mull, bop_mult, bop_fdiv, bop_mod, bop_pow, neg_int, tru_non, tru_bl, tru_int, tru_str, tru_tup, tru_rol, tru_ref, eq_int, eq_bl, eq_str, eq_non, cop_eq, cop_ne, cop_in, cop_ni, cop_is, cop_isn, cop_lt, cop_le, cop_gt, cop_ge, blt_lens, blt_lent, blt_leno, blt_lenr, blt_abs, blt_int, blt_intb, blt_max2, blt_min2, blt_sum, blt_all, blt_any, blt_max1, blt_min1, blt_tupt, blt_tupo, blt_tupr, blt_lstt, blt_lsto, blt_lstr, blt_sorted, ix_tup, ix_rol, ix_ref, sl_tup, sl_rol, sl_ref, mth_ref, lstOk_ref, seqS_tup, seqS_rol, seqS_ref, intS_int, int2S_int, refOk_non, refOk_bl, refOk_int, refOk_str, refOk_tup, refOk_rol, isi_]))
local macro_rules | `(tactic| walk_at "in") => `(tactic| (simp only [Fd.fn, startP, List.map_cons, List.map_nil, List.length_cons, List.length_nil, List.replicate, List.append_nil, Nat.sub_self, List.cons_append, List.nil_append, Nat.reduceSub, Nat.reduceAdd]))
local macro_rules | `(tactic| walk_at "nx") => `(tactic| (rw [ss_nil_eq]; (try dsimp only)))
section
variable {h : PH} {Q : QK} {X : XK} {k : Nat}
theorem sp_split_of (n : Nat) (n1 : 1 ≤ n) (nm : n ≤ 10000000000) (q0 : (n = 1 ∨ Nt.Pr n) → Q .non h) (q : ∀ p : Nat, ¬ (n = 1 ∨ Nt.Pr n) → Nt.Lf n p → Q (.tup [.int p, .int (n / p : Nat)]) h) : L (k + 4) I_split_of [.int n] h Q X := by
  refine Lv_call d_split_of.fn rfl rfl ?_
  simp only [d_split_of, b_split_of]
  walk_at "in"
  walk_at "st"
  refine sp_check_factored n (fun _ _ => ?_) (fun e => by omega) (fun e => by omega)
  walk_at "st"
  split
  · rename_i e
    walk_at "st"
    exact q0 (Or.inl (by omega))
  · rename_i e
    refine sp_least_factor n (by omega) nm fun p hp => ?_
    walk_at "ev"
    split
    · rename_i e2
      walk_at "st"
      obtain rfl : p = n := by omega
      exact q0 (Or.inr hp.pr)
    · rename_i e2
      walk_at "st"
      refine sp_least_factor n (by omega) nm fun p1 hp1 => ?_
      walk_at "ev"
      refine sp_least_factor n (by omega) nm fun p2 hp2 => ?_
      obtain rfl := hp.uniq hp1
      obtain rfl := hp.uniq hp2
      walk_at "ev"
      have := Nat.le_of_dvd (by omega) hp.2.1
      have := hp.1
      refine ⟨cdiv_s (by omega) (by omega), ?_⟩
      rw [← Int.natCast_ediv]
      refine q p (fun c => ?_) hp
      rcases c with c | c
      · omega
      · exact e2 (by rw [hp.uniq c.lf])
end
end Co.G
namespace Co.G
open PySem Co
local macro_rules | `(tactic| walk_at "st") => `(tactic| ((try simp only [↓wE_cpr, wS, wE, wEs, wEo, wT, wTg, wTgs, wIt, tgsLen, endF, List.set_cons_zero, List.set_cons_succ, List.getElem?_cons_zero, List.getElem?_cons_succ, List.length_cons, List.length_nil, Nat.reduceAdd, Nat.reduceLeDiff, Nat.reduceLT, seqOf_tup, seqOf_rol, true_and, and_true, decide_eq_true_eq, Bool.not_eq_true', Bool.not_true, Bool.not_false, decide_eq_false_iff_not, ite_not, ixN_z, ixN_pos, ixN_neg, Int.reduceLE, Int.reduceLT, Int.reduceNeg, Int.reduceAdd, Int.reduceToNat, Int.cast_ofNat_Int, ↓reduceIte, Option.bind_some, pv3, Bool.false_eq_true, Bool.true_eq_false, eq_self, isnS, Bool.not_eq_eq_eq_not, zipOk, zipL, List.zip_cons_cons, List.zip_nil_right, List.zip_nil_left, List.map_cons, List.map_nil, wipe, okOf, List.nil_append, List.cons_append, augS, hdS, hdsS, rdL_same, isTy, List.any_cons, List.any_nil, Bool.or_false, Bool.or_true, Bool.true_or, List.eraseIdx_cons_zero, decide_true, decide_false, Int.reduceEq, Option.some.injEq, bop_addi, bop_adds, bop_addt, bop_addl, bop_sub, bop_mul, bop_mull, bop_mult, bop_fdiv, bop_mod, bop_pow, neg_int, tru_non, tru_bl, tru_int, tru_str, tru_tup, tru_rol, tru_ref, eq_int, eq_bl, eq_str, eq_non, cop_eq, cop_ne, cop_in, cop_ni, cop_is, cop_isn, cop_lt, cop_le, cop_gt, cop_ge, blt_lens, blt_lent, blt_leno, blt_lenr, blt_abs, blt_int, blt_intb, blt_max2, blt_min2, blt_sum, blt_all, blt_any, blt_max1, blt_min1, blt_tupt, blt_tupo, blt_tupr, blt_lstt, blt_lsto, blt_lstr, blt_sorted, ix_tup, ix_rol, ix_ref, sl_tup, sl_rol, sl_ref, mth_ref, lstOk_ref, seqS_tup, seqS_rol, seqS_ref, intS_int, int2S_int, refOk_non, refOk_bl, refOk_int, refOk_str, refOk_tup, refOk_rol, isi_]); (repeat (rw [ss_nil_eq]; (try dsimp only))); rw [ss_cons_eq]; simp only [↓wE_cpr, wS, wE, wEs, wEo, wT, wTg, wTgs, wIt, tgsLen, endF, List.set_cons_zero, List.set_cons_succ, List.getElem?_cons_zero, List.getElem?_cons_succ, List.length_cons, List.length_nil, Nat.reduceAdd, Nat.reduceLeDiff, Nat.reduceLT, seqOf_tup, seqOf_rol, true_and, and_true, decide_eq_true_eq, Bool.not_eq_true', Bool.not_true, Bool.not_false, decide_eq_false_iff_not, ite_not, ixN_z, ixN_pos, ixN_neg, Int.reduceLE, Int.reduceLT, Int.reduceNeg, Int.reduceAdd, Int.reduceToNat, Int.cast_ofNat_Int, ↓reduceIte, Option.bind_some, pv3, Bool.false_eq_true, Bool.true_eq_false, eq_self, isnS, Bool.not_eq_eq_eq_not, zipOk, zipL, List.zip_cons_cons, List.zip_nil_right, List.zip_nil_left, List.map_cons, List.map_nil, wipe, okOf, List.nil_append, List.cons_append, augS, hdS, hdsS, rdL_same, isTy, List.any_cons, List.any_nil, Bool.or_false, Bool.or_true, Bool.true_or, List.eraseIdx_cons_zero, decide_true, decide_false, Int.reduceEq, Option.some.injEq, bop_addi, bop_adds, bop_addt, bop_addl, bop_sub, bop_mul, bop_mull, bop_mult, bop_fdiv, bop_mod, bop_pow, neg_int, tru_non, tru_bl, tru_int, tru_str, tru_tup, tru_rol, tru_ref, eq_int, eq_bl, eq_str, eq_non, cop_eq, cop_ne, cop_in, cop_ni, cop_is, cop_isn, cop_lt, cop_le, cop_gt, cop_ge, blt_lens, blt_lent, blt_leno, blt_lenr, blt_abs, blt_int, blt_intb, blt_max2, blt_min2, blt_sum, blt_all, blt_any, blt_max1, blt_min1, blt_tupt, blt_tupo, blt_tupr, blt_lstt, blt_lsto, blt_lstr, blt_sorted, ix_tup, ix_rol, ix_ref, sl_tup, sl_rol, sl_ref, mth_ref, lstOk_ref, seqS_tup, seqS_rol, seqS_ref, intS_int, int2S_int, refOk_non, refOk_bl, refOk_int, refOk_str, refOk_tup, refOk_rol, isi_]))
local macro_rules | `(tactic| walk_at "ev") => `(tactic| (try simp only [↓wE_cpr, wS, wE, wEs, wEo, wT, wTg, wTgs, wIt, tgsLen, endF, List.set_cons_zero, List.set_cons_succ, List.getElem?_cons_zero, List.getElem?_cons_succ, List.length_cons, List.length_nil, Nat.reduceAdd, Nat.reduceLeDiff, Nat.reduceLT, seqOf_tup, seqOf_rol, true_and, and_true, decide_eq_true_eq, Bool.not_eq_true', Bool.not_true, Bool.not_false, decide_eq_false_iff_not, ite_not, ixN_z, ixN_pos, ixN_neg, Int.reduceLE, Int.reduceLT, Int.reduceNeg, Int.reduceAdd, Int.reduceToNat, Int.cast_ofNat_Int, ↓reduceIte, Option.bind_some, pv3, Bool.false_eq_true, Bool.true_eq_false, eq_self, isnS, Bool.not_eq_eq_eq_not, zipOk, zipL, List.zip_cons_cons, List.zip_nil_right, List.zip_nil_left, List.map_cons, List.map_nil, wipe, okOf, List.nil_append, List.cons_append, augS, hdS, hdsS, rdL_same, isTy, List.any_cons, List.any_nil, Bool.or_false, Bool.or_true, Bool.true_or, List.eraseIdx_cons_zero, decide_true, decide_false, Int.reduceEq, Option.some.injEq, bop_addi, bop_adds, bop_addt, bop_addl, bop_sub, bop_mul, bop_mull, bop_mult, bop_fdiv, bop_mod, bop_pow, neg_int, tru_non, tru_bl, tru_int, tru_str, tru_tup, tru_rol, tru_ref, eq_int, eq_bl, eq_str, eq_non, cop_eq, cop_ne, cop_in, cop_ni, cop_is, cop_isn, cop_lt, cop_le, cop_gt, cop_ge, blt_lens, blt_lent, blt_leno, blt_lenr, blt_abs, blt_int, blt_intb, blt_max2, blt_min2, blt_sum, blt_all, blt_any, blt_max1, blt_min1, blt_tupt, blt_tupo, blt_tupr, blt_lstt, blt_lsto, blt_lstr, blt_sorted, ix_tup, ix_rol, ix_ref, sl_tup, sl_rol, sl_ref, mth_ref, lstOk_ref, seqS_tup, seqS_rol, seqS_ref, intS_int, int2S_int, refOk_non, refOk_bl, refOk_int, refOk_str, refOk_tup, refOk_rol, isi_]))
local macro_rules | `(tactic| walk_at "un") => `(tactic| (try simp only [cprW, cprL, wS, wE, wEs, wEo, wT, wTg, wTgs, wIt, tgsLen, endF, List.set_cons_zero, List.set_cons_succ, List.getElem?_cons_zero, List.getElem?_cons_succ, List.length_cons, List.length_nil, Nat.reduceAdd, Nat.reduceLeDiff, Nat.reduceLT, seqOf_tup, seqOf_rol, true_and, and_true, decide_eq_true_eq, Bool.not_eq_true', Bool.not_true, Bool.not_false, decide_eq_false_iff_not, ite_not, ixN_z, ixN_pos, ixN_neg, Int.reduceLE, Int.reduceLT, Int.reduceNeg, Int.reduceAdd, Int.reduceToNat, Int.cast_ofNat_Int, ↓reduceIte, Option.bind_some, pv3, Bool.false_eq_true, Bool.true_eq_false, eq_self, isnS, Bool.not_eq_eq_eq_not, zipOk, zipL, List.zip_cons_cons, List.zip_nil_right, List.zip_nil_left, List.map_cons, List.map_nil, wipe, okOf, List.nil_append, List.cons_append, augS, hdS, hdsS, rdL_same, isTy, List.any_cons, List.any_nil, Bool.or_false, Bool.or_true, Bool.true_or, List.eraseIdx_cons_zero, decide_true, decide_false, Int.reduceEq, Option.some.injEq, bop_addi, bop_adds, bop_addt, bop_addl, bop_sub, bop_mul, bop_mull, bop_mult, bop_fdiv, bop_mod, bop_pow, neg_int, tru_non, tru_bl, tru_int, tru_str, tru_tup, tru_rol, tru_ref, eq_int, eq_bl, eq_str, eq_non, cop_eq, cop_ne, cop_in, cop_ni, cop_is, cop_isn, cop_lt, cop_le, cop_gt, cop_ge, blt_lens, blt_lent, blt_leno, blt_lenr, blt_abs, blt_int, blt_intb, blt_max2, blt_min2, blt_sum, blt_all, blt_any, blt_max1, blt_min1, blt_tupt, blt_tupo, blt_tupr, blt_lstt, blt_lsto, blt_lstr, blt_sorted, ix_tup, ix_rol, ix_ref, sl_tup, sl_rol, sl_ref, mth_ref, lstOk_ref, seqS_tup, seqS_rol, seqS_ref, intS_int, int2S_int, refOk_non, refOk_bl, refOk_int, refOk_str, refOk_tup, refOk_rol, isi_]))
local macro_rules | `(tactic| walk_at "in") => `(tactic| (simp only [Fd.fn, startP, List.map_cons, List.map_nil, List.length_cons, List.length_nil, List.replicate, List.append_nil, Nat.sub_self, List.cons_append, List.nil_append, Nat.reduceSub, Nat.reduceAdd]))
local macro_rules | `(tactic| walk_at "nx") => `(tactic| (rw [ss_nil_eq]; (try dsimp only)))
section
variable {h : PH} {Q : QK} {X : XK} {k : Nat}
theorem sp_tape (ns : List Int) (hn : ns.length ≤ 63) (q : ∀ a c h', h a = none → h c = none → Ext h h' → TapeAt a c h' → Q (.ref a) h') : L (k + 1) I__law_tape [.rol (ns.map PV.int)] h Q X := by
  refine Lv_call d__law_tape.fn rfl rfl ?_
  simp only [d__law_tape, b__law_tape]
  walk_at "in"
  walk_at "st"
  walk_at "st"
  refine for_inv (α := Int × Option PV) (st := fun p => [some (.rol (ns.map PV.int)), some (.int p.1), p.2]) (hp := fun _ => h) (I := fun _ p => 0 ≤ p.1 ∧ p.1 < 1000003) (7, none) ⟨by decide, by decide⟩ ?_ ?_
  · rintro N i v ⟨s, u⟩ hv ⟨s0, s1⟩ hN
    simp only at s0 s1 ⊢
    rw [List.getElem?_map] at hv
    cases hi : ns[i]? with
    | none => rw [hi] at hv; cases hv
    | some p =>
      rw [hi] at hv
      simp only [Option.map_some, Option.some.injEq] at hv
      subst hv
      refine ⟨rfl, ?_⟩
      walk_at "st"
      refine ⟨cmul_s (by omega) (by decide), ?_⟩
      walk_at "nx"
      exact hN (_, some (.int p)) ⟨Int.emod_nonneg _ (by decide), Int.emod_lt_of_pos _ (by decide)⟩
  · rintro ⟨s, u⟩ ⟨s0, s1⟩
    refine ⟨rfl, ?_⟩
    simp only
    walk_at "st"
    refine cpr_inv (fun h' => h' = h) (fun _ => true) (fun v => match v with | .int i => .int (i.natAbs : Int) | v => v) (by simp only [List.length_map]; omega) rfl (fun _ e => rfl) ?_ ?_
    · intro x hx h' e R S r s
      subst e
      obtain ⟨i, hi, rfl⟩ := List.mem_map.1 hx
      walk_at "ev"
      rw [abs_eq]
      exact r rfl _ rfl
    · rintro h' rfl
      intro c hc p hp
      have ne : p ≠ c := fun e => by subst e; rw [pupd_same] at hp; cases hp
      rw [pupd_ne ne] at hp
      refine q p c _ hp hc (fun a o e => ?_) ⟨ne, ns.map fun i => (i.natAbs : Int), s + 1, pupd_same, ?_, by omega, by omega⟩
      · rw [pupd_ne (ne_new e hp), pupd_ne (ne_new e hc)]; exact e
      · rw [pupd_ne (fun e => ne e.symm), pupd_same, filter_true _ (fun _ => rfl), List.map_map, List.map_map]; rfl
end
end Co.G
namespace Co.G
open PySem Co
local macro_rules | `(tactic| walk_at "st") => `(tactic| ((try simp only [↓wE_cpr, wS, wE, wEs, wEo, wT, wTg, wTgs, wIt, tgsLen, endF, List.set_cons_zero, List.set_cons_succ, List.getElem?_cons_zero, List.getElem?_cons_succ, List.length_cons, List.length_nil, Nat.reduceAdd, Nat.reduceLeDiff, Nat.reduceLT, seqOf_tup, seqOf_rol, true_and, and_true, decide_eq_true_eq, Bool.not_eq_true', Bool.not_true, Bool.not_false, decide_eq_false_iff_not, ite_not, ixN_z, ixN_pos, ixN_neg, Int.reduceLE, Int.reduceLT, Int.reduceNeg, Int.reduceAdd, Int.reduceToNat, Int.cast_ofNat_Int, ↓reduceIte, Option.bind_some, pv3, Bool.false_eq_true, Bool.true_eq_false, eq_self, isnS, Bool.not_eq_eq_eq_not, zipOk, zipL, List.zip_cons_cons, List.zip_nil_right, List.zip_nil_left, List.map_cons, List.map_nil, wipe, okOf, List.nil_append, List.cons_append, augS, hdS, hdsS, rdL_same, isTy, List.any_cons, List.any_nil, Bool.or_false, Bool.or_true, Bool.true_or, List.eraseIdx_cons_zero, decide_true, decide_false, Int.reduceEq, Option.some.injEq, bop_addi, bop_adds, bop_addt, bop_addl, bop_sub, bop_mul, bop_mull, bop_mult, bop_fdiv, bop_mod, bop_pow, neg_int, tru_non, tru_bl, tru_int, tru_str, tru_tup, tru_rol, tru_ref, eq_int, eq_bl, eq_str, eq_non, cop_eq, cop_ne, cop_in, cop_ni, cop_is, cop_isn, cop_lt, cop_le, cop_gt, cop_ge, blt_lens, blt_lent, blt_leno, blt_lenr, blt_abs, blt_int, blt_intb, blt_max2, blt_min2, blt_sum, blt_all, blt_any, blt_max1, blt_min1, blt_tupt, blt_tupo, blt_tupr, blt_lstt, blt_lsto, blt_lstr, blt_sorted, ix_tup, ix_rol, ix_ref, sl_tup, sl_rol, sl_ref, mth_ref, lstOk_ref, seqS_tup, seqS_rol, seqS_ref, intS_int, int2S_int, refOk_non, refOk_bl, refOk_int, refOk_str, refOk_tup, refOk_rol, isi_]); (repeat (rw [ss_nil_eq]; (try dsimp only))); rw [ss_cons_eq]; simp only [↓wE_cpr, wS, wE, wEs, wEo, wT, wTg, wTgs, wIt, tgsLen, endF, List.set_cons_zero, List.set_cons_succ, List.getElem?_cons_zero, List.getElem?_cons_succ, List.length_cons, List.length_nil, Nat.reduceAdd, Nat.reduceLeDiff, Nat.reduceLT, seqOf_tup, seqOf_rol, true_and, and_true, decide_eq_true_eq, Bool.not_eq_true', Bool.not_true, Bool.not_false, decide_eq_false_iff_not, ite_not, ixN_z, ixN_pos, ixN_neg, Int.reduceLE, Int.reduceLT, Int.reduceNeg, Int.reduceAdd, Int.reduceToNat, Int.cast_ofNat_Int, ↓reduceIte, Option.bind_some, pv3, Bool.false_eq_true, Bool.true_eq_false, eq_self, isnS, Bool.not_eq_eq_eq_not, zipOk, zipL, List.zip_cons_cons, List.zip_nil_right, List.zip_nil_left, List.map_cons, List.map_nil, wipe, okOf, List.nil_append, List.cons_append, augS, hdS, hdsS, rdL_same, isTy, List.any_cons, List.any_nil, Bool.or_false, Bool.or_true, Bool.true_or, List.eraseIdx_cons_zero, decide_true, decide_false, Int.reduceEq, Option.some.injEq, bop_addi, bop_adds, bop_addt, bop_addl, bop_sub, bop_mul, bop_mull, bop_mult, bop_fdiv, bop_mod, bop_pow, neg_int, tru_non, tru_bl, tru_int, tru_str, tru_tup, tru_rol, tru_ref, eq_int, eq_bl, eq_str, eq_non, cop_eq, cop_ne, cop_in, cop_ni, cop_is, cop_isn, cop_lt, cop_le, cop_gt, cop_ge, blt_lens, blt_lent, blt_leno, blt_lenr, blt_abs, blt_int, blt_intb, blt_max2, blt_min2, blt_sum, blt_all, blt_any, blt_max1, blt_min1, blt_tupt, blt_tupo, blt_tupr, blt_lstt, blt_lsto, blt_lstr, blt_sorted, ix_tup, ix_rol, ix_ref, sl_tup, sl_rol, sl_ref, mth_ref, lstOk_ref, seqS_tup, seqS_rol, seqS_ref, intS_int, int2S_int, refOk_non, refOk_bl, refOk_int, refOk_str, refOk_tup, refOk_rol, isi_]))
local macro_rules | `(tactic| walk_at "ev") => `(tactic| (try simp only [↓wE_cpr, wS, wE, wEs, wEo, wT, wTg, wTgs, wIt, tgsLen, endF, List.set_cons_zero, List.set_cons_succ, List.getElem?_cons_zero, List.getElem?_cons_succ, List.length_cons, List.length_nil, Nat.reduceAdd, Nat.reduceLeDiff, Nat.reduceLT, seqOf_tup, seqOf_rol, true_and, and_true, decide_eq_true_eq, Bool.not_eq_true', Bool.not_true, Bool.not_false, decide_eq_false_iff_not, ite_not, ixN_z, ixN_pos, ixN_neg, Int.reduceLE, Int.reduceLT, Int.reduceNeg, Int.reduceAdd, Int.reduceToNat, Int.cast_ofNat_Int, ↓reduceIte, Option.bind_some, pv3, Bool.false_eq_true, Bool.true_eq_false, eq_self, isnS, Bool.not_eq_eq_eq_not, zipOk, zipL, List.zip_cons_cons, List.zip_nil_right, List.zip_nil_left, List.map_cons, List.map_nil, wipe, okOf, List.nil_append, List.cons_append, augS, hdS, hdsS, rdL_same, isTy, List.any_cons, List.any_nil, Bool.or_false, Bool.or_true, Bool.true_or, List.eraseIdx_cons_zero, decide_true, decide_false, Int.reduceEq, Option.some.injEq, bop_addi, bop_adds, bop_addt, bop_addl, bop_sub, bop_mul, bop_mull, bop_mult, bop_fdiv, bop_mod, bop_pow, neg_int, tru_non, tru_bl, tru_int, tru_str, tru_tup, tru_rol, tru_ref, eq_int, eq_bl, eq_str, eq_non, cop_eq, cop_ne, cop_in, cop_ni, cop_is, cop_isn, cop_lt, cop_le, cop_gt, cop_ge, blt_lens, blt_lent, blt_leno, blt_lenr, blt_abs, blt_int, blt_intb, blt_max2, blt_min2, blt_sum, blt_all, blt_any, blt_max1, blt_min1, blt_tupt, blt_tupo, blt_tupr, blt_lstt, blt_lsto, blt_lstr, blt_sorted, ix_tup, ix_rol, ix_ref, sl_tup, sl_rol, sl_ref, mth_ref, lstOk_ref, seqS_tup, seqS_rol, seqS_ref, intS_int, int2S_int, refOk_non, refOk_bl, refOk_int, refOk_str, refOk_tup, refOk_rol, isi_]))
local macro_rules | `(tactic| walk_at "un") => `(tactic| (try simp only [cprW, cprL, wS, wE, wEs, wEo, wT, wTg, wTgs, wIt, tgsLen, endF, List.set_cons_zero, List.set_cons_succ, List.getElem?_cons_zero, List.getElem?_cons_succ, List.length_cons, List.length_nil, Nat.reduceAdd, Nat.reduceLeDiff, Nat.reduceLT, seqOf_tup, seqOf_rol, true_and, and_true, decide_eq_true_eq, Bool.not_eq_true', Bool.not_true, Bool.not_false, decide_eq_false_iff_not, ite_not, ixN_z, ixN_pos, ixN_neg, Int.reduceLE, Int.reduceLT, Int.reduceNeg, Int.reduceAdd, Int.reduceToNat, Int.cast_ofNat_Int, ↓reduceIte, Option.bind_some, pv3, Bool.false_eq_true, Bool.true_eq_false, eq_self, isnS, Bool.not_eq_eq_eq_not, zipOk, zipL, List.zip_cons_cons, List.zip_nil_right, List.zip_nil_left, List.map_cons, List.map_nil, wipe, okOf, List.nil_append, List.cons_append, augS, hdS, hdsS, rdL_same, isTy, List.any_cons, List.any_nil, Bool.or_false, Bool.or_true, Bool.true_or, List.eraseIdx_cons_zero, decide_true, decide_false, Int.reduceEq, Option.some.injEq, bop_addi, bop_adds, bop_addt, bop_addl, bop_sub, bop_mul, bop_mull, bop_mult, bop_fdiv, bop_mod, bop_pow, neg_int, tru_non, tru_bl, tru_int, tru_str, tru_tup, tru_rol, tru_ref, eq_int, eq_bl, eq_str, eq_non, cop_eq, cop_ne, cop_in, cop_ni, cop_is, cop_isn, cop_lt, cop_le, cop_gt, cop_ge, blt_lens, blt_lent, blt_leno, blt_lenr, blt_abs, blt_int, blt_intb, blt_max2, blt_min2, blt_sum, blt_all, blt_any, blt_max1, blt_min1, blt_tupt, blt_tupo, blt_tupr, blt_lstt, blt_lsto, blt_lstr, blt_sorted, ix_tup, ix_rol, ix_ref, sl_tup, sl_rol, sl_ref, mth_ref, lstOk_ref, seqS_tup, seqS_rol, seqS_ref, intS_int, int2S_int, refOk_non, refOk_bl, refOk_int, refOk_str, refOk_tup, refOk_rol, isi_]))
local macro_rules | `(tactic| walk_at "in") => `(tactic| (simp only [Fd.fn, startP, List.map_cons, List.map_nil, List.length_cons, List.length_nil, List.replicate, List.append_nil, Nat.sub_self, List.cons_append, List.nil_append, Nat.reduceSub, Nat.reduceAdd]))
local macro_rules | `(tactic| walk_at "nx") => `(tactic| (rw [ss_nil_eq]; (try dsimp only)))
section
variable {h : PH} {Q : QK} {X : XK} {k : Nat}
theorem sp_draw (a c : Nat) (m : Int) (h0 : 0 < m) (hm : m < 2 ^ 1000) (t : TapeAt a c h) (q : ∀ v h', 0 ≤ v → v < m → DrawR a c h h' → Q (.int v) h') : L (k + 1) I__law_draw [.ref a, .int m] h Q X := by
  refine Lv_call d__law_draw.fn rfl rfl ?_
  simp only [d__law_draw, b__law_draw]
  walk_at "in"
  obtain ⟨ne, xs, s, ha, hc, s0, s1⟩ := t
  walk_at "st"
  rw [rdL_of ha]
  walk_at "ev"
  refine ss_whl ?_
  refine whl_inv (α := List Int × PH) (st := fun p => [some (.ref a), some (.int m), some (.ref c), none]) (hp := fun p => p.2) (I := fun p => p.2 a = some (.lst [.ref c, .int s]) ∧ p.2 c = some (.lst (p.1.map .int)) ∧ ∀ b, b ≠ a → b ≠ c → p.2 b = h b) (μ := fun p => p.1.length) (xs, h) ⟨ha, hc, fun _ _ _ => rfl⟩ ?_
  rintro N ⟨ys, h1⟩ ⟨i1, i2, i3⟩ hN
  simp only at i1 i2 i3 ⊢
  walk_at "ev"
  rw [rdL_of i2]
  walk_at "ev"
  cases ys with
  | nil =>
    walk_at "ev"
    walk_at "st"
    rw [rdL_of i2]
    walk_at "ev"
    walk_at "nx"
    walk_at "st"
    rw [rdL_of i1]
    walk_at "ev"
    refine ⟨cmul_s (by omega) (by decide), ?_⟩
    simp only [setS, i1]
    walk_at "ev"
    walk_at "st"
    refine ⟨cdiv_s (by decide) (by decide), h0, ?_⟩
    refine q _ _ (Int.emod_nonneg _ (by omega)) (Int.emod_lt_of_pos _ h0) ⟨⟨ne, [], _, pupd_same, by rw [pupd_ne (Ne.symm ne)]; exact i2, Int.emod_nonneg _ (by decide), Int.emod_lt_of_pos _ (by decide)⟩, fun b b1 b2 => by rw [pupd_ne b1]; exact i3 b b1 b2⟩
  | cons y ys =>
    walk_at "ev"
    rw [if_pos (by omega)]
    split
    · rename_i y0
      walk_at "st"
      simp only [i2, mthL]
      walk_at "ev"
      refine ⟨by decide, ?_⟩
      walk_at "nx"
      exact hN (ys, pupd h1 c (.lst (ys.map .int))) ⟨(pupd_ne ne).trans i1, pupd_same, fun b b1 b2 => (pupd_ne b2).trans (i3 b b1 b2)⟩ (by simp)
    · rename_i y0
      walk_at "st"
      rw [rdL_of i2]
      walk_at "ev"
      rw [if_pos (by omega)]
      walk_at "st"
      rw [rdL_of i2]
      walk_at "ev"
      walk_at "st"
      refine ⟨cdiv_s h0 (by omega), ?_⟩
      simp only [setS, i2]
      walk_at "ev"
      walk_at "st"
      refine ⟨h0, ?_⟩
      refine q _ _ (Int.emod_nonneg _ (by omega)) (Int.emod_lt_of_pos _ h0) ⟨⟨ne, (y / m) :: ys, s, by rw [pupd_ne ne]; exact i1, by rw [pupd_same]; rfl, s0, s1⟩, fun b b1 b2 => by rw [pupd_ne b2]; exact i3 b b1 b2⟩
end
end Co.G
namespace Co.G
open PySem Co
local macro_rules | `(tactic| walk_at "st") => `(tactic| ((try simp only [↓wE_cpr, wS, wE, wEs, wEo, wT, wTg, wTgs, wIt, tgsLen, endF, List.set_cons_zero, List.set_cons_succ, List.getElem?_cons_zero, List.getElem?_cons_succ, List.length_cons, List.length_nil, Nat.reduceAdd, Nat.reduceLeDiff, Nat.reduceLT, seqOf_tup, seqOf_rol, true_and, and_true, decide_eq_true_eq, Bool.not_eq_true', Bool.not_true, Bool.not_false, decide_eq_false_iff_not, ite_not, ixN_z, ixN_pos, ixN_neg, Int.reduceLE, Int.reduceLT, Int.reduceNeg, Int.reduceAdd, Int.reduceToNat, Int.cast_ofNat_Int, ↓reduceIte, Option.bind_some, pv3, Bool.false_eq_true, Bool.true_eq_false, eq_self, isnS, Bool.not_eq_eq_eq_not, zipOk, zipL, List.zip_cons_cons, List.zip_nil_right, List.zip_nil_left, List.map_cons, List.map_nil, wipe, okOf, List.nil_append, List.cons_append, augS, hdS, hdsS, rdL_same, isTy, List.any_cons, List.any_nil, Bool.or_false, Bool.or_true, Bool.true_or, List.eraseIdx_cons_zero, decide_true, decide_false, Int.reduceEq, Option.some.injEq, bop_addi, bop_adds, bop_addt, bop_addl, bop_sub, bop_mul, bop_mull, bop_mult, bop_fdiv, bop_mod, bop_pow, neg_int, tru_non, tru_bl, tru_int, tru_str, tru_tup, tru_rol, tru_ref, eq_int, eq_bl, eq_str, eq_non, cop_eq, cop_ne, cop_in, cop_ni, cop_is, cop_isn, cop_lt, cop_le, cop_gt, cop_ge, blt_lens, blt_lent, blt_leno, blt_lenr, blt_abs, blt_int, blt_intb, blt_max2, blt_min2, blt_sum, blt_all, blt_any, blt_max1, blt_min1, blt_tupt, blt_tupo, blt_tupr, blt_lstt, blt_lsto, blt_lstr, blt_sorted, ix_tup, ix_rol, ix_ref, sl_tup, sl_rol, sl_ref, mth_ref, lstOk_ref, seqS_tup, seqS_rol, seqS_ref, intS_int, int2S_int, refOk_non, refOk_bl, refOk_int, refOk_str, refOk_tup, refOk_rol, isi_]); (repeat (rw [ss_nil_eq]; (try dsimp only))); rw [ss_cons_eq]; simp only [↓wE_cpr, wS, wE, wEs, wEo, wT, wTg, wTgs, wIt, tgsLen, endF, List.set_cons_zero, List.set_cons_succ, List.getElem?_cons_zero, List.getElem?_cons_succ, List.length_cons, List.length_nil, Nat.reduceAdd, Nat.reduceLeDiff, Nat.reduceLT, seqOf_tup, seqOf_rol, true_and, and_true, decide_eq_true_eq, Bool.not_eq_true', Bool.not_true, Bool.not_false, decide_eq_false_iff_not, ite_not, ixN_z, ixN_pos, ixN_neg, Int.reduceLE, Int.reduceLT, Int.reduceNeg, Int.reduceAdd, Int.reduceToNat, Int.cast_ofNat_Int, ↓reduceIte, Option.bind_some, pv3, Bool.false_eq_true, Bool.true_eq_false, eq_self, isnS, Bool.not_eq_eq_eq_not, zipOk, zipL, List.zip_cons_cons, List.zip_nil_right, List.zip_nil_left, List.map_cons, List.map_nil, wipe, okOf, List.nil_append, List.cons_append, augS, hdS, hdsS, rdL_same, isTy, List.any_cons, List.any_nil, Bool.or_false, Bool.or_true, Bool.true_or, List.eraseIdx_cons_zero, decide_true, decide_false, Int.reduceEq, Option.some.injEq, bop_addi, bop_adds, bop_addt, bop_addl, bop_sub, bop_mul, bop_mull, bop_mult, bop_fdiv, bop_mod, bop_pow, neg_int, tru_non, tru_bl, tru_int, tru_str, tru_tup, tru_rol, tru_ref, eq_int, eq_bl, eq_str, eq_non, cop_eq, cop_ne, cop_in, cop_ni, cop_is, cop_isn, cop_lt, cop_le, cop_gt, cop_ge, blt_lens, blt_lent, blt_leno, blt_lenr, blt_abs, blt_int, blt_intb, blt_max2, blt_min2, blt_sum, blt_all, blt_any, blt_max1, blt_min1, blt_tupt, blt_tupo, blt_tupr, blt_lstt, blt_lsto, blt_lstr, blt_sorted, ix_tup, ix_rol, ix_ref, sl_tup, sl_rol, sl_ref, mth_ref, lstOk_ref, seqS_tup, seqS_rol, seqS_ref, intS_int, int2S_int, refOk_non, refOk_bl, refOk_int, refOk_str, refOk_tup, refOk_rol, isi_]))
local macro_rules | `(tactic| walk_at "ev") => `(tactic| (try simp only [↓wE_cpr, wS, wE, wEs, wEo, wT, wTg, wTgs, wIt, tgsLen, endF, List.set_cons_zero, List.set_cons_succ, List.getElem?_cons_zero, List.getElem?_cons_succ, List.length_cons, List.length_nil, Nat.reduceAdd, Nat.reduceLeDiff, Nat.reduceLT, seqOf_tup, seqOf_rol, true_and, and_true, decide_eq_true_eq, Bool.not_eq_true', Bool.not_true, Bool.not_false, decide_eq_false_iff_not, ite_not, ixN_z, ixN_pos, ixN_neg, Int.reduceLE, Int.reduceLT, Int.reduceNeg, Int.reduceAdd, Int.reduceToNat, Int.cast_ofNat_Int, ↓reduceIte, Option.bind_some, pv3, Bool.false_eq_true, Bool.true_eq_false, eq_self, isnS, Bool.not_eq_eq_eq_not, zipOk, zipL, List.zip_cons_cons, List.zip_nil_right, List.zip_nil_left, List.map_cons, List.map_nil, wipe, okOf, List.nil_append, List.cons_append, augS, hdS, hdsS, rdL_same, isTy, List.any_cons, List.any_nil, Bool.or_false, Bool.or_true, Bool.true_or, List.eraseIdx_cons_zero, decide_true, decide_false, Int.reduceEq, Option.some.injEq, bop_addi, bop_adds, bop_addt, bop_addl, bop_sub, bop_mul, bop_mull, bop_mult, bop_fdiv, bop_mod, bop_pow, neg_int, tru_non, tru_bl, tru_int, tru_str, tru_tup, tru_rol, tru_ref, eq_int, eq_bl, eq_str, eq_non, cop_eq, cop_ne, cop_in, cop_ni, cop_is, cop_isn, cop_lt, cop_le, cop_gt, cop_ge, blt_lens, blt_lent, blt_leno, blt_lenr, blt_abs, blt_int, blt_intb, blt_max2, blt_min2, blt_sum, blt_all, blt_any, blt_max1, blt_min1, blt_tupt, blt_tupo, blt_tupr, blt_lstt, blt_lsto, blt_lstr, blt_sorted, ix_tup, ix_rol, ix_ref, sl_tup, sl_rol, sl_ref, mth_ref, lstOk_ref, seqS_tup, seqS_rol, seqS_ref, intS_int, int2S_int, refOk_non, refOk_bl, refOk_int, refOk_str, refOk_tup, refOk_rol, isi_]))
local macro_rules | `(tactic| walk_at "un") => `(tactic| (try simp only [cprW, cprL, wS, wE, wEs, wEo, wT, wTg, wTgs, wIt, tgsLen, endF, List.set_cons_zero, List.set_cons_succ, List.getElem?_cons_zero, List.getElem?_cons_succ, List.length_cons, List.length_nil, Nat.reduceAdd, Nat.reduceLeDiff, Nat.reduceLT, seqOf_tup, seqOf_rol, true_and, and_true, decide_eq_true_eq, Bool.not_eq_true', Bool.not_true, Bool.not_false, decide_eq_false_iff_not, ite_not, ixN_z, ixN_pos, ixN_neg, Int.reduceLE, Int.reduceLT, Int.reduceNeg, Int.reduceAdd, Int.reduceToNat, Int.cast_ofNat_Int, ↓reduceIte, Option.bind_some, pv3, Bool.false_eq_true, Bool.true_eq_false, eq_self, isnS, Bool.not_eq_eq_eq_not, zipOk, zipL, List.zip_cons_cons, List.zip_nil_right, List.zip_nil_left, List.map_cons, List.map_nil, wipe, okOf, List.nil_append, List.cons_append, augS, hdS, hdsS, rdL_same, isTy, List.any_cons, List.any_nil, Bool.or_false, Bool.or_true, Bool.true_or, List.eraseIdx_cons_zero, decide_true, decide_false, Int.reduceEq, Option.some.injEq, bop_addi, bop_adds, bop_addt, bop_addl, bop_sub, bop_mul, bop_mull, bop_mult, bop_fdiv, bop_mod, bop_pow, neg_int, tru_non, tru_bl, tru_int, tru_str, tru_tup, tru_rol, tru_ref, eq_int, eq_bl, eq_str, eq_non, cop_eq, cop_ne, cop_in, cop_ni, cop_is, cop_isn, cop_lt, cop_le, cop_gt, cop_ge, blt_lens, blt_lent, blt_leno, blt_lenr, blt_abs, blt_int, blt_intb, blt_max2, blt_min2, blt_sum, blt_all, blt_any, blt_max1, blt_min1, blt_tupt, blt_tupo, blt_tupr, blt_lstt, blt_lsto, blt_lstr, blt_sorted, ix_tup, ix_rol, ix_ref, sl_tup, sl_rol, sl_ref, mth_ref, lstOk_ref, seqS_tup, seqS_rol, seqS_ref, intS_int, int2S_int, refOk_non, refOk_bl, refOk_int, refOk_str, refOk_tup, refOk_rol, isi_]))
local macro_rules | `(tactic| walk_at "in") => `(tactic| (simp only [Fd.fn, startP, List.map_cons, List.map_nil, List.length_cons, List.length_nil, List.replicate, List.append_nil, Nat.sub_self, List.cons_append, List.nil_append, Nat.reduceSub, Nat.reduceAdd]))
local macro_rules | `(tactic| walk_at "nx") => `(tactic| (rw [ss_nil_eq]; (try dsimp only)))
section
variable {h : PH} {Q : QK} {X : XK} {k : Nat}
theorem sp_pick {a c b : Nat} {xs : List PV} (t : TapeAt a c h) (hb : h b = some (.lst xs)) (ne : b ≠ a ∧ b ≠ c) (hl : 0 < xs.length) (hm : xs.length ≤ 16777216) (q : ∀ (i : Nat) v h', xs[i]? = some v → DrawR a c h h' → Q v h') : L (k + 2) I__law_pick [.ref a, .ref b] h Q X := by
  refine Lv_call d__law_pick.fn rfl rfl ?_
  simp only [d__law_pick, b__law_pick]
  walk_at "in"
  walk_at "st"
  rw [rdL_of hb]
  walk_at "ev"
  refine sp_draw a c _ (by omega) (by omega) t fun v h' v0 v1 d => ?_
  have hb' := (d.fr b ne.1 ne.2).trans hb
  walk_at "ev"
  rw [rdL_of hb']
  walk_at "ev"
  obtain ⟨i, rfl⟩ : ∃ i : Nat, v = i := ⟨v.toNat, by omega⟩
  have hi : i < xs.length := by omega
  simp only [ixN_nat hi, Option.bind_some, List.getElem?_eq_getElem hi]
  exact q i _ h' (List.getElem?_eq_getElem hi) d
/-- a pick out of a list that has just been written -/
theorem sp_pickN {a c : Nat} {xs : List PV} (t : TapeAt a c h) (hl : 0 < xs.length) (hm : xs.length ≤ 16777216) (q : ∀ (i : Nat) v h', xs[i]? = some v → TapeAt a c h' → (∀ b, b ≠ a → b ≠ c → ∀ o, h b = some o → h' b = some o) → Q v h') : newL h xs fun v h => L (k + 2) I__law_pick [.ref a, v] h Q X := by
  intro b fb
  refine sp_pick (t.ext (Ext.new fb)) pupd_same (t.ne_of fb) hl hm fun i v h' e d => q i v h' e d.t fun u u1 u2 o ho => ?_
  rw [d.fr u u1 u2, pupd_ne (ne_new ho fb)]
  exact ho
end
end Co.G
namespace Co.G
open PySem Co
local macro_rules | `(tactic| walk_at "st") => `(tactic| ((try simp only [↓wE_cpr, wS, wE, wEs, wEo, wT, wTg, wTgs, wIt, tgsLen, endF, List.set_cons_zero, List.set_cons_succ, List.getElem?_cons_zero, List.getElem?_cons_succ, List.length_cons, List.length_nil, Nat.reduceAdd, Nat.reduceLeDiff, Nat.reduceLT, seqOf_tup, seqOf_rol, true_and, and_true, decide_eq_true_eq, Bool.not_eq_true', Bool.not_true, Bool.not_false, decide_eq_false_iff_not, ite_not, ixN_z, ixN_pos, ixN_neg, Int.reduceLE, Int.reduceLT, Int.reduceNeg, Int.reduceAdd, Int.reduceToNat, Int.cast_ofNat_Int, ↓reduceIte, Option.bind_some, pv3, Bool.false_eq_true, Bool.true_eq_false, eq_self, isnS, Bool.not_eq_eq_eq_not, zipOk, zipL, List.zip_cons_cons, List.zip_nil_right, List.zip_nil_left, List.map_cons, List.map_nil, wipe, okOf, List.nil_append, List.cons_append, augS, hdS, hdsS, rdL_same, isTy, List.any_cons, List.any_nil, Bool.or_false, Bool.or_true, Bool.true_or, List.eraseIdx_cons_zero, decide_true, decide_false, Int.reduceEq, Option.some.injEq, bop_addi, bop_adds, bop_addt, bop_addl, bop_sub, bop_mul, bop_mull, bop_mult, bop_fdiv, bop_mod, bop_pow, neg_int, tru_non, tru_bl, tru_int, tru_str, tru_tup, tru_rol, tru_ref, eq_int, eq_bl, eq_str, eq_non, cop_eq, cop_ne, cop_in, cop_ni, cop_is, cop_isn, cop_lt, cop_le, cop_gt, cop_ge, blt_lens, blt_lent, blt_leno, blt_lenr, blt_abs, blt_int, blt_intb, blt_max2, blt_min2, blt_sum, blt_all, blt_any, blt_max1, blt_min1, blt_tupt, blt_tupo, blt_tupr, blt_lstt, blt_lsto, blt_lstr, blt_sorted, ix_tup, ix_rol, ix_ref, sl_tup, sl_rol, sl_ref, mth_ref, lstOk_ref, seqS_tup, seqS_rol, seqS_ref, intS_int, int2S_int, refOk_non, refOk_bl, refOk_int, refOk_str, refOk_tup, refOk_rol, isi_]); (repeat (rw [ss_nil_eq]; (try dsimp only))); rw [ss_cons_eq]; simp only [↓wE_cpr, wS, wE, wEs, wEo, wT, wTg, wTgs, wIt, tgsLen, endF, List.set_cons_zero, List.set_cons_succ, List.getElem?_cons_zero, List.getElem?_cons_succ, List.length_cons, List.length_nil, Nat.reduceAdd, Nat.reduceLeDiff, Nat.reduceLT, seqOf_tup, seqOf_rol, true_and, and_true, decide_eq_true_eq, Bool.not_eq_true', Bool.not_true, Bool.not_false, decide_eq_false_iff_not, ite_not, ixN_z, ixN_pos, ixN_neg, Int.reduceLE, Int.reduceLT, Int.reduceNeg, Int.reduceAdd, Int.reduceToNat, Int.cast_ofNat_Int, ↓reduceIte, Option.bind_some, pv3, Bool.false_eq_true, Bool.true_eq_false, eq_self, isnS, Bool.not_eq_eq_eq_not, zipOk, zipL, List.zip_cons_cons, List.zip_nil_right, List.zip_nil_left, List.map_cons, List.map_nil, wipe, okOf, List.nil_append, List.cons_append, augS, hdS, hdsS, rdL_same, isTy, List.any_cons, List.any_nil, Bool.or_false, Bool.or_true, Bool.true_or, List.eraseIdx_cons_zero, decide_true, decide_false, Int.reduceEq, Option.some.injEq, bop_addi, bop_adds, bop_addt, bop_addl, bop_sub, bop_mul, bop_mull, bop_mult, bop_fdiv, bop_mod, bop_pow, neg_int, tru_non, tru_bl, tru_int, tru_str, tru_tup, tru_rol, tru_ref, eq_int, eq_bl, eq_str, eq_non, cop_eq, cop_ne, cop_in, cop_ni, cop_is, cop_isn, cop_lt, cop_le, cop_gt, cop_ge, blt_lens, blt_lent, blt_leno, blt_lenr, blt_abs, blt_int, blt_intb, blt_max2, blt_min2, blt_sum, blt_all, blt_any, blt_max1, blt_min1, blt_tupt, blt_tupo, blt_tupr, blt_lstt, blt_lsto, blt_lstr, blt_sorted, ix_tup, ix_rol, ix_ref, sl_tup, sl_rol, sl_ref, mth_ref, lstOk_ref, seqS_tup, seqS_rol, seqS_ref, intS_int, int2S_int, refOk_non, refOk_bl, refOk_int, refOk_str, refOk_tup, refOk_rol, isi_]))
local macro_rules | `(tactic| walk_at "ev") => `(tactic| (try simp only [↓wE_cpr, wS, wE, wEs, wEo, wT, wTg, wTgs, wIt, tgsLen, endF, List.set_cons_zero, List.set_cons_succ, List.getElem?_cons_zero, List.getElem?_cons_succ, List.length_cons, List.length_nil, Nat.reduceAdd, Nat.reduceLeDiff, Nat.reduceLT, seqOf_tup, seqOf_rol, true_and, and_true, decide_eq_true_eq, Bool.not_eq_true', Bool.not_true, Bool.not_false, decide_eq_false_iff_not, ite_not, ixN_z, ixN_pos, ixN_neg, Int.reduceLE, Int.reduceLT, Int.reduceNeg, Int.reduceAdd, Int.reduceToNat, Int.cast_ofNat_Int, ↓reduceIte, Option.bind_some, pv3, Bool.false_eq_true, Bool.true_eq_false, eq_self, isnS, Bool.not_eq_eq_eq_not, zipOk, zipL, List.zip_cons_cons, List.zip_nil_right, List.zip_nil_left, List.map_cons, List.map_nil, wipe, okOf, List.nil_append, List.cons_append, augS, hdS, hdsS, rdL_same, isTy, List.any_cons, List.any_nil, Bool.or_false, Bool.or_true, Bool.true_or, List.eraseIdx_cons_zero, decide_true, decide_false, Int.reduceEq, Option.some.injEq, bop_addi, bop_adds, bop_addt, bop_addl, bop_sub, bop_mul, bop_mull, bop_mult, bop_fdiv, bop_mod, bop_pow, neg_int, tru_non, tru_bl, tru_int, tru_str, tru_tup, tru_rol, tru_ref, eq_int, eq_bl, eq_str, eq_non, cop_eq, cop_ne, cop_in, cop_ni, cop_is, cop_isn, cop_lt, cop_le, cop_gt, cop_ge, blt_lens, blt_lent, blt_leno, blt_lenr, blt_abs, blt_int, blt_intb, blt_max2, blt_min2, blt_sum, blt_all, blt_any, blt_max1, blt_min1, blt_tupt, blt_tupo, blt_tupr, blt_lstt, blt_lsto, blt_lstr, blt_sorted, ix_tup, ix_rol, ix_ref, sl_tup, sl_rol, sl_ref, mth_ref, lstOk_ref, seqS_tup, seqS_rol, seqS_ref, intS_int, int2S_int, refOk_non, refOk_bl, refOk_int, refOk_str, refOk_tup, refOk_rol, isi_]))
local macro_rules | `(tactic| walk_at "un") => `(tactic| (try simp only [cprW, cprL, wS, wE, wEs, wEo, wT, wTg, wTgs, wIt, tgsLen, endF, List.set_cons_zero, List.set_cons_succ, List.getElem?_cons_zero, List.getElem?_cons_succ, List.length_cons, List.length_nil, Nat.reduceAdd, Nat.reduceLeDiff, Nat.reduceLT, seqOf_tup, seqOf_rol, true_and, and_true, decide_eq_true_eq, Bool.not_eq_true', Bool.not_true, Bool.not_false, decide_eq_false_iff_not, ite_not, ixN_z, ixN_pos, ixN_neg, Int.reduceLE, Int.reduceLT, Int.reduceNeg, Int.reduceAdd, Int.reduceToNat, Int.cast_ofNat_Int, ↓reduceIte, Option.bind_some, pv3, Bool.false_eq_true, Bool.true_eq_false, eq_self, isnS, Bool.not_eq_eq_eq_not, zipOk, zipL, List.zip_cons_cons, List.zip_nil_right, List.zip_nil_left, List.map_cons, List.map_nil, wipe, okOf, List.nil_append, List.cons_append, augS, hdS, hdsS, rdL_same, isTy, List.any_cons, List.any_nil, Bool.or_false, Bool.or_true, Bool.true_or, List.eraseIdx_cons_zero, decide_true, decide_false, Int.reduceEq, Option.some.injEq, bop_addi, bop_adds, bop_addt, bop_addl, bop_sub, bop_mul, bop_mull, bop_mult, bop_fdiv, bop_mod, bop_pow, neg_int, tru_non, tru_bl, tru_int, tru_str, tru_tup, tru_rol, tru_ref, eq_int, eq_bl, eq_str, eq_non, cop_eq, cop_ne, cop_in, cop_ni, cop_is, cop_isn, cop_lt, cop_le, cop_gt, cop_ge, blt_lens, blt_lent, blt_leno, blt_lenr, blt_abs, blt_int, blt_intb, blt_max2, blt_min2, blt_sum, blt_all, blt_any, blt_max1, blt_min1, blt_tupt, blt_tupo, blt_tupr, blt_lstt, blt_lsto, blt_lstr, blt_sorted, ix_tup, ix_rol, ix_ref, sl_tup, sl_rol, sl_ref, mth_ref, lstOk_ref, seqS_tup, seqS_rol, seqS_ref, intS_int, int2S_int, refOk_non, refOk_bl, refOk_int, refOk_str, refOk_tup, refOk_rol, isi_]))
local macro_rules | `(tactic| walk_at "in") => `(tactic| (simp only [Fd.fn, startP, List.map_cons, List.map_nil, List.length_cons, List.length_nil, List.replicate, List.append_nil, Nat.sub_self, List.cons_append, List.nil_append, Nat.reduceSub, Nat.reduceAdd]))
local macro_rules | `(tactic| walk_at "nx") => `(tactic| (rw [ss_nil_eq]; (try dsimp only)))
section
variable {h : PH} {Q : QK} {X : XK} {k : Nat}
theorem sp_same_flat (x : PV) (f : flat x = true) (q0 : Q (.bl true) h) : L (k + 1) I__law_same [x, x] h Q X := by
  refine Lv_call d__law_same.fn rfl rfl ?_
  simp only [d__law_same, b__law_same]
  walk_at "in"
  cases x <;> first | cases f | skip
  · walk_at "st"; walk_at "st"; exact q0
  · walk_at "st"; walk_at "nx"; walk_at "st"; walk_at "st"; exact q0
  · walk_at "st"; walk_at "nx"; walk_at "st"; walk_at "nx"; walk_at "st"; walk_at "nx"; walk_at "st"; walk_at "nx"; walk_at "st"
    exact q0
  · walk_at "st"; walk_at "nx"; walk_at "st"; walk_at "nx"; walk_at "st"; walk_at "nx"; walk_at "st"; walk_at "st"
    exact q0
theorem same_items {n : Nat} {xs ys : List PV} {x y : PV} (yl : ys.length ≤ 16777216) (hx : ∀ h', Ext h h' → seqOf x h' = some xs) (hy : ∀ h', Ext h h' → seqOf y h' = some ys) (s : SmL (Sm h n) xs ys)
    (ih : ∀ {h : PH} {Q : QK} {X : XK} (x y : PV), Sm h n x y → (∀ h', Ext h h' → Q (.bl true) h') → L (k + n + 1) I__law_same [x, y] h Q X) {Q : List PV → PH → Prop} (q : ∀ h', Ext h h' → Q ((rgL 0 ys.length).map fun _ => .bl true) h') {h1 : PH} (e1 : Ext h h1) :
    cprW (L (k + n + 1)) (.nm 2) .yes (.call I__law_same (.cons (.ix (.v 0) (.v 2)) (.cons (.ix (.v 1) (.v 2)) .nil))) (fun _ => True) [some x, some y, none] Q (rgL 0 ys.length) h1 := by
  refine cpr_inv (fun h' => Ext h h') (fun _ => true) (fun _ => .bl true) (by rw [rgL_len]; exact yl) e1 (fun _ _ => trivial) ?_ ?_
  · intro v hv h' e' R S r s'
    obtain ⟨i, hi, rfl⟩ := rgL_mem hv
    have xl := s.len
    obtain ⟨u, w, hu, hw, huw⟩ := s.at xs ys i (by omega)
    have ex := hx h' e'
    have ey := hy h' e'
    have fin : L (k + n + 1) I__law_same [u, w] h' R fun _ _ => False := ih u w (huw.ext e') fun h2 e2 => r rfl h2 (e'.trans e2)
    have nx : x.isStr = false := by cases x <;> first | rfl | cases ex
    have ny : y.isStr = false := by cases y <;> first | rfl | cases ey
    simp only [wTg, wT, wE, wEs, List.set_cons_zero, List.set_cons_succ, List.getElem?_cons_zero, List.getElem?_cons_succ, ↓reduceIte]
    refine ixS_of nx ex (ixN_nat (by omega)) hu ?_
    refine ixS_of ny ey (ixN_nat hi) hw fin
  · intro h' e'
    rw [filter_true _ (fun _ => rfl)]
    exact q h' e'
theorem sp_same : ∀ (n : Nat) {h : PH} {Q : QK} {X : XK} (x y : PV), Sm h n x y → (∀ h', Ext h h' → Q (.bl true) h') → L (k + n + 1) I__law_same [x, y] h Q X := by
  intro n
  induction n with
  | zero =>
    intro h Q X x y s q
    have q0 := q h (Ext.refl h)
    cases x <;> cases y <;> first | exact False.elim s | (simp only [Sm] at s; subst s; exact sp_same_flat _ rfl q0) | exact sp_same_flat _ rfl q0
  | succ n ih =>
    intro h Q X x y s q
    have q0 := q h (Ext.refl h)
    cases x <;> cases y <;> first | exact False.elim s | (simp only [Sm] at s; subst s; exact sp_same_flat _ rfl q0) | exact sp_same_flat _ rfl q0 | skip
    · rename_i xs ys
      refine Lv_call d__law_same.fn rfl rfl ?_
      simp only [d__law_same, b__law_same]
      walk_at "in"
      have sl := s.2.len
      have s1 := s.1
      walk_at "st"; walk_at "nx"; walk_at "st"; walk_at "nx"; walk_at "st"
      walk_at "st"; walk_at "nx"; walk_at "st"
      rw [if_pos (by omega)]
      refine ⟨⟨by omega, by omega⟩, same_items (by omega) (fun _ _ => rfl) (fun _ _ => rfl) s.2 ih (fun h' e' p hp => ?_) (Ext.refl h)⟩
      walk_at "ev"
      simp only [blsOf_bl]
      have : (List.map (fun _ => true) (rgL 0 (ys.length : Int))).all id = true := by simp
      rw [this]
      exact q _ (e'.trans (Ext.new hp))
    · rename_i a b
      obtain ⟨xs, ys, ha, hb, s1, s2⟩ := s
      refine Lv_call d__law_same.fn rfl rfl ?_
      simp only [d__law_same, b__law_same]
      walk_at "in"
      have sl := s2.len
      have ra := refOk_of ha
      have rb := refOk_of hb
      walk_at "st"; walk_at "nx"; walk_at "st"
      refine ⟨rb, ?_⟩
      walk_at "nx"; walk_at "st"
      refine ⟨rb, ?_⟩
      walk_at "st"
      refine ⟨rb, ra, ?_⟩
      (try walk_at "ev")
      refine ⟨rb, ra, ?_⟩
      walk_at "nx"; walk_at "st"
      rw [rdL_of ha, rdL_of hb]
      walk_at "ev"
      rw [if_pos (by omega)]
      have ea : ∀ h', Ext h h' → seqOf (.ref a) h' = some xs := fun h' e => rdL_of (e _ _ ha)
      have eb : ∀ h', Ext h h' → seqOf (.ref b) h' = some ys := fun h' e => rdL_of (e _ _ hb)
      refine ⟨⟨by omega, by omega⟩, same_items (by omega) ea eb s2 ih (fun h' e' p hp => ?_) (Ext.refl h)⟩
      walk_at "ev"
      simp only [blsOf_bl]
      have : (List.map (fun _ => true) (rgL 0 (ys.length : Int))).all id = true := by simp
      rw [this]
      exact q _ (e'.trans (Ext.new hp))
end
end Co.G
namespace Co.G
open PySem Co
local macro_rules | `(tactic| walk_at "st") => `(tactic| ((try simp only [↓wE_cpr, wS, wE, wEs, wEo, wT, wTg, wTgs, wIt, tgsLen, endF, List.set_cons_zero, List.set_cons_succ, List.getElem?_cons_zero, List.getElem?_cons_succ, List.length_cons, List.length_nil, Nat.reduceAdd, Nat.reduceLeDiff, Nat.reduceLT, seqOf_tup, seqOf_rol, true_and, and_true, decide_eq_true_eq, Bool.not_eq_true', Bool.not_true, Bool.not_false, decide_eq_false_iff_not, ite_not, ixN_z, ixN_pos, ixN_neg, Int.reduceLE, Int.reduceLT, Int.reduceNeg, Int.reduceAdd, Int.reduceToNat, Int.cast_ofNat_Int, ↓reduceIte, Option.bind_some, pv3, Bool.false_eq_true, Bool.true_eq_false, eq_self, isnS, Bool.not_eq_eq_eq_not, zipOk, zipL, List.zip_cons_cons, List.zip_nil_right, List.zip_nil_left, List.map_cons, List.map_nil, wipe, okOf, List.nil_append, List.cons_append, augS, hdS, hdsS, rdL_same, isTy, List.any_cons, List.any_nil, Bool.or_false, Bool.or_true, Bool.true_or, List.eraseIdx_cons_zero, decide_true, decide_false, Int.reduceEq, Option.some.injEq, bop_addi, bop_adds, bop_addt, bop_addl, bop_sub, bop_mul, bop_mull, bop_mult, bop_fdiv, bop_mod, bop_pow, neg_int, tru_non, tru_bl, tru_int, tru_str, tru_tup, tru_rol, tru_ref, eq_int, eq_bl, eq_str, eq_non, cop_eq, cop_ne, cop_in, cop_ni, cop_is, cop_isn, cop_lt, cop_le, cop_gt, cop_ge, blt_lens, blt_lent, blt_leno, blt_lenr, blt_abs, blt_int, blt_intb, blt_max2, blt_min2, blt_sum, blt_all, blt_any, blt_max1, blt_min1, blt_tupt, blt_tupo, blt_tupr, blt_lstt, blt_lsto, blt_lstr, blt_sorted, ix_tup, ix_rol, ix_ref, sl_tup, sl_rol, sl_ref, mth_ref, lstOk_ref, seqS_tup, seqS_rol, seqS_ref, intS_int, int2S_int, refOk_non, refOk_bl, refOk_int, refOk_str, refOk_tup, refOk_rol, isi_]); (repeat (rw [ss_nil_eq]; (try dsimp only))); rw [ss_cons_eq]; simp only [↓wE_cpr, wS, wE, wEs, wEo, wT, wTg, wTgs, wIt, tgsLen, endF, List.set_cons_zero, List.set_cons_succ, List.getElem?_cons_zero, List.getElem?_cons_succ, List.length_cons, List.length_nil, Nat.reduceAdd, Nat.reduceLeDiff, Nat.reduceLT, seqOf_tup, seqOf_rol, true_and, and_true, decide_eq_true_eq, Bool.not_eq_true', Bool.not_true, Bool.not_false, decide_eq_false_iff_not, ite_not, ixN_z, ixN_pos, ixN_neg, Int.reduceLE, Int.reduceLT, Int.reduceNeg, Int.reduceAdd, Int.reduceToNat, Int.cast_ofNat_Int, ↓reduceIte, Option.bind_some, pv3, Bool.false_eq_true, Bool.true_eq_false, eq_self, isnS, Bool.not_eq_eq_eq_not, zipOk, zipL, List.zip_cons_cons, List.zip_nil_right, List.zip_nil_left, List.map_cons, List.map_nil, wipe, okOf, List.nil_append, List.cons_append, augS, hdS, hdsS, rdL_same, isTy, List.any_cons, List.any_nil, Bool.or_false, Bool.or_true, Bool.true_or, List.eraseIdx_cons_zero, decide_true, decide_false, Int.reduceEq, Option.some.injEq, bop_addi, bop_adds, bop_addt, bop_addl, bop_sub, bop_mul, bop_mull, bop_mult, bop_fdiv, bop_mod, bop_pow, neg_int, tru_non, tru_bl, tru_int, tru_str, tru_tup, tru_rol, tru_ref, eq_int, eq_bl, eq_str, eq_non, cop_eq, cop_ne, cop_in, cop_ni, cop_is, cop_isn, cop_lt, cop_le, cop_gt, cop_ge, blt_lens, blt_lent, blt_leno, blt_lenr, blt_abs, blt_int, blt_intb, blt_max2, blt_min2, blt_sum, blt_all, blt_any, blt_max1, blt_min1, blt_tupt, blt_tupo, blt_tupr, blt_lstt, blt_lsto, blt_lstr, blt_sorted, ix_tup, ix_rol, ix_ref, sl_tup, sl_rol, sl_ref, mth_ref, lstOk_ref, seqS_tup, seqS_rol, seqS_ref, intS_int, int2S_int, refOk_non, refOk_bl, refOk_int, refOk_str, refOk_tup, refOk_rol, isi_]))
local macro_rules | `(tactic| walk_at "ev") => `(tactic| (try simp only [↓wE_cpr, wS, wE, wEs, wEo, wT, wTg, wTgs, wIt, tgsLen, endF, List.set_cons_zero, List.set_cons_succ, List.getElem?_cons_zero, List.getElem?_cons_succ, List.length_cons, List.length_nil, Nat.reduceAdd, Nat.reduceLeDiff, Nat.reduceLT, seqOf_tup, seqOf_rol, true_and, and_true, decide_eq_true_eq, Bool.not_eq_true', Bool.not_true, Bool.not_false, decide_eq_false_iff_not, ite_not, ixN_z, ixN_pos, ixN_neg, Int.reduceLE, Int.reduceLT, Int.reduceNeg, Int.reduceAdd, Int.reduceToNat, Int.cast_ofNat_Int, ↓reduceIte, Option.bind_some, pv3, Bool.false_eq_true, Bool.true_eq_false, eq_self, isnS, Bool.not_eq_eq_eq_not, zipOk, zipL, List.zip_cons_cons, List.zip_nil_right, List.zip_nil_left, List.map_cons, List.map_nil, wipe, okOf, List.nil_append, List.cons_append, augS, hdS, hdsS, rdL_same, isTy, List.any_cons, List.any_nil, Bool.or_false, Bool.or_true, Bool.true_or, List.eraseIdx_cons_zero, decide_true, decide_false, Int.reduceEq, Option.some.injEq, bop_addi, bop_adds, bop_addt, bop_addl, bop_sub, bop_mul, bop_mull, bop_mult, bop_fdiv, bop_mod, bop_pow, neg_int, tru_non, tru_bl, tru_int, tru_str, tru_tup, tru_rol, tru_ref, eq_int, eq_bl, eq_str, eq_non, cop_eq, cop_ne, cop_in, cop_ni, cop_is, cop_isn, cop_lt, cop_le, cop_gt, cop_ge, blt_lens, blt_lent, blt_leno, blt_lenr, blt_abs, blt_int, blt_intb, blt_max2, blt_min2, blt_sum, blt_all, blt_any, blt_max1, blt_min1, blt_tupt, blt_tupo, blt_tupr, blt_lstt, blt_lsto, blt_lstr, blt_sorted, ix_tup, ix_rol, ix_ref, sl_tup, sl_rol, sl_ref, mth_ref, lstOk_ref, seqS_tup, seqS_rol, seqS_ref, intS_int, int2S_int, refOk_non, refOk_bl, refOk_int, refOk_str, refOk_tup, refOk_rol, isi_]))
local macro_rules | `(tactic| walk_at "un") => `(tactic| (try simp only [cprW, cprL, wS, wE, wEs, wEo, wT, wTg, wTgs, wIt, tgsLen, endF, List.set_cons_zero, List.set_cons_succ, List.getElem?_cons_zero, List.getElem?_cons_succ, List.length_cons, List.length_nil, Nat.reduceAdd, Nat.reduceLeDiff, Nat.reduceLT, seqOf_tup, seqOf_rol, true_and, and_true, decide_eq_true_eq, Bool.not_eq_true', Bool.not_true, Bool.not_false, decide_eq_false_iff_not, ite_not, ixN_z, ixN_pos, ixN_neg, Int.reduceLE, Int.reduceLT, Int.reduceNeg, Int.reduceAdd, Int.reduceToNat, Int.cast_ofNat_Int, ↓reduceIte, Option.bind_some, pv3, Bool.false_eq_true, Bool.true_eq_false, eq_self, isnS, Bool.not_eq_eq_eq_not, zipOk, zipL, List.zip_cons_cons, List.zip_nil_right, List.zip_nil_left, List.map_cons, List.map_nil, wipe, okOf, List.nil_append, List.cons_append, augS, hdS, hdsS, rdL_same, isTy, List.any_cons, List.any_nil, Bool.or_false, Bool.or_true, Bool.true_or, List.eraseIdx_cons_zero, decide_true, decide_false, Int.reduceEq, Option.some.injEq, bop_addi, bop_adds, bop_addt, bop_addl, bop_sub, bop_mul, bop_mull, bop_mult, bop_fdiv, bop_mod, bop_pow, neg_int, tru_non, tru_bl, tru_int, tru_str, tru_tup, tru_rol, tru_ref, eq_int, eq_bl, eq_str, eq_non, cop_eq, cop_ne, cop_in, cop_ni, cop_is, cop_isn, cop_lt, cop_le, cop_gt, cop_ge, blt_lens, blt_lent, blt_leno, blt_lenr, blt_abs, blt_int, blt_intb, blt_max2, blt_min2, blt_sum, blt_all, blt_any, blt_max1, blt_min1, blt_tupt, blt_tupo, blt_tupr, blt_lstt, blt_lsto, blt_lstr, blt_sorted, ix_tup, ix_rol, ix_ref, sl_tup, sl_rol, sl_ref, mth_ref, lstOk_ref, seqS_tup, seqS_rol, seqS_ref, intS_int, int2S_int, refOk_non, refOk_bl, refOk_int, refOk_str, refOk_tup, refOk_rol, isi_]))
local macro_rules | `(tactic| walk_at "in") => `(tactic| (simp only [Fd.fn, startP, List.map_cons, List.map_nil, List.length_cons, List.length_nil, List.replicate, List.append_nil, Nat.sub_self, List.cons_append, List.nil_append, Nat.reduceSub, Nat.reduceAdd]))
local macro_rules | `(tactic| walk_at "nx") => `(tactic| (rw [ss_nil_eq]; (try dsimp only)))
section
variable {h : PH} {Q : QK} {X : XK} {k : Nat}
theorem sp_common (a b : Int) (q : Q (.int (Int.gcd a b)) h) : L (k + 1) I__law_common [.int a, .int b] h Q X := by
  refine Lv_call d__law_common.fn rfl rfl ?_
  simp only [d__law_common, b__law_common]
  walk_at "in"
  walk_at "st"
  refine ss_whl ?_
  rw [abs_eq, abs_eq]
  refine whl_inv (α := Nat × Nat) (st := fun p => [some (.int p.1), some (.int p.2)]) (hp := fun _ => h) (I := fun p => Nat.gcd p.1 p.2 = Int.gcd a b) (μ := fun p => p.2) (a.natAbs, b.natAbs) rfl ?_
  intro N p hp hN
  walk_at "ev"
  split
  · rename_i e
    walk_at "st"
    have e2 : p.2 = 0 := by omega
    rw [e2, Nat.gcd_zero_right] at hp
    rw [hp]
    exact q
  · rename_i e
    walk_at "st"
    refine ⟨by omega, ?_⟩
    walk_at "nx"
    have := hN (p.2, p.1 % p.2) (by rw [gcd_step _ _ (by omega)]; exact hp) (Nat.mod_lt _ (by omega))
    simpa using this
end
end Co.G
namespace Co.G
open PySem Co
local macro_rules | `(tactic| walk_at "st") => `(tactic| ((try simp only [↓wE_cpr, wS, wE, wEs, wEo, wT, wTg, wTgs, wIt, tgsLen, endF, List.set_cons_zero, List.set_cons_succ, List.getElem?_cons_zero, List.getElem?_cons_succ, List.length_cons, List.length_nil, Nat.reduceAdd, Nat.reduceLeDiff, Nat.reduceLT, seqOf_tup, seqOf_rol, true_and, and_true, decide_eq_true_eq, Bool.not_eq_true', Bool.not_true, Bool.not_false, decide_eq_false_iff_not, ite_not, ixN_z, ixN_pos, ixN_neg, Int.reduceLE, Int.reduceLT, Int.reduceNeg, Int.reduceAdd, Int.reduceToNat, Int.cast_ofNat_Int, ↓reduceIte, Option.bind_some, pv3, Bool.false_eq_true, Bool.true_eq_false, eq_self, isnS, Bool.not_eq_eq_eq_not, zipOk, zipL, List.zip_cons_cons, List.zip_nil_right, List.zip_nil_left, List.map_cons, List.map_nil, wipe, okOf, List.nil_append, List.cons_append, augS, hdS, hdsS, rdL_same, isTy, List.any_cons, List.any_nil, Bool.or_false, Bool.or_true, Bool.true_or, List.eraseIdx_cons_zero, decide_true, decide_false, Int.reduceEq, Option.some.injEq, bop_addi, bop_adds, bop_addt, bop_addl, bop_sub, bop_mul, bop_mull, bop_mult, bop_fdiv, bop_mod, bop_pow, neg_int, tru_non, tru_bl, tru_int, tru_str, tru_tup, tru_rol, tru_ref, eq_int, eq_bl, eq_str, eq_non, cop_eq, cop_ne, cop_in, cop_ni, cop_is, cop_isn, cop_lt, cop_le, cop_gt, cop_ge, blt_lens, blt_lent, blt_leno, blt_lenr, blt_abs, blt_int, blt_intb, blt_max2, blt_min2, blt_sum, blt_all, blt_any, blt_max1, blt_min1, blt_tupt, blt_tupo, blt_tupr, blt_lstt, blt_lsto, blt_lstr, blt_sorted, ix_tup, ix_rol, ix_ref, sl_tup, sl_rol, sl_ref, mth_ref, lstOk_ref, seqS_tup, seqS_rol, seqS_ref, intS_int, int2S_int, refOk_non, refOk_bl, refOk_int, refOk_str, refOk_tup, refOk_rol, isi_]); (repeat (rw [ss_nil_eq]; (try dsimp only))); rw [ss_cons_eq]; simp only [↓wE_cpr, wS, wE, wEs, wEo, wT, wTg, wTgs, wIt, tgsLen, endF, List.set_cons_zero, List.set_cons_succ, List.getElem?_cons_zero, List.getElem?_cons_succ, List.length_cons, List.length_nil, Nat.reduceAdd, Nat.reduceLeDiff, Nat.reduceLT, seqOf_tup, seqOf_rol, true_and, and_true, decide_eq_true_eq, Bool.not_eq_true', Bool.not_true, Bool.not_false, decide_eq_false_iff_not, ite_not, ixN_z, ixN_pos, ixN_neg, Int.reduceLE, Int.reduceLT, Int.reduceNeg, Int.reduceAdd, Int.reduceToNat, Int.cast_ofNat_Int, ↓reduceIte, Option.bind_some, pv3, Bool.false_eq_true, Bool.true_eq_false, eq_self, isnS, Bool.not_eq_eq_eq_not, zipOk, zipL, List.zip_cons_cons, List.zip_nil_right, List.zip_nil_left, List.map_cons, List.map_nil, wipe, okOf, List.nil_append, List.cons_append, augS, hdS, hdsS, rdL_same, isTy, List.any_cons, List.any_nil, Bool.or_false, Bool.or_true, Bool.true_or, List.eraseIdx_cons_zero, decide_true, decide_false, Int.reduceEq, Option.some.injEq, bop_addi, bop_adds, bop_addt, bop_addl, bop_sub, bop_mul, bop_mull, bop_mult, bop_fdiv, bop_mod, bop_pow, neg_int, tru_non, tru_bl, tru_int, tru_str, tru_tup, tru_rol, tru_ref, eq_int, eq_bl, eq_str, eq_non, cop_eq, cop_ne, cop_in, cop_ni, cop_is, cop_isn, cop_lt, cop_le, cop_gt, cop_ge, blt_lens, blt_lent, blt_leno, blt_lenr, blt_abs, blt_int, blt_intb, blt_max2, blt_min2, blt_sum, blt_all, blt_any, blt_max1, blt_min1, blt_tupt, blt_tupo, blt_tupr, blt_lstt, blt_lsto, blt_lstr, blt_sorted, ix_tup, ix_rol, ix_ref, sl_tup, sl_rol, sl_ref, mth_ref, lstOk_ref, seqS_tup, seqS_rol, seqS_ref, intS_int, int2S_int, refOk_non, refOk_bl, refOk_int, refOk_str, refOk_tup, refOk_rol, isi_]))
local macro_rules | `(tactic| walk_at "ev") => `(tactic| (try simp only [↓wE_cpr, wS, wE, wEs, wEo, wT, wTg, wTgs, wIt, tgsLen, endF, List.set_cons_zero, List.set_cons_succ, List.getElem?_cons_zero, List.getElem?_cons_succ, List.length_cons, List.length_nil, Nat.reduceAdd, Nat.reduceLeDiff, Nat.reduceLT, seqOf_tup, seqOf_rol, true_and, and_true, decide_eq_true_eq, Bool.not_eq_true', Bool.not_true, Bool.not_false, decide_eq_false_iff_not, ite_not, ixN_z, ixN_pos, ixN_neg, Int.reduceLE, Int.reduceLT, Int.reduceNeg, Int.reduceAdd, Int.reduceToNat, Int.cast_ofNat_Int, ↓reduceIte, Option.bind_some, pv3, Bool.false_eq_true, Bool.true_eq_false, eq_self, isnS, Bool.not_eq_eq_eq_not, zipOk, zipL, List.zip_cons_cons, List.zip_nil_right, List.zip_nil_left, List.map_cons, List.map_nil, wipe, okOf, List.nil_append, List.cons_append, augS, hdS, hdsS, rdL_same, isTy, List.any_cons, List.any_nil, Bool.or_false, Bool.or_true, Bool.true_or, List.eraseIdx_cons_zero, decide_true, decide_false, Int.reduceEq, Option.some.injEq, bop_addi, bop_adds, bop_addt, bop_addl, bop_sub, bop_mul, bop_mull, bop_mult, bop_fdiv, bop_mod, bop_pow, neg_int, tru_non, tru_bl, tru_int, tru_str, tru_tup, tru_rol, tru_ref, eq_int, eq_bl, eq_str, eq_non, cop_eq, cop_ne, cop_in, cop_ni, cop_is, cop_isn, cop_lt, cop_le, cop_gt, cop_ge, blt_lens, blt_lent, blt_leno, blt_lenr, blt_abs, blt_int, blt_intb, blt_max2, blt_min2, blt_sum, blt_all, blt_any, blt_max1, blt_min1, blt_tupt, blt_tupo, blt_tupr, blt_lstt, blt_lsto, blt_lstr, blt_sorted, ix_tup, ix_rol, ix_ref, sl_tup, sl_rol, sl_ref, mth_ref, lstOk_ref, seqS_tup, seqS_rol, seqS_ref, intS_int, int2S_int, refOk_non, refOk_bl, refOk_int, refOk_str, refOk_tup, refOk_rol, isi_]))
local macro_rules | `(tactic| walk_at "un") => `(tactic| (try simp only [cprW, cprL, wS, wE, wEs, wEo, wT, wTg, wTgs, wIt, tgsLen, endF, List.set_cons_zero, List.set_cons_succ, List.getElem?_cons_zero, List.getElem?_cons_succ, List.length_cons, List.length_nil, Nat.reduceAdd, Nat.reduceLeDiff, Nat.reduceLT, seqOf_tup, seqOf_rol, true_and, and_true, decide_eq_true_eq, Bool.not_eq_true', Bool.not_true, Bool.not_false, decide_eq_false_iff_not, ite_not, ixN_z, ixN_pos, ixN_neg, Int.reduceLE, Int.reduceLT, Int.reduceNeg, Int.reduceAdd, Int.reduceToNat, Int.cast_ofNat_Int, ↓reduceIte, Option.bind_some, pv3, Bool.false_eq_true, Bool.true_eq_false, eq_self, isnS, Bool.not_eq_eq_eq_not, zipOk, zipL, List.zip_cons_cons, List.zip_nil_right, List.zip_nil_left, List.map_cons, List.map_nil, wipe, okOf, List.nil_append, List.cons_append, augS, hdS, hdsS, rdL_same, isTy, List.any_cons, List.any_nil, Bool.or_false, Bool.or_true, Bool.true_or, List.eraseIdx_cons_zero, decide_true, decide_false, Int.reduceEq, Option.some.injEq, bop_addi, bop_adds, bop_addt, bop_addl, bop_sub, bop_mul, bop_mull, bop_mult, bop_fdiv, bop_mod, bop_pow, neg_int, tru_non, tru_bl, tru_int, tru_str, tru_tup, tru_rol, tru_ref, eq_int, eq_bl, eq_str, eq_non, cop_eq, cop_ne, cop_in, cop_ni, cop_is, cop_isn, cop_lt, cop_le, cop_gt, cop_ge, blt_lens, blt_lent, blt_leno, blt_lenr, blt_abs, blt_int, blt_intb, blt_max2, blt_min2, blt_sum, blt_all, blt_any, blt_max1, blt_min1, blt_tupt, blt_tupo, blt_tupr, blt_lstt, blt_lsto, blt_lstr, blt_sorted, ix_tup, ix_rol, ix_ref, sl_tup, sl_rol, sl_ref, mth_ref, lstOk_ref, seqS_tup, seqS_rol, seqS_ref, intS_int, int2S_int, refOk_non, refOk_bl, refOk_int, refOk_str, refOk_tup, refOk_rol, isi_]))
local macro_rules | `(tactic| walk_at "in") => `(tactic| (simp only [Fd.fn, startP, List.map_cons, List.map_nil, List.length_cons, List.length_nil, List.replicate, List.append_nil, Nat.sub_self, List.cons_append, List.nil_append, Nat.reduceSub, Nat.reduceAdd]))
local macro_rules | `(tactic| walk_at "nx") => `(tactic| (rw [ss_nil_eq]; (try dsimp only)))
section
variable {h : PH} {Q : QK} {X : XK} {k : Nat}
theorem sp_parts (n : Nat) (n1 : 1 ≤ n) (nm : n ≤ 10000000000) (q : ∀ (l : List (Nat × Nat)) (a : Nat) h', Nt.FacL 0 n l → h a = none → h' a = some (.lst (l.map pvPE)) → Ext h h' → Q (.ref a) h') : L (k + 1) I__law_parts [.int n] h Q X := by
  refine Lv_call d__law_parts.fn rfl rfl ?_
  simp only [d__law_parts, b__law_parts]
  walk_at "in"
  walk_at "st"
  intro a fa
  walk_at "ev"
  refine ss_whl ?_
  refine whl_inv (α := (Nat × Nat × Nat × List (Nat × Nat)) × (Option PV × PH)) (st := fun x => [some (.int x.1.1), some (.ref a), some (.int x.1.2.1), x.2.1]) (hp := fun x => x.2.2)
    (I := fun x => 1 ≤ x.1.1 ∧ x.1.1 ≤ n ∧ 2 ≤ x.1.2.1 ∧ x.1.2.2.1 < x.1.2.1 ∧ x.1.2.1 ≤ n + 2 ∧ (∀ d, 2 ≤ d → d ∣ x.1.1 → x.1.2.1 ≤ d) ∧ (∀ r, Nt.FacL x.1.2.2.1 x.1.1 r → Nt.FacL 0 n (x.1.2.2.2 ++ r)) ∧ 2 ^ x.1.2.2.2.length * x.1.1 ≤ n ∧ x.2.2 a = some (.lst (x.1.2.2.2.map pvPE)) ∧ Ext h x.2.2)
    (μ := fun x => n + 2 - x.1.2.1) ((n, 2, 0, []), (none, _)) ⟨n1, Nat.le_refl _, by simp only; omega, by simp only; omega, by simp only; omega, fun d d2 _ => d2, fun r hr => hr, by simp, pupd_same, Ext.new fa⟩ ?_
  rintro N ⟨⟨m, s, lo, l⟩, ⟨u, h1⟩⟩ ⟨m1, mn, s2, ls, sn, sd, cl, len, hl, he⟩ hN
  simp only at m1 mn s2 ls sn sd cl len hl he ⊢
  have ll : l.length ≤ 40 := by
    by_cases z : l.length ≤ 40
    · exact z
    · have h1 := Nat.pow_le_pow_right (n := 2) (by decide) (show 40 ≤ l.length by omega)
      have h2 := Nat.mul_le_mul h1 m1
      omega
  walk_at "ev"
  refine ⟨cmul_s (by omega) (by omega), ?_⟩
  split
  · rename_i le
    have le' : s * s ≤ m := by rw [← Int.natCast_mul] at le; omega
    have sm : s ≤ m := Nat.le_trans (Nat.le_mul_self s) le'
    walk_at "st"
    refine ss_whl ?_
    refine whl_inv (α := Nat × Nat) (st := fun x => [some (.int x.1), some (.ref a), some (.int s), some (.int x.2)]) (hp := fun _ => h1) (I := fun x => m = s ^ x.2 * x.1 ∧ 1 ≤ x.1) (μ := fun x => x.1) (m, 0) ⟨by simp, m1⟩ ?_
    rintro N2 ⟨c, e⟩ ⟨hm, c1⟩ hN2
    simp only at hm c1 ⊢
    have dv := emod0 c s
    have cle : c ≤ m := by rw [hm]; exact Nat.le_mul_of_pos_left _ (Nat.pow_pos (by omega))
    walk_at "ev"
    refine ⟨by omega, ?_⟩
    split
    · rename_i d
      obtain ⟨t, ht⟩ := dv.1 d
      walk_at "st"
      refine ⟨cdiv_s (by omega) (by omega), ?_⟩
      walk_at "nx"
      have ct : c / s = t := by rw [ht]; exact Nat.mul_div_cancel_left _ (by omega)
      have t1 : 1 ≤ t := by
        by_cases c0 : t = 0
        · rw [c0] at ht; omega
        · omega
      have := hN2 (t, e + 1) ⟨by simp only; rw [hm, ht, Nat.pow_succ]; grind, t1⟩ (by simp only; rw [ht]; have := Nat.mul_le_mul_right t s2; omega)
      rw [← Int.natCast_ediv, ct]
      simpa using this
    · rename_i d
      have nd : ¬ s ∣ c := fun z => d (dv.2 z)
      have sd' : ∀ d, 2 ≤ d → d ∣ c → s + 1 ≤ d := fun d d2 hd => by
        have := sd d d2 (Nat.dvd_trans hd ⟨s ^ e, by rw [hm, Nat.mul_comm]⟩)
        by_cases z : d = s
        · exact absurd (z ▸ hd) nd
        · omega
      walk_at "st"
      split
      · rename_i ep
        have e1 : 1 ≤ e := by omega
        have sp : s ∣ m := Nat.dvd_trans (Nt.dvd_pow_self s e1) ⟨c, hm⟩
        have pr : Nt.Pr s := Nt.Lf.pr ⟨s2, sp, sd⟩
        have cl2 : 2 * c ≤ m := by
          rw [hm]
          refine Nat.mul_le_mul_right c (Nat.le_trans s2 ?_)
          have := Nat.pow_le_pow_right (n := s) (by omega) e1
          rwa [Nat.pow_one] at this
        walk_at "st"
        simp only [hl, mthL]
        refine ⟨by simp only [List.length_map]; omega, ?_⟩
        walk_at "st"
        walk_at "nx"
        have := hN ((c, s + 1, s, l ++ [(s, e)]), (some (.int e), pupd h1 a (.lst ((l ++ [(s, e)]).map pvPE)))) ⟨c1, by simp only; omega, by simp only; omega, by simp only; omega, by simp only; omega, sd', fun r hr => ?_, ?_, pupd_same, ?_⟩ (by simp only; omega)
        · simpa [pvPE] using this
        · simp only at hr ⊢
          have := cl ((s, e) :: r) ⟨ls, pr, e1, c, hm, hr⟩
          simpa using this
        · simp only [List.length_append, List.length_singleton, Nat.pow_succ]
          have := Nat.mul_le_mul_left (2 ^ l.length) cl2
          grind
        · intro u o eu
          exact (pupd_ne (ne_new eu fa)).trans (he u o eu)
      · rename_i ep
        obtain rfl : e = 0 := by omega
        rw [Nat.pow_zero, Nat.one_mul] at hm
        subst hm
        walk_at "st"
        walk_at "nx"
        have := hN ((m, s + 1, lo, l), (some (.int 0), h1)) ⟨m1, mn, by simp only; omega, by simp only; omega, by simp only; omega, sd', cl, len, hl, he⟩ (by simp only; omega)
        simpa using this
  · rename_i gt
    have gt' : m < s * s := by rw [← Int.natCast_mul] at gt; omega
    walk_at "st"
    split
    · rename_i mp
      intro b fb
      have hl2 := (pupd_ne (o := .lst [.tup [.int m, .int 1]]) (ne_new hl fb)).trans hl
      walk_at "ev"
      simp only [hl2, pupd_same]
      refine ⟨by simp only [List.length_map, List.length_singleton]; omega, ?_⟩
      intro p fp
      have lf := Nt.Lf.root (n := m) (s := s) (by omega) (fun d d2 dl hd => by have := sd d d2 hd; omega) gt'
      have fac := cl [(m, 1)] ⟨by have := sd m (by omega) (Nat.dvd_refl m); omega, lf.pr, Nat.le_refl _, 1, by simp, rfl⟩
      refine q (l ++ [(m, 1)]) p _ fac ?_ ?_ ((he.trans (Ext.new fb)).trans (Ext.new fp))
      · have h2 := fp
        cases hp : h p with
        | none => rfl
        | some o =>
          have := (he.trans (Ext.new (o := .lst [.tup [.int m, .int 1]]) fb)) p o hp
          rw [this] at h2
          cases h2
      · rw [pupd_same]; simp [pvPE]
    · rename_i mp
      obtain rfl : m = 1 := by omega
      intro b fb
      have hl2 := (pupd_ne (o := .lst []) (ne_new hl fb)).trans hl
      walk_at "ev"
      simp only [hl2, pupd_same]
      refine ⟨by simp only [List.length_map, List.length_nil]; omega, ?_⟩
      intro p fp
      have fac := cl [] rfl
      rw [List.append_nil] at fac
      refine q l p _ fac ?_ ?_ ((he.trans (Ext.new fb)).trans (Ext.new fp))
      · have h2 := fp
        cases hp : h p with
        | none => rfl
        | some o =>
          have := (he.trans (Ext.new (o := .lst []) fb)) p o hp
          rw [this] at h2
          cases h2
      · rw [pupd_same, List.append_nil]
end
end Co.G
namespace Co.G
open PySem Co
local macro_rules | `(tactic| walk_at "st") => `(tactic| ((try simp only [↓wE_cpr, wS, wE, wEs, wEo, wT, wTg, wTgs, wIt, tgsLen, endF, List.set_cons_zero, List.set_cons_succ, List.getElem?_cons_zero, List.getElem?_cons_succ, List.length_cons, List.length_nil, Nat.reduceAdd, Nat.reduceLeDiff, Nat.reduceLT, seqOf_tup, seqOf_rol, true_and, and_true, decide_eq_true_eq, Bool.not_eq_true', Bool.not_true, Bool.not_false, decide_eq_false_iff_not, ite_not, ixN_z, ixN_pos, ixN_neg, Int.reduceLE, Int.reduceLT, Int.reduceNeg, Int.reduceAdd, Int.reduceToNat, Int.cast_ofNat_Int, ↓reduceIte, Option.bind_some, pv3, Bool.false_eq_true, Bool.true_eq_false, eq_self, isnS, Bool.not_eq_eq_eq_not, zipOk, zipL, List.zip_cons_cons, List.zip_nil_right, List.zip_nil_left, List.map_cons, List.map_nil, wipe, okOf, List.nil_append, List.cons_append, augS, hdS, hdsS, rdL_same, isTy, List.any_cons, List.any_nil, Bool.or_false, Bool.or_true, Bool.true_or, List.eraseIdx_cons_zero, decide_true, decide_false, Int.reduceEq, Option.some.injEq, bop_addi, bop_adds, bop_addt, bop_addl, bop_sub, bop_mul, bop_mull, bop_mult, bop_fdiv, bop_mod, bop_pow, neg_int, tru_non, tru_bl, tru_int, tru_str, tru_tup, tru_rol, tru_ref, eq_int, eq_bl, eq_str, eq_non, cop_eq, cop_ne, cop_in, cop_ni, cop_is, cop_isn, cop_lt, cop_le, cop_gt, cop_ge, blt_lens, blt_lent, blt_leno, blt_lenr, blt_abs, blt_int, blt_intb, blt_max2, blt_min2, blt_sum, blt_all, blt_any, blt_max1, blt_min1, blt_tupt, blt_tupo, blt_tupr, blt_lstt, blt_lsto, blt_lstr, blt_sorted, ix_tup, ix_rol, ix_ref, sl_tup, sl_rol, sl_ref, mth_ref, lstOk_ref, seqS_tup, seqS_rol, seqS_ref, intS_int, int2S_int, refOk_non, refOk_bl, refOk_int, refOk_str, refOk_tup, refOk_rol, isi_]); (repeat (rw [ss_nil_eq]; (try dsimp only))); rw [ss_cons_eq]; simp only [↓wE_cpr, wS, wE, wEs, wEo, wT, wTg, wTgs, wIt, tgsLen, endF, List.set_cons_zero, List.set_cons_succ, List.getElem?_cons_zero, List.getElem?_cons_succ, List.length_cons, List.length_nil, Nat.reduceAdd, Nat.reduceLeDiff, Nat.reduceLT, seqOf_tup, seqOf_rol, true_and, and_true, decide_eq_true_eq, Bool.not_eq_true', Bool.not_true, Bool.not_false, decide_eq_false_iff_not, ite_not, ixN_z, ixN_pos, ixN_neg, Int.reduceLE, Int.reduceLT, Int.reduceNeg, Int.reduceAdd, Int.reduceToNat, Int.cast_ofNat_Int, ↓reduceIte, Option.bind_some, pv3, Bool.false_eq_true, Bool.true_eq_false, eq_self, isnS, Bool.not_eq_eq_eq_not, zipOk, zipL, List.zip_cons_cons, List.zip_nil_right, List.zip_nil_left, List.map_cons, List.map_nil, wipe, okOf, List.nil_append, List.cons_append, augS, hdS, hdsS, rdL_same, isTy, List.any_cons, List.any_nil, Bool.or_false, Bool.or_true, Bool.true_or, List.eraseIdx_cons_zero, decide_true, decide_false, Int.reduceEq, Option.some.injEq, bop_addi, bop_adds, bop_addt, bop_addl, bop_sub, bop_mul, bop_mull, bop_mult, bop_fdiv, bop_mod, bop_pow, neg_int, tru_non, tru_bl, tru_int, tru_str, tru_tup, tru_rol, tru_ref, eq_int, eq_bl, eq_str, eq_non, cop_eq, cop_ne, cop_in, cop_ni, cop_is, cop_isn, cop_lt, cop_le, cop_gt, cop_ge, blt_lens, blt_lent, blt_leno, blt_lenr, blt_abs, blt_int, blt_intb, blt_max2, blt_min2, blt_sum, blt_all, blt_any, blt_max1, blt_min1, blt_tupt, blt_tupo, blt_tupr, blt_lstt, blt_lsto, blt_lstr, blt_sorted, ix_tup, ix_rol, ix_ref, sl_tup, sl_rol, sl_ref, mth_ref, lstOk_ref, seqS_tup, seqS_rol, seqS_ref, intS_int, int2S_int, refOk_non, refOk_bl, refOk_int, refOk_str, refOk_tup, refOk_rol, isi_]))
local macro_rules | `(tactic| walk_at "ev") => `(tactic| (try simp only [↓wE_cpr, wS, wE, wEs, wEo, wT, wTg, wTgs, wIt, tgsLen, endF, List.set_cons_zero, List.set_cons_succ, List.getElem?_cons_zero, List.getElem?_cons_succ, List.length_cons, List.length_nil, Nat.reduceAdd, Nat.reduceLeDiff, Nat.reduceLT, seqOf_tup, seqOf_rol, true_and, and_true, decide_eq_true_eq, Bool.not_eq_true', Bool.not_true, Bool.not_false, decide_eq_false_iff_not, ite_not, ixN_z, ixN_pos, ixN_neg, Int.reduceLE, Int.reduceLT, Int.reduceNeg, Int.reduceAdd, Int.reduceToNat, Int.cast_ofNat_Int, ↓reduceIte, Option.bind_some, pv3, Bool.false_eq_true, Bool.true_eq_false, eq_self, isnS, Bool.not_eq_eq_eq_not, zipOk, zipL, List.zip_cons_cons, List.zip_nil_right, List.zip_nil_left, List.map_cons, List.map_nil, wipe, okOf, List.nil_append, List.cons_append, augS, hdS, hdsS, rdL_same, isTy, List.any_cons, List.any_nil, Bool.or_false, Bool.or_true, Bool.true_or, List.eraseIdx_cons_zero, decide_true, decide_false, Int.reduceEq, Option.some.injEq, bop_addi, bop_adds, bop_addt, bop_addl, bop_sub, bop_mul, bop_mull, bop_mult, bop_fdiv, bop_mod, bop_pow, neg_int, tru_non, tru_bl, tru_int, tru_str, tru_tup, tru_rol, tru_ref, eq_int, eq_bl, eq_str, eq_non, cop_eq, cop_ne, cop_in, cop_ni, cop_is, cop_isn, cop_lt, cop_le, cop_gt, cop_ge, blt_lens, blt_lent, blt_leno, blt_lenr, blt_abs, blt_int, blt_intb, blt_max2, blt_min2, blt_sum, blt_all, blt_any, blt_max1, blt_min1, blt_tupt, blt_tupo, blt_tupr, blt_lstt, blt_lsto, blt_lstr, blt_sorted, ix_tup, ix_rol, ix_ref, sl_tup, sl_rol, sl_ref, mth_ref, lstOk_ref, seqS_tup, seqS_rol, seqS_ref, intS_int, int2S_int, refOk_non, refOk_bl, refOk_int, refOk_str, refOk_tup, refOk_rol, isi_]))
local macro_rules | `(tactic| walk_at "un") => `(tactic| (try simp only [cprW, cprL, wS, wE, wEs, wEo, wT, wTg, wTgs, wIt, tgsLen, endF, List.set_cons_zero, List.set_cons_succ, List.getElem?_cons_zero, List.getElem?_cons_succ, List.length_cons, List.length_nil, Nat.reduceAdd, Nat.reduceLeDiff, Nat.reduceLT, seqOf_tup, seqOf_rol, true_and, and_true, decide_eq_true_eq, Bool.not_eq_true', Bool.not_true, Bool.not_false, decide_eq_false_iff_not, ite_not, ixN_z, ixN_pos, ixN_neg, Int.reduceLE, Int.reduceLT, Int.reduceNeg, Int.reduceAdd, Int.reduceToNat, Int.cast_ofNat_Int, ↓reduceIte, Option.bind_some, pv3, Bool.false_eq_true, Bool.true_eq_false, eq_self, isnS, Bool.not_eq_eq_eq_not, zipOk, zipL, List.zip_cons_cons, List.zip_nil_right, List.zip_nil_left, List.map_cons, List.map_nil, wipe, okOf, List.nil_append, List.cons_append, augS, hdS, hdsS, rdL_same, isTy, List.any_cons, List.any_nil, Bool.or_false, Bool.or_true, Bool.true_or, List.eraseIdx_cons_zero, decide_true, decide_false, Int.reduceEq, Option.some.injEq, bop_addi, bop_adds, bop_addt, bop_addl, bop_sub, bop_mul, bop_mull, bop_mult, bop_fdiv, bop_mod, bop_pow, neg_int, tru_non, tru_bl, tru_int, tru_str, tru_tup, tru_rol, tru_ref, eq_int, eq_bl, eq_str, eq_non, cop_eq, cop_ne, cop_in, cop_ni, cop_is, cop_isn, cop_lt, cop_le, cop_gt, cop_ge, blt_lens, blt_lent, blt_leno, blt_lenr, blt_abs, blt_int, blt_intb, blt_max2, blt_min2, blt_sum, blt_all, blt_any, blt_max1, blt_min1, blt_tupt, blt_tupo, blt_tupr, blt_lstt, blt_lsto, blt_lstr, blt_sorted, ix_tup, ix_rol, ix_ref, sl_tup, sl_rol, sl_ref, mth_ref, lstOk_ref, seqS_tup, seqS_rol, seqS_ref, intS_int, int2S_int, refOk_non, refOk_bl, refOk_int, refOk_str, refOk_tup, refOk_rol, isi_]))
local macro_rules | `(tactic| walk_at "in") => `(tactic| (simp only [Fd.fn, startP, List.map_cons, List.map_nil, List.length_cons, List.length_nil, List.replicate, List.append_nil, Nat.sub_self, List.cons_append, List.nil_append, Nat.reduceSub, Nat.reduceAdd]))
local macro_rules | `(tactic| walk_at "nx") => `(tactic| (rw [ss_nil_eq]; (try dsimp only)))
section
variable {h : PH} {Q : QK} {X : XK} {k : Nat}
/-- p taken out of r as often as it goes -/
def RedP (p r r' : Nat) : Prop := (2 ≤ p → (∃ e, r = p ^ e * r') ∧ ¬ p ∣ r') ∧ (p < 2 → r' = r)
def RedL : List Nat → Nat → Nat → Prop
  | [], r, r' => r = r'
  | p :: ps, r, r' => ∃ t, RedP p r t ∧ RedL ps t r'
theorem RedP.uniq {p r a b : Nat} (h : RedP p r a) (g : RedP p r b) : a = b := by
  by_cases c : 2 ≤ p
  · obtain ⟨⟨e, h1⟩, h2⟩ := h.1 c
    obtain ⟨⟨f, g1⟩, g2⟩ := g.1 c
    exact (Nt.pow_uniq c h2 g2 e f (by rw [← h1, ← g1])).2
  · rw [h.2 (by omega), g.2 (by omega)]
theorem RedL.uniq : ∀ {ps : List Nat} {r a b : Nat}, RedL ps r a → RedL ps r b → a = b
  | [], _, _, _, h, g => h.symm.trans g
  | _ :: _, _, _, _, ⟨t, h1, h2⟩, ⟨u, g1, g2⟩ => by
    rw [h1.uniq g1] at h2
    exact h2.uniq g2
theorem RedL.snoc : ∀ {ps : List Nat} {p r a b : Nat}, RedL ps r a → RedP p a b → RedL (ps ++ [p]) r b
  | [], _, _, _, b, h, g => ⟨b, by rw [show _ = _ from h]; exact g, rfl⟩
  | _ :: _, _, _, _, _, ⟨t, h1, h2⟩, g => ⟨t, h1, h2.snoc g⟩
theorem sp_made_of (n : Nat) (ps : List Nat) (n1 : 1 ≤ n) (nm : n < 2 ^ 900) (hps : ∀ p ∈ ps, p < 2 ^ 900) (q : ∀ b : Bool, (b = true ↔ (∀ p ∈ ps, 2 ≤ p ∧ p ∣ n) ∧ RedL ps n 1) → Q (.bl b) h) : L (k + 2) I_made_of [.int n, .tup (ps.map fun p : Nat => .int (p : Int))] h Q X := by
  refine Lv_call d_made_of.fn rfl rfl ?_
  simp only [d_made_of, b_made_of]
  walk_at "in"
  walk_at "st"
  walk_at "st"
  refine for_inv (α := Nat × Option PV) (st := fun x => [some (.int n), some (.tup (ps.map fun p : Nat => .int (p : Int))), some (.int x.1), x.2]) (hp := fun _ => h) (I := fun i x => RedL (ps.take i) n x.1 ∧ 1 ≤ x.1 ∧ x.1 ≤ n ∧ ∀ p ∈ ps.take i, 2 ≤ p ∧ p ∣ n) (n, none) ⟨rfl, n1, Nat.le_refl _, fun p hp => by simp at hp⟩ ?_ ?_
  · rintro N i v ⟨r, u⟩ hv ⟨hr, r1, rn, good⟩ hN
    simp only at hr r1 rn good ⊢
    rw [List.getElem?_map] at hv
    cases hi : ps[i]? with
    | none => rw [hi] at hv; cases hv
    | some p =>
      rw [hi] at hv
      simp only [Option.map_some, Option.some.injEq] at hv
      subst hv
      have inp := List.mem_of_getElem? hi
      have pb := hps p inp
      have tk : ps.take (i + 1) = ps.take i ++ [p] := by rw [List.take_add_one, hi]; rfl
      refine ⟨rfl, ?_⟩
      have bad : ¬ (2 ≤ p ∧ p ∣ n) → Q (.bl false) h := fun nb => q false ⟨fun e => (by cases e), fun e => absurd (e.1 p inp) nb⟩
      walk_at "st"
      refine sp_is_count _ trivial ?_
      simp only [isCnt, decide_eq_true (show (0 : Int) ≤ p by omega)]
      walk_at "ev"
      split
      · rename_i e
        walk_at "st"
        exact bad fun c => by omega
      · rename_i e
        have p2 : 2 ≤ p := by omega
        have dn := emod0 n p
        refine ⟨by omega, ?_⟩
        split
        · rename_i e3
          walk_at "nx"
          refine ss_whl ?_
          refine whl_inv (α := Nat × Nat) (st := fun x => [some (.int n), some (.tup (ps.map fun p : Nat => .int (p : Int))), some (.int x.1), some (.int p)]) (hp := fun _ => h) (I := fun x => r = p ^ x.2 * x.1 ∧ 1 ≤ x.1) (μ := fun x => x.1) (r, 0) ⟨by simp, r1⟩ ?_
          rintro N2 ⟨c, e⟩ ⟨hm, c1⟩ hN2
          simp only at hm c1 ⊢
          have dv := emod0 c p
          have cle : c ≤ r := by rw [hm]; exact Nat.le_mul_of_pos_left _ (Nat.pow_pos (by omega))
          walk_at "ev"
          refine ⟨by omega, ?_⟩
          split
          · rename_i d
            obtain ⟨t, ht⟩ := dv.1 d
            walk_at "st"
            refine ⟨cdiv_s (by omega) (by omega), ?_⟩
            walk_at "nx"
            have ct : c / p = t := by rw [ht]; exact Nat.mul_div_cancel_left _ (by omega)
            have t1 : 1 ≤ t := by
              by_cases c0 : t = 0
              · rw [c0] at ht; omega
              · omega
            have := hN2 (t, e + 1) ⟨by simp only; rw [hm, ht, Nat.pow_succ]; grind, t1⟩ (by simp only; rw [ht]; have := Nat.mul_le_mul_right t p2; omega)
            rw [← Int.natCast_ediv, ct]
            simpa using this
          · rename_i d
            have nd : ¬ p ∣ c := fun z => d (dv.2 z)
            walk_at "nx"
            refine hN (c, some (.int p)) ⟨?_, c1, by simp only; omega, ?_⟩
            · rw [tk]
              exact hr.snoc ⟨fun _ => ⟨⟨e, hm⟩, nd⟩, fun z => by omega⟩
            · intro x hx
              rw [tk, List.mem_append, List.mem_singleton] at hx
              rcases hx with hx | rfl
              · exact good x hx
              · exact ⟨p2, dn.1 e3⟩
        · rename_i e3
          walk_at "st"
          exact bad fun c => e3 (dn.2 c.2)
  · rintro ⟨r, u⟩ ⟨hr, r1, rn, good⟩
    simp only [List.length_map, List.take_length] at hr good ⊢
    refine ⟨rfl, ?_⟩
    walk_at "st"
    refine q _ ⟨fun e => ?_, fun e => ?_⟩
    · have := of_decide_eq_true e
      obtain rfl : r = 1 := by omega
      exact ⟨good, hr⟩
    · exact decide_eq_true (by rw [hr.uniq e.2]; rfl)
end
end Co.G
namespace Co.G
open PySem Co
local macro_rules | `(tactic| walk_at "st") => `(tactic| ((try simp only [↓wE_cpr, wS, wE, wEs, wEo, wT, wTg, wTgs, wIt, tgsLen, endF, List.set_cons_zero, List.set_cons_succ, List.getElem?_cons_zero, List.getElem?_cons_succ, List.length_cons, List.length_nil, Nat.reduceAdd, Nat.reduceLeDiff, Nat.reduceLT, seqOf_tup, seqOf_rol, true_and, and_true, decide_eq_true_eq, Bool.not_eq_true', Bool.not_true, Bool.not_false, decide_eq_false_iff_not, ite_not, ixN_z, ixN_pos, ixN_neg, Int.reduceLE, Int.reduceLT, Int.reduceNeg, Int.reduceAdd, Int.reduceToNat, Int.cast_ofNat_Int, ↓reduceIte, Option.bind_some, pv3, Bool.false_eq_true, Bool.true_eq_false, eq_self, isnS, Bool.not_eq_eq_eq_not, zipOk, zipL, List.zip_cons_cons, List.zip_nil_right, List.zip_nil_left, List.map_cons, List.map_nil, wipe, okOf, List.nil_append, List.cons_append, augS, hdS, hdsS, rdL_same, isTy, List.any_cons, List.any_nil, Bool.or_false, Bool.or_true, Bool.true_or, List.eraseIdx_cons_zero, decide_true, decide_false, Int.reduceEq, Option.some.injEq, bop_addi, bop_adds, bop_addt, bop_addl, bop_sub, bop_mul, bop_mull, bop_mult, bop_fdiv, bop_mod, bop_pow, neg_int, tru_non, tru_bl, tru_int, tru_str, tru_tup, tru_rol, tru_ref, eq_int, eq_bl, eq_str, eq_non, cop_eq, cop_ne, cop_in, cop_ni, cop_is, cop_isn, cop_lt, cop_le, cop_gt, cop_ge, blt_lens, blt_lent, blt_leno, blt_lenr, blt_abs, blt_int, blt_intb, blt_max2, blt_min2, blt_sum, blt_all, blt_any, blt_max1, blt_min1, blt_tupt, blt_tupo, blt_tupr, blt_lstt, blt_lsto, blt_lstr, blt_sorted, ix_tup, ix_rol, ix_ref, sl_tup, sl_rol, sl_ref, mth_ref, lstOk_ref, seqS_tup, seqS_rol, seqS_ref, intS_int, int2S_int, refOk_non, refOk_bl, refOk_int, refOk_str, refOk_tup, refOk_rol, isi_]); (repeat (rw [ss_nil_eq]; (try dsimp only))); rw [ss_cons_eq]; simp only [↓wE_cpr, wS, wE, wEs, wEo, wT, wTg, wTgs, wIt, tgsLen, endF, List.set_cons_zero, List.set_cons_succ, List.getElem?_cons_zero, List.getElem?_cons_succ, List.length_cons, List.length_nil, Nat.reduceAdd, Nat.reduceLeDiff, Nat.reduceLT, seqOf_tup, seqOf_rol, true_and, and_true, decide_eq_true_eq, Bool.not_eq_true', Bool.not_true, Bool.not_false, decide_eq_false_iff_not, ite_not, ixN_z, ixN_pos, ixN_neg, Int.reduceLE, Int.reduceLT, Int.reduceNeg, Int.reduceAdd, Int.reduceToNat, Int.cast_ofNat_Int, ↓reduceIte, Option.bind_some, pv3, Bool.false_eq_true, Bool.true_eq_false, eq_self, isnS, Bool.not_eq_eq_eq_not, zipOk, zipL, List.zip_cons_cons, List.zip_nil_right, List.zip_nil_left, List.map_cons, List.map_nil, wipe, okOf, List.nil_append, List.cons_append, augS, hdS, hdsS, rdL_same, isTy, List.any_cons, List.any_nil, Bool.or_false, Bool.or_true, Bool.true_or, List.eraseIdx_cons_zero, decide_true, decide_false, Int.reduceEq, Option.some.injEq, bop_addi, bop_adds, bop_addt, bop_addl, bop_sub, bop_mul, bop_mull, bop_mult, bop_fdiv, bop_mod, bop_pow, neg_int, tru_non, tru_bl, tru_int, tru_str, tru_tup, tru_rol, tru_ref, eq_int, eq_bl, eq_str, eq_non, cop_eq, cop_ne, cop_in, cop_ni, cop_is, cop_isn, cop_lt, cop_le, cop_gt, cop_ge, blt_lens, blt_lent, blt_leno, blt_lenr, blt_abs, blt_int, blt_intb, blt_max2, blt_min2, blt_sum, blt_all, blt_any, blt_max1, blt_min1, blt_tupt, blt_tupo, blt_tupr, blt_lstt, blt_lsto, blt_lstr, blt_sorted, ix_tup, ix_rol, ix_ref, sl_tup, sl_rol, sl_ref, mth_ref, lstOk_ref, seqS_tup, seqS_rol, seqS_ref, intS_int, int2S_int, refOk_non, refOk_bl, refOk_int, refOk_str, refOk_tup, refOk_rol, isi_]))
local macro_rules | `(tactic| walk_at "ev") => `(tactic| (try simp only [↓wE_cpr, wS, wE, wEs, wEo, wT, wTg, wTgs, wIt, tgsLen, endF, List.set_cons_zero, List.set_cons_succ, List.getElem?_cons_zero, List.getElem?_cons_succ, List.length_cons, List.length_nil, Nat.reduceAdd, Nat.reduceLeDiff, Nat.reduceLT, seqOf_tup, seqOf_rol, true_and, and_true, decide_eq_true_eq, Bool.not_eq_true', Bool.not_true, Bool.not_false, decide_eq_false_iff_not, ite_not, ixN_z, ixN_pos, ixN_neg, Int.reduceLE, Int.reduceLT, Int.reduceNeg, Int.reduceAdd, Int.reduceToNat, Int.cast_ofNat_Int, ↓reduceIte, Option.bind_some, pv3, Bool.false_eq_true, Bool.true_eq_false, eq_self, isnS, Bool.not_eq_eq_eq_not, zipOk, zipL, List.zip_cons_cons, List.zip_nil_right, List.zip_nil_left, List.map_cons, List.map_nil, wipe, okOf, List.nil_append, List.cons_append, augS, hdS, hdsS, rdL_same, isTy, List.any_cons, List.any_nil, Bool.or_false, Bool.or_true, Bool.true_or, List.eraseIdx_cons_zero, decide_true, decide_false, Int.reduceEq, Option.some.injEq, bop_addi, bop_adds, bop_addt, bop_addl, bop_sub, bop_mul, bop_mull, bop_mult, bop_fdiv, bop_mod, bop_pow, neg_int, tru_non, tru_bl, tru_int, tru_str, tru_tup, tru_rol, tru_ref, eq_int, eq_bl, eq_str, eq_non, cop_eq, cop_ne, cop_in, cop_ni, cop_is, cop_isn, cop_lt, cop_le, cop_gt, cop_ge, blt_lens, blt_lent, blt_leno, blt_lenr, blt_abs, blt_int, blt_intb, blt_max2, blt_min2, blt_sum, blt_all, blt_any, blt_max1, blt_min1, blt_tupt, blt_tupo, blt_tupr, blt_lstt, blt_lsto, blt_lstr, blt_sorted, ix_tup, ix_rol, ix_ref, sl_tup, sl_rol, sl_ref, mth_ref, lstOk_ref, seqS_tup, seqS_rol, seqS_ref, intS_int, int2S_int, refOk_non, refOk_bl, refOk_int, refOk_str, refOk_tup, refOk_rol, isi_]))
local macro_rules | `(tactic| walk_at "un") => `(tactic| (try simp only [cprW, cprL, wS, wE, wEs, wEo, wT, wTg, wTgs, wIt, tgsLen, endF, List.set_cons_zero, List.set_cons_succ, List.getElem?_cons_zero, List.getElem?_cons_succ, List.length_cons, List.length_nil, Nat.reduceAdd, Nat.reduceLeDiff, Nat.reduceLT, seqOf_tup, seqOf_rol, true_and, and_true, decide_eq_true_eq, Bool.not_eq_true', Bool.not_true, Bool.not_false, decide_eq_false_iff_not, ite_not, ixN_z, ixN_pos, ixN_neg, Int.reduceLE, Int.reduceLT, Int.reduceNeg, Int.reduceAdd, Int.reduceToNat, Int.cast_ofNat_Int, ↓reduceIte, Option.bind_some, pv3, Bool.false_eq_true, Bool.true_eq_false, eq_self, isnS, Bool.not_eq_eq_eq_not, zipOk, zipL, List.zip_cons_cons, List.zip_nil_right, List.zip_nil_left, List.map_cons, List.map_nil, wipe, okOf, List.nil_append, List.cons_append, augS, hdS, hdsS, rdL_same, isTy, List.any_cons, List.any_nil, Bool.or_false, Bool.or_true, Bool.true_or, List.eraseIdx_cons_zero, decide_true, decide_false, Int.reduceEq, Option.some.injEq, bop_addi, bop_adds, bop_addt, bop_addl, bop_sub, bop_mul, bop_mull, bop_mult, bop_fdiv, bop_mod, bop_pow, neg_int, tru_non, tru_bl, tru_int, tru_str, tru_tup, tru_rol, tru_ref, eq_int, eq_bl, eq_str, eq_non, cop_eq, cop_ne, cop_in, cop_ni, cop_is, cop_isn, cop_lt, cop_le, cop_gt, cop_ge, blt_lens, blt_lent, blt_leno, blt_lenr, blt_abs, blt_int, blt_intb, blt_max2, blt_min2, blt_sum, blt_all, blt_any, blt_max1, blt_min1, blt_tupt, blt_tupo, blt_tupr, blt_lstt, blt_lsto, blt_lstr, blt_sorted, ix_tup, ix_rol, ix_ref, sl_tup, sl_rol, sl_ref, mth_ref, lstOk_ref, seqS_tup, seqS_rol, seqS_ref, intS_int, int2S_int, refOk_non, refOk_bl, refOk_int, refOk_str, refOk_tup, refOk_rol, isi_]))
local macro_rules | `(tactic| walk_at "in") => `(tactic| (simp only [Fd.fn, startP, List.map_cons, List.map_nil, List.length_cons, List.length_nil, List.replicate, List.append_nil, Nat.sub_self, List.cons_append, List.nil_append, Nat.reduceSub, Nat.reduceAdd]))
local macro_rules | `(tactic| walk_at "nx") => `(tactic| (rw [ss_nil_eq]; (try dsimp only)))
section
variable {h : PH} {Q : QK} {X : XK} {k : Nat}
theorem natpow_emod (g s c : Nat) : ((g : Int) ^ c % (s : Int)) = ((g ^ c % s : Nat) : Int) := by rw [Int.natCast_emod, Int.natCast_pow]
theorem sp_walk (g s K : Nat) (s1 : 1 ≤ s) (sm : s < 2 ^ 400) (gm : g < 2 ^ 400) (K1 : 1 ≤ K) (hK : g ^ K % s = 1 % s) (q : ∀ c : Nat, 1 ≤ c → g ^ c % s = 1 % s → (∀ j, 1 ≤ j → j < c → g ^ j % s ≠ 1 % s) → Q (.int c) h) : L (k + 1) I__law_walk [.int g, .int s, .bl false] h Q X := by
  refine Lv_call d__law_walk.fn rfl rfl ?_
  simp only [d__law_walk, b__law_walk]
  walk_at "in"
  walk_at "st"
  refine ⟨by omega, ?_⟩
  refine ss_whl ?_
  refine whl_inv (α := Nat) (st := fun c => [some (.int g), some (.int s), some (.bl false), some (.int (g ^ c % s : Nat)), some (.int c)]) (hp := fun _ => h) (I := fun c => 1 ≤ c ∧ c ≤ K ∧ ∀ j, 1 ≤ j → j < c → g ^ j % s ≠ 1 % s) (μ := fun c => K - c) 1 ⟨Nat.le_refl _, K1, fun j a b => by omega⟩ ?_ |> (by simpa using ·)
  rintro N c ⟨c1, cK, hc⟩ hN
  simp only at c1 cK hc ⊢
  have lt := Nat.mod_lt (g ^ c) s1
  walk_at "ev"
  refine ⟨by omega, ?_⟩
  have e1 : ((1 : Int) % (s : Int)) = ((1 % s : Nat) : Int) := by rw [Int.natCast_emod]; rfl
  rw [e1]
  by_cases e : g ^ c % s = 1 % s
  · rw [e]
    walk_at "ev"
    walk_at "st"
    exact q c c1 e hc
  · rw [if_neg (by omega)]
    walk_at "st"
    have cK' : c ≠ K := fun z => e (z ▸ hK)
    refine ⟨cmul_s (by omega) (by omega), by omega, ?_⟩
    walk_at "nx"
    have := hN (c + 1) ⟨by omega, by omega, fun j j1 jc => by
      by_cases z : j = c
      · exact z ▸ e
      · exact hc j j1 (by omega)⟩ (by omega)
    have e2 : ((g ^ c % s : Nat) : Int) * (g : Int) % (s : Int) = ((g ^ (c + 1) % s : Nat) : Int) := by
      rw [← Int.natCast_mul, ← Int.natCast_emod, Nat.pow_succ, Nat.mod_mul_mod]
    rw [e2]
    simpa using this
end
end Co.G
namespace Co.G
open PySem Co
local macro_rules | `(tactic| walk_at "st") => `(tactic| ((try simp only [↓wE_cpr, wS, wE, wEs, wEo, wT, wTg, wTgs, wIt, tgsLen, endF, List.set_cons_zero, List.set_cons_succ, List.getElem?_cons_zero, List.getElem?_cons_succ, List.length_cons, List.length_nil, Nat.reduceAdd, Nat.reduceLeDiff, Nat.reduceLT, seqOf_tup, seqOf_rol, true_and, and_true, decide_eq_true_eq, Bool.not_eq_true', Bool.not_true, Bool.not_false, decide_eq_false_iff_not, ite_not, ixN_z, ixN_pos, ixN_neg, Int.reduceLE, Int.reduceLT, Int.reduceNeg, Int.reduceAdd, Int.reduceToNat, Int.cast_ofNat_Int, ↓reduceIte, Option.bind_some, pv3, Bool.false_eq_true, Bool.true_eq_false, eq_self, isnS, Bool.not_eq_eq_eq_not, zipOk, zipL, List.zip_cons_cons, List.zip_nil_right, List.zip_nil_left, List.map_cons, List.map_nil, wipe, okOf, List.nil_append, List.cons_append, augS, hdS, hdsS, rdL_same, isTy, List.any_cons, List.any_nil, Bool.or_false, Bool.or_true, Bool.true_or, List.eraseIdx_cons_zero, decide_true, decide_false, Int.reduceEq, Option.some.injEq, bop_addi, bop_adds, bop_addt, bop_addl, bop_sub, bop_mul, bop_mull, bop_mult, bop_fdiv, bop_mod, bop_pow, neg_int, tru_non, tru_bl, tru_int, tru_str, tru_tup, tru_rol, tru_ref, eq_int, eq_bl, eq_str, eq_non, cop_eq, cop_ne, cop_in, cop_ni, cop_is, cop_isn, cop_lt, cop_le, cop_gt, cop_ge, blt_lens, blt_lent, blt_leno, blt_lenr, blt_abs, blt_int, blt_intb, blt_max2, blt_min2, blt_sum, blt_all, blt_any, blt_max1, blt_min1, blt_tupt, blt_tupo, blt_tupr, blt_lstt, blt_lsto, blt_lstr, blt_sorted, ix_tup, ix_rol, ix_ref, sl_tup, sl_rol, sl_ref, mth_ref, lstOk_ref, seqS_tup, seqS_rol, seqS_ref, intS_int, int2S_int, refOk_non, refOk_bl, refOk_int, refOk_str, refOk_tup, refOk_rol, isi_]); (repeat (rw [ss_nil_eq]; (try dsimp only))); rw [ss_cons_eq]; simp only [↓wE_cpr, wS, wE, wEs, wEo, wT, wTg, wTgs, wIt, tgsLen, endF, List.set_cons_zero, List.set_cons_succ, List.getElem?_cons_zero, List.getElem?_cons_succ, List.length_cons, List.length_nil, Nat.reduceAdd, Nat.reduceLeDiff, Nat.reduceLT, seqOf_tup, seqOf_rol, true_and, and_true, decide_eq_true_eq, Bool.not_eq_true', Bool.not_true, Bool.not_false, decide_eq_false_iff_not, ite_not, ixN_z, ixN_pos, ixN_neg, Int.reduceLE, Int.reduceLT, Int.reduceNeg, Int.reduceAdd, Int.reduceToNat, Int.cast_ofNat_Int, ↓reduceIte, Option.bind_some, pv3, Bool.false_eq_true, Bool.true_eq_false, eq_self, isnS, Bool.not_eq_eq_eq_not, zipOk, zipL, List.zip_cons_cons, List.zip_nil_right, List.zip_nil_left, List.map_cons, List.map_nil, wipe, okOf, List.nil_append, List.cons_append, augS, hdS, hdsS, rdL_same, isTy, List.any_cons, List.any_nil, Bool.or_false, Bool.or_true, Bool.true_or, List.eraseIdx_cons_zero, decide_true, decide_false, Int.reduceEq, Option.some.injEq, bop_addi, bop_adds, bop_addt, bop_addl, bop_sub, bop_mul, bop_mull, bop_mult, bop_fdiv, bop_mod, bop_pow, neg_int, tru_non, tru_bl, tru_int, tru_str, tru_tup, tru_rol, tru_ref, eq_int, eq_bl, eq_str, eq_non, cop_eq, cop_ne, cop_in, cop_ni, cop_is, cop_isn, cop_lt, cop_le, cop_gt, cop_ge, blt_lens, blt_lent, blt_leno, blt_lenr, blt_abs, blt_int, blt_intb, blt_max2, blt_min2, blt_sum, blt_all, blt_any, blt_max1, blt_min1, blt_tupt, blt_tupo, blt_tupr, blt_lstt, blt_lsto, blt_lstr, blt_sorted, ix_tup, ix_rol, ix_ref, sl_tup, sl_rol, sl_ref, mth_ref, lstOk_ref, seqS_tup, seqS_rol, seqS_ref, intS_int, int2S_int, refOk_non, refOk_bl, refOk_int, refOk_str, refOk_tup, refOk_rol, isi_]))
local macro_rules | `(tactic| walk_at "ev") => `(tactic| (try simp only [↓wE_cpr, wS, wE, wEs, wEo, wT, wTg, wTgs, wIt, tgsLen, endF, List.set_cons_zero, List.set_cons_succ, List.getElem?_cons_zero, List.getElem?_cons_succ, List.length_cons, List.length_nil, Nat.reduceAdd, Nat.reduceLeDiff, Nat.reduceLT, seqOf_tup, seqOf_rol, true_and, and_true, decide_eq_true_eq, Bool.not_eq_true', Bool.not_true, Bool.not_false, decide_eq_false_iff_not, ite_not, ixN_z, ixN_pos, ixN_neg, Int.reduceLE, Int.reduceLT, Int.reduceNeg, Int.reduceAdd, Int.reduceToNat, Int.cast_ofNat_Int, ↓reduceIte, Option.bind_some, pv3, Bool.false_eq_true, Bool.true_eq_false, eq_self, isnS, Bool.not_eq_eq_eq_not, zipOk, zipL, List.zip_cons_cons, List.zip_nil_right, List.zip_nil_left, List.map_cons, List.map_nil, wipe, okOf, List.nil_append, List.cons_append, augS, hdS, hdsS, rdL_same, isTy, List.any_cons, List.any_nil, Bool.or_false, Bool.or_true, Bool.true_or, List.eraseIdx_cons_zero, decide_true, decide_false, Int.reduceEq, Option.some.injEq, bop_addi, bop_adds, bop_addt, bop_addl, bop_sub, bop_mul, bop_mull, bop_mult, bop_fdiv, bop_mod, bop_pow, neg_int, tru_non, tru_bl, tru_int, tru_str, tru_tup, tru_rol, tru_ref, eq_int, eq_bl, eq_str, eq_non, cop_eq, cop_ne, cop_in, cop_ni, cop_is, cop_isn, cop_lt, cop_le, cop_gt, cop_ge, blt_lens, blt_lent, blt_leno, blt_lenr, blt_abs, blt_int, blt_intb, blt_max2, blt_min2, blt_sum, blt_all, blt_any, blt_max1, blt_min1, blt_tupt, blt_tupo, blt_tupr, blt_lstt, blt_lsto, blt_lstr, blt_sorted, ix_tup, ix_rol, ix_ref, sl_tup, sl_rol, sl_ref, mth_ref, lstOk_ref, seqS_tup, seqS_rol, seqS_ref, intS_int, int2S_int, refOk_non, refOk_bl, refOk_int, refOk_str, refOk_tup, refOk_rol, isi_]))
local macro_rules | `(tactic| walk_at "un") => `(tactic| (try simp only [cprW, cprL, wS, wE, wEs, wEo, wT, wTg, wTgs, wIt, tgsLen, endF, List.set_cons_zero, List.set_cons_succ, List.getElem?_cons_zero, List.getElem?_cons_succ, List.length_cons, List.length_nil, Nat.reduceAdd, Nat.reduceLeDiff, Nat.reduceLT, seqOf_tup, seqOf_rol, true_and, and_true, decide_eq_true_eq, Bool.not_eq_true', Bool.not_true, Bool.not_false, decide_eq_false_iff_not, ite_not, ixN_z, ixN_pos, ixN_neg, Int.reduceLE, Int.reduceLT, Int.reduceNeg, Int.reduceAdd, Int.reduceToNat, Int.cast_ofNat_Int, ↓reduceIte, Option.bind_some, pv3, Bool.false_eq_true, Bool.true_eq_false, eq_self, isnS, Bool.not_eq_eq_eq_not, zipOk, zipL, List.zip_cons_cons, List.zip_nil_right, List.zip_nil_left, List.map_cons, List.map_nil, wipe, okOf, List.nil_append, List.cons_append, augS, hdS, hdsS, rdL_same, isTy, List.any_cons, List.any_nil, Bool.or_false, Bool.or_true, Bool.true_or, List.eraseIdx_cons_zero, decide_true, decide_false, Int.reduceEq, Option.some.injEq, bop_addi, bop_adds, bop_addt, bop_addl, bop_sub, bop_mul, bop_mull, bop_mult, bop_fdiv, bop_mod, bop_pow, neg_int, tru_non, tru_bl, tru_int, tru_str, tru_tup, tru_rol, tru_ref, eq_int, eq_bl, eq_str, eq_non, cop_eq, cop_ne, cop_in, cop_ni, cop_is, cop_isn, cop_lt, cop_le, cop_gt, cop_ge, blt_lens, blt_lent, blt_leno, blt_lenr, blt_abs, blt_int, blt_intb, blt_max2, blt_min2, blt_sum, blt_all, blt_any, blt_max1, blt_min1, blt_tupt, blt_tupo, blt_tupr, blt_lstt, blt_lsto, blt_lstr, blt_sorted, ix_tup, ix_rol, ix_ref, sl_tup, sl_rol, sl_ref, mth_ref, lstOk_ref, seqS_tup, seqS_rol, seqS_ref, intS_int, int2S_int, refOk_non, refOk_bl, refOk_int, refOk_str, refOk_tup, refOk_rol, isi_]))
local macro_rules | `(tactic| walk_at "in") => `(tactic| (simp only [Fd.fn, startP, List.map_cons, List.map_nil, List.length_cons, List.length_nil, List.replicate, List.append_nil, Nat.sub_self, List.cons_append, List.nil_append, Nat.reduceSub, Nat.reduceAdd]))
local macro_rules | `(tactic| walk_at "nx") => `(tactic| (rw [ss_nil_eq]; (try dsimp only)))
section
variable {h : PH} {Q : QK} {X : XK} {k : Nat}
def okB (p : Nat) (l : List (Nat × Nat)) (g : Nat) : Bool := (l.map Prod.fst).all (fun t => decide (g ^ ((p - 1) / t) % p ≠ 1)) && decide (g % p ≠ 0)
theorem sp_least_maker (p g0 : Nat) (p2 : 2 ≤ p) (pm : p ≤ 10000000000) (g1 : 1 ≤ g0) (hg : ∀ l, Nt.FacL 0 (p - 1) l → okB p l g0 = true) (q : ∀ (g : Nat) l, 1 ≤ g → Nt.FacL 0 (p - 1) l → okB p l g = true → (∀ j, 1 ≤ j → j < g → okB p l j = false) → ∀ h', Ext h h' → Q (.int g) h') : L (k + 6) I_least_maker [.int p] h Q X := by
  refine Lv_call d_least_maker.fn rfl rfl ?_
  simp only [d_least_maker, b_least_maker]
  walk_at "in"
  walk_at "st"
  rw [show ((p : Int) - 1) = ((p - 1 : Nat) : Int) by omega]
  refine sp_primes_of (p - 1) (by omega) (by omega) fun l hl h1 e1 => ?_
  walk_at "st"
  refine ss_whl ?_
  have gl := hg l hl
  refine whl_inv (α := Nat × PH) (st := fun x => [some (.int p), some (.tup (l.map fun x => .int (x.1 : Int))), some (.int x.1), none]) (hp := fun x => x.2) (I := fun x => 1 ≤ x.1 ∧ x.1 ≤ g0 ∧ (∀ j, 1 ≤ j → j < x.1 → okB p l j = false) ∧ Ext h x.2) (μ := fun x => g0 - x.1) (1, h1) ⟨Nat.le_refl _, g1, fun j a b => by simp only at b; omega, e1⟩ ?_
  rintro N ⟨g, h2⟩ ⟨ga, gb, gc, e2⟩ hN
  simp only at ga gb gc e2 ⊢
  walk_at "ev"
  refine cpr_gen (fun x : Nat × Nat => PV.int (x.1 : Int)) (fun h' => h' = h2) (fun _ => true) (fun x => .bl (decide (g ^ ((p - 1) / x.1) % p = 1))) ?_ rfl (fun _ _ => rfl) ?_ ?_
  · have := hl.short (by omega); omega
  · intro x hx h' eh R S r s
    have xp := (hl.gt x.1 (List.mem_map_of_mem hx)).2.1
    have xl := Nat.le_of_dvd (by omega) ((hl.dvd x.1 (hl.gt x.1 (List.mem_map_of_mem hx)).2).2 (List.mem_map_of_mem hx))
    walk_at "ev"
    refine ⟨cdiv_s (by omega) (by omega), ?_⟩
    rw [show ((p : Int) - 1) = ((p - 1 : Nat) : Int) by omega, ← Int.natCast_ediv]
    refine sp_power _ _ _ (Int.natCast_nonneg _) (by omega) (by omega) ?_
    walk_at "ev"
    rw [Int.toNat_natCast, natpow_emod]
    have := r rfl h' eh
    rw [decide_eq_decide.2 (show (((g ^ ((p - 1) / x.1) % p : Nat) : Int) = 1 ↔ g ^ ((p - 1) / x.1) % p = 1) by omega)]
    exact this
  intro h3 eh3
  rw [eh3, filter_true _ (fun _ => rfl)]
  intro b fb
  walk_at "ev"
  simp only [blsOf_bl]
  have ea : (l.map fun x => decide (g ^ ((p - 1) / x.1) % p = 1)).any id = !((l.map Prod.fst).all (fun t => decide (g ^ ((p - 1) / t) % p ≠ 1))) := by
    rw [List.any_map, List.all_map, Bool.eq_iff_iff, Bool.not_eq_true', List.any_eq_true, ← Bool.not_eq_true, List.all_eq_true]
    simp
  rw [ea]
  have e3 := e2.trans (Ext.new (o := .lst (l.map fun x => PV.bl (decide (g ^ ((p - 1) / x.1) % p = 1)))) fb)
  generalize pupd h2 b (.lst (l.map fun x => PV.bl (decide (g ^ ((p - 1) / x.1) % p = 1)))) = h4 at e3 ⊢
  have e0 := emod0 g p
  have step : okB p l g = false → g < g0 := fun c => by
    by_cases z : g = g0
    · rw [z, gl] at c; cases c
    · omega
  have fin : okB p l g = false → N [some (.int p), some (.tup (l.map fun x => .int (x.1 : Int))), some (.int (g + 1 : Nat)), none] h4 := fun c => hN (g + 1, h4) ⟨by simp only; omega, by have := step c; simp only; omega, fun j a b => by
      by_cases z : j = g
      · exact z ▸ c
      · exact gc j a (by simp only at b; omega), e3⟩ (by have := step c; simp only; omega)
  by_cases ha : (l.map Prod.fst).all (fun t => decide (g ^ ((p - 1) / t) % p ≠ 1)) = true
  · rw [ha]
    walk_at "ev"
    refine ⟨by omega, ?_⟩
    split
    · rename_i d
      have : okB p l g = false := by
        unfold okB
        rw [ha, Bool.true_and, decide_eq_false_iff_not]
        intro z
        exact z (Nat.mod_eq_zero_of_dvd (e0.1 d))
      walk_at "st"
      walk_at "nx"
      exact fin this
    · rename_i d
      walk_at "st"
      refine q g l ga hl ?_ gc h4 e3
      unfold okB
      rw [ha, Bool.true_and, decide_eq_true_eq]
      intro z
      exact d (e0.2 (Nat.dvd_of_mod_eq_zero z))
  · have ha' : (l.map Prod.fst).all (fun t => decide (g ^ ((p - 1) / t) % p ≠ 1)) = false := by simpa using ha
    rw [ha']
    have : okB p l g = false := by unfold okB; rw [ha', Bool.false_and]
    walk_at "st"
    walk_at "nx"
    exact fin this
end
end Co.G
namespace Co.G
open PySem Co
local macro_rules | `(tactic| walk_at "st") => `(tactic| ((try simp only [↓wE_cpr, wS, wE, wEs, wEo, wT, wTg, wTgs, wIt, tgsLen, endF, List.set_cons_zero, List.set_cons_succ, List.getElem?_cons_zero, List.getElem?_cons_succ, List.length_cons, List.length_nil, Nat.reduceAdd, Nat.reduceLeDiff, Nat.reduceLT, seqOf_tup, seqOf_rol, true_and, and_true, decide_eq_true_eq, Bool.not_eq_true', Bool.not_true, Bool.not_false, decide_eq_false_iff_not, ite_not, ixN_z, ixN_pos, ixN_neg, Int.reduceLE, Int.reduceLT, Int.reduceNeg, Int.reduceAdd, Int.reduceToNat, Int.cast_ofNat_Int, ↓reduceIte, Option.bind_some, pv3, Bool.false_eq_true, Bool.true_eq_false, eq_self, isnS, Bool.not_eq_eq_eq_not, zipOk, zipL, List.zip_cons_cons, List.zip_nil_right, List.zip_nil_left, List.map_cons, List.map_nil, wipe, okOf, List.nil_append, List.cons_append, augS, hdS, hdsS, rdL_same, isTy, List.any_cons, List.any_nil, Bool.or_false, Bool.or_true, Bool.true_or, List.eraseIdx_cons_zero, decide_true, decide_false, Int.reduceEq, Option.some.injEq, bop_addi, bop_adds, bop_addt, bop_addl, bop_sub, bop_mul, bop_mull, bop_mult, bop_fdiv, bop_mod, bop_pow, neg_int, tru_non, tru_bl, tru_int, tru_str, tru_tup, tru_rol, tru_ref, eq_int, eq_bl, eq_str, eq_non, cop_eq, cop_ne, cop_in, cop_ni, cop_is, cop_isn, cop_lt, cop_le, cop_gt, cop_ge, blt_lens, blt_lent, blt_leno, blt_lenr, blt_abs, blt_int, blt_intb, blt_max2, blt_min2, blt_sum, blt_all, blt_any, blt_max1, blt_min1, blt_tupt, blt_tupo, blt_tupr, blt_lstt, blt_lsto, blt_lstr, blt_sorted, ix_tup, ix_rol, ix_ref, sl_tup, sl_rol, sl_ref, mth_ref, lstOk_ref, seqS_tup, seqS_rol, seqS_ref, intS_int, int2S_int, refOk_non, refOk_bl, refOk_int, refOk_str, refOk_tup, refOk_rol, isi_]); (repeat (rw [ss_nil_eq]; (try dsimp only))); rw [ss_cons_eq]; simp only [↓wE_cpr, wS, wE, wEs, wEo, wT, wTg, wTgs, wIt, tgsLen, endF, List.set_cons_zero, List.set_cons_succ, List.getElem?_cons_zero, List.getElem?_cons_succ, List.length_cons, List.length_nil, Nat.reduceAdd, Nat.reduceLeDiff, Nat.reduceLT, seqOf_tup, seqOf_rol, true_and, and_true, decide_eq_true_eq, Bool.not_eq_true', Bool.not_true, Bool.not_false, decide_eq_false_iff_not, ite_not, ixN_z, ixN_pos, ixN_neg, Int.reduceLE, Int.reduceLT, Int.reduceNeg, Int.reduceAdd, Int.reduceToNat, Int.cast_ofNat_Int, ↓reduceIte, Option.bind_some, pv3, Bool.false_eq_true, Bool.true_eq_false, eq_self, isnS, Bool.not_eq_eq_eq_not, zipOk, zipL, List.zip_cons_cons, List.zip_nil_right, List.zip_nil_left, List.map_cons, List.map_nil, wipe, okOf, List.nil_append, List.cons_append, augS, hdS, hdsS, rdL_same, isTy, List.any_cons, List.any_nil, Bool.or_false, Bool.or_true, Bool.true_or, List.eraseIdx_cons_zero, decide_true, decide_false, Int.reduceEq, Option.some.injEq, bop_addi, bop_adds, bop_addt, bop_addl, bop_sub, bop_mul, bop_mull, bop_mult, bop_fdiv, bop_mod, bop_pow, neg_int, tru_non, tru_bl, tru_int, tru_str, tru_tup, tru_rol, tru_ref, eq_int, eq_bl, eq_str, eq_non, cop_eq, cop_ne, cop_in, cop_ni, cop_is, cop_isn, cop_lt, cop_le, cop_gt, cop_ge, blt_lens, blt_lent, blt_leno, blt_lenr, blt_abs, blt_int, blt_intb, blt_max2, blt_min2, blt_sum, blt_all, blt_any, blt_max1, blt_min1, blt_tupt, blt_tupo, blt_tupr, blt_lstt, blt_lsto, blt_lstr, blt_sorted, ix_tup, ix_rol, ix_ref, sl_tup, sl_rol, sl_ref, mth_ref, lstOk_ref, seqS_tup, seqS_rol, seqS_ref, intS_int, int2S_int, refOk_non, refOk_bl, refOk_int, refOk_str, refOk_tup, refOk_rol, isi_]))
local macro_rules | `(tactic| walk_at "ev") => `(tactic| (try simp only [↓wE_cpr, wS, wE, wEs, wEo, wT, wTg, wTgs, wIt, tgsLen, endF, List.set_cons_zero, List.set_cons_succ, List.getElem?_cons_zero, List.getElem?_cons_succ, List.length_cons, List.length_nil, Nat.reduceAdd, Nat.reduceLeDiff, Nat.reduceLT, seqOf_tup, seqOf_rol, true_and, and_true, decide_eq_true_eq, Bool.not_eq_true', Bool.not_true, Bool.not_false, decide_eq_false_iff_not, ite_not, ixN_z, ixN_pos, ixN_neg, Int.reduceLE, Int.reduceLT, Int.reduceNeg, Int.reduceAdd, Int.reduceToNat, Int.cast_ofNat_Int, ↓reduceIte, Option.bind_some, pv3, Bool.false_eq_true, Bool.true_eq_false, eq_self, isnS, Bool.not_eq_eq_eq_not, zipOk, zipL, List.zip_cons_cons, List.zip_nil_right, List.zip_nil_left, List.map_cons, List.map_nil, wipe, okOf, List.nil_append, List.cons_append, augS, hdS, hdsS, rdL_same, isTy, List.any_cons, List.any_nil, Bool.or_false, Bool.or_true, Bool.true_or, List.eraseIdx_cons_zero, decide_true, decide_false, Int.reduceEq, Option.some.injEq, bop_addi, bop_adds, bop_addt, bop_addl, bop_sub, bop_mul, bop_mull, bop_mult, bop_fdiv, bop_mod, bop_pow, neg_int, tru_non, tru_bl, tru_int, tru_str, tru_tup, tru_rol, tru_ref, eq_int, eq_bl, eq_str, eq_non, cop_eq, cop_ne, cop_in, cop_ni, cop_is, cop_isn, cop_lt, cop_le, cop_gt, cop_ge, blt_lens, blt_lent, blt_leno, blt_lenr, blt_abs, blt_int, blt_intb, blt_max2, blt_min2, blt_sum, blt_all, blt_any, blt_max1, blt_min1, blt_tupt, blt_tupo, blt_tupr, blt_lstt, blt_lsto, blt_lstr, blt_sorted, ix_tup, ix_rol, ix_ref, sl_tup, sl_rol, sl_ref, mth_ref, lstOk_ref, seqS_tup, seqS_rol, seqS_ref, intS_int, int2S_int, refOk_non, refOk_bl, refOk_int, refOk_str, refOk_tup, refOk_rol, isi_]))
local macro_rules | `(tactic| walk_at "un") => `(tactic| (try simp only [cprW, cprL, wS, wE, wEs, wEo, wT, wTg, wTgs, wIt, tgsLen, endF, List.set_cons_zero, List.set_cons_succ, List.getElem?_cons_zero, List.getElem?_cons_succ, List.length_cons, List.length_nil, Nat.reduceAdd, Nat.reduceLeDiff, Nat.reduceLT, seqOf_tup, seqOf_rol, true_and, and_true, decide_eq_true_eq, Bool.not_eq_true', Bool.not_true, Bool.not_false, decide_eq_false_iff_not, ite_not, ixN_z, ixN_pos, ixN_neg, Int.reduceLE, Int.reduceLT, Int.reduceNeg, Int.reduceAdd, Int.reduceToNat, Int.cast_ofNat_Int, ↓reduceIte, Option.bind_some, pv3, Bool.false_eq_true, Bool.true_eq_false, eq_self, isnS, Bool.not_eq_eq_eq_not, zipOk, zipL, List.zip_cons_cons, List.zip_nil_right, List.zip_nil_left, List.map_cons, List.map_nil, wipe, okOf, List.nil_append, List.cons_append, augS, hdS, hdsS, rdL_same, isTy, List.any_cons, List.any_nil, Bool.or_false, Bool.or_true, Bool.true_or, List.eraseIdx_cons_zero, decide_true, decide_false, Int.reduceEq, Option.some.injEq, bop_addi, bop_adds, bop_addt, bop_addl, bop_sub, bop_mul, bop_mull, bop_mult, bop_fdiv, bop_mod, bop_pow, neg_int, tru_non, tru_bl, tru_int, tru_str, tru_tup, tru_rol, tru_ref, eq_int, eq_bl, eq_str, eq_non, cop_eq, cop_ne, cop_in, cop_ni, cop_is, cop_isn, cop_lt, cop_le, cop_gt, cop_ge, blt_lens, blt_lent, blt_leno, blt_lenr, blt_abs, blt_int, blt_intb, blt_max2, blt_min2, blt_sum, blt_all, blt_any, blt_max1, blt_min1, blt_tupt, blt_tupo, blt_tupr, blt_lstt, blt_lsto, blt_lstr, blt_sorted, ix_tup, ix_rol, ix_ref, sl_tup, sl_rol, sl_ref, mth_ref, lstOk_ref, seqS_tup, seqS_rol, seqS_ref, intS_int, int2S_int, refOk_non, refOk_bl, refOk_int, refOk_str, refOk_tup, refOk_rol, isi_]))
local macro_rules | `(tactic| walk_at "in") => `(tactic| (simp only [Fd.fn, startP, List.map_cons, List.map_nil, List.length_cons, List.length_nil, List.replicate, List.append_nil, Nat.sub_self, List.cons_append, List.nil_append, Nat.reduceSub, Nat.reduceAdd]))
local macro_rules | `(tactic| walk_at "nx") => `(tactic| (rw [ss_nil_eq]; (try dsimp only)))
section
variable {h : PH} {Q : QK} {X : XK} {k : Nat}
theorem rgL_rg1 (n : Nat) : rgL 1 ((n : Int) + 1) = (Nt.rg1 n).map fun d : Nat => .int (d : Int) := by
  simp only [rgL, Nt.rg1, List.map_map]
  have : ((n : Int) + 1 - 1).toNat = n := by omega
  rw [this]
  congr 1
  funext i
  simp only [Function.comp]
  congr 1
  omega
theorem rg1_len (n : Nat) : (Nt.rg1 n).length = n := by simp [Nt.rg1]
theorem filter_cnt (p : Nat → Bool) (n : Nat) : ((Nt.rg1 n).filter p).length = Nt.cnt p n := by
  rw [← List.countP_eq_length_filter, Nt.rg1, List.countP_map]
  rfl
theorem toD_map {α : Type} {h : PH} {n : Nat} (f : α → PV) (g : α → PyData) (hf : ∀ x, toD h n (f x) = some (g x)) : ∀ l : List α, (l.map f).mapM (toD h n) = some (l.map g)
  | [] => rfl
  | x :: l => by rw [List.map_cons, List.mapM_cons, hf x, toD_map f g hf l]; rfl
theorem eqvAll_dec {α : Type} [DecidableEq α] (g : α → PyData) (hg : ∀ x y, PyData.eqv (g x) (g y) = decide (x = y)) : ∀ l m : List α, PyData.eqvAll (l.map g) (m.map g) = decide (l = m)
  | [], [] => (by simp [PyData.eqvAll])
  | [], _ :: _ => (by simp [PyData.eqvAll])
  | _ :: _, [] => (by simp [PyData.eqvAll])
  | x :: l, y :: m => by simp only [List.map_cons, PyData.eqvAll, hg, eqvAll_dec g hg l m, List.cons.injEq, Bool.decide_and]
def dPE (x : Nat × Nat) : PyData := .tuple [.int x.1, .int x.2]
theorem eqv_dPE (x y : Nat × Nat) : PyData.eqv (dPE x) (dPE y) = decide (x = y) := by
  obtain ⟨a, b⟩ := x
  obtain ⟨c, d⟩ := y
  simp only [dPE, PyData.eqv, PyData.eqvAll, Bool.and_true, Prod.mk.injEq, Bool.decide_and]
  rw [Bool.eq_iff_iff]
  simp only [Bool.and_eq_true, beq_iff_eq, decide_eq_true_eq]
  omega
theorem eqS_facs {h : PH} {a b : Nat} {l m : List (Nat × Nat)} {Q : Bool → Prop} (ha : h a = some (.lst (l.map pvPE))) (hb : h b = some (.lst (m.map pvPE))) (q : Q (decide (l = m))) : eqS (.ref a) (.ref b) h Q := by
  have key : ∀ x, toD h 7 (pvPE x) = some (dPE x) := fun x => rfl
  refine ⟨.list (l.map dPE), .list (m.map dPE), by simp only [toD, rdL_of ha, toD_map _ _ key, Option.map_some], by simp only [toD, rdL_of hb, toD_map _ _ key, Option.map_some], ?_⟩
  rw [PyData.eqv, eqvAll_dec _ eqv_dPE]
  exact q
theorem FacL.prime_iff {n : Nat} {l : List (Nat × Nat)} (h : Nt.FacL 0 n l) : Nt.Pr n ↔ l = [(n, 1)] := by
  constructor
  · intro hp
    exact h.uniq (l' := [(n, 1)]) (lo' := 0) ⟨by have := hp.1; omega, hp, Nat.le_refl _, 1, by simp, rfl⟩
  · rintro rfl
    exact h.2.1
theorem FacL.head {n : Nat} {p e : Nat} {r : List (Nat × Nat)} (h : Nt.FacL 0 n ((p, e) :: r)) : Nt.Lf n p := by
  refine ⟨h.2.1.1, (h.dvd p h.2.1).2 (by simp), fun d d2 hd => ?_⟩
  obtain ⟨x, hx⟩ := Nt.Lf.ex d d2
  have xn := (h.dvd x hx.pr).1 (Nat.dvd_trans hx.2.1 hd)
  have xd := Nat.le_of_dvd (by omega) hx.2.1
  rcases List.mem_cons.1 xn with c | c
  · simp only at c; omega
  · obtain ⟨_, _, _, m, _, hr⟩ := h
    have := (hr.gt x c).1
    omega
end
end Co.G
namespace Co.G
open PySem Co
local macro_rules | `(tactic| walk_at "st") => `(tactic| ((try simp only [↓wE_cpr, wS, wE, wEs, wEo, wT, wTg, wTgs, wIt, tgsLen, endF, List.set_cons_zero, List.set_cons_succ, List.getElem?_cons_zero, List.getElem?_cons_succ, List.length_cons, List.length_nil, Nat.reduceAdd, Nat.reduceLeDiff, Nat.reduceLT, seqOf_tup, seqOf_rol, true_and, and_true, decide_eq_true_eq, Bool.not_eq_true', Bool.not_true, Bool.not_false, decide_eq_false_iff_not, ite_not, ixN_z, ixN_pos, ixN_neg, Int.reduceLE, Int.reduceLT, Int.reduceNeg, Int.reduceAdd, Int.reduceToNat, Int.cast_ofNat_Int, ↓reduceIte, Option.bind_some, pv3, Bool.false_eq_true, Bool.true_eq_false, eq_self, isnS, Bool.not_eq_eq_eq_not, zipOk, zipL, List.zip_cons_cons, List.zip_nil_right, List.zip_nil_left, List.map_cons, List.map_nil, wipe, okOf, List.nil_append, List.cons_append, augS, hdS, hdsS, rdL_same, isTy, List.any_cons, List.any_nil, Bool.or_false, Bool.or_true, Bool.true_or, List.eraseIdx_cons_zero, decide_true, decide_false, Int.reduceEq, Option.some.injEq, bop_addi, bop_adds, bop_addt, bop_addl, bop_sub, bop_mul, bop_mull, bop_mult, bop_fdiv, bop_mod, bop_pow, neg_int, tru_non, tru_bl, tru_int, tru_str, tru_tup, tru_rol, tru_ref, eq_int, eq_bl, eq_str, eq_non, cop_eq, cop_ne, cop_in, cop_ni, cop_is, cop_isn, cop_lt, cop_le, cop_gt, cop_ge, blt_lens, blt_lent, blt_leno, blt_lenr, blt_abs, blt_int, blt_intb, blt_max2, blt_min2, blt_sum, blt_all, blt_any, blt_max1, blt_min1, blt_tupt, blt_tupo, blt_tupr, blt_lstt, blt_lsto, blt_lstr, blt_sorted, ix_tup, ix_rol, ix_ref, sl_tup, sl_rol, sl_ref, mth_ref, lstOk_ref, seqS_tup, seqS_rol, seqS_ref, intS_int, int2S_int, refOk_non, refOk_bl, refOk_int, refOk_str, refOk_tup, refOk_rol, isi_]); (repeat (rw [ss_nil_eq]; (try dsimp only))); rw [ss_cons_eq]; simp only [↓wE_cpr, wS, wE, wEs, wEo, wT, wTg, wTgs, wIt, tgsLen, endF, List.set_cons_zero, List.set_cons_succ, List.getElem?_cons_zero, List.getElem?_cons_succ, List.length_cons, List.length_nil, Nat.reduceAdd, Nat.reduceLeDiff, Nat.reduceLT, seqOf_tup, seqOf_rol, true_and, and_true, decide_eq_true_eq, Bool.not_eq_true', Bool.not_true, Bool.not_false, decide_eq_false_iff_not, ite_not, ixN_z, ixN_pos, ixN_neg, Int.reduceLE, Int.reduceLT, Int.reduceNeg, Int.reduceAdd, Int.reduceToNat, Int.cast_ofNat_Int, ↓reduceIte, Option.bind_some, pv3, Bool.false_eq_true, Bool.true_eq_false, eq_self, isnS, Bool.not_eq_eq_eq_not, zipOk, zipL, List.zip_cons_cons, List.zip_nil_right, List.zip_nil_left, List.map_cons, List.map_nil, wipe, okOf, List.nil_append, List.cons_append, augS, hdS, hdsS, rdL_same, isTy, List.any_cons, List.any_nil, Bool.or_false, Bool.or_true, Bool.true_or, List.eraseIdx_cons_zero, decide_true, decide_false, Int.reduceEq, Option.some.injEq, bop_addi, bop_adds, bop_addt, bop_addl, bop_sub, bop_mul, bop_mull, bop_mult, bop_fdiv, bop_mod, bop_pow, neg_int, tru_non, tru_bl, tru_int, tru_str, tru_tup, tru_rol, tru_ref, eq_int, eq_bl, eq_str, eq_non, cop_eq, cop_ne, cop_in, cop_ni, cop_is, cop_isn, cop_lt, cop_le, cop_gt, cop_ge, blt_lens, blt_lent, blt_leno, blt_lenr, blt_abs, blt_int, blt_intb, blt_max2, blt_min2, blt_sum, blt_all, blt_any, blt_max1, blt_min1, blt_tupt, blt_tupo, blt_tupr, blt_lstt, blt_lsto, blt_lstr, blt_sorted, ix_tup, ix_rol, ix_ref, sl_tup, sl_rol, sl_ref, mth_ref, lstOk_ref, seqS_tup, seqS_rol, seqS_ref, intS_int, int2S_int, refOk_non, refOk_bl, refOk_int, refOk_str, refOk_tup, refOk_rol, isi_]))
local macro_rules | `(tactic| walk_at "ev") => `(tactic| (try simp only [↓wE_cpr, wS, wE, wEs, wEo, wT, wTg, wTgs, wIt, tgsLen, endF, List.set_cons_zero, List.set_cons_succ, List.getElem?_cons_zero, List.getElem?_cons_succ, List.length_cons, List.length_nil, Nat.reduceAdd, Nat.reduceLeDiff, Nat.reduceLT, seqOf_tup, seqOf_rol, true_and, and_true, decide_eq_true_eq, Bool.not_eq_true', Bool.not_true, Bool.not_false, decide_eq_false_iff_not, ite_not, ixN_z, ixN_pos, ixN_neg, Int.reduceLE, Int.reduceLT, Int.reduceNeg, Int.reduceAdd, Int.reduceToNat, Int.cast_ofNat_Int, ↓reduceIte, Option.bind_some, pv3, Bool.false_eq_true, Bool.true_eq_false, eq_self, isnS, Bool.not_eq_eq_eq_not, zipOk, zipL, List.zip_cons_cons, List.zip_nil_right, List.zip_nil_left, List.map_cons, List.map_nil, wipe, okOf, List.nil_append, List.cons_append, augS, hdS, hdsS, rdL_same, isTy, List.any_cons, List.any_nil, Bool.or_false, Bool.or_true, Bool.true_or, List.eraseIdx_cons_zero, decide_true, decide_false, Int.reduceEq, Option.some.injEq, bop_addi, bop_adds, bop_addt, bop_addl, bop_sub, bop_mul, bop_mull, bop_mult, bop_fdiv, bop_mod, bop_pow, neg_int, tru_non, tru_bl, tru_int, tru_str, tru_tup, tru_rol, tru_ref, eq_int, eq_bl, eq_str, eq_non, cop_eq, cop_ne, cop_in, cop_ni, cop_is, cop_isn, cop_lt, cop_le, cop_gt, cop_ge, blt_lens, blt_lent, blt_leno, blt_lenr, blt_abs, blt_int, blt_intb, blt_max2, blt_min2, blt_sum, blt_all, blt_any, blt_max1, blt_min1, blt_tupt, blt_tupo, blt_tupr, blt_lstt, blt_lsto, blt_lstr, blt_sorted, ix_tup, ix_rol, ix_ref, sl_tup, sl_rol, sl_ref, mth_ref, lstOk_ref, seqS_tup, seqS_rol, seqS_ref, intS_int, int2S_int, refOk_non, refOk_bl, refOk_int, refOk_str, refOk_tup, refOk_rol, isi_]))
local macro_rules | `(tactic| walk_at "un") => `(tactic| (try simp only [cprW, cprL, wS, wE, wEs, wEo, wT, wTg, wTgs, wIt, tgsLen, endF, List.set_cons_zero, List.set_cons_succ, List.getElem?_cons_zero, List.getElem?_cons_succ, List.length_cons, List.length_nil, Nat.reduceAdd, Nat.reduceLeDiff, Nat.reduceLT, seqOf_tup, seqOf_rol, true_and, and_true, decide_eq_true_eq, Bool.not_eq_true', Bool.not_true, Bool.not_false, decide_eq_false_iff_not, ite_not, ixN_z, ixN_pos, ixN_neg, Int.reduceLE, Int.reduceLT, Int.reduceNeg, Int.reduceAdd, Int.reduceToNat, Int.cast_ofNat_Int, ↓reduceIte, Option.bind_some, pv3, Bool.false_eq_true, Bool.true_eq_false, eq_self, isnS, Bool.not_eq_eq_eq_not, zipOk, zipL, List.zip_cons_cons, List.zip_nil_right, List.zip_nil_left, List.map_cons, List.map_nil, wipe, okOf, List.nil_append, List.cons_append, augS, hdS, hdsS, rdL_same, isTy, List.any_cons, List.any_nil, Bool.or_false, Bool.or_true, Bool.true_or, List.eraseIdx_cons_zero, decide_true, decide_false, Int.reduceEq, Option.some.injEq, bop_addi, bop_adds, bop_addt, bop_addl, bop_sub, bop_mul, bop_mull, bop_mult, bop_fdiv, bop_mod, bop_pow, neg_int, tru_non, tru_bl, tru_int, tru_str, tru_tup, tru_rol, tru_ref, eq_int, eq_bl, eq_str, eq_non, cop_eq, cop_ne, cop_in, cop_ni, cop_is, cop_isn, cop_lt, cop_le, cop_gt, cop_ge, blt_lens, blt_lent, blt_leno, blt_lenr, blt_abs, blt_int, blt_intb, blt_max2, blt_min2, blt_sum, blt_all, blt_any, blt_max1, blt_min1, blt_tupt, blt_tupo, blt_tupr, blt_lstt, blt_lsto, blt_lstr, blt_sorted, ix_tup, ix_rol, ix_ref, sl_tup, sl_rol, sl_ref, mth_ref, lstOk_ref, seqS_tup, seqS_rol, seqS_ref, intS_int, int2S_int, refOk_non, refOk_bl, refOk_int, refOk_str, refOk_tup, refOk_rol, isi_]))
local macro_rules | `(tactic| walk_at "in") => `(tactic| (simp only [Fd.fn, startP, List.map_cons, List.map_nil, List.length_cons, List.length_nil, List.replicate, List.append_nil, Nat.sub_self, List.cons_append, List.nil_append, Nat.reduceSub, Nat.reduceAdd]))
local macro_rules | `(tactic| walk_at "nx") => `(tactic| (rw [ss_nil_eq]; (try dsimp only)))
section
variable {h : PH} {Q : QK} {X : XK} {k : Nat}
theorem sp_refused_in (v : PV) (w : Str) (hw : w = "number" ∨ w = "size") (p : ∀ Q' X', (w = "number" → X' (.own X_BadNumber) h) → (w = "size" → X' (.own X_BadSize) h) → L (k + 4) I_factors [v] h Q' X') (q : Q (.str w) h) : L (k + 5) I__law_refused [v] h Q X := by
  refine Lv_call d__law_refused.fn rfl rfl ?_
  simp only [d__law_refused, b__law_refused]
  walk_at "in"
  walk_at "st"
  walk_at "st"
  refine p _ _ (fun e => ?_) (fun e => ?_)
  · subst e; exact q
  · subst e; exact q
/-- both lists of a factoring are the same data -/
theorem sm_facs {h : PH} {l : List (Nat × Nat)} (hl : l.length ≤ 16777216) : Sm h 2 (.tup (l.map pvPE)) (.tup (l.map pvPE)) := by
  refine ⟨by rwa [List.length_map], ?_⟩
  clear hl
  induction l with
  | nil => trivial
  | cons x l ih => exact ⟨⟨by simp, by simp [SmL, Sm]⟩, ih⟩
theorem sm_ints {h : PH} {l : List PV} (hl : l.length ≤ 16777216) (hf : ∀ x ∈ l, ∃ i, x = .int i) : Sm h 1 (.tup l) (.tup l) := by
  refine ⟨hl, ?_⟩
  clear hl
  induction l with
  | nil => trivial
  | cons x l ih =>
    obtain ⟨i, rfl⟩ := hf x (by simp)
    exact ⟨by simp [Sm], ih fun y hy => hf y (by simp [hy])⟩
abbrev b_law3 : Ss := (.cons (.asg (.nm 4) (.call 17 (.cons (.v 2) .nil)))
  (.cons (.ife (.or (.not (.e (.call 15 (.cons (.call 5 (.cons (.v 2) .nil)) (.cons (.blt .tuple (.cons (.v 4) .nil)) .nil))))) (.not (.e (.call 15 (.cons (.call 6 (.cons (.v 2) .nil)) (.cons (.blt .tuple (.cons (.cpr (.seq (.v 4)) (.tp (.cons (.nm 8) (.cons (.nm 14) .nil))) .yes (.v 8) [8, 14]) .nil)) .nil)))))) (.cons (.ret (.k (.bl false)))
  .nil) .nil)
  (.cons (.ife (.not (.e (.call 15 (.cons (.call 7 (.cons (.v 2) .nil)) (.cons (.blt .tuple (.cons (.cpr (.rng2 (.k (.int 1)) (.bin .add (.v 2) (.k (.int 1)))) (.nm 15) (.e (.cmp .eq (.bin .mod (.v 2) (.v 15)) (.k (.int 0)))) (.v 15) [15]) .nil)) .nil))))) (.cons (.ret (.k (.bl false)))
  .nil) .nil)
  (.cons (.ife (.not (.e (.call 15 (.cons (.call 8 (.cons (.v 2) .nil)) (.cons (.blt .len (.cons (.cpr (.rng2 (.k (.int 1)) (.bin .add (.v 2) (.k (.int 1)))) (.nm 15) (.e (.cmp .eq (.call 16 (.cons (.v 15) (.cons (.v 2) .nil))) (.k (.int 1)))) (.v 15) [15]) .nil)) .nil))))) (.cons (.ret (.k (.bl false)))
  .nil) .nil)
  (.cons (.ife (.or (.not (.e (.call 15 (.cons (.call 4 (.cons (.v 2) .nil)) (.cons (.cmp .eq (.v 4) (.lst (.cons (.tup (.cons (.v 2) (.cons (.k (.int 1)) .nil))) .nil))) .nil))))) (.and (.e (.cmp .gt (.v 2) (.k (.int 1)))) (.not (.e (.call 15 (.cons (.call 3 (.cons (.v 2) .nil)) (.cons (.ix (.ix (.v 4) (.k (.int 0))) (.k (.int 0))) .nil))))))) (.cons (.ret (.k (.bl false)))
  .nil) .nil)
  (.cons (.ife (.not (.e (.call 15 (.cons (.call 11 (.cons (.v 2) .nil)) (.cons (.ite (.or (.e (.cmp .eq (.v 2) (.k (.int 1)))) (.e (.cmp .eq (.v 4) (.lst (.cons (.tup (.cons (.v 2) (.cons (.k (.int 1)) .nil))) .nil))))) (.k .non) (.tup (.cons (.ix (.ix (.v 4) (.k (.int 0))) (.k (.int 0))) (.cons (.bin .fdiv (.v 2) (.ix (.ix (.v 4) (.k (.int 0))) (.k (.int 0)))) .nil)))) .nil))))) (.cons (.ret (.k (.bl false)))
  .nil) .nil)
  (.cons (.asg (.nm 5) (.cpr (.seq (.v 4)) (.tp (.cons (.nm 8) (.cons (.nm 14) .nil))) .yes (.v 8) [8, 14]))
  (.cons (.asg (.nm 6) (.ite (.e (.cmp .eq (.call 13 (.cons (.v 1) (.cons (.k (.int 2)) .nil))) (.k (.int 0)))) (.sl (.v 5) .none (.some (.neg (.k (.int 1))))) (.bin .add (.v 5) (.lst (.cons (.call 14 (.cons (.v 1) (.cons (.lst (.cons (.k (.int 2)) (.cons (.k (.int 3)) (.cons (.k (.int 17)) (.cons (.k (.int 1)) (.cons (.v 2) .nil)))))) .nil))) .nil)))))
  (.cons (.asg (.nm 7) (.v 2))
  (.cons (.for (.seq (.v 6)) (.nm 8) (.cons (.whl (.and (.e (.cmp .gt (.v 8) (.k (.int 1)))) (.e (.cmp .eq (.bin .mod (.v 7) (.v 8)) (.k (.int 0))))) (.cons (.asg (.nm 7) (.bin .fdiv (.v 7) (.v 8)))
  .nil))
  .nil))
  (.cons (.asg (.nm 9) (.and (.cmp .eq (.v 7) (.k (.int 1))) (.blt .all (.cons (.cpr (.seq (.v 6)) (.nm 8) .yes (.and (.cmp .gt (.v 8) (.k (.int 1))) (.cmp .eq (.bin .mod (.v 2) (.v 8)) (.k (.int 0)))) [8]) .nil))))
  (.cons (.ife (.or (.not (.e (.call 15 (.cons (.call 9 (.cons (.v 2) (.cons (.blt .tuple (.cons (.v 5) .nil)) .nil))) (.cons (.k (.bl true)) .nil))))) (.not (.e (.call 15 (.cons (.call 9 (.cons (.v 2) (.cons (.blt .tuple (.cons (.v 6) .nil)) .nil))) (.cons (.v 9) .nil)))))) (.cons (.ret (.k (.bl false)))
  .nil) .nil)
  (.cons (.asg (.nm 8) (.call 14 (.cons (.v 1) (.cons (.lst (.cons (.k (.int 2)) (.cons (.k (.int 3)) (.cons (.k (.int 5)) (.cons (.k (.int 7)) (.cons (.k (.int 23)) (.cons (.k (.int 41)) (.cons (.k (.int 71)) (.cons (.k (.int 101)) (.cons (.k (.int 191)) (.cons (.k (.int 313)) .nil))))))))))) .nil))))
  (.cons (.asg (.nm 10) (.cpr (.rng2 (.k (.int 1)) (.bin .add (.v 8) (.k (.int 1)))) (.nm 16) (.and (.e (.cmp .ne (.bin .mod (.v 16) (.v 8)) (.k (.int 0)))) (.e (.cmp .eq (.call 18 (.cons (.v 16) (.cons (.v 8) (.cons (.k (.bl false)) .nil)))) (.bin .sub (.v 8) (.k (.int 1)))))) (.v 16) [16]))
  (.cons (.ife (.not (.e (.call 15 (.cons (.call 10 (.cons (.v 8) .nil)) (.cons (.ix (.v 10) (.k (.int 0))) .nil))))) (.cons (.ret (.k (.bl false)))
  .nil) .nil)
  (.cons (.asg (.tp (.cons (.nm 11) (.cons (.nm 12) .nil))) (.tup (.cons (.call 14 (.cons (.v 1) (.cons (.lst (.cons (.k (.int 99991)) (.cons (.k (.int 90001)) (.cons (.k (.int 65537)) .nil)))) .nil))) (.cons (.call 14 (.cons (.v 1) (.cons (.lst (.cons (.k (.int 99989)) (.cons (.k (.int 99971)) (.cons (.k (.int 99961)) .nil)))) .nil))) .nil))))
  (.cons (.ife (.or (.not (.e (.call 15 (.cons (.call 5 (.cons (.bin .mul (.v 11) (.v 12)) .nil)) (.cons (.tup (.cons (.tup (.cons (.blt .min2 (.cons (.v 11) (.cons (.v 12) .nil))) (.cons (.k (.int 1)) .nil))) (.cons (.tup (.cons (.blt .max2 (.cons (.v 11) (.cons (.v 12) .nil))) (.cons (.k (.int 1)) .nil))) .nil))) .nil))))) (.not (.e (.call 15 (.cons (.call 4 (.cons (.bin .mul (.v 11) (.v 12)) .nil)) (.cons (.k (.bl false)) .nil)))))) (.cons (.ret (.k (.bl false)))
  .nil) .nil)
  (.cons (.asg (.nm 13) (.lst (.cons (.call 19 (.cons (.k (.int 0)) .nil)) (.cons (.call 19 (.cons (.neg (.k (.int 3))) .nil)) (.cons (.call 19 (.cons (.k (.bl true)) .nil)) (.cons (.call 19 (.cons (.k .non) .nil)) (.cons (.call 19 (.cons (.bin .add (.bin .pow (.k (.int 10)) (.k (.int 10))) (.k (.int 1))) .nil)) .nil)))))))
  (.cons (.ret (.and (.call 15 (.cons (.v 13) (.cons (.bin .add (.bin .mul (.lst (.cons (.k (.str "number")) .nil)) (.k (.int 4))) (.lst (.cons (.k (.str "size")) .nil))) .nil))) (.call 15 (.cons (.lst (.cons (.call 4 (.cons (.k (.int 1)) .nil)) (.cons (.call 4 (.cons (.k .non) .nil)) (.cons (.call 5 (.cons (.k (.int 1)) .nil)) (.cons (.call 7 (.cons (.k (.int 1)) .nil)) .nil))))) (.cons (.lst (.cons (.k (.bl false)) (.cons (.k (.bl false)) (.cons (.tup .nil) (.cons (.tup (.cons (.k (.int 1)) .nil)) .nil))))) .nil)))))
  .nil)))))))))))))))))))
abbrev b_law8 : Ss := (.cons (.ife (.not (.e (.call 15 (.cons (.call 11 (.cons (.v 2) .nil)) (.cons (.ite (.or (.e (.cmp .eq (.v 2) (.k (.int 1)))) (.e (.cmp .eq (.v 4) (.lst (.cons (.tup (.cons (.v 2) (.cons (.k (.int 1)) .nil))) .nil))))) (.k .non) (.tup (.cons (.ix (.ix (.v 4) (.k (.int 0))) (.k (.int 0))) (.cons (.bin .fdiv (.v 2) (.ix (.ix (.v 4) (.k (.int 0))) (.k (.int 0)))) .nil)))) .nil))))) (.cons (.ret (.k (.bl false)))
  .nil) .nil)
  (.cons (.asg (.nm 5) (.cpr (.seq (.v 4)) (.tp (.cons (.nm 8) (.cons (.nm 14) .nil))) .yes (.v 8) [8, 14]))
  (.cons (.asg (.nm 6) (.ite (.e (.cmp .eq (.call 13 (.cons (.v 1) (.cons (.k (.int 2)) .nil))) (.k (.int 0)))) (.sl (.v 5) .none (.some (.neg (.k (.int 1))))) (.bin .add (.v 5) (.lst (.cons (.call 14 (.cons (.v 1) (.cons (.lst (.cons (.k (.int 2)) (.cons (.k (.int 3)) (.cons (.k (.int 17)) (.cons (.k (.int 1)) (.cons (.v 2) .nil)))))) .nil))) .nil)))))
  (.cons (.asg (.nm 7) (.v 2))
  (.cons (.for (.seq (.v 6)) (.nm 8) (.cons (.whl (.and (.e (.cmp .gt (.v 8) (.k (.int 1)))) (.e (.cmp .eq (.bin .mod (.v 7) (.v 8)) (.k (.int 0))))) (.cons (.asg (.nm 7) (.bin .fdiv (.v 7) (.v 8)))
  .nil))
  .nil))
  (.cons (.asg (.nm 9) (.and (.cmp .eq (.v 7) (.k (.int 1))) (.blt .all (.cons (.cpr (.seq (.v 6)) (.nm 8) .yes (.and (.cmp .gt (.v 8) (.k (.int 1))) (.cmp .eq (.bin .mod (.v 2) (.v 8)) (.k (.int 0)))) [8]) .nil))))
  (.cons (.ife (.or (.not (.e (.call 15 (.cons (.call 9 (.cons (.v 2) (.cons (.blt .tuple (.cons (.v 5) .nil)) .nil))) (.cons (.k (.bl true)) .nil))))) (.not (.e (.call 15 (.cons (.call 9 (.cons (.v 2) (.cons (.blt .tuple (.cons (.v 6) .nil)) .nil))) (.cons (.v 9) .nil)))))) (.cons (.ret (.k (.bl false)))
  .nil) .nil)
  (.cons (.asg (.nm 8) (.call 14 (.cons (.v 1) (.cons (.lst (.cons (.k (.int 2)) (.cons (.k (.int 3)) (.cons (.k (.int 5)) (.cons (.k (.int 7)) (.cons (.k (.int 23)) (.cons (.k (.int 41)) (.cons (.k (.int 71)) (.cons (.k (.int 101)) (.cons (.k (.int 191)) (.cons (.k (.int 313)) .nil))))))))))) .nil))))
  (.cons (.asg (.nm 10) (.cpr (.rng2 (.k (.int 1)) (.bin .add (.v 8) (.k (.int 1)))) (.nm 16) (.and (.e (.cmp .ne (.bin .mod (.v 16) (.v 8)) (.k (.int 0)))) (.e (.cmp .eq (.call 18 (.cons (.v 16) (.cons (.v 8) (.cons (.k (.bl false)) .nil)))) (.bin .sub (.v 8) (.k (.int 1)))))) (.v 16) [16]))
  (.cons (.ife (.not (.e (.call 15 (.cons (.call 10 (.cons (.v 8) .nil)) (.cons (.ix (.v 10) (.k (.int 0))) .nil))))) (.cons (.ret (.k (.bl false)))
  .nil) .nil)
  (.cons (.asg (.tp (.cons (.nm 11) (.cons (.nm 12) .nil))) (.tup (.cons (.call 14 (.cons (.v 1) (.cons (.lst (.cons (.k (.int 99991)) (.cons (.k (.int 90001)) (.cons (.k (.int 65537)) .nil)))) .nil))) (.cons (.call 14 (.cons (.v 1) (.cons (.lst (.cons (.k (.int 99989)) (.cons (.k (.int 99971)) (.cons (.k (.int 99961)) .nil)))) .nil))) .nil))))
  (.cons (.ife (.or (.not (.e (.call 15 (.cons (.call 5 (.cons (.bin .mul (.v 11) (.v 12)) .nil)) (.cons (.tup (.cons (.tup (.cons (.blt .min2 (.cons (.v 11) (.cons (.v 12) .nil))) (.cons (.k (.int 1)) .nil))) (.cons (.tup (.cons (.blt .max2 (.cons (.v 11) (.cons (.v 12) .nil))) (.cons (.k (.int 1)) .nil))) .nil))) .nil))))) (.not (.e (.call 15 (.cons (.call 4 (.cons (.bin .mul (.v 11) (.v 12)) .nil)) (.cons (.k (.bl false)) .nil)))))) (.cons (.ret (.k (.bl false)))
  .nil) .nil)
  (.cons (.asg (.nm 13) (.lst (.cons (.call 19 (.cons (.k (.int 0)) .nil)) (.cons (.call 19 (.cons (.neg (.k (.int 3))) .nil)) (.cons (.call 19 (.cons (.k (.bl true)) .nil)) (.cons (.call 19 (.cons (.k .non) .nil)) (.cons (.call 19 (.cons (.bin .add (.bin .pow (.k (.int 10)) (.k (.int 10))) (.k (.int 1))) .nil)) .nil)))))))
  (.cons (.ret (.and (.call 15 (.cons (.v 13) (.cons (.bin .add (.bin .mul (.lst (.cons (.k (.str "number")) .nil)) (.k (.int 4))) (.lst (.cons (.k (.str "size")) .nil))) .nil))) (.call 15 (.cons (.lst (.cons (.call 4 (.cons (.k (.int 1)) .nil)) (.cons (.call 4 (.cons (.k .non) .nil)) (.cons (.call 5 (.cons (.k (.int 1)) .nil)) (.cons (.call 7 (.cons (.k (.int 1)) .nil)) .nil))))) (.cons (.lst (.cons (.k (.bl false)) (.cons (.k (.bl false)) (.cons (.tup .nil) (.cons (.tup (.cons (.k (.int 1)) .nil)) .nil))))) .nil)))))
  .nil))))))))))))))
abbrev b_law9 : Ss := (.cons (.asg (.nm 5) (.cpr (.seq (.v 4)) (.tp (.cons (.nm 8) (.cons (.nm 14) .nil))) .yes (.v 8) [8, 14]))
  (.cons (.asg (.nm 6) (.ite (.e (.cmp .eq (.call 13 (.cons (.v 1) (.cons (.k (.int 2)) .nil))) (.k (.int 0)))) (.sl (.v 5) .none (.some (.neg (.k (.int 1))))) (.bin .add (.v 5) (.lst (.cons (.call 14 (.cons (.v 1) (.cons (.lst (.cons (.k (.int 2)) (.cons (.k (.int 3)) (.cons (.k (.int 17)) (.cons (.k (.int 1)) (.cons (.v 2) .nil)))))) .nil))) .nil)))))
  (.cons (.asg (.nm 7) (.v 2))
  (.cons (.for (.seq (.v 6)) (.nm 8) (.cons (.whl (.and (.e (.cmp .gt (.v 8) (.k (.int 1)))) (.e (.cmp .eq (.bin .mod (.v 7) (.v 8)) (.k (.int 0))))) (.cons (.asg (.nm 7) (.bin .fdiv (.v 7) (.v 8)))
  .nil))
  .nil))
  (.cons (.asg (.nm 9) (.and (.cmp .eq (.v 7) (.k (.int 1))) (.blt .all (.cons (.cpr (.seq (.v 6)) (.nm 8) .yes (.and (.cmp .gt (.v 8) (.k (.int 1))) (.cmp .eq (.bin .mod (.v 2) (.v 8)) (.k (.int 0)))) [8]) .nil))))
  (.cons (.ife (.or (.not (.e (.call 15 (.cons (.call 9 (.cons (.v 2) (.cons (.blt .tuple (.cons (.v 5) .nil)) .nil))) (.cons (.k (.bl true)) .nil))))) (.not (.e (.call 15 (.cons (.call 9 (.cons (.v 2) (.cons (.blt .tuple (.cons (.v 6) .nil)) .nil))) (.cons (.v 9) .nil)))))) (.cons (.ret (.k (.bl false)))
  .nil) .nil)
  (.cons (.asg (.nm 8) (.call 14 (.cons (.v 1) (.cons (.lst (.cons (.k (.int 2)) (.cons (.k (.int 3)) (.cons (.k (.int 5)) (.cons (.k (.int 7)) (.cons (.k (.int 23)) (.cons (.k (.int 41)) (.cons (.k (.int 71)) (.cons (.k (.int 101)) (.cons (.k (.int 191)) (.cons (.k (.int 313)) .nil))))))))))) .nil))))
  (.cons (.asg (.nm 10) (.cpr (.rng2 (.k (.int 1)) (.bin .add (.v 8) (.k (.int 1)))) (.nm 16) (.and (.e (.cmp .ne (.bin .mod (.v 16) (.v 8)) (.k (.int 0)))) (.e (.cmp .eq (.call 18 (.cons (.v 16) (.cons (.v 8) (.cons (.k (.bl false)) .nil)))) (.bin .sub (.v 8) (.k (.int 1)))))) (.v 16) [16]))
  (.cons (.ife (.not (.e (.call 15 (.cons (.call 10 (.cons (.v 8) .nil)) (.cons (.ix (.v 10) (.k (.int 0))) .nil))))) (.cons (.ret (.k (.bl false)))
  .nil) .nil)
  (.cons (.asg (.tp (.cons (.nm 11) (.cons (.nm 12) .nil))) (.tup (.cons (.call 14 (.cons (.v 1) (.cons (.lst (.cons (.k (.int 99991)) (.cons (.k (.int 90001)) (.cons (.k (.int 65537)) .nil)))) .nil))) (.cons (.call 14 (.cons (.v 1) (.cons (.lst (.cons (.k (.int 99989)) (.cons (.k (.int 99971)) (.cons (.k (.int 99961)) .nil)))) .nil))) .nil))))
  (.cons (.ife (.or (.not (.e (.call 15 (.cons (.call 5 (.cons (.bin .mul (.v 11) (.v 12)) .nil)) (.cons (.tup (.cons (.tup (.cons (.blt .min2 (.cons (.v 11) (.cons (.v 12) .nil))) (.cons (.k (.int 1)) .nil))) (.cons (.tup (.cons (.blt .max2 (.cons (.v 11) (.cons (.v 12) .nil))) (.cons (.k (.int 1)) .nil))) .nil))) .nil))))) (.not (.e (.call 15 (.cons (.call 4 (.cons (.bin .mul (.v 11) (.v 12)) .nil)) (.cons (.k (.bl false)) .nil)))))) (.cons (.ret (.k (.bl false)))
  .nil) .nil)
  (.cons (.asg (.nm 13) (.lst (.cons (.call 19 (.cons (.k (.int 0)) .nil)) (.cons (.call 19 (.cons (.neg (.k (.int 3))) .nil)) (.cons (.call 19 (.cons (.k (.bl true)) .nil)) (.cons (.call 19 (.cons (.k .non) .nil)) (.cons (.call 19 (.cons (.bin .add (.bin .pow (.k (.int 10)) (.k (.int 10))) (.k (.int 1))) .nil)) .nil)))))))
  (.cons (.ret (.and (.call 15 (.cons (.v 13) (.cons (.bin .add (.bin .mul (.lst (.cons (.k (.str "number")) .nil)) (.k (.int 4))) (.lst (.cons (.k (.str "size")) .nil))) .nil))) (.call 15 (.cons (.lst (.cons (.call 4 (.cons (.k (.int 1)) .nil)) (.cons (.call 4 (.cons (.k .non) .nil)) (.cons (.call 5 (.cons (.k (.int 1)) .nil)) (.cons (.call 7 (.cons (.k (.int 1)) .nil)) .nil))))) (.cons (.lst (.cons (.k (.bl false)) (.cons (.k (.bl false)) (.cons (.tup .nil) (.cons (.tup (.cons (.k (.int 1)) .nil)) .nil))))) .nil)))))
  .nil)))))))))))))
abbrev b_law11 : Ss := (.cons (.asg (.nm 7) (.v 2))
  (.cons (.for (.seq (.v 6)) (.nm 8) (.cons (.whl (.and (.e (.cmp .gt (.v 8) (.k (.int 1)))) (.e (.cmp .eq (.bin .mod (.v 7) (.v 8)) (.k (.int 0))))) (.cons (.asg (.nm 7) (.bin .fdiv (.v 7) (.v 8)))
  .nil))
  .nil))
  (.cons (.asg (.nm 9) (.and (.cmp .eq (.v 7) (.k (.int 1))) (.blt .all (.cons (.cpr (.seq (.v 6)) (.nm 8) .yes (.and (.cmp .gt (.v 8) (.k (.int 1))) (.cmp .eq (.bin .mod (.v 2) (.v 8)) (.k (.int 0)))) [8]) .nil))))
  (.cons (.ife (.or (.not (.e (.call 15 (.cons (.call 9 (.cons (.v 2) (.cons (.blt .tuple (.cons (.v 5) .nil)) .nil))) (.cons (.k (.bl true)) .nil))))) (.not (.e (.call 15 (.cons (.call 9 (.cons (.v 2) (.cons (.blt .tuple (.cons (.v 6) .nil)) .nil))) (.cons (.v 9) .nil)))))) (.cons (.ret (.k (.bl false)))
  .nil) .nil)
  (.cons (.asg (.nm 8) (.call 14 (.cons (.v 1) (.cons (.lst (.cons (.k (.int 2)) (.cons (.k (.int 3)) (.cons (.k (.int 5)) (.cons (.k (.int 7)) (.cons (.k (.int 23)) (.cons (.k (.int 41)) (.cons (.k (.int 71)) (.cons (.k (.int 101)) (.cons (.k (.int 191)) (.cons (.k (.int 313)) .nil))))))))))) .nil))))
  (.cons (.asg (.nm 10) (.cpr (.rng2 (.k (.int 1)) (.bin .add (.v 8) (.k (.int 1)))) (.nm 16) (.and (.e (.cmp .ne (.bin .mod (.v 16) (.v 8)) (.k (.int 0)))) (.e (.cmp .eq (.call 18 (.cons (.v 16) (.cons (.v 8) (.cons (.k (.bl false)) .nil)))) (.bin .sub (.v 8) (.k (.int 1)))))) (.v 16) [16]))
  (.cons (.ife (.not (.e (.call 15 (.cons (.call 10 (.cons (.v 8) .nil)) (.cons (.ix (.v 10) (.k (.int 0))) .nil))))) (.cons (.ret (.k (.bl false)))
  .nil) .nil)
  (.cons (.asg (.tp (.cons (.nm 11) (.cons (.nm 12) .nil))) (.tup (.cons (.call 14 (.cons (.v 1) (.cons (.lst (.cons (.k (.int 99991)) (.cons (.k (.int 90001)) (.cons (.k (.int 65537)) .nil)))) .nil))) (.cons (.call 14 (.cons (.v 1) (.cons (.lst (.cons (.k (.int 99989)) (.cons (.k (.int 99971)) (.cons (.k (.int 99961)) .nil)))) .nil))) .nil))))
  (.cons (.ife (.or (.not (.e (.call 15 (.cons (.call 5 (.cons (.bin .mul (.v 11) (.v 12)) .nil)) (.cons (.tup (.cons (.tup (.cons (.blt .min2 (.cons (.v 11) (.cons (.v 12) .nil))) (.cons (.k (.int 1)) .nil))) (.cons (.tup (.cons (.blt .max2 (.cons (.v 11) (.cons (.v 12) .nil))) (.cons (.k (.int 1)) .nil))) .nil))) .nil))))) (.not (.e (.call 15 (.cons (.call 4 (.cons (.bin .mul (.v 11) (.v 12)) .nil)) (.cons (.k (.bl false)) .nil)))))) (.cons (.ret (.k (.bl false)))
  .nil) .nil)
  (.cons (.asg (.nm 13) (.lst (.cons (.call 19 (.cons (.k (.int 0)) .nil)) (.cons (.call 19 (.cons (.neg (.k (.int 3))) .nil)) (.cons (.call 19 (.cons (.k (.bl true)) .nil)) (.cons (.call 19 (.cons (.k .non) .nil)) (.cons (.call 19 (.cons (.bin .add (.bin .pow (.k (.int 10)) (.k (.int 10))) (.k (.int 1))) .nil)) .nil)))))))
  (.cons (.ret (.and (.call 15 (.cons (.v 13) (.cons (.bin .add (.bin .mul (.lst (.cons (.k (.str "number")) .nil)) (.k (.int 4))) (.lst (.cons (.k (.str "size")) .nil))) .nil))) (.call 15 (.cons (.lst (.cons (.call 4 (.cons (.k (.int 1)) .nil)) (.cons (.call 4 (.cons (.k .non) .nil)) (.cons (.call 5 (.cons (.k (.int 1)) .nil)) (.cons (.call 7 (.cons (.k (.int 1)) .nil)) .nil))))) (.cons (.lst (.cons (.k (.bl false)) (.cons (.k (.bl false)) (.cons (.tup .nil) (.cons (.tup (.cons (.k (.int 1)) .nil)) .nil))))) .nil)))))
  .nil)))))))))))
abbrev b_law13 : Ss := (.cons (.asg (.nm 9) (.and (.cmp .eq (.v 7) (.k (.int 1))) (.blt .all (.cons (.cpr (.seq (.v 6)) (.nm 8) .yes (.and (.cmp .gt (.v 8) (.k (.int 1))) (.cmp .eq (.bin .mod (.v 2) (.v 8)) (.k (.int 0)))) [8]) .nil))))
  (.cons (.ife (.or (.not (.e (.call 15 (.cons (.call 9 (.cons (.v 2) (.cons (.blt .tuple (.cons (.v 5) .nil)) .nil))) (.cons (.k (.bl true)) .nil))))) (.not (.e (.call 15 (.cons (.call 9 (.cons (.v 2) (.cons (.blt .tuple (.cons (.v 6) .nil)) .nil))) (.cons (.v 9) .nil)))))) (.cons (.ret (.k (.bl false)))
  .nil) .nil)
  (.cons (.asg (.nm 8) (.call 14 (.cons (.v 1) (.cons (.lst (.cons (.k (.int 2)) (.cons (.k (.int 3)) (.cons (.k (.int 5)) (.cons (.k (.int 7)) (.cons (.k (.int 23)) (.cons (.k (.int 41)) (.cons (.k (.int 71)) (.cons (.k (.int 101)) (.cons (.k (.int 191)) (.cons (.k (.int 313)) .nil))))))))))) .nil))))
  (.cons (.asg (.nm 10) (.cpr (.rng2 (.k (.int 1)) (.bin .add (.v 8) (.k (.int 1)))) (.nm 16) (.and (.e (.cmp .ne (.bin .mod (.v 16) (.v 8)) (.k (.int 0)))) (.e (.cmp .eq (.call 18 (.cons (.v 16) (.cons (.v 8) (.cons (.k (.bl false)) .nil)))) (.bin .sub (.v 8) (.k (.int 1)))))) (.v 16) [16]))
  (.cons (.ife (.not (.e (.call 15 (.cons (.call 10 (.cons (.v 8) .nil)) (.cons (.ix (.v 10) (.k (.int 0))) .nil))))) (.cons (.ret (.k (.bl false)))
  .nil) .nil)
  (.cons (.asg (.tp (.cons (.nm 11) (.cons (.nm 12) .nil))) (.tup (.cons (.call 14 (.cons (.v 1) (.cons (.lst (.cons (.k (.int 99991)) (.cons (.k (.int 90001)) (.cons (.k (.int 65537)) .nil)))) .nil))) (.cons (.call 14 (.cons (.v 1) (.cons (.lst (.cons (.k (.int 99989)) (.cons (.k (.int 99971)) (.cons (.k (.int 99961)) .nil)))) .nil))) .nil))))
  (.cons (.ife (.or (.not (.e (.call 15 (.cons (.call 5 (.cons (.bin .mul (.v 11) (.v 12)) .nil)) (.cons (.tup (.cons (.tup (.cons (.blt .min2 (.cons (.v 11) (.cons (.v 12) .nil))) (.cons (.k (.int 1)) .nil))) (.cons (.tup (.cons (.blt .max2 (.cons (.v 11) (.cons (.v 12) .nil))) (.cons (.k (.int 1)) .nil))) .nil))) .nil))))) (.not (.e (.call 15 (.cons (.call 4 (.cons (.bin .mul (.v 11) (.v 12)) .nil)) (.cons (.k (.bl false)) .nil)))))) (.cons (.ret (.k (.bl false)))
  .nil) .nil)
  (.cons (.asg (.nm 13) (.lst (.cons (.call 19 (.cons (.k (.int 0)) .nil)) (.cons (.call 19 (.cons (.neg (.k (.int 3))) .nil)) (.cons (.call 19 (.cons (.k (.bl true)) .nil)) (.cons (.call 19 (.cons (.k .non) .nil)) (.cons (.call 19 (.cons (.bin .add (.bin .pow (.k (.int 10)) (.k (.int 10))) (.k (.int 1))) .nil)) .nil)))))))
  (.cons (.ret (.and (.call 15 (.cons (.v 13) (.cons (.bin .add (.bin .mul (.lst (.cons (.k (.str "number")) .nil)) (.k (.int 4))) (.lst (.cons (.k (.str "size")) .nil))) .nil))) (.call 15 (.cons (.lst (.cons (.call 4 (.cons (.k (.int 1)) .nil)) (.cons (.call 4 (.cons (.k .non) .nil)) (.cons (.call 5 (.cons (.k (.int 1)) .nil)) (.cons (.call 7 (.cons (.k (.int 1)) .nil)) .nil))))) (.cons (.lst (.cons (.k (.bl false)) (.cons (.k (.bl false)) (.cons (.tup .nil) (.cons (.tup (.cons (.k (.int 1)) .nil)) .nil))))) .nil)))))
  .nil)))))))))
abbrev b_law14 : Ss := (.cons (.ife (.or (.not (.e (.call 15 (.cons (.call 9 (.cons (.v 2) (.cons (.blt .tuple (.cons (.v 5) .nil)) .nil))) (.cons (.k (.bl true)) .nil))))) (.not (.e (.call 15 (.cons (.call 9 (.cons (.v 2) (.cons (.blt .tuple (.cons (.v 6) .nil)) .nil))) (.cons (.v 9) .nil)))))) (.cons (.ret (.k (.bl false)))
  .nil) .nil)
  (.cons (.asg (.nm 8) (.call 14 (.cons (.v 1) (.cons (.lst (.cons (.k (.int 2)) (.cons (.k (.int 3)) (.cons (.k (.int 5)) (.cons (.k (.int 7)) (.cons (.k (.int 23)) (.cons (.k (.int 41)) (.cons (.k (.int 71)) (.cons (.k (.int 101)) (.cons (.k (.int 191)) (.cons (.k (.int 313)) .nil))))))))))) .nil))))
  (.cons (.asg (.nm 10) (.cpr (.rng2 (.k (.int 1)) (.bin .add (.v 8) (.k (.int 1)))) (.nm 16) (.and (.e (.cmp .ne (.bin .mod (.v 16) (.v 8)) (.k (.int 0)))) (.e (.cmp .eq (.call 18 (.cons (.v 16) (.cons (.v 8) (.cons (.k (.bl false)) .nil)))) (.bin .sub (.v 8) (.k (.int 1)))))) (.v 16) [16]))
  (.cons (.ife (.not (.e (.call 15 (.cons (.call 10 (.cons (.v 8) .nil)) (.cons (.ix (.v 10) (.k (.int 0))) .nil))))) (.cons (.ret (.k (.bl false)))
  .nil) .nil)
  (.cons (.asg (.tp (.cons (.nm 11) (.cons (.nm 12) .nil))) (.tup (.cons (.call 14 (.cons (.v 1) (.cons (.lst (.cons (.k (.int 99991)) (.cons (.k (.int 90001)) (.cons (.k (.int 65537)) .nil)))) .nil))) (.cons (.call 14 (.cons (.v 1) (.cons (.lst (.cons (.k (.int 99989)) (.cons (.k (.int 99971)) (.cons (.k (.int 99961)) .nil)))) .nil))) .nil))))
  (.cons (.ife (.or (.not (.e (.call 15 (.cons (.call 5 (.cons (.bin .mul (.v 11) (.v 12)) .nil)) (.cons (.tup (.cons (.tup (.cons (.blt .min2 (.cons (.v 11) (.cons (.v 12) .nil))) (.cons (.k (.int 1)) .nil))) (.cons (.tup (.cons (.blt .max2 (.cons (.v 11) (.cons (.v 12) .nil))) (.cons (.k (.int 1)) .nil))) .nil))) .nil))))) (.not (.e (.call 15 (.cons (.call 4 (.cons (.bin .mul (.v 11) (.v 12)) .nil)) (.cons (.k (.bl false)) .nil)))))) (.cons (.ret (.k (.bl false)))
  .nil) .nil)
  (.cons (.asg (.nm 13) (.lst (.cons (.call 19 (.cons (.k (.int 0)) .nil)) (.cons (.call 19 (.cons (.neg (.k (.int 3))) .nil)) (.cons (.call 19 (.cons (.k (.bl true)) .nil)) (.cons (.call 19 (.cons (.k .non) .nil)) (.cons (.call 19 (.cons (.bin .add (.bin .pow (.k (.int 10)) (.k (.int 10))) (.k (.int 1))) .nil)) .nil)))))))
  (.cons (.ret (.and (.call 15 (.cons (.v 13) (.cons (.bin .add (.bin .mul (.lst (.cons (.k (.str "number")) .nil)) (.k (.int 4))) (.lst (.cons (.k (.str "size")) .nil))) .nil))) (.call 15 (.cons (.lst (.cons (.call 4 (.cons (.k (.int 1)) .nil)) (.cons (.call 4 (.cons (.k .non) .nil)) (.cons (.call 5 (.cons (.k (.int 1)) .nil)) (.cons (.call 7 (.cons (.k (.int 1)) .nil)) .nil))))) (.cons (.lst (.cons (.k (.bl false)) (.cons (.k (.bl false)) (.cons (.tup .nil) (.cons (.tup (.cons (.k (.int 1)) .nil)) .nil))))) .nil)))))
  .nil))))))))
abbrev b_law15 : Ss := (.cons (.asg (.nm 8) (.call 14 (.cons (.v 1) (.cons (.lst (.cons (.k (.int 2)) (.cons (.k (.int 3)) (.cons (.k (.int 5)) (.cons (.k (.int 7)) (.cons (.k (.int 23)) (.cons (.k (.int 41)) (.cons (.k (.int 71)) (.cons (.k (.int 101)) (.cons (.k (.int 191)) (.cons (.k (.int 313)) .nil))))))))))) .nil))))
  (.cons (.asg (.nm 10) (.cpr (.rng2 (.k (.int 1)) (.bin .add (.v 8) (.k (.int 1)))) (.nm 16) (.and (.e (.cmp .ne (.bin .mod (.v 16) (.v 8)) (.k (.int 0)))) (.e (.cmp .eq (.call 18 (.cons (.v 16) (.cons (.v 8) (.cons (.k (.bl false)) .nil)))) (.bin .sub (.v 8) (.k (.int 1)))))) (.v 16) [16]))
  (.cons (.ife (.not (.e (.call 15 (.cons (.call 10 (.cons (.v 8) .nil)) (.cons (.ix (.v 10) (.k (.int 0))) .nil))))) (.cons (.ret (.k (.bl false)))
  .nil) .nil)
  (.cons (.asg (.tp (.cons (.nm 11) (.cons (.nm 12) .nil))) (.tup (.cons (.call 14 (.cons (.v 1) (.cons (.lst (.cons (.k (.int 99991)) (.cons (.k (.int 90001)) (.cons (.k (.int 65537)) .nil)))) .nil))) (.cons (.call 14 (.cons (.v 1) (.cons (.lst (.cons (.k (.int 99989)) (.cons (.k (.int 99971)) (.cons (.k (.int 99961)) .nil)))) .nil))) .nil))))
  (.cons (.ife (.or (.not (.e (.call 15 (.cons (.call 5 (.cons (.bin .mul (.v 11) (.v 12)) .nil)) (.cons (.tup (.cons (.tup (.cons (.blt .min2 (.cons (.v 11) (.cons (.v 12) .nil))) (.cons (.k (.int 1)) .nil))) (.cons (.tup (.cons (.blt .max2 (.cons (.v 11) (.cons (.v 12) .nil))) (.cons (.k (.int 1)) .nil))) .nil))) .nil))))) (.not (.e (.call 15 (.cons (.call 4 (.cons (.bin .mul (.v 11) (.v 12)) .nil)) (.cons (.k (.bl false)) .nil)))))) (.cons (.ret (.k (.bl false)))
  .nil) .nil)
  (.cons (.asg (.nm 13) (.lst (.cons (.call 19 (.cons (.k (.int 0)) .nil)) (.cons (.call 19 (.cons (.neg (.k (.int 3))) .nil)) (.cons (.call 19 (.cons (.k (.bl true)) .nil)) (.cons (.call 19 (.cons (.k .non) .nil)) (.cons (.call 19 (.cons (.bin .add (.bin .pow (.k (.int 10)) (.k (.int 10))) (.k (.int 1))) .nil)) .nil)))))))
  (.cons (.ret (.and (.call 15 (.cons (.v 13) (.cons (.bin .add (.bin .mul (.lst (.cons (.k (.str "number")) .nil)) (.k (.int 4))) (.lst (.cons (.k (.str "size")) .nil))) .nil))) (.call 15 (.cons (.lst (.cons (.call 4 (.cons (.k (.int 1)) .nil)) (.cons (.call 4 (.cons (.k .non) .nil)) (.cons (.call 5 (.cons (.k (.int 1)) .nil)) (.cons (.call 7 (.cons (.k (.int 1)) .nil)) .nil))))) (.cons (.lst (.cons (.k (.bl false)) (.cons (.k (.bl false)) (.cons (.tup .nil) (.cons (.tup (.cons (.k (.int 1)) .nil)) .nil))))) .nil)))))
  .nil)))))))
abbrev b_law18 : Ss := (.cons (.asg (.tp (.cons (.nm 11) (.cons (.nm 12) .nil))) (.tup (.cons (.call 14 (.cons (.v 1) (.cons (.lst (.cons (.k (.int 99991)) (.cons (.k (.int 90001)) (.cons (.k (.int 65537)) .nil)))) .nil))) (.cons (.call 14 (.cons (.v 1) (.cons (.lst (.cons (.k (.int 99989)) (.cons (.k (.int 99971)) (.cons (.k (.int 99961)) .nil)))) .nil))) .nil))))
  (.cons (.ife (.or (.not (.e (.call 15 (.cons (.call 5 (.cons (.bin .mul (.v 11) (.v 12)) .nil)) (.cons (.tup (.cons (.tup (.cons (.blt .min2 (.cons (.v 11) (.cons (.v 12) .nil))) (.cons (.k (.int 1)) .nil))) (.cons (.tup (.cons (.blt .max2 (.cons (.v 11) (.cons (.v 12) .nil))) (.cons (.k (.int 1)) .nil))) .nil))) .nil))))) (.not (.e (.call 15 (.cons (.call 4 (.cons (.bin .mul (.v 11) (.v 12)) .nil)) (.cons (.k (.bl false)) .nil)))))) (.cons (.ret (.k (.bl false)))
  .nil) .nil)
  (.cons (.asg (.nm 13) (.lst (.cons (.call 19 (.cons (.k (.int 0)) .nil)) (.cons (.call 19 (.cons (.neg (.k (.int 3))) .nil)) (.cons (.call 19 (.cons (.k (.bl true)) .nil)) (.cons (.call 19 (.cons (.k .non) .nil)) (.cons (.call 19 (.cons (.bin .add (.bin .pow (.k (.int 10)) (.k (.int 10))) (.k (.int 1))) .nil)) .nil)))))))
  (.cons (.ret (.and (.call 15 (.cons (.v 13) (.cons (.bin .add (.bin .mul (.lst (.cons (.k (.str "number")) .nil)) (.k (.int 4))) (.lst (.cons (.k (.str "size")) .nil))) .nil))) (.call 15 (.cons (.lst (.cons (.call 4 (.cons (.k (.int 1)) .nil)) (.cons (.call 4 (.cons (.k .non) .nil)) (.cons (.call 5 (.cons (.k (.int 1)) .nil)) (.cons (.call 7 (.cons (.k (.int 1)) .nil)) .nil))))) (.cons (.lst (.cons (.k (.bl false)) (.cons (.k (.bl false)) (.cons (.tup .nil) (.cons (.tup (.cons (.k (.int 1)) .nil)) .nil))))) .nil)))))
  .nil))))
abbrev b_law20 : Ss := (.cons (.asg (.nm 13) (.lst (.cons (.call 19 (.cons (.k (.int 0)) .nil)) (.cons (.call 19 (.cons (.neg (.k (.int 3))) .nil)) (.cons (.call 19 (.cons (.k (.bl true)) .nil)) (.cons (.call 19 (.cons (.k .non) .nil)) (.cons (.call 19 (.cons (.bin .add (.bin .pow (.k (.int 10)) (.k (.int 10))) (.k (.int 1))) .nil)) .nil)))))))
  (.cons (.ret (.and (.call 15 (.cons (.v 13) (.cons (.bin .add (.bin .mul (.lst (.cons (.k (.str "number")) .nil)) (.k (.int 4))) (.lst (.cons (.k (.str "size")) .nil))) .nil))) (.call 15 (.cons (.lst (.cons (.call 4 (.cons (.k (.int 1)) .nil)) (.cons (.call 4 (.cons (.k .non) .nil)) (.cons (.call 5 (.cons (.k (.int 1)) .nil)) (.cons (.call 7 (.cons (.k (.int 1)) .nil)) .nil))))) (.cons (.lst (.cons (.k (.bl false)) (.cons (.k (.bl false)) (.cons (.tup .nil) (.cons (.tup (.cons (.k (.int 1)) .nil)) .nil))))) .nil)))))
  .nil))
theorem red_fac : ∀ {lo n : Nat} {l : List (Nat × Nat)}, Nt.FacL lo n l → RedL (l.map Prod.fst) n 1
  | _, _, [], h => h
  | _, _, (p, e) :: r, ⟨_, hp, _, m, hm, h⟩ => ⟨m, ⟨fun _ => ⟨⟨e, hm⟩, h.ndvd hp (Nat.le_refl _)⟩, fun c => by have := hp.1; omega⟩, red_fac h⟩
theorem cut_map {α β : Type} (f : α → β) (xs : List α) (lo hi : Option Int) : cut (xs.map f) lo hi = (cut xs lo hi).map f := by
  simp only [cut, List.length_map, List.map_take, List.map_drop]
theorem cut_mem {α : Type} {xs : List α} {lo hi : Option Int} {x : α} (h : x ∈ cut xs lo hi) : x ∈ xs := List.mem_of_mem_drop (List.mem_of_mem_take h)
theorem cut_len {α : Type} (xs : List α) (lo hi : Option Int) : (cut xs lo hi).length ≤ xs.length := by
  simp only [cut, List.length_take, List.length_drop]
  omega
def prB (p s : Nat) : Bool := decide (2 ≤ p) && decide (p < s * s) && (List.range s).all fun d => decide (d < 2) || decide (p % d ≠ 0)
theorem prB_lf {p s : Nat} (h : prB p s = true) : Nt.Pr p := by
  simp only [prB, Bool.and_eq_true, decide_eq_true_eq, List.all_eq_true, Bool.or_eq_true, List.mem_range] at h
  refine (Nt.Lf.root (s := s) h.1.1 (fun d d2 ds hd => ?_) h.1.2).pr
  rcases h.2 d ds with c | c
  · omega
  · exact c (Nat.mod_eq_zero_of_dvd hd)
def facB2 : Nat → Nat → List (Nat × Nat) → Bool
  | _, n, [] => decide (n = 1)
  | lo, n, (p, e) :: r => decide (lo < p) && (decide (p = 2) || prB p p) && decide (1 ≤ e) && decide (n = p ^ e * (n / p ^ e)) && facB2 p (n / p ^ e) r
theorem pr2 : Nt.Pr 2 := prB_lf (s := 2) (by decide)
theorem facB2_ok : ∀ (lo n : Nat) (l : List (Nat × Nat)), facB2 lo n l = true → Nt.FacL lo n l
  | _, n, [], h => by simp only [facB2, decide_eq_true_eq] at h; exact h
  | lo, n, (p, e) :: r, h => by
    simp only [facB2, Bool.and_eq_true, Bool.or_eq_true, decide_eq_true_eq] at h
    refine ⟨h.1.1.1.1, ?_, h.1.1.2, n / p ^ e, h.1.2, facB2_ok _ _ _ h.2⟩
    rcases h.1.1.1.2 with c | c
    · rw [c]; exact pr2
    · exact prB_lf c
def mkB (p g : Nat) : Bool := decide (g % p ≠ 0) && (List.range (p - 1)).all fun j => decide (j = 0) || decide (g ^ j % p ≠ 1 % p)
def tabB (x : Nat × List (Nat × Nat) × Nat) : Bool := facB2 0 (x.1 - 1) x.2.1 && okB x.1 x.2.1 x.2.2 && (Nt.rg1 (x.2.2 - 1)).all (fun j => !okB x.1 x.2.1 j) && mkB x.1 x.2.2 && (Nt.rg1 (x.2.2 - 1)).all (fun j => !mkB x.1 j) && (Nt.rg1 x.1).all (fun g => decide (g % x.1 = 0) || decide (g ^ (x.1 - 1) % x.1 = 1 % x.1)) && decide (1 ≤ x.2.2) && decide (x.2.2 ≤ x.1) && decide (2 ≤ x.1) && decide (x.1 ≤ 400)
def tab : List (Nat × List (Nat × Nat) × Nat) := [(2, [], 1), (3, [(2, 1)], 2), (5, [(2, 2)], 2), (7, [(2, 1), (3, 1)], 3), (23, [(2, 1), (11, 1)], 5), (41, [(2, 3), (5, 1)], 6), (71, [(2, 1), (5, 1), (7, 1)], 7), (101, [(2, 2), (5, 2)], 2), (191, [(2, 1), (5, 1), (19, 1)], 19), (313, [(2, 3), (3, 1), (13, 1)], 10)]
theorem tab_ok : tab.all tabB = true := by decide +kernel
theorem filter_head {f : Nat → Bool} {G : Nat} : ∀ {xs : List Nat}, xs.Pairwise (· < ·) → G ∈ xs → f G = true → (∀ j ∈ xs, j < G → f j = false) → ∃ r, xs.filter f = G :: r
  | [], _, h, _, _ => (by cases h)
  | x :: xs, hs, hm, hf, hn => by
    rw [List.pairwise_cons] at hs
    rcases List.mem_cons.1 hm with c | c
    · subst c
      exact ⟨xs.filter f, List.filter_cons_of_pos hf⟩
    · have lt := hs.1 G c
      rw [List.filter_cons_of_neg (by rw [hn x (by simp) lt]; exact Bool.false_ne_true)]
      exact filter_head hs.2 c hf fun j hj => hn j (by simp [hj])
theorem law20 (σ0 σ1 σ2 σ3 σ4 σ5 σ6 σ7 σ8 σ9 σ10 σ11 σ12 : Option PV) (h : PH) :
    wSs (subOf subT) (L 59) b_law20 (endF (fun v _ => v = .bl true) fun _ _ => False) [σ0, σ1, σ2, σ3, σ4, σ5, σ6, σ7, σ8, σ9, σ10, σ11, σ12, none, none, none, none] h := by
  have nb : ("number" : Str) ≠ "size" := by decide
  walk_at "st"
  refine sp_refused_in _ "number" (Or.inl rfl) (fun Q' X' x1 _ => sp_factors_bad 0 (fun _ => x1 rfl) (fun e => by omega) (by omega)) ?_
  refine sp_refused_in _ "number" (Or.inl rfl) (fun Q' X' x1 _ => sp_factors_bad (-3) (fun _ => x1 rfl) (fun e => by omega) (by omega)) ?_
  refine sp_refused_in _ "number" (Or.inl rfl) (fun Q' X' x1 _ => sp_factors_no _ trivial rfl (x1 rfl)) ?_
  refine sp_refused_in _ "number" (Or.inl rfl) (fun Q' X' x1 _ => sp_factors_no _ trivial rfl (x1 rfl)) ?_
  walk_at "ev"
  refine ⟨⟨by decide, by decide, by decide⟩, ?_⟩
  have e10 : ((10 : Int) ^ 10 + 1) = 10000000001 := by decide
  rw [e10]
  refine sp_refused_in _ "size" (Or.inr rfl) (fun Q' X' _ x2 => sp_factors_bad 10000000001 (fun e => by omega) (fun _ => x2 rfl) (by omega)) ?_
  walk_at "ev"
  intro b1 f1
  have g1 : pupd h b1 (.lst [.str "number", .str "number", .str "number", .str "number", .str "size"]) b1 = _ := pupd_same
  generalize pupd h b1 (.lst [.str "number", .str "number", .str "number", .str "number", .str "size"]) = h1 at g1 ⊢
  walk_at "st"
  intro b2 f2
  walk_at "ev"
  refine ⟨⟨by decide, by decide⟩, by decide, ?_⟩
  intro b3 f3
  have r4 : (List.replicate (4 : Int).toNat [PV.str "number"]).flatten = [.str "number", .str "number", .str "number", .str "number"] := rfl
  have r4' : (List.replicate 4 [PV.str "number"]).flatten = [.str "number", .str "number", .str "number", .str "number"] := rfl
  first | rw [r4] | rw [r4']
  have g1' := (pupd_ne (o := .lst [.str "number"]) (ne_new g1 f2)).trans g1
  have g1'' := (pupd_ne (o := .lst [.str "number", .str "number", .str "number", .str "number"]) (ne_new g1' f3)).trans g1'
  have g3 : pupd (pupd h1 b2 (.lst [.str "number"])) b3 (.lst [.str "number", .str "number", .str "number", .str "number"]) b3 = _ := pupd_same
  generalize pupd (pupd h1 b2 (.lst [.str "number"])) b3 (.lst [.str "number", .str "number", .str "number", .str "number"]) = h3 at g1'' g3 ⊢
  walk_at "ev"
  intro b4 f4
  have g34 := (pupd_ne (o := .lst [.str "size"]) (ne_new g3 f4)).trans g3
  have g14 := (pupd_ne (o := .lst [.str "size"]) (ne_new g1'' f4)).trans g1''
  walk_at "ev"
  simp only [g34, pupd_same]
  refine ⟨by decide, ?_⟩
  intro b5 f5
  refine sp_same 1 _ _ ⟨_, _, (pupd_ne (ne_new g14 f5)).trans g14, pupd_same, by decide, by simp [SmL, Sm]⟩ fun h6 e6 => ?_
  walk_at "ev"
  refine sp_is_prime 1 (by decide) fun b hb => ?_
  obtain rfl : b = false := by
    cases b with
    | false => rfl
    | true => exact absurd (hb.1 rfl).1 (by decide)
  refine sp_is_prime_no _ trivial rfl ?_
  walk_at "ev"
  refine sp_factors 1 (by decide) (by decide) fun l hl h7 e7 => ?_
  obtain rfl := Nt.FacL.uniq (show Nt.FacL 0 1 [] from rfl) hl
  refine sp_divisors 1 (by decide) (by decide) fun h8 e8 => ?_
  have d1 : Nt.divs 1 = [1] := by decide
  rw [d1]
  walk_at "ev"
  intro b9 f9
  walk_at "ev"
  intro b10 f10
  refine sp_same 2 _ _ ⟨_, _, (pupd_ne (ne_new pupd_same f10)).trans pupd_same, pupd_same, by simp, by simp [SmL, Sm, natV]⟩ fun h11 e11 => ?_
  rfl
theorem primes_tab : ([99991, 90001, 65537, 99989, 99971, 99961] : List Nat).all (fun p => prB p 320) = true := by decide +kernel
theorem fac_two {x y : Nat} (hx : Nt.Pr x) (hy : Nt.Pr y) (h : x < y) : Nt.FacL 0 (x * y) [(x, 1), (y, 1)] :=
  ⟨by have := hx.1; omega, hx, Nat.le_refl _, y, by rw [Nat.pow_one], h, hy, Nat.le_refl _, 1, by simp, rfl⟩
theorem law18 (a c : Nat) (σ0 σ2 σ3 σ4 σ5 σ6 σ7 σ8 σ9 σ10 : Option PV) (h : PH) (t : TapeAt a c h) :
    wSs (subOf subT) (L 59) b_law18 (endF (fun v _ => v = .bl true) fun _ _ => False) [σ0, some (.ref a), σ2, σ3, σ4, σ5, σ6, σ7, σ8, σ9, σ10, none, none, none, none, none, none] h := by
  have pt := List.all_eq_true.1 primes_tab
  walk_at "st"
  refine sp_pickN t (by decide) (by decide) fun j1 y1 h1 hy1 t1 _ => ?_
  obtain ⟨x, rfl, px, xs⟩ : ∃ x : Nat, y1 = .int x ∧ Nt.Pr x ∧ (x = 99991 ∨ x = 90001 ∨ x = 65537) := by
    have := List.mem_of_getElem? hy1
    simp only [List.mem_cons, List.not_mem_nil, or_false] at this
    rcases this with rfl | rfl | rfl
    · exact ⟨99991, rfl, prB_lf (pt 99991 (by decide)), by decide⟩
    · exact ⟨90001, rfl, prB_lf (pt 90001 (by decide)), by decide⟩
    · exact ⟨65537, rfl, prB_lf (pt 65537 (by decide)), by decide⟩
  walk_at "ev"
  refine sp_pickN t1 (by decide) (by decide) fun j2 y2 h2 hy2 t2 _ => ?_
  obtain ⟨y, rfl, py, ys⟩ : ∃ x : Nat, y2 = .int x ∧ Nt.Pr x ∧ (x = 99989 ∨ x = 99971 ∨ x = 99961) := by
    have := List.mem_of_getElem? hy2
    simp only [List.mem_cons, List.not_mem_nil, or_false] at this
    rcases this with rfl | rfl | rfl
    · exact ⟨99989, rfl, prB_lf (pt 99989 (by decide)), by decide⟩
    · exact ⟨99971, rfl, prB_lf (pt 99971 (by decide)), by decide⟩
    · exact ⟨99961, rfl, prB_lf (pt 99961 (by decide)), by decide⟩
  have xy : x * y ≤ 99991 * 99989 := Nat.mul_le_mul (by omega) (by omega)
  have xy1 : 1 ≤ x * y := Nat.mul_pos (by omega) (by omega)
  obtain ⟨u, v, fac, eu, ev⟩ : ∃ u v : Nat, Nt.FacL 0 (x * y) [(u, 1), (v, 1)] ∧ (if (y : Int) < x then (y : Int) else x) = u ∧ (if (y : Int) > x then (y : Int) else x) = v := by
    by_cases z : x < y
    · exact ⟨x, y, fac_two px py z, by rw [if_neg (by omega)], by rw [if_pos (by omega)]⟩
    · exact ⟨y, x, by rw [Nat.mul_comm]; exact fac_two py px (by omega), by rw [if_pos (by omega)], by rw [if_neg (by omega)]⟩
  walk_at "st"
  refine ⟨cmul_s (by omega) (by omega), ?_⟩
  rw [← Int.natCast_mul]
  refine sp_factors (x * y) xy1 (by omega) fun l hl h3 e3 => ?_
  obtain rfl := fac.uniq hl
  walk_at "ev"
  rw [eu, ev]
  refine sp_same 2 _ _ (sm_facs (l := [(u, 1), (v, 1)]) (by simp)) fun h4 e4 => ?_
  walk_at "ev"
  (try refine ⟨cmul_s (by omega) (by omega), ?_⟩)
  (try rw [← Int.natCast_mul])
  refine sp_is_prime (x * y) (by omega) fun b hb => ?_
  obtain rfl : b = false := by
    cases b with
    | false => rfl
    | true => exact absurd ((FacL.prime_iff fac).1 (hb.1 rfl)) (by simp)
  walk_at "ev"
  refine sp_same 0 _ _ rfl fun h5 e5 => ?_
  walk_at "ev"
  walk_at "nx"
  exact law20 _ _ _ _ _ _ _ _ _ _ _ _ _ h5
theorem law15 (a c : Nat) (σ0 σ2 σ3 σ4 σ5 σ6 σ7 σ8 σ9 : Option PV) (h : PH) (t : TapeAt a c h) :
    wSs (subOf subT) (L 59) b_law15 (endF (fun v _ => v = .bl true) fun _ _ => False) [σ0, some (.ref a), σ2, σ3, σ4, σ5, σ6, σ7, σ8, σ9, none, none, none, none, none, none, none] h := by
  walk_at "st"
  refine sp_pickN t (by decide) (by decide) fun j y h1 hy t1 _ => ?_
  obtain ⟨x, hx, rfl⟩ : ∃ x ∈ tab, y = .int (x.1 : Nat) := by
    have := List.mem_of_getElem? hy
    simp only [List.mem_cons, List.not_mem_nil, or_false] at this
    rcases this with rfl | rfl | rfl | rfl | rfl | rfl | rfl | rfl | rfl | rfl
    · exact ⟨tab[0], by decide, rfl⟩
    · exact ⟨tab[1], by decide, rfl⟩
    · exact ⟨tab[2], by decide, rfl⟩
    · exact ⟨tab[3], by decide, rfl⟩
    · exact ⟨tab[4], by decide, rfl⟩
    · exact ⟨tab[5], by decide, rfl⟩
    · exact ⟨tab[6], by decide, rfl⟩
    · exact ⟨tab[7], by decide, rfl⟩
    · exact ⟨tab[8], by decide, rfl⟩
    · exact ⟨tab[9], by decide, rfl⟩
  have ok := List.all_eq_true.1 tab_ok x hx
  obtain ⟨p, l, G⟩ := x
  simp only [tabB, Bool.and_eq_true, decide_eq_true_eq, List.all_eq_true, Bool.not_eq_true', Bool.or_eq_true] at ok
  obtain ⟨⟨⟨⟨⟨⟨⟨⟨⟨k1, k2⟩, k3⟩, k4⟩, k5⟩, k6⟩, k7⟩, k8⟩, k9⟩, k10⟩ := ok
  have fl := facB2_ok _ _ _ k1
  simp only
  walk_at "st"
  refine ⟨⟨⟨by decide, by decide⟩, by omega, by omega⟩, ?_⟩
  rw [rgL_rg1]
  refine cpr_gen (fun d : Nat => .int (d : Int)) (fun h' => h' = h1) (fun g => mkB p g) (fun d : Nat => .int (d : Int)) (by rw [rg1_len]; omega) rfl (fun _ _ => trivial) ?_ ?_
  · intro g hg h' eh R S r s
    have g1 := Nt.rg1_mem.1 hg
    have e0 := emod0 g p
    walk_at "ev"
    refine ⟨by omega, ?_⟩
    split
    · rename_i z
      exact s (by
        unfold mkB
        rw [decide_eq_false (fun q => q (Nat.mod_eq_zero_of_dvd (e0.1 z))), Bool.false_and]) _ eh
    · rename_i z
      have gz : g % p ≠ 0 := fun q => z (e0.2 (Nat.dvd_of_mod_eq_zero q))
      have K : g ^ (p - 1) % p = 1 % p := by
        rcases k6 g hg with q | q
        · exact absurd q gz
        · exact q
      refine sp_walk g p (p - 1) (by omega) (by omega) (by omega) (by omega) K fun d d1 de dn => ?_
      have dle : d ≤ p - 1 := by
        by_cases q : d ≤ p - 1
        · exact q
        · exact absurd K (dn (p - 1) (by omega) (by omega))
      walk_at "ev"
      split
      · rename_i q
        refine r ?_ _ eh
        simp only [mkB, Bool.and_eq_true, decide_eq_true_eq, List.all_eq_true, Bool.or_eq_true, List.mem_range]
        refine ⟨gz, fun j hj => ?_⟩
        by_cases j0 : j = 0
        · exact Or.inl j0
        · exact Or.inr (dn j (by omega) (by omega))
      · rename_i q
        refine s ?_ _ eh
        by_cases m : mkB p g = true
        · simp only [mkB, Bool.and_eq_true, decide_eq_true_eq, List.all_eq_true, Bool.or_eq_true, List.mem_range] at m
          rcases m.2 d (by omega) with z1 | z1
          · omega
          · exact absurd de z1
        · simpa using m
  intro h2 eh2
  rw [eh2]
  intro b fb
  obtain ⟨r, hr⟩ := filter_head (f := mkB p) (Nt.rg1_sorted p) (Nt.rg1_mem.2 ⟨k7, k8⟩) k4 fun j hj jl => k5 j (Nt.rg1_mem.2 ⟨(Nt.rg1_mem.1 hj).1, by omega⟩)
  have gb : pupd h1 b (.lst (List.map (fun d : Nat => PV.int (d : Int)) ((Nt.rg1 p).filter fun g => mkB p g))) b = some (.lst (List.map (fun d : Nat => PV.int (d : Int)) (G :: r))) := by rw [pupd_same, hr]
  have t2 := t1.ext (Ext.new (o := .lst (List.map (fun d : Nat => PV.int (d : Int)) ((Nt.rg1 p).filter fun g => mkB p g))) fb)
  generalize pupd h1 b (.lst (List.map (fun d : Nat => PV.int (d : Int)) ((Nt.rg1 p).filter fun g => mkB p g))) = h3 at gb t2 ⊢
  walk_at "st"
  refine sp_least_maker p G (by omega) (by omega) k7 (fun l' hl' => by rw [hl'.uniq fl]; exact k2) fun g l' g1 hl' og gn h4 e4 => ?_
  obtain rfl := fl.uniq hl'
  obtain rfl : g = G := by
    by_cases c1 : g < G
    · rw [k3 g (Nt.rg1_mem.2 ⟨g1, by omega⟩)] at og; cases og
    · by_cases c2 : G < g
      · rw [gn G k7 c2] at k2; cases k2
      · omega
  walk_at "ev"
  rw [rdL_of (e4 _ _ gb)]
  walk_at "ev"
  refine sp_same 0 _ _ rfl fun h5 e5 => ?_
  walk_at "ev"
  walk_at "nx"
  exact law18 a c _ _ _ _ _ _ _ _ _ _ h5 ((t2.ext e4).ext e5)
theorem law11 (a c n p5 p6 : Nat) (σ0 σ3 σ4 : Option PV) (l : List (Nat × Nat)) (bs : List Nat) (h : PH) (n1 : 1 ≤ n) (nm : n ≤ 30000) (t : TapeAt a c h) (hl : Nt.FacL 0 n l) (h5 : h p5 = some (.lst (natV (l.map Prod.fst)))) (h6 : h p6 = some (.lst (natV bs))) (bl : bs.length ≤ 100) (bb : ∀ b ∈ bs, b ≤ 30000) :
    wSs (subOf subT) (L 59) b_law11 (endF (fun v _ => v = .bl true) fun _ _ => False) [σ0, some (.ref a), some (.int n), σ3, σ4, some (.ref p5), some (.ref p6), none, none, none, none, none, none, none, none, none, none] h := by
  walk_at "st"
  walk_at "st"
  rw [rdL_of h6]
  walk_at "ev"
  refine for_inv (α := Nat × Option PV) (st := fun x => [σ0, some (.ref a), some (.int n), σ3, σ4, some (.ref p5), some (.ref p6), some (.int x.1), x.2, none, none, none, none, none, none, none, none]) (hp := fun _ => h) (I := fun i x => RedL (bs.take i) n x.1 ∧ 1 ≤ x.1 ∧ x.1 ≤ n) (n, none) ⟨rfl, n1, Nat.le_refl _⟩ ?_ ?_
  · rintro N i v ⟨r, u⟩ hv ⟨hr, r1, rn⟩ hN
    simp only at hr r1 rn ⊢
    rw [natV, List.getElem?_map] at hv
    cases hi : bs[i]? with
    | none => rw [hi] at hv; cases hv
    | some p =>
      rw [hi] at hv
      simp only [Option.map_some, Option.some.injEq] at hv
      subst hv
      have pb := bb p (List.mem_of_getElem? hi)
      have tk : bs.take (i + 1) = bs.take i ++ [p] := by rw [List.take_add_one, hi]; rfl
      refine ⟨seqOf_of h6, ?_⟩
      walk_at "ev"
      refine ss_whl ?_
      refine whl_inv (α := Nat × Nat) (st := fun x => [σ0, some (.ref a), some (.int n), σ3, σ4, some (.ref p5), some (.ref p6), some (.int x.1), some (.int p), none, none, none, none, none, none, none, none]) (hp := fun _ => h) (I := fun x => r = p ^ x.2 * x.1 ∧ 1 ≤ x.1 ∧ (p < 2 → x.1 = r)) (μ := fun x => x.1) (r, 0) ⟨by simp, r1, fun _ => rfl⟩ ?_
      rintro N2 ⟨d, e⟩ ⟨hm, d1, dp⟩ hN2
      simp only at hm d1 dp ⊢
      walk_at "ev"
      have fin : RedP p r d → wSs (subOf subT) (L 59) Ss.nil { nx := N, rt := fun v x => v = PV.bl true, bk := wSs (subOf subT) (L 59) b_law13 (endF (fun v _ => v = .bl true) fun _ _ => False), ct := N, ex := fun x x_1 h => False } [σ0, some (.ref a), some (.int n), σ3, σ4, some (.ref p5), some (.ref p6), some (.int d), some (.int p), none, none, none, none, none, none, none, none] h := fun red => by
        walk_at "nx"
        refine hN (d, some (.int p)) ⟨by rw [tk]; exact hr.snoc red, d1, ?_⟩
        by_cases p2 : 2 ≤ p
        · have := Nat.le_mul_of_pos_left d (Nat.pow_pos (n := e) (show 0 < p by omega))
          simp only
          omega
        · simp only [dp (by omega)]; exact rn
      split
      · rename_i pg
        have p2 : 2 ≤ p := by omega
        have dle : d ≤ r := by rw [hm]; exact Nat.le_mul_of_pos_left _ (Nat.pow_pos (by omega))
        have dv := emod0 d p
        refine ⟨by omega, ?_⟩
        split
        · rename_i dd
          obtain ⟨t', ht⟩ := dv.1 dd
          walk_at "st"
          refine ⟨cdiv_s (by omega) (by omega), ?_⟩
          walk_at "nx"
          have ct : d / p = t' := by rw [ht]; exact Nat.mul_div_cancel_left _ (by omega)
          have t1 : 1 ≤ t' := by
            by_cases c0 : t' = 0
            · rw [c0] at ht; omega
            · omega
          have := hN2 (t', e + 1) ⟨by simp only; rw [hm, ht, Nat.pow_succ]; grind, t1, fun z => by omega⟩ (by simp only; rw [ht]; have := Nat.mul_le_mul_right t' p2; omega)
          rw [← Int.natCast_ediv, ct]
          simpa using this
        · rename_i dd
          exact fin ⟨fun _ => ⟨⟨e, hm⟩, fun z => dd (dv.2 z)⟩, fun z => by omega⟩
      · rename_i pg
        exact fin ⟨fun z => by omega, fun z => dp z⟩
  · rintro ⟨r, u⟩ ⟨hr, r1, rn⟩
    simp only [natV, List.length_map, List.take_length] at hr ⊢
    refine ⟨seqOf_of h6, ?_⟩
    have right : ∀ h1 (rt : Bool), Ext h h1 → (rt = true ↔ r = 1 ∧ ∀ p ∈ bs, 2 ≤ p ∧ p ∣ n) → wSs (subOf subT) (L 59) b_law14 (endF (fun v _ => v = .bl true) fun _ _ => False) [σ0, some (.ref a), some (.int n), σ3, σ4, some (.ref p5), some (.ref p6), some (.int r), u, some (.bl rt), none, none, none, none, none, none, none] h1 := fun h1 rt e1 hrt => by
      walk_at "st"
      rw [rdL_of (e1 _ _ h5)]
      walk_at "ev"
      refine sp_made_of n (l.map Prod.fst) n1 (by omega) (fun p hp => by
        have := hl.gt p hp
        have := Nat.le_of_dvd n1 ((hl.dvd p this.2).2 hp)
        omega) fun b hb => ?_
      have bt : b = true := hb.2 ⟨fun p hp => ⟨(hl.gt p hp).2.1, (hl.dvd p (hl.gt p hp).2).2 hp⟩, red_fac hl⟩
      subst bt
      refine sp_same 0 _ _ rfl fun h2 e2 => ?_
      walk_at "ev"
      rw [rdL_of (e2 _ _ (e1 _ _ h6))]
      walk_at "ev"
      refine sp_made_of n bs n1 (by omega) (fun p hp => by have := bb p hp; omega) fun b hb => ?_
      have bt : b = rt := by
        rw [Bool.eq_iff_iff, hb, hrt]
        constructor
        · exact fun z => ⟨hr.uniq z.2, z.1⟩
        · exact fun z => ⟨z.2, by rw [← z.1]; exact hr⟩
      subst bt
      refine sp_same 0 _ _ rfl fun h3 e3 => ?_
      walk_at "ev"
      walk_at "nx"
      exact law15 a c _ _ _ _ _ _ _ _ _ h3 (((t.ext e1).ext e2).ext e3)
    walk_at "st"
    split
    · rename_i re
      rw [rdL_of h6]
      walk_at "ev"
      refine cpr_gen (fun d : Nat => .int (d : Int)) (fun h' => h' = h) (fun _ => true) (fun p => .bl (decide (2 ≤ p) && decide (p ∣ n))) (by omega) rfl (fun h' eh => by rw [eh]; exact seqOf_of h6) ?_ ?_
      · intro x hx h' eh R S r' s'
        have dv := emod0 n x
        have rr := r' rfl h' eh
        walk_at "ev"
        split
        · rename_i x2
          refine ⟨by omega, ?_⟩
          rw [decide_eq_true (show 2 ≤ x by omega), Bool.true_and] at rr
          rw [decide_eq_decide.2 dv]
          exact rr
        · rename_i x2
          rw [decide_eq_false (show ¬ 2 ≤ x by omega), Bool.false_and] at rr
          rw [decide_eq_false x2]
          exact rr
      intro h1 eh1
      rw [eh1, filter_true _ (fun _ => rfl)]
      intro b fb
      walk_at "ev"
      simp only [blsOf_bl]
      refine right _ _ (Ext.new fb) ?_
      rw [List.all_map, List.all_eq_true]
      simp only [Function.comp, id, Bool.and_eq_true, decide_eq_true_eq]
      exact ⟨fun z => ⟨by omega, z⟩, fun z => z.2⟩
    · rename_i re
      rw [decide_eq_false re]
      exact right h false (Ext.refl h) ⟨fun z => (by cases z), fun z => absurd (by omega) re⟩
theorem law9 (ns : List Int) (a c n p4 : Nat) (u3 : Option PV) (l : List (Nat × Nat)) (h : PH) (n1 : 1 ≤ n) (nm : n ≤ 30000) (t : TapeAt a c h) (hl : Nt.FacL 0 n l) (h4 : h p4 = some (.lst (l.map pvPE))) (ne4 : p4 ≠ a ∧ p4 ≠ c) :
    wSs (subOf subT) (L 59) b_law9 (endF (fun v _ => v = .bl true) fun _ _ => False) [some (.rol (ns.map .int)), some (.ref a), some (.int n), u3, some (.ref p4), none, none, none, none, none, none, none, none, none, none, none, none] h := by
  have short := hl.short (by omega)
  have small : ∀ p ∈ l.map Prod.fst, p ≤ 30000 := fun p hp => by
    have := hl.gt p hp
    have := Nat.le_of_dvd n1 ((hl.dvd p this.2).2 hp)
    omega
  walk_at "st"
  rw [rdL_of h4]
  walk_at "ev"
  refine cpr_gen pvPE (fun h' => h' = h) (fun _ => true) (fun x => .int (x.1 : Int)) (by omega) rfl (fun h' eh => by rw [eh]; exact seqOf_of h4) ?_ ?_
  · intro x hx h' eh R S r s
    simp only [pvPE]
    walk_at "ev"
    exact r rfl h' eh
  intro h1 eh1
  rw [eh1, filter_true _ (fun _ => rfl)]
  intro p5 f5
  have e5 := Ext.new (o := .lst (List.map (fun x : Nat × Nat => PV.int (x.1 : Int)) l)) f5
  have g5 : pupd h p5 (.lst (List.map (fun x : Nat × Nat => PV.int (x.1 : Int)) l)) p5 = some (.lst (natV (l.map Prod.fst))) := by rw [pupd_same, natV, List.map_map]; rfl
  have ne5 := t.ne_of f5
  generalize pupd h p5 (.lst (List.map (fun x : Nat × Nat => PV.int (x.1 : Int)) l)) = h2 at e5 g5 ⊢
  have t2 := t.ext e5
  walk_at "st"
  refine sp_draw a c 2 (by decide) (by decide) t2 fun w h3 w0 w1 d3 => ?_
  have g5' := (d3.fr p5 ne5.1 ne5.2).trans g5
  walk_at "ev"
  split
  · rw [rdL_of g5']
    walk_at "ev"
    intro p6 f6
    walk_at "ev"
    refine law11 a c n p5 p6 _ _ _ l (cut (l.map Prod.fst) none (some (-1))) _ n1 nm (d3.t.ext (Ext.new f6)) hl ((pupd_ne (ne_new g5' f6)).trans g5') ?_ ?_ ?_
    · rw [pupd_same, natV, cut_map]; rfl
    · have := cut_len (l.map Prod.fst) none (some (-1))
      rw [List.length_map] at this
      omega
    · exact fun b hb => small b (cut_mem hb)
  · intro b fb
    refine sp_pick (d3.t.ext (Ext.new fb)) pupd_same (d3.t.ne_of fb) (by simp) (by simp) fun i v h4' hv d4 => ?_
    obtain ⟨x, rfl, xb⟩ : ∃ x : Nat, v = .int x ∧ x ≤ 30000 := by
      have := List.mem_of_getElem? hv
      simp only [List.mem_cons, List.not_mem_nil, or_false] at this
      rcases this with rfl | rfl | rfl | rfl | rfl
      · exact ⟨2, rfl, by decide⟩
      · exact ⟨3, rfl, by decide⟩
      · exact ⟨17, rfl, by decide⟩
      · exact ⟨1, rfl, by decide⟩
      · exact ⟨n, rfl, nm⟩
    have g5'' := (d4.fr p5 ne5.1 ne5.2).trans ((pupd_ne (ne_new g5' fb)).trans g5')
    walk_at "ev"
    intro b2 fb2
    have g5_3 := (pupd_ne (o := .lst [.int x]) (ne_new g5'' fb2)).trans g5''
    walk_at "ev"
    simp only [g5_3, pupd_same]
    refine ⟨by simp only [natV, List.length_map, List.length_singleton]; omega, ?_⟩
    intro p6 f6
    walk_at "ev"
    refine law11 a c n p5 p6 _ _ _ l (l.map Prod.fst ++ [x]) _ n1 nm ((d4.t.ext (Ext.new fb2)).ext (Ext.new f6)) hl ((pupd_ne (ne_new g5_3 f6)).trans g5_3) ?_ ?_ ?_
    · rw [pupd_same, natV, natV, List.map_append]; rfl
    · rw [List.length_append, List.length_map, List.length_singleton]; omega
    · intro y hy
      rw [List.mem_append, List.mem_singleton] at hy
      rcases hy with hy | rfl
      · exact small y hy
      · exact xb
theorem law8 (ns : List Int) (a c n p4 : Nat) (u3 : Option PV) (l : List (Nat × Nat)) (h : PH) (n1 : 1 ≤ n) (nm : n ≤ 30000) (t : TapeAt a c h) (hl : Nt.FacL 0 n l) (h4 : h p4 = some (.lst (l.map pvPE))) (ne4 : p4 ≠ a ∧ p4 ≠ c) :
    wSs (subOf subT) (L 59) b_law8 (endF (fun v _ => v = .bl true) fun _ _ => False) [some (.rol (ns.map .int)), some (.ref a), some (.int n), u3, some (.ref p4), none, none, none, none, none, none, none, none, none, none, none, none] h := by
  have fin : ∀ h1, Ext h h1 → wSs (subOf subT) (L 59) b_law9 (endF (fun v _ => v = .bl true) fun _ _ => False) [some (.rol (ns.map .int)), some (.ref a), some (.int n), u3, some (.ref p4), none, none, none, none, none, none, none, none, none, none, none, none] h1 := fun h1 e1 => law9 ns a c n p4 u3 l h1 n1 nm (t.ext e1) hl (e1 _ _ h4) ne4
  walk_at "st"
  refine sp_split_of n n1 (by omega) (fun c0 => ?_) (fun p c0 hp => ?_)
  · walk_at "ev"
    split
    · walk_at "ev"
      refine sp_same 0 _ _ trivial fun h1 e1 => ?_
      walk_at "ev"
      walk_at "nx"
      exact fin h1 e1
    · rename_i n2
      intro b fb
      have h4' := (pupd_ne (o := .lst [.tup [.int n, .int 1]]) (ne_new h4 fb)).trans h4
      refine eqS_facs (m := [(n, 1)]) h4' pupd_same ?_
      have : l = [(n, 1)] := (FacL.prime_iff hl).1 (by rcases c0 with c0 | c0; (omega); exact c0)
      rw [decide_eq_true this]
      walk_at "ev"
      refine sp_same 0 _ _ trivial fun h1 e1 => ?_
      walk_at "ev"
      walk_at "nx"
      exact fin h1 ((Ext.new fb).trans e1)
  · walk_at "ev"
    rw [if_neg (by omega)]
    intro b fb
    have h4' := (pupd_ne (o := .lst [.tup [.int n, .int 1]]) (ne_new h4 fb)).trans h4
    refine eqS_facs (m := [(n, 1)]) h4' pupd_same ?_
    have : l ≠ [(n, 1)] := fun z => c0 (Or.inr ((FacL.prime_iff hl).2 z))
    rw [decide_eq_false this]
    walk_at "ev"
    rw [rdL_of h4']
    cases l with
    | nil => simp only [Nt.FacL] at hl; omega
    | cons x r =>
      obtain ⟨p', e'⟩ := x
      obtain rfl := hp.uniq (FacL.head hl)
      have := Nat.le_of_dvd (by omega) hp.2.1
      have := hp.1
      simp only [List.map_cons, pvPE] at h4' ⊢
      walk_at "ev"
      rw [rdL_of h4']
      walk_at "ev"
      refine ⟨cdiv_s (by omega) (by omega), ?_⟩
      rw [← Int.natCast_ediv]
      refine sp_same 1 _ _ ⟨by simp, by simp [SmL, Sm]⟩ fun h1 e1 => ?_
      walk_at "ev"
      walk_at "nx"
      exact fin h1 ((Ext.new fb).trans e1)
theorem law3 (ns : List Int) (a c n : Nat) (u3 : Option PV) (h : PH) (n1 : 1 ≤ n) (nm : n ≤ 30000) (t : TapeAt a c h) :
    wSs (subOf subT) (L 59) b_law3 (endF (fun v _ => v = .bl true) fun _ _ => False) [some (.rol (ns.map .int)), some (.ref a), some (.int n), u3, none, none, none, none, none, none, none, none, none, none, none, none, none] h := by
  walk_at "st"
  refine sp_parts n n1 (by omega) fun l p4 h1 hl f4 h4 e1 => ?_
  have ne4 := t.ne_of f4
  have short := hl.short (by omega)
  have t1 := t.ext e1
  walk_at "st"
  refine sp_factors n n1 (by omega) fun l2 hl2 h2 e2 => ?_
  obtain rfl := hl.uniq hl2
  walk_at "ev"
  rw [rdL_of (e2 _ _ h4)]
  walk_at "ev"
  refine sp_same 2 _ _ (sm_facs (by omega)) fun h3 e3 => ?_
  walk_at "ev"
  refine sp_primes_of n n1 (by omega) fun l2 hl2 h5 e5 => ?_
  obtain rfl := hl.uniq hl2
  have h45 := e5 _ _ (e3 _ _ (e2 _ _ h4))
  walk_at "ev"
  rw [rdL_of h45]
  walk_at "ev"
  refine cpr_gen pvPE (fun h' => h' = h5) (fun _ => true) (fun x => .int (x.1 : Int)) (by omega) rfl (fun h' eh => by rw [eh]; exact seqOf_of h45) ?_ ?_
  · intro x hx h' eh R S r s
    simp only [pvPE]
    walk_at "ev"
    exact r rfl h' eh
  intro h6 eh6
  rw [eh6, filter_true _ (fun _ => rfl)]
  intro b fb
  walk_at "ev"
  refine sp_same 1 _ _ (sm_ints (by rw [List.length_map]; omega) fun x hx => by
    obtain ⟨y, _, rfl⟩ := List.mem_map.1 hx
    exact ⟨_, rfl⟩) fun h7 e7 => ?_
  have e07 : Ext h1 h7 := (((e2.trans e3).trans e5).trans (Ext.new fb)).trans e7
  walk_at "st"
  refine sp_divisors n n1 (by omega) fun h8 e8 => ?_
  walk_at "ev"
  refine ⟨⟨⟨by decide, by decide⟩, by omega, by omega⟩, ?_⟩
  rw [rgL_rg1]
  refine cpr_gen (fun d : Nat => .int (d : Int)) (fun h' => h' = h8) (fun k => decide (k ∣ n)) (fun d : Nat => .int (d : Int)) (by rw [rg1_len]; omega) rfl (fun _ _ => trivial) ?_ ?_
  · intro x hx h' eh R S r s
    have x1 := (Nt.rg1_mem.1 hx).1
    have dv := emod0 n x
    walk_at "ev"
    refine ⟨by omega, ?_⟩
    split
    · rename_i d; exact r (decide_eq_true (dv.1 d)) _ eh
    · rename_i d; exact s (decide_eq_false fun c => d (dv.2 c)) _ eh
  intro h9 eh9
  rw [eh9]
  intro b2 fb2
  walk_at "ev"
  have dl : (Nt.divs n).length ≤ n := by
    unfold Nt.divs
    exact Nat.le_trans (List.length_filter_le _ _) (by rw [rg1_len]; exact Nat.le_refl _)
  refine sp_same 1 _ _ (sm_ints (l := natV (Nt.divs n)) (by rw [natV, List.length_map]; omega) fun x hx => by
    obtain ⟨y, _, rfl⟩ := List.mem_map.1 hx
    exact ⟨_, rfl⟩) fun h10 e10 => ?_
  walk_at "st"
  refine sp_unit_count n n1 (by omega) fun h11 e11 => ?_
  walk_at "ev"
  refine ⟨⟨⟨by decide, by decide⟩, by omega, by omega⟩, ?_⟩
  rw [rgL_rg1]
  refine cpr_gen (fun d : Nat => .int (d : Int)) (fun h' => h' = h11) (fun k => decide (Nat.gcd k n = 1)) (fun d : Nat => .int (d : Int)) (by rw [rg1_len]; omega) rfl (fun _ _ => trivial) ?_ ?_
  · intro x hx h' eh R S r s
    walk_at "ev"
    refine sp_common _ _ ?_
    walk_at "ev"
    have eg : Int.gcd (x : Int) (n : Int) = Nat.gcd x n := rfl
    rw [eg]
    split
    · rename_i d; exact r (decide_eq_true (by omega)) _ eh
    · rename_i d; exact s (decide_eq_false fun c => d (by omega)) _ eh
  intro h12 eh12
  rw [eh12]
  intro b3 fb3
  walk_at "ev"
  rw [List.length_map, filter_cnt]
  refine sp_same 0 _ _ rfl fun h13 e13 => ?_
  have e713 : Ext h7 h13 := (((e8.trans (Ext.new fb2)).trans e10).trans e11).trans ((Ext.new fb3).trans e13)
  have h4_13 := e713 _ _ (e07 _ _ h4)
  walk_at "st"
  refine sp_is_prime n (by omega) fun bp hbp => ?_
  walk_at "ev"
  intro b4 fb4
  have h4_14 := (pupd_ne (o := .lst [.tup [.int n, .int 1]]) (ne_new h4_13 fb4)).trans h4_13
  refine eqS_facs (m := [(n, 1)]) h4_14 pupd_same ?_
  have ebp : bp = decide (l = [(n, 1)]) := by
    rw [Bool.eq_iff_iff, hbp, decide_eq_true_eq]
    exact FacL.prime_iff hl
  rw [← ebp]
  refine sp_same 0 _ _ rfl fun h15 e15 => ?_
  walk_at "ev"
  have h4_15 := e15 _ _ h4_14
  have e715 : Ext h7 h15 := (e713.trans (Ext.new fb4)).trans e15
  have cont : ∀ h16, Ext h15 h16 → wSs (subOf subT) (L 59) b_law8 (endF (fun v _ => v = .bl true) fun _ _ => False) [some (.rol (ns.map .int)), some (.ref a), some (.int n), u3, some (.ref p4), none, none, none, none, none, none, none, none, none, none, none, none] h16 := fun h16 e16 => law8 ns a c n p4 u3 l h16 n1 nm (((t1.ext e07).ext e715).ext e16) hl (e16 _ _ h4_15) ne4
  split
  · rename_i n2
    refine sp_least_factor n (by omega) (by omega) fun p hp => ?_
    walk_at "ev"
    rw [rdL_of h4_15]
    cases l with
    | nil => simp only [Nt.FacL] at hl; omega
    | cons x r =>
      obtain ⟨p', e'⟩ := x
      obtain rfl := hp.uniq (FacL.head hl)
      simp only [List.map_cons, pvPE]
      walk_at "ev"
      refine sp_same 0 _ _ rfl fun h16 e16 => ?_
      walk_at "ev"
      walk_at "nx"
      exact cont h16 e16
  · walk_at "nx"
    exact cont h15 (Ext.refl _)
theorem law_true (ns : List Int) (hn : ns.length ≤ 63) : callN (subOf subT) fns 60 (20) [.rol (ns.map PV.int)] noH (fun v _ => v = .bl true) fun _ _ => False := by
  rw [← Lv_eq]
  refine Lv_call d_law.fn rfl rfl ?_
  simp only [d_law, b_law]
  walk_at "in"
  walk_at "st"
  refine sp_tape ns hn fun a c h1 fa fc _ t => ?_
  walk_at "st"
  refine sp_draw a c 6000 (by decide) (by decide) t fun n0 h2 o0 o1 d2 => ?_
  obtain ⟨n0', rfl⟩ : ∃ m : Nat, n0 = m := ⟨n0.toNat, by omega⟩
  walk_at "st"
  refine sp_draw a c 3 (by decide) (by decide) d2.t fun w h3 w0 w1 d3 => ?_
  walk_at "ev"
  split
  · walk_at "st"
    walk_at "st"
    refine sp_draw a c 4 (by decide) (by decide) d3.t fun v h4 v0 v1 d4 => ?_
    walk_at "ev"
    refine ⟨⟨by omega, by omega⟩, ?_⟩
    rw [rgL_rgI]
    refine for_inv (α := (Nat × Option PV) × PH) (st := fun x => [some (.rol (ns.map .int)), some (.ref a), some (.int x.1.1), x.1.2, none, none, none, none, none, none, none, none, none, none, none, none, none]) (hp := fun x => x.2) (I := fun i x => 1 ≤ x.1.1 ∧ x.1.1 ≤ 13 ^ i ∧ TapeAt a c x.2) ((1, none), h4) ⟨Nat.le_refl _, Nat.le_refl _, d4.t⟩ ?_ ?_
    · rintro N i z ⟨⟨m, u⟩, h5⟩ hz ⟨m1, mm, t5⟩ hN
      simp only at m1 mm t5 ⊢
      have il : i < 4 := by
        have := (List.getElem?_eq_some_iff.1 hz).1
        rw [List.length_map, rgI_len] at this
        omega
      have m13 : m ≤ 13 ^ 4 := Nat.le_trans mm (Nat.pow_le_pow_right (by decide) (by omega))
      refine ⟨trivial, ?_⟩
      walk_at "st"
      refine sp_pickN t5 (by decide) (by decide) fun j y h6 hy t6 _ => ?_
      obtain ⟨d, rfl, d1, d2⟩ : ∃ d : Nat, y = .int d ∧ 1 ≤ d ∧ d ≤ 13 := by
        have := List.mem_of_getElem? hy
        simp only [List.mem_cons, List.not_mem_nil, or_false] at this
        rcases this with rfl | rfl | rfl | rfl | rfl | rfl | rfl | rfl
        · exact ⟨2, rfl, by decide, by decide⟩
        · exact ⟨2, rfl, by decide, by decide⟩
        · exact ⟨3, rfl, by decide, by decide⟩
        · exact ⟨3, rfl, by decide, by decide⟩
        · exact ⟨5, rfl, by decide, by decide⟩
        · exact ⟨7, rfl, by decide, by decide⟩
        · exact ⟨11, rfl, by decide, by decide⟩
        · exact ⟨13, rfl, by decide, by decide⟩
      walk_at "ev"
      refine ⟨cmul_s (by omega) (by omega), ?_⟩
      walk_at "nx"
      rw [← Int.natCast_mul]
      refine hN ((m * d, some z), h6) ⟨Nat.mul_pos m1 d1, ?_, t6⟩
      simp only
      rw [Nat.pow_succ]
      exact Nat.mul_le_mul mm d2
    · rintro ⟨⟨m, u⟩, h5⟩ ⟨m1, mm, t5⟩
      simp only [List.length_map, rgI_len] at m1 mm t5 ⊢
      refine ⟨trivial, ?_⟩
      walk_at "nx"
      exact law3 ns a c m u h5 m1 (Nat.le_trans mm (Nat.le_trans (Nat.pow_le_pow_right (by decide) (show (1 + v).toNat ≤ 4 by omega)) (by decide))) t5
  · walk_at "nx"
    rw [show ((1 : Int) + (n0' : Int)) = ((1 + n0' : Nat) : Int) by omega]
    exact law3 ns a c (1 + n0') none h3 (by omega) (by omega) d3.t
end
end Co.G
open PySem PySem.W
open PyProof.Rows
set_option maxRecDepth 99999 in
set_option maxHeartbeats 0 in
theorem PySem.Challenge.cw_spiralverses_k01_factors_and_divisors_holds : PySem.Challenge.rw_spiralverses_k01_factors_and_divisors.Holds := by
  w_on; o_law
  k_head
  (case hw => w_witness2)
  k_fill
  refine L2.walk_of (l := PySem.Challenge.rw_spiralverses_k01_factors_and_divisors) (n := 63) (k := 60) (x := "script") (CX := fun w => L2.CX PySem.Challenge.pw_spiralverses_k01_factors_and_divisors w) (sp := fun w => Co.spLaw _) rfl (by decide) rfl ⟨rfl, by decide, by decide⟩ (fun w h Y => PySem.W.kIn_of Y) ?F (fun w H a ns hl hO hS => Co.spLaw_of hl hO hS) (fun w H s e s' h => Co.noCX _ w H s e s' h)
  case F =>
    intro w mg fa h KX G hmg
    refine' Co.cut_def (x := "is_count") (st := Co.G.topS 5) KX G ?a1 ?l1 ?c1 ?k1 ?r1; (case a1 => k_is); (case l1 => k_is); (case c1 => k_is); (case k1 => k_is); intro D0
    refine' Co.cut_def (x := "power") (st := Co.G.topS 6) KX G ?a2 ?l2 ?c2 ?k2 ?r2; (case a2 => k_is); (case l2 => k_is); (case c2 => k_is); (case k2 => k_is); intro D1
    refine' Co.cut_def (x := "check_factored") (st := Co.G.topS 9) KX G ?a3 ?l3 ?c3 ?k3 ?r3; (case a3 => k_is); (case l3 => k_is); (case c3 => k_is); (case k3 => k_is); intro D2
    refine' Co.cut_def (x := "least_factor") (st := Co.G.topS 10) KX G ?a4 ?l4 ?c4 ?k4 ?r4; (case a4 => k_is); (case l4 => k_is); (case c4 => k_is); (case k4 => k_is); intro D3
    refine' Co.cut_def (x := "is_prime") (st := Co.G.topS 11) KX G ?a5 ?l5 ?c5 ?k5 ?r5; (case a5 => k_is); (case l5 => k_is); (case c5 => k_is); (case k5 => k_is); intro D4
    refine' Co.cut_def (x := "factors") (st := Co.G.topS 12) KX G ?a6 ?l6 ?c6 ?k6 ?r6; (case a6 => k_is); (case l6 => k_is); (case c6 => k_is); (case k6 => k_is); intro D5
    refine' Co.cut_def (x := "primes_of") (st := Co.G.topS 13) KX G ?a7 ?l7 ?c7 ?k7 ?r7; (case a7 => k_is); (case l7 => k_is); (case c7 => k_is); (case k7 => k_is); intro D6
    refine' Co.cut_def (x := "divisors") (st := Co.G.topS 14) KX G ?a8 ?l8 ?c8 ?k8 ?r8; (case a8 => k_is); (case l8 => k_is); (case c8 => k_is); (case k8 => k_is); intro D7
    refine' Co.cut_def (x := "unit_count") (st := Co.G.topS 15) KX G ?a9 ?l9 ?c9 ?k9 ?r9; (case a9 => k_is); (case l9 => k_is); (case c9 => k_is); (case k9 => k_is); intro D8
    refine' Co.cut_def (x := "made_of") (st := Co.G.topS 16) KX G ?a10 ?l10 ?c10 ?k10 ?r10; (case a10 => k_is); (case l10 => k_is); (case c10 => k_is); (case k10 => k_is); intro D9
    refine' Co.cut_def (x := "least_maker") (st := Co.G.topS 17) KX G ?a11 ?l11 ?c11 ?k11 ?r11; (case a11 => k_is); (case l11 => k_is); (case c11 => k_is); (case k11 => k_is); intro D10
    refine' Co.cut_def (x := "split_of") (st := Co.G.topS 18) KX G ?a12 ?l12 ?c12 ?k12 ?r12; (case a12 => k_is); (case l12 => k_is); (case c12 => k_is); (case k12 => k_is); intro D11
    refine' Co.cut_def (x := "_law_tape") (st := Co.G.topS 20) KX G ?a13 ?l13 ?c13 ?k13 ?r13; (case a13 => k_is); (case l13 => k_is); (case c13 => k_is); (case k13 => k_is); intro D12
    refine' Co.cut_def (x := "_law_draw") (st := Co.G.topS 21) KX G ?a14 ?l14 ?c14 ?k14 ?r14; (case a14 => k_is); (case l14 => k_is); (case c14 => k_is); (case k14 => k_is); intro D13
    refine' Co.cut_def (x := "_law_pick") (st := Co.G.topS 22) KX G ?a15 ?l15 ?c15 ?k15 ?r15; (case a15 => k_is); (case l15 => k_is); (case c15 => k_is); (case k15 => k_is); intro D14
    refine' Co.cut_def (x := "_law_same") (st := Co.G.topS 23) KX G ?a16 ?l16 ?c16 ?k16 ?r16; (case a16 => k_is); (case l16 => k_is); (case c16 => k_is); (case k16 => k_is); intro D15
    refine' Co.cut_def (x := "_law_common") (st := Co.G.topS 24) KX G ?a17 ?l17 ?c17 ?k17 ?r17; (case a17 => k_is); (case l17 => k_is); (case c17 => k_is); (case k17 => k_is); intro D16
    refine' Co.cut_def (x := "_law_parts") (st := Co.G.topS 25) KX G ?a18 ?l18 ?c18 ?k18 ?r18; (case a18 => k_is); (case l18 => k_is); (case c18 => k_is); (case k18 => k_is); intro D17
    refine' Co.cut_def (x := "_law_walk") (st := Co.G.topS 26) KX G ?a19 ?l19 ?c19 ?k19 ?r19; (case a19 => k_is); (case l19 => k_is); (case c19 => k_is); (case k19 => k_is); intro D18
    refine' Co.cut_def (x := "_law_refused") (st := Co.G.topS 27) KX G ?a20 ?l20 ?c20 ?k20 ?r20; (case a20 => k_is); (case l20 => k_is); (case c20 => k_is); (case k20 => k_is); intro D19
    refine' Co.cut_def (x := "law") (st := Co.G.topS 28) KX G ?a21 ?l21 ?c21 ?k21 ?r21; (case a21 => k_is); (case l21 => k_is); (case c21 => k_is); (case k21 => k_is); intro D20
    refine' Co.cut_exc (x := "VerseError") KX G ?a22 ?i22 ?k22 ?s22 ?t22 ?c22 ?r22; (case a22 => k_is); (case i22 => k_exc); (case k22 => k_is); (case s22 => k_is); (case t22 => k_is); (case c22 => k_is); intro X0
    refine' Co.cut_exc (x := "BadNumber") KX G ?a23 ?i23 ?k23 ?s23 ?t23 ?c23 ?r23; (case a23 => k_is); (case i23 => k_exc); (case k23 => k_is); (case s23 => k_is); (case t23 => k_is); (case c23 => k_is); intro X1
    refine' Co.cut_exc (x := "BadSize") KX G ?a24 ?i24 ?k24 ?s24 ?t24 ?c24 ?r24; (case a24 => k_is); (case i24 => k_exc); (case k24 => k_is); (case s24 => k_is); (case t24 => k_is); (case c24 => k_is); intro X2
    refine' Co.cut_exm (b := true) KX X0 X0 ?e25 ?r25; (case e25 => k_is); intro M0_0
    refine' Co.cut_exm (b := false) KX X1 X0 ?e26 ?r26; (case e26 => k_is); intro M0_1
    refine' Co.cut_exm (b := false) KX X2 X0 ?e27 ?r27; (case e27 => k_is); intro M0_2
    refine' Co.cut_exm (b := true) KX X0 X1 ?e28 ?r28; (case e28 => k_is); intro M1_0
    refine' Co.cut_exm (b := true) KX X1 X1 ?e29 ?r29; (case e29 => k_is); intro M1_1
    refine' Co.cut_exm (b := false) KX X2 X1 ?e30 ?r30; (case e30 => k_is); intro M1_2
    refine' Co.cut_exm (b := true) KX X0 X2 ?e31 ?r31; (case e31 => k_is); intro M2_0
    refine' Co.cut_exm (b := false) KX X1 X2 ?e32 ?r32; (case e32 => k_is); intro M2_1
    refine' Co.cut_exm (b := true) KX X2 X2 ?e33 ?r33; (case e33 => k_is); intro M2_2
    refine' Co.cut_int (x := "MOST_FACTORED") (i := 10000000000) KX G ?a34 ?r34; (case a34 => k_is); intro K0
    refine' Co.cut_blt (x := "abs") KX G ?a35 ?r35; (case a35 => k_is); intro B0
    refine' Co.cut_blt (x := "all") KX G ?a36 ?r36; (case a36 => k_is); intro B1
    refine' Co.cut_blt (x := "any") KX G ?a37 ?r37; (case a37 => k_is); intro B2
    refine' Co.cut_blt (x := "bool") KX G ?a38 ?r38; (case a38 => k_is); intro B3
    refine' Co.cut_blt (x := "int") KX G ?a39 ?r39; (case a39 => k_is); intro B4
    refine' Co.cut_blt (x := "isinstance") KX G ?a40 ?r40; (case a40 => k_is); intro B5
    refine' Co.cut_blt (x := "len") KX G ?a41 ?r41; (case a41 => k_is); intro B6
    refine' Co.cut_blt (x := "list") KX G ?a42 ?r42; (case a42 => k_is); intro B7
    refine' Co.cut_blt (x := "max") KX G ?a43 ?r43; (case a43 => k_is); intro B8
    refine' Co.cut_blt (x := "min") KX G ?a44 ?r44; (case a44 => k_is); intro B9
    refine' Co.cut_blt (x := "range") KX G ?a45 ?r45; (case a45 => k_is); intro B10
    refine' Co.cut_blt (x := "sorted") KX G ?a46 ?r46; (case a46 => k_is); intro B11
    refine' Co.cut_blt (x := "str") KX G ?a47 ?r47; (case a47 => k_is); intro B12
    refine' Co.cut_blt (x := "tuple") KX G ?a48 ?r48; (case a48 => k_is); intro B13
    refine Co.law_top (t := Co.G.tb) (ld := [(Co.G.d_is_count, Co.G.topS 5), (Co.G.d_power, Co.G.topS 6), (Co.G.d_check_factored, Co.G.topS 9), (Co.G.d_least_factor, Co.G.topS 10), (Co.G.d_is_prime, Co.G.topS 11), (Co.G.d_factors, Co.G.topS 12), (Co.G.d_primes_of, Co.G.topS 13), (Co.G.d_divisors, Co.G.topS 14), (Co.G.d_unit_count, Co.G.topS 15), (Co.G.d_made_of, Co.G.topS 16), (Co.G.d_least_maker, Co.G.topS 17), (Co.G.d_split_of, Co.G.topS 18), (Co.G.d__law_tape, Co.G.topS 20), (Co.G.d__law_draw, Co.G.topS 21), (Co.G.d__law_pick, Co.G.topS 22), (Co.G.d__law_same, Co.G.topS 23), (Co.G.d__law_common, Co.G.topS 24), (Co.G.d__law_parts, Co.G.topS 25), (Co.G.d__law_walk, Co.G.topS 26), (Co.G.d__law_refused, Co.G.topS 27), (Co.G.d_law, Co.G.topS 28)]) (lx := [("VerseError", _), ("BadNumber", _), ("BadSize", _)]) (sT := Co.G.subT) (iL := 20) (dl := Co.G.d_law) KX hmg ⟨⟨D0, Co.G.s_is_count⟩, ⟨D1, Co.G.s_power⟩, ⟨D2, Co.G.s_check_factored⟩, ⟨D3, Co.G.s_least_factor⟩, ⟨D4, Co.G.s_is_prime⟩, ⟨D5, Co.G.s_factors⟩, ⟨D6, Co.G.s_primes_of⟩, ⟨D7, Co.G.s_divisors⟩, ⟨D8, Co.G.s_unit_count⟩, ⟨D9, Co.G.s_made_of⟩, ⟨D10, Co.G.s_least_maker⟩, ⟨D11, Co.G.s_split_of⟩, ⟨D12, Co.G.s__law_tape⟩, ⟨D13, Co.G.s__law_draw⟩, ⟨D14, Co.G.s__law_pick⟩, ⟨D15, Co.G.s__law_same⟩, ⟨D16, Co.G.s__law_common⟩, ⟨D17, Co.G.s__law_parts⟩, ⟨D18, Co.G.s__law_walk⟩, ⟨D19, Co.G.s__law_refused⟩, ⟨D20, Co.G.s_law⟩, trivial⟩ ⟨X0, X1, X2, trivial⟩ ⟨K0, trivial⟩ ⟨B0, B1, B2, B3, B4, B5, B6, B7, B8, B9, B10, B11, B12, B13, trivial⟩ rfl rfl rfl (by decide) (fun i j hi hj => ?m) rfl rfl D20 Co.G.s_law Co.G.law_true
    have hi2 : i < 3 := hi
    have hj2 : j < 3 := hj
    match i, j, hi2, hj2 with
    | 0, 0, _, _ => exact M0_0
    | 0, 1, _, _ => exact M0_1
    | 0, 2, _, _ => exact M0_2
    | 1, 0, _, _ => exact M1_0
    | 1, 1, _, _ => exact M1_1
    | 1, 2, _, _ => exact M1_2
    | 2, 0, _, _ => exact M2_0
    | 2, 1, _, _ => exact M2_1
    | 2, 2, _, _ => exact M2_2
    | i + 3, _, h, _ => exact absurd h (by omega)
    | 0, j + 3, _, h => exact absurd h (by omega)
    | 1, j + 3, _, h => exact absurd h (by omega)
    | 2, j + 3, _, h => exact absurd h (by omega)
