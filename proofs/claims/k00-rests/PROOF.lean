import PyProof.Rows.All
import Wide.All
import OpenK.AllK
import Wide.FinOn
import HandS.ForExc
import HandS.Comp
import HandS.TryMany
import HandS.Wide
import HandS.TupAny
import HandS.Flow
import HandS.IsInst
import HandS.Rev
import HandS.Zip
import HandS.Iter
import HandS.Conv
import HandS.Small
import HandS.SortInts
import HandS.Style
import HandS.Ends
import PySem.Challenge.RW_spiralverses_k00_rests_and_common_diviso
set_option Elab.async false
set_option linter.all false
set_option maxRecDepth 100000
namespace Co
open PySem
/-- values: tuples are pure, lists stand in a heap -/
inductive PV where
  | non | bl (b : Bool) | int (i : Int) | str (s : Str) | tup (l : List PV) | ref (a : Nat)
  /-- a list that nobody changes -/
  | rol (l : List PV)
  deriving Inhabited
inductive PO where
  | lst (xs : List PV)
abbrev PH := Nat → Option PO
def pupd (h : PH) (a : Nat) (o : PO) : PH := fun b => if b = a then some o else h b
/-- exceptions: an own class without fields -/
inductive PX where
  | own (c : Nat)
abbrev Sl := List (Option PV)
abbrev QK := PV → PH → Prop
abbrev XK := PX → PH → Prop
/-- what a call does: def, arguments, heap, wish, wish of an exception -/
abbrev CS := Nat → List PV → PH → QK → XK → Prop
inductive Bop where | add | sub | mul | fdiv | mod | pow
  deriving DecidableEq
inductive Cop where | eq | ne | lt | le | gt | ge | is | isnot | In | notin
  deriving DecidableEq
/-- built-in functions of values -/
inductive Blt where | len | abs | int | max2 | min2 | sum | all | any | tuple | list | sorted | max1 | min1
  deriving DecidableEq
inductive Mth where | append | pop | popAt | index | count
  deriving DecidableEq
inductive Ty where | int | bool | tuple | list | str
  deriving DecidableEq
mutual
inductive E where
  | k (v : PV)
  | v (i : Nat)
  | bin (op : Bop) (a b : E)
  | neg (a : E)
  | cmp (op : Cop) (a b : E)
  | chn (op op' : Cop) (a b c : E)
  | and (a b : E)
  | or (a b : E)
  | not (a : E)
  | ite (c : T) (a b : E)
  | tup (es : Es)
  | lst (es : Es)
  | call (f : Nat) (es : Es)
  | blt (b : Blt) (es : Es)
  | isi (a : E) (ts : List Ty) (tp : Bool)
  | ix (a b : E)
  | sl (a : E) (lo hi : Eo)
  | mth (m : Mth) (a : E) (es : Es)
  | cpr (g : It) (t : Tg) (c : T) (e : E) (own : List Nat)
  | rg1 (tp : Bool) (a : E)
  | rg2 (tp : Bool) (a b : E)
inductive Tg where
  | nm (i : Nat) | tp (ts : Tgs) | sub (o i : E)
inductive Tgs where
  | nil | cons (t : Tg) (ts : Tgs)
inductive Es where
  | nil | cons (e : E) (es : Es)
inductive Eo where
  | none | some (e : E)
inductive T where
  | e (e : E) | and (a b : T) | or (a b : T) | not (a : T) | yes
inductive It where
  | seq (e : E) | rng1 (a : E) | rng2 (a b : E) | rev (e : E) | zip (a b : E) | enum (a : E)
end
def tgsLen : Tgs → Nat
  | .nil => 0
  | .cons _ ts => tgsLen ts + 1
def CMul (i j : Int) : Prop := i.natAbs.log2 + j.natAbs.log2 < 1000000
def CDiv (j : Int) : Prop := 0 < j ∧ j.natAbs.log2 < 9000
abbrev CPow := L2.CPow
/-- what is laid anew -/
def newL (h : PH) (xs : List PV) (Q : QK) : Prop := ∀ p, h p = none → Q (.ref p) (pupd h p (.lst xs))
/-- a list or tuple to be read -/
def rdL (h : PH) (a : Nat) : Option (List PV) := match h a with | some (.lst xs) => some xs | none => none
def seqOf (v : PV) (h : PH) : Option (List PV) := match v with | .tup l => some l | .rol l => some l | .ref a => rdL h a | _ => none
def bopS (op : Bop) (x y : PV) (h : PH) (Q : QK) : Prop := match op, x, y with
  | .add, .int i, .int j => Q (.int (i + j)) h
  | .add, .str i, .str j => i.length + j.length ≤ 16777216 ∧ Q (.str (i ++ j)) h
  | .add, .tup l, .tup m => l.length + m.length ≤ 16777216 ∧ Q (.tup (l ++ m)) h
  | .add, .ref a, .ref b => match h a, h b with
    | some (.lst xs), some (.lst ys) => xs.length + ys.length ≤ 16777216 ∧ newL h (xs ++ ys) Q
    | _, _ => False
  | .sub, .int i, .int j => Q (.int (i - j)) h
  | .mul, .int i, .int j => CMul i j ∧ Q (.int (i * j)) h
  | .fdiv, .int i, .int j => CDiv j ∧ Q (.int (i / j)) h
  | .mod, .int i, .int j => 0 < j ∧ Q (.int (i % j)) h
  | .pow, .int i, .int j => CPow i j ∧ Q (.int (i ^ j.toNat)) h
  | _, _, _ => False
def negS (x : PV) (h : PH) (Q : QK) : Prop := match x with | .int i => Q (.int (-i)) h | _ => False
/-- a value's truth -/
def truS (v : PV) (h : PH) (Q : Bool → PH → Prop) : Prop := match v with
  | .non => Q false h
  | .bl b => Q b h
  | .int i => Q (i != 0) h
  | .str s => s.length ≤ 16777216 ∧ Q (s.length != 0) h
  | .tup l => Q (!l.isEmpty) h
  | .rol l => Q (!l.isEmpty) h
  | .ref a => match rdL h a with | some xs => Q (!xs.isEmpty) h | none => False
/-- data, read out of the heap: for == -/
def toD (h : PH) : Nat → PV → Option PyData
  | _, .non => some .none
  | _, .bl b => some (.bool b)
  | _, .int i => some (.int i)
  | _, .str s => if s.cps.all (· < 0x110000) = true then some (.str s) else none
  | n + 1, .tup l => (l.mapM (toD h n)).map PyData.tuple
  | n + 1, .rol l => (l.mapM (toD h n)).map PyData.list
  | n + 1, .ref a => match rdL h a with | some xs => (xs.mapM (toD h n)).map PyData.list | none => none
  | 0, .tup _ => none
  | 0, .ref _ => none
  | 0, .rol _ => none
def isnS (x : PV) : Bool := match x with | .non => true | _ => false
/-- no tuple, no list -/
def flat : PV → Bool
  | .tup _ => false | .ref _ => false | .rol _ => false | _ => true
def eqF : PV → PV → Bool
  | .non, .non => true
  | .bl a, .bl b => a == b
  | .int a, .int b => a == b
  | .str a, .str b => a == b
  | .bl p, .int n => (if p then 1 else 0) == n
  | .int n, .bl p => n == (if p then 1 else 0)
  | _, _ => false
def eqS (x y : PV) (h : PH) (Q : Bool → Prop) : Prop := match x, y with
  | .int i, .int j => Q (decide (i = j))
  | .bl i, .bl j => Q (decide (i = j))
  | .str i, .str j => Q (decide (i = j))
  | .non, .non => Q true
  | x, y => ∃ d e, toD h 8 x = some d ∧ toD h 8 y = some e ∧ Q (PyData.eqv d e)
def inS (x y : PV) (h : PH) (Q : Bool → Prop) : Prop := match seqOf y h with
  | some ys => flat x = true ∧ ys.all flat = true ∧ Q (ys.any fun z => eqF z x)
  | none => False
def copS (op : Cop) (x y : PV) (h : PH) (Q : QK) : Prop := match op with
  | .eq => eqS x y h fun b => Q (.bl b) h
  | .ne => eqS x y h fun b => Q (.bl (!b)) h
  | .lt => match x, y with | .int i, .int j => Q (.bl (decide (i < j))) h | _, _ => False
  | .le => match x, y with | .int i, .int j => Q (.bl (decide (i ≤ j))) h | _, _ => False
  | .gt => match x, y with | .int i, .int j => Q (.bl (decide (j < i))) h | _, _ => False
  | .ge => match x, y with | .int i, .int j => Q (.bl (decide (j ≤ i))) h | _, _ => False
  | .is => match y with | .non => Q (.bl (isnS x)) h | _ => False
  | .isnot => match y with | .non => Q (.bl (!isnS x)) h | _ => False
  | .In => inS x y h fun b => Q (.bl b) h
  | .notin => inS x y h fun b => Q (.bl (!b)) h
def isTy (h : PH) (x : PV) (t : Ty) : Bool := match x, t with
  | .int _, .int => true | .bl _, .bool => true | .bl _, .int => true | .tup _, .tuple => true | .str _, .str => true
  | .ref _, .list => true | .rol _, .list => true
  | _, _ => false
/-- isinstance asks that a reference stands -/
def refOk (x : PV) (h : PH) : Prop := match x with | .ref a => (h a).isSome = true | _ => True
def isiS (x : PV) (ts : List Ty) (h : PH) (Q : QK) : Prop := refOk x h ∧ Q (.bl (ts.any (isTy h x))) h
def ixS (x y : PV) (h : PH) (Q : QK) : Prop := match x, y with
  | .str s, .int i => s.length ≤ 16777216 ∧ match (L2.ixN s.cps.toList.length i).bind fun j => s.cps.toList[j]? with | some c => Q (.str ⟨#[c]⟩) h | none => False
  | x, .int i => match seqOf x h with
    | some xs => match (L2.ixN xs.length i).bind fun j => xs[j]? with | some v => Q v h | none => False
    | none => False
  | _, _ => False
def cut {α : Type} (xs : List α) (lo hi : Option Int) : List α := (xs.drop (HT.sIx xs.length 0 lo)).take (HT.sIx xs.length xs.length hi - HT.sIx xs.length 0 lo)
def slS (x : PV) (lo hi : Option Int) (h : PH) (Q : QK) : Prop := match x with
  | .tup l => Q (.tup (cut l lo hi)) h
  | .rol l => newL h (cut l lo hi) Q
  | .ref a => match rdL h a with | some xs => newL h (cut xs lo hi) Q | none => False
  | _ => False
def intsOf : List PV → Option (List Int)
  | [] => some []
  | .int i :: r => (intsOf r).map (i :: ·)
  | _ :: _ => none
def blsOf : List PV → Option (List Bool)
  | [] => some []
  | .bl i :: r => (blsOf r).map (i :: ·)
  | _ :: _ => none
def bltS (b : Blt) (vs : List PV) (h : PH) (Q : QK) : Prop := match b, vs with
  | .len, [.str s] => s.length ≤ 16777216 ∧ Q (.int s.length) h
  | .len, [x] => match seqOf x h with | some xs => Q (.int xs.length) h | none => False
  | .abs, [.int i] => Q (.int (if i < 0 then -i else i)) h
  | .int, [.int i] => Q (.int i) h
  | .int, [.bl b] => Q (.int (if b then 1 else 0)) h
  | .max2, [.int i, .int j] => Q (.int (if j > i then j else i)) h
  | .min2, [.int i, .int j] => Q (.int (if j < i then j else i)) h
  | .sum, [.ref a] => match (rdL h a).bind intsOf with | some ns => Q (.int ns.sum) h | none => False
  | .all, [.ref a] => match (rdL h a).bind blsOf with | some ns => Q (.bl (ns.all id)) h | none => False
  | .any, [.ref a] => match (rdL h a).bind blsOf with | some ns => Q (.bl (ns.any id)) h | none => False
  | .max1, [.ref a] => match (rdL h a).bind intsOf with | some ns => 0 < ns.length ∧ ∀ m, m ∈ ns → (∀ y, y ∈ ns → y ≤ m) → Q (.int m) h | none => False
  | .min1, [.ref a] => match (rdL h a).bind intsOf with | some ns => 0 < ns.length ∧ ∀ m, m ∈ ns → (∀ y, y ∈ ns → m ≤ y) → Q (.int m) h | none => False
  | .tuple, [x] => match seqOf x h with | some xs => Q (.tup xs) h | none => False
  | .list, [x] => match seqOf x h with | some xs => newL h xs Q | none => False
  | .sorted, [.ref a] => match (rdL h a).bind intsOf with | some ns => ∀ ms : List Int, ms.Perm ns → ms.Pairwise (· ≤ ·) → newL h (ms.map PV.int) Q | none => False
  | _, _ => False
/-- a list's method: the value, the list behind it -/
def mthL (m : Mth) (xs vs : List PV) (Q : PV → List PV → Prop) : Prop := match m, vs with
  | .append, [y] => xs.length < 16777216 ∧ Q .non (xs ++ [y])
  | .pop, [] => match xs[xs.length - 1]? with | some y => Q y xs.dropLast | none => False
  | .popAt, [.int i] => (-(2 ^ 63) ≤ i ∧ i < 2 ^ 63) ∧ match L2.ixN xs.length i with
    | some k => match xs[k]? with | some y => Q y (xs.eraseIdx k) | none => False
    | none => False
  | _, _ => False
/-- the receiver is a list, ahead of the arguments -/
def lstOk (x : PV) (h : PH) (P : Prop) : Prop := match x with | .ref a => (match h a with | some (.lst _) => P | _ => False) | _ => False
def mthS (m : Mth) (x : PV) (vs : List PV) (h : PH) (Q : QK) : Prop := match x with
  | .ref a => match h a with
    | some (.lst xs) => mthL m xs vs fun y ys => Q y (pupd h a (.lst ys))
    | _ => False
  | _ => False
def wipe (σ : Sl) : List Nat → Sl
  | [] => σ
  | i :: r => wipe (σ.set i none) r
/-- o[i] = v -/
def setS (o i v : PV) (h : PH) (Q : PH → Prop) : Prop := match o, i with
  | .ref a, .int k => match h a with
    | some (.lst xs) => match L2.ixN xs.length k with | some j => Q (pupd h a (.lst (xs.set j v))) | none => False
    | _ => False
  | _, _ => False
/-- a comprehension: what is made so far, the items left -/
def cprL (ok : PH → Prop) (tg : PV → Sl → PH → (Sl → PH → Prop) → Prop) (c : Sl → PH → (Bool → PH → Prop) → Prop) (e : Sl → PH → QK → Prop) (σ : Sl) (Q : List PV → PH → Prop) : List PV → List PV → PH → Prop
  | acc, [], h => ok h ∧ Q acc h
  | acc, x :: xs, h => ok h ∧ tg x σ h fun σ2 h => c σ2 h fun b h =>
      if b = true then e σ2 h fun v h => acc.length < 16777216 ∧ cprL ok tg c e σ Q (acc ++ [v]) xs h else cprL ok tg c e σ Q acc xs h
/-- what is walked: the items, and that what holds them stands -/
abbrev RK := List PV → (PH → Prop) → PH → Prop
def rgL (lo hi : Int) : List PV := (List.range (hi - lo).toNat).map fun i => PV.int (lo + (i : Nat))
def okOf (v : PV) (xs : List PV) : PH → Prop := fun h => seqOf v h = some xs
def zipL (xs ys : List PV) : List PV := (xs.zip ys).map fun p => .tup [p.1, p.2]
def enumL (xs : List PV) : List PV := (List.range xs.length).zipWith (fun i x => .tup [.int (i : Nat), x]) xs
def seqS (v : PV) (h : PH) (P : List PV → Prop) : Prop := match seqOf v h with | some xs => P xs | none => False
/-- what is zipped is of one kind -/
def zipOk (x y : PV) : Prop := match x, y with | .tup _, .tup _ => True | .ref _, .ref _ => True | _, _ => False
def isRef (x : PV) : Prop := match x with | .ref _ => True | _ => False
/-- a number, two numbers -/
def intS (x : PV) (P : Int → Prop) : Prop := match x with | .int n => P n | _ => False
def int2S (x y : PV) (P : Int → Int → Prop) : Prop := match x, y with | .int m, .int n => P m n | _, _ => False
def small (i : Int) : Prop := -(2 ^ 62) ≤ i ∧ i < 2 ^ 62
def rgOk (a b : Int) : Prop := -(2 ^ 62) ≤ a ∧ a < 2 ^ 62 ∧ -(2 ^ 62) ≤ b ∧ b < 2 ^ 62 ∧ (b - a).toNat ≤ 2 ^ 24
mutual
def wE (C : CS) : E → Sl → PH → QK → XK → Prop
  | .k v, _, h, Q, _ => Q v h
  | .v i, σ, h, Q, _ => match σ[i]? with | some (some v) => Q v h | _ => False
  | .bin op a b, σ, h, Q, X => wE C a σ h (fun x h => wE C b σ h (fun y h => bopS op x y h Q) X) X
  | .neg a, σ, h, Q, X => wE C a σ h (fun x h => negS x h Q) X
  | .cmp op a b, σ, h, Q, X => wE C a σ h (fun x h => wE C b σ h (fun y h => copS op x y h Q) X) X
  | .chn op op' a b c, σ, h, Q, X => wE C a σ h (fun x h => wE C b σ h (fun y h => copS op x y h fun z h => match z with
      | .bl true => wE C c σ h (fun u h => copS op' y u h Q) X
      | .bl false => Q (.bl false) h
      | _ => False) X) X
  | .and a b, σ, h, Q, X => wE C a σ h (fun x h => truS x h fun c h => if c = true then wE C b σ h Q X else Q x h) X
  | .or a b, σ, h, Q, X => wE C a σ h (fun x h => truS x h fun c h => if c = true then Q x h else wE C b σ h Q X) X
  | .not a, σ, h, Q, X => wE C a σ h (fun x h => truS x h fun c h => Q (.bl (!c)) h) X
  | .ite c a b, σ, h, Q, X => wT C c σ h (fun c h => if c = true then wE C a σ h Q X else wE C b σ h Q X) X
  | .tup es, σ, h, Q, X => wEs C es σ h (fun vs h => vs.length ≤ 16777216 ∧ Q (.tup vs) h) X
  | .lst es, σ, h, Q, X => wEs C es σ h (fun vs h => vs.length ≤ 16777216 ∧ newL h vs Q) X
  | .call f es, σ, h, Q, X => wEs C es σ h (fun vs h => C f vs h Q X) X
  | .blt b es, σ, h, Q, X => wEs C es σ h (fun vs h => bltS b vs h Q) X
  | .isi a ts _, σ, h, Q, X => wE C a σ h (fun x h => isiS x ts h Q) X
  | .ix a b, σ, h, Q, X => wE C a σ h (fun x h => wE C b σ h (fun y h => ixS x y h Q) X) X
  | .sl a lo hi, σ, h, Q, X => wE C a σ h (fun x h => wEo C lo σ h (fun l h => wEo C hi σ h (fun u h => slS x l u h Q) X) X) X
  | .mth m a es, σ, h, Q, X => wE C a σ h (fun x h => lstOk x h (wEs C es σ h (fun vs h => mthS m x vs h Q) X)) X
  | .cpr g t c e own, σ, h, Q, X => wIt C g σ h (fun xs ok h =>
      cprL ok (fun v σ h Q => wTg C t v σ h Q) (fun σ h Q => wT C c σ h Q fun _ _ => False) (fun σ h Q => wE C e σ h Q fun _ _ => False) (wipe σ own) (fun acc h => newL h acc Q) [] xs h) X
  | .rg1 tp a, σ, h, Q, X => wE C a σ h (fun x h => intS x fun n => rgOk 0 n ∧ (if tp = true then Q (.tup (rgL 0 n)) h else newL h (rgL 0 n) Q)) X
  | .rg2 tp a b, σ, h, Q, X => wE C a σ h (fun x h => wE C b σ h (fun y h => int2S x y fun m n => rgOk m n ∧ (if tp = true then Q (.tup (rgL m n)) h else newL h (rgL m n) Q)) X) X
def wTg (C : CS) : Tg → PV → Sl → PH → (Sl → PH → Prop) → Prop
  | .nm i, x, σ, h, Q => Q (σ.set i (some x)) h
  | .tp ts, x, σ, h, Q => match x with | .tup l => l.length = tgsLen ts ∧ wTgs C ts l σ h Q | _ => False
  | .sub o i, x, σ, h, Q => wE C o σ h (fun ov h => wE C i σ h (fun iv h => setS ov iv x h fun h => Q σ h) fun _ _ => False) fun _ _ => False
def wTgs (C : CS) : Tgs → List PV → Sl → PH → (Sl → PH → Prop) → Prop
  | .nil, l, σ, h, Q => match l with | [] => Q σ h | _ => False
  | .cons t ts, l, σ, h, Q => match l with | v :: vs => wTg C t v σ h fun σ h => wTgs C ts vs σ h Q | [] => False
def wEs (C : CS) : Es → Sl → PH → (List PV → PH → Prop) → XK → Prop
  | .nil, _, h, Q, _ => Q [] h
  | .cons e es, σ, h, Q, X => wE C e σ h (fun v h => wEs C es σ h (fun vs h => Q (v :: vs) h) X) X
def wEo (C : CS) : Eo → Sl → PH → (Option Int → PH → Prop) → XK → Prop
  | .none, _, h, Q, _ => Q Option.none h
  | .some e, σ, h, Q, X => wE C e σ h (fun v h => intS v fun i => Q (Option.some i) h) X
def wT (C : CS) : T → Sl → PH → (Bool → PH → Prop) → XK → Prop
  | .e e, σ, h, Q, X => wE C e σ h (fun v h => truS v h Q) X
  | .and a b, σ, h, Q, X => wT C a σ h (fun c h => if c = true then wT C b σ h Q X else Q false h) X
  | .or a b, σ, h, Q, X => wT C a σ h (fun c h => if c = true then Q true h else wT C b σ h Q X) X
  | .not a, σ, h, Q, X => wT C a σ h (fun c h => Q (!c) h) X
  | .yes, _, h, Q, _ => Q true h
def wIt (C : CS) : It → Sl → PH → RK → XK → Prop
  | .seq e, σ, h, R, X => wE C e σ h (fun v h => seqS v h fun xs => R xs (okOf v xs) h) X
  | .rng1 a, σ, h, R, X => wE C a σ h (fun x h => intS x fun n => small n ∧ R (rgL 0 n) (fun _ => True) h) X
  | .rng2 a b, σ, h, R, X => wE C a σ h (fun x h => wE C b σ h (fun y h => int2S x y fun m n => (small m ∧ small n) ∧ R (rgL m n) (fun _ => True) h) X) X
  | .rev e, σ, h, R, X => wE C e σ h (fun v h => seqS v h fun xs => R xs.reverse (okOf v xs) h) X
  | .zip a b, σ, h, R, X => wE C a σ h (fun x h => wE C b σ h (fun y h => zipOk x y ∧ seqS x h fun xs => seqS y h fun ys => R (zipL xs ys) (fun h => okOf x xs h ∧ okOf y ys h) h) X) X
  | .enum a, σ, h, R, X => wE C a σ h (fun v h => isRef v ∧ seqS v h fun xs => R (enumL xs) (okOf v xs) h) X
end
structure Ends where
  nx : Sl → PH → Prop
  rt : QK
  bk : Sl → PH → Prop
  ct : Sl → PH → Prop
  ex : PX → Sl → PH → Prop
/-- an except suite -/
inductive Hd where
  | ret (v : PV) | asg (i : Nat) (v : PV)
mutual
inductive S where
  | ex (e : E) | asg (t : Tg) (e : E) | aug (i : Nat) (op : Bop) (e : E) | ret (e : E) | retN
  | ife (c : T) (a b : Ss) | whl (c : T) (b : Ss) | for (g : It) (t : Tg) (b : Ss) | pass | brk | cont
  | rai (c : Nat) | try (b : Ss) (hs : List (Nat × Hd))
inductive Ss where
  | nil | cons (s : S) (r : Ss)
end
def whlN (c : Sl → PH → (Bool → PH → Prop) → Prop) (b : Ends → Sl → PH → Prop) (D : Ends) : Nat → Sl → PH → Prop
  | 0 => fun _ _ => False
  | n + 1 => fun σ h => c σ h fun t h => if t = true then b { D with nx := whlN c b D n, ct := whlN c b D n, bk := D.nx } σ h else D.nx σ h
def forL (ok : PH → Prop) (tg : PV → Sl → PH → (Sl → PH → Prop) → Prop) (b : Ends → Sl → PH → Prop) (D : Ends) : List PV → Sl → PH → Prop
  | [] => fun σ h => ok h ∧ D.nx σ h
  | x :: xs => fun σ h => ok h ∧ tg x σ h fun σ h => b { D with nx := forL ok tg b D xs, ct := forL ok tg b D xs, bk := D.nx } σ h
def hdS (s : Hd) (D : Ends) (σ : Sl) (h : PH) : Prop := match s with
  | .ret v => D.rt v h
  | .asg i v => D.nx (σ.set i (some v)) h
def hdsS (sub : Nat → Nat → Bool) (x : PX) (D : Ends) (σ : Sl) (h : PH) : List (Nat × Hd) → Prop
  | [] => D.ex x σ h
  | (c, s) :: r => match x with | .own e => if sub e c = true then hdS s D σ h else hdsS sub x D σ h r
def augS (op : Bop) (x y : PV) (h : PH) (Q : QK) : Prop := match op, x, y with
  | .add, .int i, .int j => Q (.int (i + j)) h
  | .sub, .int i, .int j => Q (.int (i - j)) h
  | .mul, .int i, .int j => CMul i j ∧ Q (.int (i * j)) h
  | .add, .str i, .str j => i.length + j.length ≤ 16777216 ∧ Q (.str (i ++ j)) h
  | _, _, _ => False
mutual
def wS (sub : Nat → Nat → Bool) (C : CS) : S → Ends → Sl → PH → Prop
  | .ex e, D, σ, h => wE C e σ h (fun _ h => D.nx σ h) fun x h => D.ex x σ h
  | .asg t e, D, σ, h => wE C e σ h (fun v h => wTg C t v σ h D.nx) fun x h => D.ex x σ h
  | .aug i op e, D, σ, h => match σ[i]? with
    | some (some x) => wE C e σ h (fun y h => augS op x y h fun z h => D.nx (σ.set i (some z)) h) fun x h => D.ex x σ h
    | _ => False
  | .ret e, D, σ, h => wE C e σ h D.rt fun x h => D.ex x σ h
  | .retN, D, _, h => D.rt .non h
  | .ife c a b, D, σ, h => wT C c σ h (fun t h => if t = true then wSs sub C a D σ h else wSs sub C b D σ h) fun x h => D.ex x σ h
  | .whl c b, D, σ, h => ∃ n, whlN (fun σ h Q => wT C c σ h Q fun x h => D.ex x σ h) (wSs sub C b) D n σ h
  | .for g t b, D, σ, h => wIt C g σ h (fun xs ok h => forL ok (fun v σ h Q => wTg C t v σ h Q) (wSs sub C b) D xs σ h) fun x h => D.ex x σ h
  | .pass, D, σ, h => D.nx σ h
  | .brk, D, σ, h => D.bk σ h
  | .cont, D, σ, h => D.ct σ h
  | .rai c, D, σ, h => D.ex (.own c) σ h
  | .try b hs, D, σ, h => wSs sub C b { D with ex := fun x σ h => hdsS sub x D σ h hs } σ h
def wSs (sub : Nat → Nat → Bool) (C : CS) : Ss → Ends → Sl → PH → Prop
  | .nil, D, σ, h => D.nx σ h
  | .cons s r, D, σ, h => wS sub C s { D with nx := wSs sub C r D } σ h
end
/-- a def -/
structure Fn where
  np : Nat
  ns : Nat
  body : Ss
def startP (n : Nat) (vs : List PV) : Sl := vs.map some ++ List.replicate (n - vs.length) none
def endF (Q : QK) (X : XK) : Ends := { nx := fun _ h => Q .non h, rt := Q, bk := fun _ _ => False, ct := fun _ _ => False, ex := fun x _ h => X x h }
def callN (sub : Nat → Nat → Bool) (P : List Fn) : Nat → CS
  | 0 => fun _ _ _ _ _ => False
  | k + 1 => fun f vs h Q X => match P[f]? with
    | some d => vs.length = d.np ∧ wSs sub (callN sub P k) d.body (endF Q X) (startP d.ns vs) h
    | none => False
end Co
namespace Co
open PySem L2
open PySem.Spec PyProof.Rows
section
variable (K : PySem.W.Frag) (H : Hp)
/-- a list that nobody changes: the script's, or one that the top has written -/
def FzL (a : Addr) (vs : List V) : Prop := (∃ o, H a = some (.frz o (.lst vs))) ∨ SqL K (fun _ => none) a vs
mutual
def RepV : PV → V → Prop
  | .non, v => v = .non
  | .bl b, v => v = .bl b
  | .int i, v => v = .int i
  | .str s, v => v = .str s
  | .ref a, v => v = .ref a
  | .tup l, v => ∃ a vs, v = .ref a ∧ SqT K H a vs ∧ RepVs l vs
  | .rol l, v => ∃ a vs, v = .ref a ∧ FzL K H a vs ∧ RepVs l vs
def RepVs : List PV → List V → Prop
  | [], vs => vs = []
  | p :: ps, vs => ∃ v r, vs = v :: r ∧ RepV p v ∧ RepVs ps r
end
end
def RepO (K : PySem.W.Frag) (H : Hp) (a : Addr) : PO → Prop
  | .lst xs => ∃ vs, H a = some (.lst vs) ∧ RepVs K H xs vs
def RepH (K : PySem.W.Frag) (h : PH) (H : Hp) : Prop := ∀ a o, h a = some o → RepO K H a o
/-- what the pure heap does not know stands as it stood -/
def Fr (h : PH) (H : Hp) (h' : PH) (H' : Hp) : Prop := ∀ a o, h a = none → H a = some o → h' a = none ∧ H' a = some o
def RepS (K : PySem.W.Frag) (H : Hp) (pσ : Sl) (σ : L2.St) : Prop := pσ.length = σ.length ∧ ∀ (i : Nat) (pv : PV), pσ[i]? = some (some pv) → ∃ v, σ[i]? = some (some v) ∧ RepV K H pv v
section
variable {K : PySem.W.Frag} {h h' h2 : PH} {H H' H2 : Hp} {a p : Addr} {xs : List PV} {vs : List V} {pv : PV} {v : V}
theorem Fr.refl : Fr h H h H := fun _ _ x y => ⟨x, y⟩
theorem Fr.trans (f : Fr h H h' H') (g : Fr h' H' h2 H2) : Fr h H h2 H2 := fun a o x y => let ⟨p, q⟩ := f a o x y; g a o p q
theorem RepH.free (r : RepH K h H) (e : H p = none) : h p = none := by
  cases q : h p with
  | none => rfl
  | some o =>
    have z := r p o q
    cases o with
    | lst xs => obtain ⟨vs, e', _⟩ := z; rw [e] at e'; cases e'
theorem RepH.noTup (r : RepH K h H) (e : H a = some (.tup vs)) : h a = none := by
  cases q : h a with
  | none => rfl
  | some o =>
    have z := r a o q
    cases o with
    | lst xs => obtain ⟨vs, e', _⟩ := z; rw [e] at e'; cases e'
theorem RepH.noFrz {o : Obj} (r : RepH K h H) (e : H a = some (.frz o (.tup vs))) : h a = none := by
  cases q : h a with
  | none => rfl
  | some o =>
    have z := r a o q
    cases o with
    | lst xs => obtain ⟨vs, e', _⟩ := z; rw [e] at e'; cases e'
theorem RepH.noFrzL {o : Obj} (r : RepH K h H) (e : H a = some (.frz o (.lst vs))) : h a = none := by
  cases q : h a with
  | none => rfl
  | some o =>
    have z := r a o q
    cases o with
    | lst xs => obtain ⟨vs, e', _⟩ := z; rw [e] at e'; cases e'
/-- what stands is kept -/
def Ks (K : PySem.W.Frag) (H H' : Hp) : Prop := (∀ a vs, SqT K H a vs → SqT K H' a vs) ∧ ∀ a vs, FzL K H a vs → FzL K H' a vs
theorem FzL.sq (q : FzL K H a vs) : SqL K H a vs := by
  rcases q with ⟨o, q⟩ | (q | ⟨_, q⟩) | q
  · exact .inl (.inr ⟨o, q⟩)
  · cases q
  · cases q
  · exact .inr q
theorem SqT.keep (r : RepH K h H) (f : Fr h H h' H') (q : SqT K H a vs) : SqT K H' a vs := by
  rcases q with (q | ⟨o, q⟩) | q
  · exact .inl (.inl (f a _ (r.noTup q) q).2)
  · exact .inl (.inr ⟨o, (f a _ (r.noFrz q) q).2⟩)
  · exact .inr q
theorem Ks.keep (r : RepH K h H) (f : Fr h H h' H') : Ks K H H' := ⟨fun _ _ => SqT.keep r f, fun a vs q => by
  rcases q with ⟨o, q⟩ | q
  · exact .inl ⟨o, (f a _ (r.noFrzL q) q).2⟩
  · exact .inr q⟩
mutual
theorem RepV.mono (ks : Ks K H H') : ∀ (pv : PV) (v : V), RepV K H pv v → RepV K H' pv v
  | .non, _, r => by unfold RepV at *; exact r
  | .bl _, _, r => by unfold RepV at *; exact r
  | .int _, _, r => by unfold RepV at *; exact r
  | .str _, _, r => by unfold RepV at *; exact r
  | .ref _, _, r => by unfold RepV at *; exact r
  | .tup l, _, r => by
    unfold RepV at *
    obtain ⟨a, vs, e, q, z⟩ := r
    exact ⟨a, vs, e, ks.1 _ _ q, RepVs.mono ks l vs z⟩
  | .rol l, _, r => by
    unfold RepV at *
    obtain ⟨a, vs, e, q, z⟩ := r
    exact ⟨a, vs, e, ks.2 _ _ q, RepVs.mono ks l vs z⟩
theorem RepVs.mono (ks : Ks K H H') : ∀ (l : List PV) (vs : List V), RepVs K H l vs → RepVs K H' l vs
  | [], _, r => by unfold RepVs at *; exact r
  | p :: ps, _, r => by
    unfold RepVs at *
    obtain ⟨v, q, e, r1, r2⟩ := r
    exact ⟨v, q, e, RepV.mono ks p v r1, RepVs.mono ks ps q r2⟩
end
theorem RepV.keep (rh : RepH K h H) (f : Fr h H h' H') (r : RepV K H pv v) : RepV K H' pv v := RepV.mono (Ks.keep rh f) _ _ r
theorem RepVs.keep (rh : RepH K h H) (f : Fr h H h' H') (r : RepVs K H xs vs) : RepVs K H' xs vs := RepVs.mono (Ks.keep rh f) _ _ r
theorem RepS.keep {pσ : Sl} {σ : L2.St} (rh : RepH K h H) (f : Fr h H h' H') (r : RepS K H pσ σ) : RepS K H' pσ σ :=
  ⟨r.1, fun i pv e => let ⟨v, e', q⟩ := r.2 i pv e; ⟨v, e', q.keep rh f⟩⟩
theorem RepVs.nil_iff : RepVs K H [] vs ↔ vs = [] := by unfold RepVs; exact Iff.rfl
theorem RepVs.cons_iff {ps : List PV} : RepVs K H (pv :: ps) vs ↔ ∃ v r, vs = v :: r ∧ RepV K H pv v ∧ RepVs K H ps r := by
  constructor
  · intro q; unfold RepVs at q; exact q
  · intro q; unfold RepVs; exact q
theorem RepVs.length : ∀ {xs : List PV} {vs : List V}, RepVs K H xs vs → xs.length = vs.length
  | [], _, r => by rw [RepVs.nil_iff.mp r]; rfl
  | _ :: ps, _, r => by obtain ⟨v, q, rfl, _, r2⟩ := RepVs.cons_iff.mp r; simp [RepVs.length r2]
theorem RepVs.get : ∀ {xs : List PV} {vs : List V} {i : Nat} {pv : PV}, RepVs K H xs vs → xs[i]? = some pv → ∃ v, vs[i]? = some v ∧ RepV K H pv v
  | [], _, _, _, _, e => by simp at e
  | _ :: ps, _, 0, _, r, e => by
    obtain ⟨v, q, rfl, r1, _⟩ := RepVs.cons_iff.mp r
    simp at e; subst e
    exact ⟨v, rfl, r1⟩
  | _ :: ps, _, i + 1, _, r, e => by
    obtain ⟨v, q, rfl, _, r2⟩ := RepVs.cons_iff.mp r
    obtain ⟨v, e', r'⟩ := RepVs.get (i := i) r2 (by simpa using e)
    exact ⟨v, by simpa using e', r'⟩
theorem RepVs.append : ∀ {xs ys : List PV} {vs ws : List V}, RepVs K H xs vs → RepVs K H ys ws → RepVs K H (xs ++ ys) (vs ++ ws)
  | [], _, _, _, r, s => by rw [RepVs.nil_iff.mp r]; exact s
  | _ :: ps, _, _, _, r, s => by
    obtain ⟨v, q, rfl, r1, r2⟩ := RepVs.cons_iff.mp r
    exact RepVs.cons_iff.mpr ⟨v, _, rfl, r1, RepVs.append r2 s⟩
theorem RepVs.take : ∀ {xs : List PV} {vs : List V} (n : Nat), RepVs K H xs vs → RepVs K H (xs.take n) (vs.take n)
  | _, _, 0, _ => by simp [RepVs.nil_iff]
  | [], _, n + 1, r => by rw [RepVs.nil_iff.mp r]; simp [RepVs.nil_iff]
  | _ :: ps, _, n + 1, r => by
    obtain ⟨v, q, rfl, r1, r2⟩ := RepVs.cons_iff.mp r
    exact RepVs.cons_iff.mpr ⟨v, _, rfl, r1, RepVs.take n r2⟩
theorem RepVs.drop : ∀ {xs : List PV} {vs : List V} (n : Nat), RepVs K H xs vs → RepVs K H (xs.drop n) (vs.drop n)
  | _, _, 0, r => by simpa using r
  | [], _, n + 1, r => by rw [RepVs.nil_iff.mp r]; simp [RepVs.nil_iff]
  | _ :: ps, _, n + 1, r => by
    obtain ⟨v, q, rfl, r1, r2⟩ := RepVs.cons_iff.mp r
    exact RepVs.drop n r2
theorem RepVs.set : ∀ {xs : List PV} {vs : List V} (i : Nat) {pv : PV} {v : V}, RepV K H pv v → RepVs K H xs vs → RepVs K H (xs.set i pv) (vs.set i v)
  | [], _, _, _, _, _, r => by rw [RepVs.nil_iff.mp r]; simp [RepVs.nil_iff]
  | _ :: ps, _, 0, _, _, q, r => by
    obtain ⟨v, w, rfl, r1, r2⟩ := RepVs.cons_iff.mp r
    exact RepVs.cons_iff.mpr ⟨_, _, rfl, q, r2⟩
  | _ :: ps, _, i + 1, _, _, q, r => by
    obtain ⟨v, w, rfl, r1, r2⟩ := RepVs.cons_iff.mp r
    exact RepVs.cons_iff.mpr ⟨_, _, rfl, r1, RepVs.set i q r2⟩
theorem RepVs.eraseIdx : ∀ {xs : List PV} {vs : List V} (i : Nat), RepVs K H xs vs → RepVs K H (xs.eraseIdx i) (vs.eraseIdx i)
  | [], _, _, r => by rw [RepVs.nil_iff.mp r]; simp [RepVs.nil_iff]
  | _ :: ps, _, 0, r => by
    obtain ⟨v, w, rfl, r1, r2⟩ := RepVs.cons_iff.mp r
    exact r2
  | _ :: ps, _, i + 1, r => by
    obtain ⟨v, w, rfl, r1, r2⟩ := RepVs.cons_iff.mp r
    exact RepVs.cons_iff.mpr ⟨_, _, rfl, r1, RepVs.eraseIdx i r2⟩
theorem RepVs.dropLast (r : RepVs K H xs vs) : RepVs K H xs.dropLast vs.dropLast := by
  rw [List.dropLast_eq_take, List.dropLast_eq_take, r.length]
  exact r.take _
theorem RepVs.reverse : ∀ {xs : List PV} {vs : List V}, RepVs K H xs vs → RepVs K H xs.reverse vs.reverse
  | [], _, r => by rw [RepVs.nil_iff.mp r]; simp [RepVs.nil_iff]
  | _ :: ps, _, r => by
    obtain ⟨v, w, rfl, r1, r2⟩ := RepVs.cons_iff.mp r
    (rw [List.reverse_cons]; rw [List.reverse_cons])
    exact (RepVs.reverse r2).append (RepVs.cons_iff.mpr ⟨_, _, rfl, r1, RepVs.nil_iff.mpr rfl⟩)
theorem Fr.new {o : PO} {u : HO} (e : H p = none) : Fr h H (pupd h p o) (upd H p u) := fun b w x y => by
  have hb : b ≠ p := fun z => by subst z; rw [e] at y; cases y
  exact ⟨by unfold pupd; rw [if_neg hb]; exact x, by rw [upd_ne hb]; exact y⟩
theorem Fr.tup {u : HO} (e : H p = none) : Fr h H h (upd H p u) := fun b w x y => by
  have hb : b ≠ p := fun z => by subst z; rw [e] at y; cases y
  exact ⟨x, by rw [upd_ne hb]; exact y⟩
theorem Fr.set {o o' : PO} {u : HO} (e : h a = some o) : Fr h H (pupd h a o') (upd H a u) := fun b w x y => by
  have hb : b ≠ a := fun z => by subst z; rw [e] at x; cases x
  exact ⟨by unfold pupd; rw [if_neg hb]; exact x, by rw [upd_ne hb]; exact y⟩
theorem RepO.keep {o : PO} (rh : RepH K h H) (f : Fr h H h' H') (e : H' a = H a) (r : RepO K H a o) : RepO K H' a o := by
  cases o with
  | lst xs => obtain ⟨vs, q, r⟩ := r; exact ⟨vs, e.trans q, r.keep rh f⟩
theorem RepH.new (rh : RepH K h H) (e : H p = none) (r : RepVs K H xs vs) : RepH K (pupd h p (.lst xs)) (upd H p (.lst vs)) := fun b o q => by
  have f : Fr h H (pupd h p (.lst xs)) (upd H p (.lst vs)) := Fr.new e
  by_cases hb : b = p
  · subst hb
    unfold pupd at q; rw [if_pos rfl] at q; cases q
    exact ⟨vs, upd_same, r.keep rh f⟩
  · unfold pupd at q; rw [if_neg hb] at q
    exact (rh b o q).keep rh f (upd_ne hb)
theorem RepH.tup {u : HO} (rh : RepH K h H) (e : H p = none) : RepH K h (upd H p u) := fun b o q => by
  have hb : b ≠ p := fun z => by subst z; rw [rh.free e] at q; cases q
  exact (rh b o q).keep rh (Fr.tup e) (upd_ne hb)
theorem RepH.set {o : PO} (rh : RepH K h H) (e : h a = some o) (r : RepVs K H xs vs) : RepH K (pupd h a (.lst xs)) (upd H a (.lst vs)) := fun b o q => by
  have f : Fr h H (pupd h a (.lst xs)) (upd H a (.lst vs)) := Fr.set e
  by_cases hb : b = a
  · subst hb
    unfold pupd at q; rw [if_pos rfl] at q; cases q
    exact ⟨vs, upd_same, r.keep rh f⟩
  · unfold pupd at q; rw [if_neg hb] at q
    exact (rh b o q).keep rh f (upd_ne hb)
end
def Lk (K : PySem.W.Frag) (h : PH) (H : Hp) (Q' : QK) (Q : VK) : Prop := ∀ pv h' v H', RepV K H' pv v → RepH K h' H' → Fr h H h' H' → Q' pv h' → Q v H'
def LkA (K : PySem.W.Frag) (h : PH) (H : Hp) (Q' : List PV → PH → Prop) (Q : List V → Hp → Prop) : Prop := ∀ pv h' v H', RepVs K H' pv v → RepH K h' H' → Fr h H h' H' → Q' pv h' → Q v H'
/-- a thing that is the same on both sides -/
def LkC {α : Type} (K : PySem.W.Frag) (h : PH) (H : Hp) (Q' : α → PH → Prop) (Q : α → Hp → Prop) : Prop := ∀ b h' H', RepH K h' H' → Fr h H h' H' → Q' b h' → Q b H'
def LkS (K : PySem.W.Frag) (h : PH) (H : Hp) (Q' : Sl → PH → Prop) (Q : L2.St → Hp → Prop) : Prop := ∀ pσ h' σ H', RepS K H' pσ σ → RepH K h' H' → Fr h H h' H' → Q' pσ h' → Q σ H'
def RepX (ea : Nat → Addr) : PX → Value → Option Addr → Prop
  | .own c, cls, d => cls = .ref (ea c) ∧ d = none
def LkX (ea : Nat → Addr) (K : PySem.W.Frag) (h : PH) (H : Hp) (X' : XK) (σ : L2.St) (W : WX) : Prop := ∀ x h' cls d H', RepX ea x cls d → RepH K h' H' → Fr h H h' H' → X' x h' → W cls d σ H'
def LkXS (ea : Nat → Addr) (K : PySem.W.Frag) (h : PH) (H : Hp) (X' : PX → Sl → PH → Prop) (W : WX) : Prop := ∀ x pσ h' cls d σ H', RepX ea x cls d → RepS K H' pσ σ → RepH K h' H' → Fr h H h' H' → X' x pσ h' → W cls d σ H'
section
variable {K : PySem.W.Frag} {h h' : PH} {H H' : Hp} {ea : Nat → Addr} {α : Type}
theorem Lk.keep {Q' : QK} {Q : VK} (l : Lk K h H Q' Q) (f : Fr h H h' H') : Lk K h' H' Q' Q := fun pv h2 v H2 r rh g q => l pv h2 v H2 r rh (f.trans g) q
theorem LkA.keep {Q' : List PV → PH → Prop} {Q : List V → Hp → Prop} (l : LkA K h H Q' Q) (f : Fr h H h' H') : LkA K h' H' Q' Q := fun pv h2 v H2 r rh g q => l pv h2 v H2 r rh (f.trans g) q
theorem LkC.keep {Q' : α → PH → Prop} {Q : α → Hp → Prop} (l : LkC K h H Q' Q) (f : Fr h H h' H') : LkC K h' H' Q' Q := fun b h2 H2 rh g q => l b h2 H2 rh (f.trans g) q
theorem LkS.keep {Q' : Sl → PH → Prop} {Q : L2.St → Hp → Prop} (l : LkS K h H Q' Q) (f : Fr h H h' H') : LkS K h' H' Q' Q := fun b h2 v H2 r rh g q => l b h2 v H2 r rh (f.trans g) q
theorem LkX.keep {X' : XK} {σ : L2.St} {W : WX} (l : LkX ea K h H X' σ W) (f : Fr h H h' H') : LkX ea K h' H' X' σ W := fun x h2 c d H2 r rh g q => l x h2 c d H2 r rh (f.trans g) q
theorem LkXS.keep {X' : PX → Sl → PH → Prop} {W : WX} (l : LkXS ea K h H X' W) (f : Fr h H h' H') : LkXS ea K h' H' X' W := fun x p h2 c d σ H2 r rs rh g q => l x p h2 c d σ H2 r rs rh (f.trans g) q
end
section
variable (ea : Nat → Addr) (K : PySem.W.Frag) (W : WX)
/-- an expression's -/
def lE (t : Sl → PH → QK → XK → Prop) : TE := fun σ H Q => ∃ pσ h Q' X', RepS K H pσ σ ∧ RepH K h H ∧ t pσ h Q' X' ∧ Lk K h H Q' Q ∧ LkX ea K h H X' σ W
def lA (t : Sl → PH → (List PV → PH → Prop) → XK → Prop) : TA := fun σ H Q => ∃ pσ h Q' X', RepS K H pσ σ ∧ RepH K h H ∧ t pσ h Q' X' ∧ LkA K h H Q' Q ∧ LkX ea K h H X' σ W
def lC {α : Type} (t : Sl → PH → (α → PH → Prop) → XK → Prop) : L2.St → Hp → (α → Hp → Prop) → Prop := fun σ H Q => ∃ pσ h Q' X', RepS K H pσ σ ∧ RepH K h H ∧ t pσ h Q' X' ∧ LkC K h H Q' Q ∧ LkX ea K h H X' σ W
end
section
variable {ea : Nat → Addr} {K : PySem.W.Frag} {W : WX} {σ : L2.St} {H : Hp} {X : Cx}
theorem PE.imp {e : Expr} {t t' : TE} (p : PE X e t') (h : ∀ σ H Q, t σ H Q → t' σ H Q) : PE X e t := ⟨fun pins s σ H Q I q => p.run pins s σ H Q I (h σ H Q q)⟩
theorem PT.imp {e : Expr} {t t' : TT} (p : PT X e t') (h : ∀ σ H Q, t σ H Q → t' σ H Q) : PT X e t := ⟨fun pins s σ H Q I q => p.run pins s σ H Q I (h σ H Q q)⟩
theorem PA.imp {e : List Expr} {t t' : TA} (p : PA X e t') (h : ∀ σ H Q, t σ H Q → t' σ H Q) : PA X e t := ⟨fun pos pins s σ H Q I q => p.run pos pins s σ H Q I (h σ H Q q)⟩
theorem PS.imp {e : Stmt} {t t' : TS} (p : PS X e t') (h : ∀ D σ H, t D σ H → t' D σ H) : PS X e t := ⟨fun pins s σ H D I q => p.run pins s σ H D I (h D σ H q)⟩
theorem PSs.imp {e : List Stmt} {t t' : TS} (p : PSs X e t') (h : ∀ D σ H, t D σ H → t' D σ H) : PSs X e t := ⟨fun pins s σ H D I q => p.run pins s σ H D I (h D σ H q)⟩
theorem PG.imp {e : Expr} {t t' : TG} (p : PG X e t') (h : ∀ v σ H Q, t v σ H Q → t' v σ H Q) : PG X e t := ⟨fun pins s σ H v u Q I r q => p.run pins s σ H v u Q I r (h v σ H Q q)⟩
/-- one part, then what follows -/
theorem lE_seq {β : Type} {γ : Type} {LQ : PH → Hp → (β → PH → Prop) → γ → Prop} {ta : Sl → PH → QK → XK → Prop} {tk : PV → Sl → PH → (β → PH → Prop) → XK → Prop} {Q : γ} {R : VK}
    (hl : ∀ {h h' : PH} {H H' : Hp} {Q' : β → PH → Prop}, LQ h H Q' Q → Fr h H h' H' → LQ h' H' Q' Q)
    (h : ∃ pσ h Q' X', RepS K H pσ σ ∧ RepH K h H ∧ ta pσ h (fun x h1 => tk x pσ h1 Q' X') X' ∧ LQ h H Q' Q ∧ LkX ea K h H X' σ W)
    (hk : ∀ pσ h1 pv v H1 Q' X', Ks K H H1 → RepS K H1 pσ σ → RepH K h1 H1 → RepV K H1 pv v → tk pv pσ h1 Q' X' → LQ h1 H1 Q' Q → LkX ea K h1 H1 X' σ W → R v H1) : lE ea K W ta σ H R := by
  obtain ⟨pσ, h, Q', X', rs, rh, ht, lk, lx⟩ := h
  exact ⟨pσ, h, _, X', rs, rh, ht, fun pv h1 v H1 rv rh1 fr q => hk pσ h1 pv v H1 Q' X' (Ks.keep rh fr) (rs.keep rh fr) rh1 rv q (hl lk fr) (lx.keep fr), lx⟩
theorem lA_seq {β : Type} {γ : Type} {LQ : PH → Hp → (β → PH → Prop) → γ → Prop} {ta : Sl → PH → (List PV → PH → Prop) → XK → Prop} {tk : List PV → Sl → PH → (β → PH → Prop) → XK → Prop} {Q : γ} {R : List V → Hp → Prop}
    (hl : ∀ {h h' : PH} {H H' : Hp} {Q' : β → PH → Prop}, LQ h H Q' Q → Fr h H h' H' → LQ h' H' Q' Q)
    (h : ∃ pσ h Q' X', RepS K H pσ σ ∧ RepH K h H ∧ ta pσ h (fun x h1 => tk x pσ h1 Q' X') X' ∧ LQ h H Q' Q ∧ LkX ea K h H X' σ W)
    (hk : ∀ pσ h1 pv v H1 Q' X', Ks K H H1 → RepS K H1 pσ σ → RepH K h1 H1 → RepVs K H1 pv v → tk pv pσ h1 Q' X' → LQ h1 H1 Q' Q → LkX ea K h1 H1 X' σ W → R v H1) : lA ea K W ta σ H R := by
  obtain ⟨pσ, h, Q', X', rs, rh, ht, lk, lx⟩ := h
  exact ⟨pσ, h, _, X', rs, rh, ht, fun pv h1 v H1 rv rh1 fr q => hk pσ h1 pv v H1 Q' X' (Ks.keep rh fr) (rs.keep rh fr) rh1 rv q (hl lk fr) (lx.keep fr), lx⟩
theorem lC_seq {α : Type} {β : Type} {γ : Type} {LQ : PH → Hp → (β → PH → Prop) → γ → Prop} {ta : Sl → PH → (α → PH → Prop) → XK → Prop} {tk : α → Sl → PH → (β → PH → Prop) → XK → Prop} {Q : γ} {R : α → Hp → Prop}
    (hl : ∀ {h h' : PH} {H H' : Hp} {Q' : β → PH → Prop}, LQ h H Q' Q → Fr h H h' H' → LQ h' H' Q' Q)
    (h : ∃ pσ h Q' X', RepS K H pσ σ ∧ RepH K h H ∧ ta pσ h (fun x h1 => tk x pσ h1 Q' X') X' ∧ LQ h H Q' Q ∧ LkX ea K h H X' σ W)
    (hk : ∀ pσ h1 b H1 Q' X', Ks K H H1 → RepS K H1 pσ σ → RepH K h1 H1 → tk b pσ h1 Q' X' → LQ h1 H1 Q' Q → LkX ea K h1 H1 X' σ W → R b H1) : lC ea K W ta σ H R := by
  obtain ⟨pσ, h, Q', X', rs, rh, ht, lk, lx⟩ := h
  exact ⟨pσ, h, _, X', rs, rh, ht, fun b h1 H1 rh1 fr q => hk pσ h1 b H1 Q' X' (Ks.keep rh fr) (rs.keep rh fr) rh1 q (hl lk fr) (lx.keep fr), lx⟩
end
section
variable (K : PySem.W.Frag)
def Ok1 (s : PV → PH → QK → Prop) (r : V → Hp → VK → Prop) : Prop := ∀ x h Q' vx H Q, RepV K H x vx → RepH K h H → s x h Q' → Lk K h H Q' Q → r vx H Q
def Ok2 (s : PV → PV → PH → QK → Prop) (r : R2) : Prop := ∀ x y h Q' vx vy H Q, RepV K H x vx → RepV K H y vy → RepH K h H → s x y h Q' → Lk K h H Q' Q → r vx vy H Q
def OkL (s : List PV → PH → QK → Prop) (r : List V → Hp → VK → Prop) : Prop := ∀ xs h Q' vs H Q, RepVs K H xs vs → RepH K h H → s xs h Q' → Lk K h H Q' Q → r vs H Q
end
section
variable {K : PySem.W.Frag} {h : PH} {H : Hp} {v : V}
theorem rep_int {i : Int} (r : RepV K H (.int i) v) : v = .int i := by unfold RepV at r; exact r
theorem rep_bl {i : Bool} (r : RepV K H (.bl i) v) : v = .bl i := by unfold RepV at r; exact r
theorem rep_str {i : Str} (r : RepV K H (.str i) v) : v = .str i := by unfold RepV at r; exact r
theorem rep_non (r : RepV K H .non v) : v = .non := by unfold RepV at r; exact r
theorem rep_ref {a : Nat} (r : RepV K H (.ref a) v) : v = .ref a := by unfold RepV at r; exact r
theorem rep_tup {l : List PV} (r : RepV K H (.tup l) v) : ∃ a vs, v = .ref a ∧ SqT K H a vs ∧ RepVs K H l vs := by unfold RepV at r; exact r
theorem rep_rol {l : List PV} (r : RepV K H (.rol l) v) : ∃ a vs, v = .ref a ∧ FzL K H a vs ∧ RepVs K H l vs := by unfold RepV at r; exact r
theorem int_rep {i : Int} : RepV K H (.int i) (.int i) := by unfold RepV; rfl
theorem bl_rep {i : Bool} : RepV K H (.bl i) (.bl i) := by unfold RepV; rfl
theorem str_rep {i : Str} : RepV K H (.str i) (.str i) := by unfold RepV; rfl
theorem non_rep : RepV K H .non .non := by unfold RepV; rfl
theorem ref_rep {a : Nat} : RepV K H (.ref a) (.ref a) := by unfold RepV; rfl
theorem rol_rep {l : List PV} {a : Addr} {vs : List V} (q : FzL K H a vs) (r : RepVs K H l vs) : RepV K H (.rol l) (.ref a) := by unfold RepV; exact ⟨a, vs, rfl, q, r⟩
theorem tup_rep {l : List PV} {a : Addr} {vs : List V} (q : SqT K H a vs) (r : RepVs K H l vs) : RepV K H (.tup l) (.ref a) := by unfold RepV; exact ⟨a, vs, rfl, q, r⟩
/-- a list that is read -/
theorem rdL_rep {a : Nat} {xs : List PV} (rh : RepH K h H) (e : rdL h a = some xs) : ∃ vs, SqL K H a vs ∧ RepVs K H xs vs := by
  unfold rdL at e
  split at e
  · rename_i ys q
    cases e
    obtain ⟨vs, e', r⟩ := rh a _ q
    exact ⟨vs, .inl (.inl e'), r⟩
  · cases e
/-- a list or tuple that is read -/
theorem seqOf_rep {x : PV} {xs : List PV} (rv : RepV K H x v) (rh : RepH K h H) (e : seqOf x h = some xs) : ∃ p vs, v = .ref p ∧ (SqL K H p vs ∨ SqT K H p vs) ∧ RepVs K H xs vs := by
  unfold seqOf at e
  split at e
  · cases e
    obtain ⟨a, vs, e', q, r⟩ := rep_tup rv
    exact ⟨a, vs, e', .inr q, r⟩
  · cases e
    obtain ⟨a, vs, e', q, r⟩ := rep_rol rv
    exact ⟨a, vs, e', .inl q.sq, r⟩
  · obtain ⟨vs, q, r⟩ := rdL_rep rh e
    exact ⟨_, vs, rep_ref rv, .inl q, r⟩
  · cases e
/-- a list laid anew -/
theorem newL_rep {xs : List PV} {vs : List V} {Q' : QK} {Q : VK} (rh : RepH K h H) (r : RepVs K H xs vs) (n : newL h xs Q') (lk : Lk K h H Q' Q) : ∀ p, H p = none → Q (.ref p) (upd H p (.lst vs)) := fun p e =>
  lk _ _ _ _ ref_rep (rh.new e r) (Fr.new e) (n p (rh.free e))
theorem newT_rep {xs : List PV} {vs : List V} {Q' : QK} {Q : VK} (rh : RepH K h H) (r : RepVs K H xs vs) (n : Q' (.tup xs) h) (lk : Lk K h H Q' Q) : ∀ p, H p = none → Q (.ref p) (upd H p (.tup vs)) := fun p e =>
  lk _ _ _ _ (tup_rep (SqT.of upd_same) (r.keep rh (Fr.tup e))) (rh.tup e) (Fr.tup e) n
end
end Co
namespace Co
open PySem L2
open PySem.Spec PyProof.Rows
theorem line16 : sizeLine = 16777216 := sizeLine_eq
section
variable {K : PySem.W.Frag} {X : Cx} {h : PH} {H : Hp}
theorem OpR.imp {f : Value → Value → Sem Value} {r r' : R2} (h : OpR X f r') (i : ∀ x y H Q, r x y H Q → r' x y H Q) : OpR X f r := fun pins s σ H x y v u Q I rx ry q => h pins s σ H x y v u Q I rx ry (i x y H Q q)
def rStr2 : R2 := fun x y H Q => ∃ i j, x = .str i ∧ y = .str j ∧ i.length + j.length ≤ sizeLine ∧ Q (.str (i ++ j)) H
def rAdd (K : PySem.W.Frag) : R2 := fun x y H Q => rI0 (fun i j => .int (i + j)) x y H Q ∨ rStr2 x y H Q ∨ rCatA K x y H Q ∨ rCat x y H Q
theorem r_add : OpR X (binaryOp .Add) (rAdd X.K) := op_add.or (op_add_str.or (op_catA.or op_cat))
theorem ok_add : Ok2 K (bopS .add) (rAdd K) := by
  intro x y h Q' vx vy H Q rx ry rh q lk
  cases x <;> cases y <;> try exact False.elim q
  · rename_i i j
    exact .inl ⟨i, j, rep_int rx, rep_int ry, lk _ _ _ _ int_rep rh Fr.refl q⟩
  · rename_i i j
    exact .inr (.inl ⟨i, j, rep_str rx, rep_str ry, by rw [line16]; exact q.1, lk _ _ _ _ str_rep rh Fr.refl q.2⟩)
  · rename_i l m
    obtain ⟨a, vs, ea, qa, ra⟩ := rep_tup rx
    obtain ⟨b, ws, eb, qb, rb⟩ := rep_tup ry
    obtain ⟨q1, q2⟩ : l.length + m.length ≤ 16777216 ∧ Q' (.tup (l ++ m)) h := q
    refine .inr (.inr (.inl ⟨a, b, vs, ws, ea, eb, qa, qb, by rw [line16, ← ra.length, ← rb.length]; exact q1, fun e => ?_, fun _ e => ?_, fun _ _ => ?_⟩))
    · subst e
      have hl : l = [] := List.length_eq_zero_iff.mp ra.length
      subst hl
      exact lk _ _ _ _ (tup_rep qb rb) rh Fr.refl q2
    · subst e
      have hl : m = [] := List.length_eq_zero_iff.mp rb.length
      subst hl
      rw [List.append_nil] at q2
      exact lk _ _ _ _ (tup_rep qa ra) rh Fr.refl q2
    · exact newT_rep rh (ra.append rb) q2 lk
  · rename_i a b
    have q' : (match h a, h b with
      | some (.lst xs), some (.lst ys) => xs.length + ys.length ≤ 16777216 ∧ newL h (xs ++ ys) Q'
      | _, _ => False) := q
    split at q'
    · rename_i xs ys ha hb
      obtain ⟨vs, ea, ra⟩ := rh _ _ ha
      obtain ⟨ws, eb, rb⟩ := rh _ _ hb
      exact .inr (.inr (.inr ⟨a, b, vs, ws, rep_ref rx, rep_ref ry, ea, eb, by rw [line16, ← ra.length, ← rb.length]; exact q'.1, newL_rep rh (ra.append rb) q'.2 lk⟩))
    · exact q'.elim
theorem r_sub : OpR X (binaryOp .Sub) (rI0 fun i j => .int (i - j)) := op_sub
theorem ok_int {C : Int → Int → Prop} {g : Int → Int → Int} {s : PV → PV → PH → QK → Prop} (hs : ∀ x y h Q, s x y h Q → ∃ i j, x = .int i ∧ y = .int j ∧ C i j ∧ Q (.int (g i j)) h) : Ok2 K s (rI C fun i j => .int (g i j)) := by
  intro x y h Q' vx vy H Q rx ry rh q lk
  obtain ⟨i, j, rfl, rfl, c, q1⟩ := hs x y h Q' q
  exact ⟨i, j, rep_int rx, rep_int ry, c, lk _ _ _ _ int_rep rh Fr.refl q1⟩
theorem ok_int0 {g : Int → Int → Int} {s : PV → PV → PH → QK → Prop} (hs : ∀ x y h Q, s x y h Q → ∃ i j, x = .int i ∧ y = .int j ∧ Q (.int (g i j)) h) : Ok2 K s (rI0 fun i j => .int (g i j)) := by
  intro x y h Q' vx vy H Q rx ry rh q lk
  obtain ⟨i, j, rfl, rfl, q1⟩ := hs x y h Q' q
  exact ⟨i, j, rep_int rx, rep_int ry, lk _ _ _ _ int_rep rh Fr.refl q1⟩
theorem ok_sub : Ok2 K (bopS .sub) (rI0 fun i j => .int (i - j)) := ok_int0 fun x y h Q q => by
  cases x <;> cases y <;> first | exact False.elim q | exact ⟨_, _, rfl, rfl, q⟩
theorem ok_mul : Ok2 K (bopS .mul) (rI CMulW fun i j => .int (i * j)) := ok_int fun x y h Q q => by
  cases x <;> cases y <;> first | exact False.elim q | exact ⟨_, _, rfl, rfl, q.1, q.2⟩
theorem ok_fdiv : Ok2 K (bopS .fdiv) (rI CDivW fun i j => .int (i / j)) := ok_int fun x y h Q q => by
  cases x <;> cases y <;> first | exact False.elim q | exact ⟨_, _, rfl, rfl, q.1, q.2⟩
theorem ok_mod : Ok2 K (bopS .mod) (rI (fun _ j => 0 < j) fun i j => .int (i % j)) := ok_int fun x y h Q q => by
  cases x <;> cases y <;> first | exact False.elim q | exact ⟨_, _, rfl, rfl, q.1, q.2⟩
theorem ok_pow : Ok2 K (bopS .pow) (rI L2.CPow fun i j => .int (i ^ j.toNat)) := ok_int fun x y h Q q => by
  cases x <;> cases y <;> first | exact False.elim q | exact ⟨_, _, rfl, rfl, q.1, q.2⟩
/-- the operator's name in the text -/
def opOf : Operator → Option Bop
  | .Add => some .add | .Sub => some .sub | .Mult => some .mul | .FloorDiv => some .fdiv | .Mod => some .mod | .Pow => some .pow | _ => none
theorem r_bop {op : Operator} {b : Bop} (e : opOf op = some b) : ∃ r, OpR X (binaryOp op) r ∧ Ok2 X.K (bopS b) r := by
  cases op <;> cases e
  · exact ⟨_, r_add, ok_add⟩
  · exact ⟨_, op_sub, ok_sub⟩
  · exact ⟨_, op_mulW, ok_mul⟩
  · exact ⟨_, op_mod, ok_mod⟩
  · exact ⟨_, op_pow, ok_pow⟩
  · exact ⟨_, op_fdivW, ok_fdiv⟩
theorem rdL_isEmpty {xs : List PV} {vs : List V} (r : RepVs K H xs vs) : (!xs.isEmpty) = !vs.isEmpty := by
  have := r.length
  cases xs <;> cases vs <;> simp at this ⊢
theorem ok_tru {x : PV} {vx : V} {Q' : Bool → PH → Prop} {Q : Bool → Hp → Prop} (rx : RepV K H x vx) (rh : RepH K h H) (q : truS x h Q') (lk : LkC K h H Q' Q) : ∃ k, TruV K vx H k ∧ Q k H := by
  cases x with
  | non => rw [rep_non rx]; exact ⟨false, rfl, lk _ _ _ rh Fr.refl q⟩
  | bl b => rw [rep_bl rx]; exact ⟨b, rfl, lk _ _ _ rh Fr.refl q⟩
  | int i => rw [rep_int rx]; exact ⟨_, rfl, lk _ _ _ rh Fr.refl q⟩
  | str s =>
    rw [rep_str rx]
    obtain ⟨q1, q2⟩ : s.length ≤ 16777216 ∧ Q' (s.length != 0) h := q
    refine ⟨s.length != 0, ⟨by rw [line16]; exact q1, ?_⟩, lk _ _ _ rh Fr.refl q2⟩
    cases hs : s.length with
    | zero => rfl
    | succ n =>
      symm
      rw [show ((n + 1 : Nat) != 0) = true from rfl]
      simp only [bne_iff_ne]; omega
  | tup l =>
    obtain ⟨a, vs, e, q1, r⟩ := rep_tup rx
    subst e
    exact ⟨!l.isEmpty, .inr (.inl ⟨vs, q1, rdL_isEmpty r⟩), lk _ _ _ rh Fr.refl q⟩
  | rol l =>
    obtain ⟨a, vs, e, q1, r⟩ := rep_rol rx
    subst e
    exact ⟨!l.isEmpty, .inl ⟨vs, q1.sq, rdL_isEmpty r⟩, lk _ _ _ rh Fr.refl q⟩
  | ref a =>
    rw [rep_ref rx]
    have q' : (match rdL h a with | some xs => Q' (!xs.isEmpty) h | none => False) := q
    split at q'
    · rename_i xs e
      obtain ⟨vs, q1, r⟩ := rdL_rep rh e
      exact ⟨!xs.isEmpty, .inl ⟨vs, q1, rdL_isEmpty r⟩, lk _ _ _ rh Fr.refl q'⟩
    · exact q'.elim
mutual
theorem toD_dp (rh : RepH K h H) : ∀ (n : Nat) (x : PV) (v : V) (d : PyData), RepV K H x v → toD h n x = some d → Dp K H v d ∧ d.canLay0 = true ∧ d.depth ≤ n
  | n, .non, v, d, r, e => by
    rw [rep_non r]
    cases n <;> (simp only [toD] at e; cases e; exact ⟨.non, rfl, Nat.zero_le _⟩)
  | n, .bl b, v, d, r, e => by
    rw [rep_bl r]
    cases n <;> (simp only [toD] at e; cases e; exact ⟨.bl b, rfl, Nat.zero_le _⟩)
  | n, .int i, v, d, r, e => by
    rw [rep_int r]
    cases n <;> (simp only [toD] at e; cases e; exact ⟨.int i, rfl, Nat.zero_le _⟩)
  | n, .str s, v, d, r, e => by
    rw [rep_str r]
    cases n <;> (simp only [toD] at e; split at e <;> first | (cases e; rename_i hs; exact ⟨.str s, hs, Nat.zero_le _⟩) | cases e)
  | 0, .tup _, _, _, _, e => by simp only [toD] at e; cases e
  | 0, .ref _, _, _, _, e => by simp only [toD] at e; cases e
  | 0, .rol _, _, _, _, e => by simp only [toD] at e; cases e
  | n + 1, .rol l, v, d, r, e => by
    obtain ⟨a, vs, ev, q1, r1⟩ := rep_rol r
    subst ev
    simp only [toD] at e
    cases em : l.mapM (toD h n) with
    | none => rw [em] at e; cases e
    | some ds =>
      rw [em] at e; cases e
      obtain ⟨h1, h2, h3⟩ := toDs_dp rh n l vs ds r1 em
      exact ⟨.lst q1.sq h1, h2, Nat.succ_le_succ h3⟩
  | n + 1, .tup l, v, d, r, e => by
    obtain ⟨a, vs, ev, q1, r1⟩ := rep_tup r
    subst ev
    simp only [toD] at e
    cases em : l.mapM (toD h n) with
    | none => rw [em] at e; cases e
    | some ds =>
      rw [em] at e; cases e
      obtain ⟨h1, h2, h3⟩ := toDs_dp rh n l vs ds r1 em
      exact ⟨.tup q1 h1, h2, Nat.succ_le_succ h3⟩
  | n + 1, .ref a, v, d, r, e => by
    rw [rep_ref r]
    simp only [toD] at e
    split at e
    · rename_i xs ex
      obtain ⟨vs, q1, r1⟩ := rdL_rep rh ex
      cases em : xs.mapM (toD h n) with
      | none => rw [em] at e; cases e
      | some ds =>
        rw [em] at e; cases e
        obtain ⟨h1, h2, h3⟩ := toDs_dp rh n xs vs ds r1 em
        exact ⟨.lst q1 h1, h2, Nat.succ_le_succ h3⟩
    · cases e
theorem toDs_dp (rh : RepH K h H) : ∀ (n : Nat) (xs : List PV) (vs : List V) (ds : List PyData), RepVs K H xs vs → xs.mapM (toD h n) = some ds → DpAll K H vs ds ∧ PyData.canLayAll0 ds = true ∧ PyData.depthAll ds ≤ n
  | n, [], vs, ds, r, e => by
    rw [RepVs.nil_iff.mp r]
    simp only [List.mapM_nil] at e
    cases e
    exact ⟨.nil, rfl, Nat.zero_le _⟩
  | n, x :: xs, vs, ds, r, e => by
    obtain ⟨v, w, rfl, r1, r2⟩ := RepVs.cons_iff.mp r
    rw [List.mapM_cons] at e
    cases e1 : toD h n x with
    | none => rw [e1] at e; cases e
    | some d =>
      rw [e1] at e
      cases e2 : xs.mapM (toD h n) with
      | none => rw [e2] at e; cases e
      | some es =>
        rw [e2] at e; cases e
        obtain ⟨a1, a2, a3⟩ := toD_dp rh n x v d r1 e1
        obtain ⟨b1, b2, b3⟩ := toDs_dp rh n xs w es r2 e2
        refine ⟨.cons a1 b1, ?_, ?_⟩
        · simp only [PyData.canLayAll0, a2, b2, Bool.and_self]
        · simp only [PyData.depthAll]; omega
end
end
end Co
namespace Co
open PySem L2
open PySem.Spec PyProof.Rows
section
variable {K : PySem.W.Frag} {X : Cx} {h : PH} {H : Hp}
def cmpOf : CmpOp → Option Cop
  | .Eq => some .eq | .NotEq => some .ne | .Lt => some .lt | .LtE => some .le | .Gt => some .gt | .GtE => some .ge | .Is => some .is | .IsNot => some .isnot | .In => some .In | .NotIn => some .notin
/-- == as the layer's two rules have it -/
theorem ok_eqS {x y : PV} {vx vy : V} {q' : Bool → Prop} (rx : RepV K H x vx) (ry : RepV K H y vy) (rh : RepH K h H) (q : eqS x y h q') :
    (scal vx vy = true ∧ q' (decide (vx = vy))) ∨ ∃ d e, Dp K H vx d ∧ Dp K H vy e ∧ SeqAt.shaped d = true ∧ SeqAt.shaped e = true ∧ q' (PyData.eqv d e) := by
  have gen : (∃ d e, toD h 8 x = some d ∧ toD h 8 y = some e ∧ q' (PyData.eqv d e)) → ∃ d e, Dp K H vx d ∧ Dp K H vy e ∧ SeqAt.shaped d = true ∧ SeqAt.shaped e = true ∧ q' (PyData.eqv d e) := fun ⟨d, e, h1, h2, h3⟩ => by
    obtain ⟨a1, a2, a3⟩ := toD_dp rh 8 x vx d rx h1
    obtain ⟨b1, b2, b3⟩ := toD_dp rh 8 y vy e ry h2
    refine ⟨d, e, a1, b1, ?_, ?_, h3⟩
    · unfold SeqAt.shaped; rw [a2, Bool.true_and]; exact decide_eq_true (by omega)
    · unfold SeqAt.shaped; rw [b2, Bool.true_and]; exact decide_eq_true (by omega)
  cases x <;> cases y <;> first
    | (rw [rep_int rx, rep_int ry]; refine .inl ⟨rfl, ?_⟩; have q2 : q' (decide _) := q; simpa using q2)
    | (rw [rep_bl rx, rep_bl ry]; refine .inl ⟨rfl, ?_⟩; have q2 : q' (decide _) := q; simpa using q2)
    | (rw [rep_str rx, rep_str ry]; refine .inl ⟨rfl, ?_⟩; have q2 : q' (decide _) := q; simpa using q2)
    | (rw [rep_non rx, rep_non ry]; refine .inl ⟨rfl, ?_⟩; have q2 : q' true := q; simpa using q2)
    | exact .inr (gen q)
theorem flat_rep {x : PV} {v : V} (r : RepV K H x v) (f : flat x = true) : flatV v = true := by
  cases x <;> first
    | (rw [rep_int r]; rfl) | (rw [rep_bl r]; rfl) | (rw [rep_str r]; rfl) | (rw [rep_non r]; rfl) | cases f
theorem flats_rep : ∀ {xs : List PV} {vs : List V}, RepVs K H xs vs → xs.all flat = true → vs.all flatV = true
  | [], _, r, _ => by rw [RepVs.nil_iff.mp r]; rfl
  | x :: xs, _, r, f => by
    obtain ⟨v, w, rfl, r1, r2⟩ := RepVs.cons_iff.mp r
    rw [List.all_cons, Bool.and_eq_true] at f ⊢
    exact ⟨flat_rep r1 f.1, flats_rep r2 f.2⟩
def vOf : PV → V
  | .non => .non | .bl b => .bl b | .int i => .int i | .str s => .str s | .tup _ => .non | .ref a => .ref a | .rol _ => .non
theorem vOf_rep {x : PV} {v : V} (r : RepV K H x v) (f : flat x = true) : v = vOf x := by
  cases x with
  | non => exact rep_non r
  | bl b => exact rep_bl r
  | int i => exact rep_int r
  | str s => exact rep_str r
  | tup l => cases f
  | ref a => cases f
  | rol l => cases f
theorem eqF_vOf : ∀ x y : PV, flat x = true → flat y = true → eqV (vOf x) (vOf y) = eqF x y := by
  intro x y f g
  cases x <;> cases y <;> first | rfl | exact absurd f Bool.false_ne_true | exact absurd g Bool.false_ne_true
theorem eqF_rep {x y : PV} {v u : V} (r : RepV K H x v) (s : RepV K H y u) (f : flat x = true) (g : flat y = true) : eqV v u = eqF x y := by
  rw [vOf_rep r f, vOf_rep s g, eqF_vOf x y f g]
theorem inV_rep {x : PV} {v : V} (rx : RepV K H x v) (fx : flat x = true) : ∀ {xs : List PV} {vs : List V}, RepVs K H xs vs → xs.all flat = true → inV v vs = xs.any fun z => eqF z x
  | [], _, r, _ => by rw [RepVs.nil_iff.mp r]; rfl
  | y :: ys, _, r, f => by
    obtain ⟨u, w, rfl, r1, r2⟩ := RepVs.cons_iff.mp r
    (rw [List.all_cons] at f; rw [Bool.and_eq_true] at f)
    show (eqV u v || inV v w) = _
    rw [List.any_cons, eqF_rep r1 rx f.1 fx, inV_rep rx fx r2 f.2]
/-- all comparisons -/
def rEq2 (K : PySem.W.Frag) : R2 := fun x y H Q => rEq x y H Q ∨ rEqD K x y H Q
def rNe2 (K : PySem.W.Frag) : R2 := fun x y H Q => rNe x y H Q ∨ rNeD K x y H Q
theorem ok_eq : Ok2 K (copS .eq) (rEq2 K) := by
  intro x y h Q' vx vy H Q rx ry rh q lk
  rcases ok_eqS (q' := fun b => Q' (.bl b) h) rx ry rh q with ⟨s, q⟩ | ⟨d, e, h1, h2, h3, h4, q⟩
  · exact .inl ⟨s, lk _ _ _ _ bl_rep rh Fr.refl q⟩
  · exact .inr ⟨d, e, h1, h2, h3, h4, lk _ _ _ _ bl_rep rh Fr.refl q⟩
theorem ok_ne : Ok2 K (copS .ne) (rNe2 K) := by
  intro x y h Q' vx vy H Q rx ry rh q lk
  rcases ok_eqS (q' := fun b => Q' (.bl (!b)) h) rx ry rh q with ⟨s, q⟩ | ⟨d, e, h1, h2, h3, h4, q⟩
  · exact .inl ⟨s, lk _ _ _ _ bl_rep rh Fr.refl q⟩
  · exact .inr ⟨d, e, h1, h2, h3, h4, lk _ _ _ _ bl_rep rh Fr.refl q⟩
theorem ok_cmpI {g : Int → Int → Bool} {s : PV → PV → PH → QK → Prop} (hs : ∀ x y h Q, s x y h Q → ∃ i j, x = .int i ∧ y = .int j ∧ Q (.bl (g i j)) h) : Ok2 K s (rI0 fun i j => .bl (g i j)) := by
  intro x y h Q' vx vy H Q rx ry rh q lk
  obtain ⟨i, j, rfl, rfl, q1⟩ := hs x y h Q' q
  exact ⟨i, j, rep_int rx, rep_int ry, lk _ _ _ _ bl_rep rh Fr.refl q1⟩
theorem ok_lt : Ok2 K (copS .lt) (rI0 fun i j => .bl (decide (i < j))) := ok_cmpI fun x y h Q q => by
  cases x <;> cases y <;> first | exact False.elim q | exact ⟨_, _, rfl, rfl, q⟩
theorem ok_le : Ok2 K (copS .le) (rI0 fun i j => .bl (decide (i ≤ j))) := ok_cmpI fun x y h Q q => by
  cases x <;> cases y <;> first | exact False.elim q | exact ⟨_, _, rfl, rfl, q⟩
theorem ok_gt : Ok2 K (copS .gt) (rI0 fun i j => .bl (decide (j < i))) := ok_cmpI fun x y h Q q => by
  cases x <;> cases y <;> first | exact False.elim q | exact ⟨_, _, rfl, rfl, q⟩
theorem ok_ge : Ok2 K (copS .ge) (rI0 fun i j => .bl (decide (j ≤ i))) := ok_cmpI fun x y h Q q => by
  cases x <;> cases y <;> first | exact False.elim q | exact ⟨_, _, rfl, rfl, q⟩
theorem isn_rep {x : PV} {v : V} (r : RepV K H x v) : decide (v = .non) = isnS x := by
  cases x with
  | non => rw [rep_non r]; rfl
  | bl b => rw [rep_bl r]; rfl
  | int i => rw [rep_int r]; rfl
  | str s => rw [rep_str r]; rfl
  | tup l => obtain ⟨a, vs, rfl, _, _⟩ := rep_tup r; rfl
  | rol l => obtain ⟨a, vs, rfl, _, _⟩ := rep_rol r; rfl
  | ref a => rw [rep_ref r]; rfl
theorem ok_is : Ok2 K (copS .is) (fun x y H Q => y = .non ∧ Q (.bl (decide (x = .non))) H) := by
  intro x y h Q' vx vy H Q rx ry rh q lk
  cases y <;> first | exact False.elim q | skip
  exact ⟨rep_non ry, by rw [isn_rep rx]; exact lk _ _ _ _ bl_rep rh Fr.refl q⟩
theorem ok_isnot : Ok2 K (copS .isnot) (fun x y H Q => y = .non ∧ Q (.bl (!decide (x = .non))) H) := by
  intro x y h Q' vx vy H Q rx ry rh q lk
  cases y <;> first | exact False.elim q | skip
  exact ⟨rep_non ry, by rw [isn_rep rx]; exact lk _ _ _ _ bl_rep rh Fr.refl q⟩
theorem ok_inS {x y : PV} {vx vy : V} {q' : Bool → Prop} (rx : RepV K H x vx) (ry : RepV K H y vy) (rh : RepH K h H) (q : inS x y h q') :
    ∃ p xs, vy = .ref p ∧ (SqL K H p xs ∨ SqT K H p xs) ∧ flatV vx = true ∧ xs.all flatV = true ∧ q' (inV vx xs) := by
  unfold inS at q
  split at q
  · rename_i ys e
    obtain ⟨p, vs, e1, e2, r⟩ := seqOf_rep ry rh e
    exact ⟨p, vs, e1, e2, flat_rep rx q.1, flats_rep r q.2.1, by rw [inV_rep rx q.1 r q.2.1]; exact q.2.2⟩
  · exact q.elim
theorem ok_in : Ok2 K (copS .In) (rIn K false) := by
  intro x y h Q' vx vy H Q rx ry rh q lk
  obtain ⟨p, xs, h1, h2, h3, h4, q1⟩ := ok_inS (q' := fun b => Q' (.bl b) h) rx ry rh q
  exact ⟨p, xs, h1, h2, h3, h4, lk _ _ _ _ bl_rep rh Fr.refl q1⟩
theorem ok_notin : Ok2 K (copS .notin) (rIn K true) := by
  intro x y h Q' vx vy H Q rx ry rh q lk
  obtain ⟨p, xs, h1, h2, h3, h4, q1⟩ := ok_inS (q' := fun b => Q' (.bl (!b)) h) rx ry rh q
  exact ⟨p, xs, h1, h2, h3, h4, lk _ _ _ _ bl_rep rh Fr.refl q1⟩
theorem r_cop {op : CmpOp} {c : Cop} (hu : X.A.units + 64 < cLine) (e : cmpOf op = some c) : ∃ r, OpR X (compareOp op) r ∧ Ok2 X.K (copS c) r := by
  cases op <;> cases e
  · exact ⟨_, op_eq.or (op_eqD hu), ok_eq⟩
  · exact ⟨_, op_ne.or (op_neD hu), ok_ne⟩
  · exact ⟨_, op_lt, ok_lt⟩
  · exact ⟨_, op_le, ok_le⟩
  · exact ⟨_, op_gt, ok_gt⟩
  · exact ⟨_, op_ge, ok_ge⟩
  · exact ⟨_, op_isN, ok_is⟩
  · exact ⟨_, op_notN, ok_isnot⟩
  · exact ⟨_, op_in_seq, ok_in⟩
  · exact ⟨_, op_notIn_seq, ok_notin⟩
def tyN : Ty → String
  | .int => "int" | .bool => "bool" | .tuple => "tuple" | .list => "list" | .str => "str"
/-- a value's type -/
def tyP : PV → String
  | .non => "NoneType" | .bl _ => "bool" | .int _ => "int" | .str _ => "str" | .tup _ => "tuple" | .ref _ => "list" | .rol _ => "list"
theorem tyx_rep {x : PV} {v : V} (r : RepV K H x v) (rh : RepH K h H) (g : refOk x h) : TyX K H v (.type (tyP x)) := by
  cases x with
  | non => rw [rep_non r]; exact .base .non
  | bl b => rw [rep_bl r]; exact .base (.bl b)
  | int i => rw [rep_int r]; exact .base (.int i)
  | str s => rw [rep_str r]; exact .base (.str s)
  | tup l =>
    obtain ⟨a, vs, rfl, q, _⟩ := rep_tup r
    rcases q with (q | ⟨o, q⟩) | ⟨o, its, n, q1, q2, _⟩
    · exact .base (.tup q)
    · exact .fTuple q
    · exact .kTuple q1 q2
  | rol l =>
    obtain ⟨a, vs, rfl, q, _⟩ := rep_rol r
    rcases q with ⟨o, q⟩ | (q | ⟨_, q⟩) | ⟨o, its, n, q1, q2, _⟩
    · exact .base (.frz q)
    · cases q
    · cases q
    · exact .kList q1 q2
  | ref a =>
    rw [rep_ref r]
    have g : (h a).isSome = true := g
    cases e : h a with
    | none => rw [e] at g; cases g
    | some o =>
      have z := rh a o e
      cases o with
      | lst xs => obtain ⟨vs, q, _⟩ := z; exact .base (.lst q)
theorem kit1 (x : PV) (t : Ty) : PySem.W.kitOne K (.type (tyP x)) (.type (tyN t)) = some (isTy h x t) := by
  refine kit_ty ?_
  cases x <;> cases t <;> (simp only [tyP, tyN, isTy]; decide +kernel)
theorem kitA (x : PV) : ∀ ts : List Ty, PySem.W.kitAny K (.type (tyP x)) (ts.map fun t => Value.type (tyN t)) = some (ts.any (isTy h x))
  | [] => rfl
  | t :: ts => by
    refine kitAny_cons (kit1 (h := h) x t) (fun e => ?_) fun e => ?_
    · rw [kitA x ts, List.any_cons, e, Bool.false_or]
    · rw [List.any_cons, e, Bool.true_or]
end
end Co
namespace Co
open PySem L2
open PySem.Spec PyProof.Rows
section
variable {K : PySem.W.Frag} {X : Cx} {h : PH} {H : Hp}
theorem at_rep {xs : List PV} {vs : List V} {i : Int} {pv : PV} (r : RepVs K H xs vs) (e : (L2.ixN xs.length i).bind (fun j => xs[j]?) = some pv) : ∃ v, atI vs i = some v ∧ RepV K H pv v := by
  unfold atI
  rw [← r.length]
  cases q : L2.ixN xs.length i with
  | none => (rw [q] at e; cases e)
  | some j =>
    rw [q] at e
    exact r.get e
theorem ok_ix : Ok2 K ixS (rIx K) := by
  intro x y h Q' vx vy H Q rx ry0 rh q0 lk
  have gen : ∀ (i : Int), (match seqOf x h with
      | some xs => match (L2.ixN xs.length i).bind (fun j => xs[j]?) with | some v => Q' v h | none => False
      | none => False) → RepV K H y vy → y = .int i → rIx K vx vy H Q := fun i q ry ey => by
    subst ey
    split at q
    · rename_i xs e
      split at q
      · rename_i v ev
        obtain ⟨p, vs, e1, e2, r⟩ := seqOf_rep rx rh e
        obtain ⟨w, a1, a2⟩ := at_rep r ev
        rcases e2 with e2 | e2
        · exact .inl ⟨p, vs, i, w, e1, rep_int ry, e2, a1, lk _ _ _ _ a2 rh Fr.refl q⟩
        · exact .inr (.inl ⟨p, vs, i, w, e1, rep_int ry, e2, a1, lk _ _ _ _ a2 rh Fr.refl q⟩)
      · exact q.elim
    · exact q.elim
  cases y with
  | int i =>
    cases x with
    | str s =>
      have q' : s.length ≤ 16777216 ∧ (match (L2.ixN s.cps.toList.length i).bind (fun j => s.cps.toList[j]?) with | some c => Q' (.str ⟨#[c]⟩) h | none => False) := q0
      obtain ⟨q1, q2⟩ := q'
      split at q2
      · rename_i c ec
        exact .inr (.inr ⟨s, i, c, rep_str rx, rep_int ry0, by rw [line16]; exact q1, ec, lk _ _ _ _ str_rep rh Fr.refl q2⟩)
      · exact q2.elim
    | tup l => exact gen i q0 ry0 rfl
    | ref a => exact gen i q0 ry0 rfl
    | rol l => exact gen i q0 ry0 rfl
    | non => exact gen i q0 ry0 rfl
    | bl b => exact gen i q0 ry0 rfl
    | int j => exact gen i q0 ry0 rfl
  | _ => cases x <;> exact False.elim q0
theorem RepVs.cutV {xs : List PV} {vs : List V} (r : RepVs K H xs vs) (lo hi : Option Int) : RepVs K H (cut xs lo hi) (L2.cutV vs lo hi) := by
  unfold cut L2.cutV
  rw [r.length]
  exact (r.drop _).take _
def rSl2 (K : PySem.W.Frag) : V → Option Int → Option Int → Hp → VK → Prop := fun x lo hi H Q => rSlA K x lo hi H Q ∨ rSlL K x lo hi H Q
theorem r_sl : SlR X (rSl2 X.K) := sl_tupA.or sl_list
theorem ok_sl {x : PV} {lo hi : Option Int} {vx : V} {Q' : QK} {Q : VK} (rx : RepV K H x vx) (rh : RepH K h H) (q : slS x lo hi h Q') (lk : Lk K h H Q' Q) : rSl2 K vx lo hi H Q := by
  cases x with
  | tup l =>
    obtain ⟨a, vs, e, q1, r⟩ := rep_tup rx
    subst e
    refine .inl ⟨a, vs, rfl, q1, fun ⟨w1, w2⟩ => ?_, fun _ => newT_rep rh (r.cutV lo hi) q lk⟩
    have e : cut l lo hi = l := by
      unfold cut
      rw [r.length, w1, w2, List.drop_zero, Nat.sub_zero, ← r.length, List.take_length]
    have q2 : Q' (.tup (cut l lo hi)) h := q
    rw [e] at q2
    exact lk _ _ _ _ (tup_rep q1 r) rh Fr.refl q2
  | rol l =>
    obtain ⟨a, vs, e, q1, r⟩ := rep_rol rx
    exact .inr ⟨a, vs, e, q1.sq, newL_rep rh (r.cutV lo hi) q lk⟩
  | ref a =>
    have q' : (match rdL h a with | some xs => newL h (cut xs lo hi) Q' | none => False) := q
    split at q'
    · rename_i xs e
      obtain ⟨vs, q1, r⟩ := rdL_rep rh e
      exact .inr ⟨a, vs, rep_ref rx, q1, newL_rep rh (r.cutV lo hi) q' lk⟩
    · exact q'.elim
  | _ => exact False.elim q
theorem CallR.imp {f : Value} {r r' : List V → Hp → VK → Prop} (h : CallR X f r') (i : ∀ xs H Q, r xs H Q → r' xs H Q) : CallR X f r := fun pins s σ H xs us Q I rx q => h pins s σ H xs us Q I rx (i xs H Q q)
theorem one_rep {x : PV} {vs : List V} (r : RepVs K H [x] vs) : ∃ v, vs = [v] ∧ RepV K H x v := by
  obtain ⟨v, w, rfl, r1, r2⟩ := RepVs.cons_iff.mp r
  rw [RepVs.nil_iff.mp r2]
  exact ⟨v, rfl, r1⟩
theorem two_rep {x y : PV} {vs : List V} (r : RepVs K H [x, y] vs) : ∃ v u, vs = [v, u] ∧ RepV K H x v ∧ RepV K H y u := by
  obtain ⟨v, w, rfl, r1, r2⟩ := RepVs.cons_iff.mp r
  obtain ⟨u, rfl, r3⟩ := one_rep r2
  exact ⟨v, u, rfl, r1, r3⟩
theorem ints_rep : ∀ {xs : List PV} {ns : List Int} {vs : List V}, intsOf xs = some ns → RepVs K H xs vs → vs = ns.map V.int
  | [], _, _, e, r => by cases e; exact RepVs.nil_iff.mp r
  | x :: xs, _, _, e, r => by
    obtain ⟨v, w, rfl, r1, r2⟩ := RepVs.cons_iff.mp r
    cases x with
    | int i =>
      simp only [intsOf] at e
      cases q : intsOf xs with
      | none => (rw [q] at e; cases e)
      | some ns =>
        rw [q] at e; cases e
        rw [List.map_cons, rep_int r1, ints_rep q r2]
    | _ => simp only [intsOf] at e; cases e
theorem rep_ints : ∀ ns : List Int, RepVs K H (ns.map PV.int) (ns.map V.int)
  | [] => RepVs.nil_iff.mpr rfl
  | n :: ns => RepVs.cons_iff.mpr ⟨_, _, rfl, int_rep, rep_ints ns⟩
theorem bls_rep : ∀ {xs : List PV} {ns : List Bool} {vs : List V}, blsOf xs = some ns → RepVs K H xs vs → vs = ns.map V.bl
  | [], _, _, e, r => by cases e; exact RepVs.nil_iff.mp r
  | x :: xs, _, _, e, r => by
    obtain ⟨v, w, rfl, r1, r2⟩ := RepVs.cons_iff.mp r
    cases x with
    | bl i =>
      simp only [blsOf] at e
      cases q : blsOf xs with
      | none => (rw [q] at e; cases e)
      | some ns =>
        rw [q] at e; cases e
        rw [List.map_cons, rep_bl r1, bls_rep q r2]
    | _ => simp only [blsOf] at e; cases e
def bltV : Blt → Value
  | .len => .builtin "len" | .abs => .builtin "abs" | .int => .type "int" | .max2 => .builtin "max" | .min2 => .builtin "min" | .max1 => .builtin "max" | .min1 => .builtin "min"
  | .sum => .builtin "sum" | .all => .builtin "all" | .any => .builtin "any" | .tuple => .type "tuple" | .list => .type "list" | .sorted => .builtin "sorted"
def bltNm : Blt → Str
  | .len => "len" | .abs => "abs" | .int => "int" | .max2 => "max" | .min2 => "min" | .max1 => "max" | .min1 => "min"
  | .sum => "sum" | .all => "all" | .any => "any" | .tuple => "tuple" | .list => "list" | .sorted => "sorted"
theorem boot_blt (b : Blt) : bootBuiltins (bltNm b) = some (bltV b) := by cases b <;> decide +kernel
theorem some_ints {a : Addr} {ns : List Int} (rh : RepH K h H) (e : (rdL h a).bind intsOf = some ns) : SqL K H a (ns.map V.int) := by
  cases q : rdL h a with
  | none => (rw [q] at e; cases e)
  | some xs =>
    rw [q] at e
    obtain ⟨vs, q1, r⟩ := rdL_rep rh q
    rw [← ints_rep e r]; exact q1
theorem some_bls {a : Addr} {ns : List Bool} (rh : RepH K h H) (e : (rdL h a).bind blsOf = some ns) : SqL K H a (ns.map V.bl) := by
  cases q : rdL h a with
  | none => (rw [q] at e; cases e)
  | some xs =>
    rw [q] at e
    obtain ⟨vs, q1, r⟩ := rdL_rep rh q
    rw [← bls_rep e r]; exact q1
def rLen (K : PySem.W.Frag) : List V → Hp → VK → Prop := fun xs H Q => (∃ p ys, xs = [.ref p] ∧ (SqL K H p ys ∨ SqT K H p ys) ∧ Q (.int ys.length) H) ∨ ∃ z, xs = [.str z] ∧ z.length ≤ sizeLine ∧ Q (.int z.length) H
theorem ok_len : OkL K (bltS .len) (rLen K) := by
  intro xs h Q' vs H Q rx rh q lk
  rcases xs with _ | ⟨x, _ | ⟨y, ys⟩⟩
  · exact False.elim q
  · obtain ⟨v, rfl, r1⟩ := one_rep rx
    have gen : (match seqOf x h with | some xs => Q' (.int xs.length) h | none => False) → rLen K [v] H Q := fun q => by
      split at q
      · rename_i xs e
        obtain ⟨p, vs, e1, e2, r⟩ := seqOf_rep r1 rh e
        subst e1
        exact .inl ⟨p, vs, rfl, e2, by rw [← r.length]; exact lk _ _ _ _ int_rep rh Fr.refl q⟩
      · exact q.elim
    cases x with
    | str s => exact .inr ⟨s, by rw [rep_str r1], by rw [line16]; exact q.1, lk _ _ _ _ int_rep rh Fr.refl q.2⟩
    | tup l => exact gen q
    | ref a => exact gen q
    | rol l => exact gen q
    | non => exact gen q
    | bl b => exact gen q
    | int i => exact gen q
  · cases x <;> exact False.elim q
theorem ok_abs : OkL K (bltS .abs) (fun xs H Q => ∃ i, xs = [.int i] ∧ Q (.int (if i < 0 then -i else i)) H) := by
  intro xs h Q' vs H Q rx rh q lk
  rcases xs with _ | ⟨x, _ | ⟨y, ys⟩⟩ <;> first | exact False.elim q | skip
  · cases x <;> first | exact False.elim q | skip
    obtain ⟨v, rfl, r1⟩ := one_rep rx
    exact ⟨_, by rw [rep_int r1], lk _ _ _ _ int_rep rh Fr.refl q⟩
  · cases x <;> exact False.elim q
theorem ok_intc : OkL K (bltS .int) (fun xs H Q => (∃ i, xs = [.int i] ∧ Q (.int i) H) ∨ ∃ k, xs = [.bl k] ∧ Q (.int (if k then 1 else 0)) H) := by
  intro xs h Q' vs H Q rx rh q lk
  rcases xs with _ | ⟨x, _ | ⟨y, ys⟩⟩ <;> first | exact False.elim q | skip
  · obtain ⟨v, rfl, r1⟩ := one_rep rx
    cases x <;> first | exact False.elim q | skip
    · exact .inr ⟨_, by rw [rep_bl r1], lk _ _ _ _ int_rep rh Fr.refl q⟩
    · exact .inl ⟨_, by rw [rep_int r1], lk _ _ _ _ int_rep rh Fr.refl q⟩
  · cases x <;> exact False.elim q
theorem ok_two {s : List PV → PH → QK → Prop} {g : Int → Int → Int} (hs : ∀ xs h Q, s xs h Q → ∃ i j, xs = [.int i, .int j] ∧ Q (.int (g i j)) h) : OkL K s (fun xs H Q => ∃ i j, xs = [.int i, .int j] ∧ Q (.int (g i j)) H) := by
  intro xs h Q' vs H Q rx rh q lk
  obtain ⟨i, j, rfl, q1⟩ := hs xs h Q' q
  obtain ⟨v, u, rfl, r1, r2⟩ := two_rep rx
  exact ⟨i, j, by rw [rep_int r1, rep_int r2], lk _ _ _ _ int_rep rh Fr.refl q1⟩
theorem ok_max2 : OkL K (bltS .max2) (fun xs H Q => ∃ i j, xs = [.int i, .int j] ∧ Q (.int (if j > i then j else i)) H) := ok_two fun xs h Q q => by
  rcases xs with _ | ⟨x, _ | ⟨y, _ | ⟨z, zs⟩⟩⟩
  · exact False.elim q
  · cases x <;> exact False.elim q
  · cases x <;> cases y <;> first | exact False.elim q | exact ⟨_, _, rfl, q⟩
  · cases x <;> cases y <;> exact False.elim q
theorem ok_min2 : OkL K (bltS .min2) (fun xs H Q => ∃ i j, xs = [.int i, .int j] ∧ Q (.int (if j < i then j else i)) H) := ok_two fun xs h Q q => by
  rcases xs with _ | ⟨x, _ | ⟨y, _ | ⟨z, zs⟩⟩⟩
  · exact False.elim q
  · cases x <;> exact False.elim q
  · cases x <;> cases y <;> first | exact False.elim q | exact ⟨_, _, rfl, q⟩
  · cases x <;> cases y <;> exact False.elim q
theorem ok_ref {s : List PV → PH → QK → Prop} {r : Addr → Hp → VK → Prop} (hs : ∀ xs h Q, s xs h Q → ∃ a, xs = [.ref a]) (hr : ∀ a h Q' H Q, RepH K h H → s [.ref a] h Q' → Lk K h H Q' Q → r a H Q) :
    OkL K s (fun xs H Q => ∃ a, xs = [.ref a] ∧ r a H Q) := by
  intro xs h Q' vs H Q rx rh q lk
  obtain ⟨a, rfl⟩ := hs xs h Q' q
  obtain ⟨v, rfl, r1⟩ := one_rep rx
  exact ⟨a, by rw [rep_ref r1], hr a h Q' H Q rh q lk⟩
theorem shape1 {b : Blt} (hb : b = .sum ∨ b = .all ∨ b = .any ∨ b = .max1 ∨ b = .min1 ∨ b = .sorted) : ∀ xs h Q, bltS b xs h Q → ∃ a, xs = [.ref a] := fun xs h Q q => by
  rcases xs with _ | ⟨x, _ | ⟨y, ys⟩⟩
  · rcases hb with rfl | rfl | rfl | rfl | rfl | rfl <;> exact False.elim q
  · cases x with
    | ref a => exact ⟨a, rfl⟩
    | _ => rcases hb with rfl | rfl | rfl | rfl | rfl | rfl <;> exact False.elim q
  · rcases hb with rfl | rfl | rfl | rfl | rfl | rfl <;> cases x <;> exact False.elim q
def rSum1 (K : PySem.W.Frag) (a : Addr) (H : Hp) (Q : VK) : Prop := ∃ ns : List Int, SqL K H a (ns.map V.int) ∧ Q (.int ns.sum) H
theorem ok_sum : OkL K (bltS .sum) (fun xs H Q => ∃ a, xs = [.ref a] ∧ rSum1 K a H Q) := ok_ref (shape1 (.inl rfl)) fun a h Q' H Q rh q lk => by
  have q' : (match (rdL h a).bind intsOf with | some ns => Q' (.int ns.sum) h | none => False) := q
  split at q'
  · rename_i ns e
    exact ⟨ns, some_ints rh e, lk _ _ _ _ int_rep rh Fr.refl q'⟩
  · exact q'.elim
def rAll1 (K : PySem.W.Frag) (g : List Bool → Bool) (a : Addr) (H : Hp) (Q : VK) : Prop := ∃ bs : List Bool, SqL K H a (bs.map V.bl) ∧ Q (.bl (g bs)) H
theorem ok_all : OkL K (bltS .all) (fun xs H Q => ∃ a, xs = [.ref a] ∧ rAll1 K (·.all id) a H Q) := ok_ref (shape1 (.inr (.inl rfl))) fun a h Q' H Q rh q lk => by
  have q' : (match (rdL h a).bind blsOf with | some ns => Q' (.bl (ns.all id)) h | none => False) := q
  split at q'
  · rename_i ns e
    exact ⟨ns, some_bls rh e, lk _ _ _ _ bl_rep rh Fr.refl q'⟩
  · exact q'.elim
theorem ok_any : OkL K (bltS .any) (fun xs H Q => ∃ a, xs = [.ref a] ∧ rAll1 K (·.any id) a H Q) := ok_ref (shape1 (.inr (.inr (.inl rfl)))) fun a h Q' H Q rh q lk => by
  have q' : (match (rdL h a).bind blsOf with | some ns => Q' (.bl (ns.any id)) h | none => False) := q
  split at q'
  · rename_i ns e
    exact ⟨ns, some_bls rh e, lk _ _ _ _ bl_rep rh Fr.refl q'⟩
  · exact q'.elim
def rMx1 (K : PySem.W.Frag) (le : Int → Int → Prop) (a : Addr) (H : Hp) (Q : VK) : Prop := ∃ ns : List Int, SqL K H a (ns.map V.int) ∧ 0 < ns.length ∧ ∀ m, m ∈ ns → (∀ y, y ∈ ns → le y m) → Q (.int m) H
theorem ok_max1 : OkL K (bltS .max1) (fun xs H Q => ∃ a, xs = [.ref a] ∧ rMx1 K (fun y m => y ≤ m) a H Q) := ok_ref (shape1 (.inr (.inr (.inr (.inl rfl))))) fun a h Q' H Q rh q lk => by
  have q' : (match (rdL h a).bind intsOf with | some ns => 0 < ns.length ∧ ∀ m, m ∈ ns → (∀ y, y ∈ ns → y ≤ m) → Q' (.int m) h | none => False) := q
  split at q'
  · rename_i ns e
    exact ⟨ns, some_ints rh e, q'.1, fun m h1 h2 => lk _ _ _ _ int_rep rh Fr.refl (q'.2 m h1 h2)⟩
  · exact q'.elim
theorem ok_min1 : OkL K (bltS .min1) (fun xs H Q => ∃ a, xs = [.ref a] ∧ rMx1 K (fun y m => m ≤ y) a H Q) := ok_ref (shape1 (.inr (.inr (.inr (.inr (.inl rfl)))))) fun a h Q' H Q rh q lk => by
  have q' : (match (rdL h a).bind intsOf with | some ns => 0 < ns.length ∧ ∀ m, m ∈ ns → (∀ y, y ∈ ns → m ≤ y) → Q' (.int m) h | none => False) := q
  split at q'
  · rename_i ns e
    exact ⟨ns, some_ints rh e, q'.1, fun m h1 h2 => lk _ _ _ _ int_rep rh Fr.refl (q'.2 m h1 h2)⟩
  · exact q'.elim
def rSrt1 (K : PySem.W.Frag) (a : Addr) (H : Hp) (Q : VK) : Prop := ∃ ns : List Int, SqL K H a (ns.map V.int) ∧ ∀ (ms : List Int) (p : Addr), ms.Perm ns → ms.Pairwise (· ≤ ·) → H p = none → Q (.ref p) (upd H p (.lst (ms.map V.int)))
theorem ok_sorted : OkL K (bltS .sorted) (fun xs H Q => ∃ a, xs = [.ref a] ∧ rSrt1 K a H Q) := ok_ref (shape1 (.inr (.inr (.inr (.inr (.inr rfl)))))) fun a h Q' H Q rh q lk => by
  have q' : (match (rdL h a).bind intsOf with | some ns => ∀ ms : List Int, ms.Perm ns → ms.Pairwise (· ≤ ·) → newL h (ms.map PV.int) Q' | none => False) := q
  split at q'
  · rename_i ns e
    exact ⟨ns, some_ints rh e, fun ms p h1 h2 hp => newL_rep rh (rep_ints ms) (q' ms h1 h2) lk p hp⟩
  · exact q'.elim
theorem shape2 {b : Blt} (hb : b = .tuple ∨ b = .list) : ∀ xs h Q, bltS b xs h Q → ∃ x, xs = [x] := fun xs h Q q => by
  rcases xs with _ | ⟨x, _ | ⟨y, ys⟩⟩
  · rcases hb with rfl | rfl <;> exact False.elim q
  · exact ⟨x, rfl⟩
  · rcases hb with rfl | rfl <;> cases x <;> exact False.elim q
theorem ok_tuple : OkL K (bltS .tuple) (fun xs H Q => ∃ p ys, xs = [.ref p] ∧ ((SqL K H p ys ∧ ∀ l, H l = none → Q (.ref l) (upd H l (.tup ys))) ∨ (SqT K H p ys ∧ Q (.ref p) H))) := by
  intro xs h Q' vs H Q rx rh q lk
  obtain ⟨x, rfl⟩ := shape2 (.inl rfl) xs h Q' q
  obtain ⟨v, rfl, r1⟩ := one_rep rx
  have q' : (match seqOf x h with | some xs => Q' (.tup xs) h | none => False) := by cases x <;> exact q
  split at q'
  · rename_i xs e
    obtain ⟨p, vs, rfl, e2, r⟩ := seqOf_rep r1 rh e
    rcases e2 with e2 | e2
    · exact ⟨p, vs, rfl, .inl ⟨e2, newT_rep rh r q' lk⟩⟩
    · exact ⟨p, vs, rfl, .inr ⟨e2, lk _ _ _ _ (tup_rep e2 r) rh Fr.refl q'⟩⟩
  · exact q'.elim
theorem ok_list : OkL K (bltS .list) (fun xs H Q => ∃ p ys, xs = [.ref p] ∧ (SqL K H p ys ∨ SqT K H p ys) ∧ ∀ l, H l = none → Q (.ref l) (upd H l (.lst ys))) := by
  intro xs h Q' vs H Q rx rh q lk
  obtain ⟨x, rfl⟩ := shape2 (.inr rfl) xs h Q' q
  obtain ⟨v, rfl, r1⟩ := one_rep rx
  have q' : (match seqOf x h with | some xs => newL h xs Q' | none => False) := by cases x <;> exact q
  split at q'
  · rename_i xs e
    obtain ⟨p, vs, rfl, e2, r⟩ := seqOf_rep r1 rh e
    exact ⟨p, vs, rfl, e2, newL_rep rh r q' lk⟩
  · exact q'.elim
theorem r_blt (hc : X.calm = true) (b : Blt) : ∃ r, CallR X (bltV b) r ∧ OkL X.K (bltS b) r := by
  cases b
  · exact ⟨_, call_len_seq.or call_len_str, ok_len⟩
  · exact ⟨_, call_abs, ok_abs⟩
  · exact ⟨_, call_int1, ok_intc⟩
  · exact ⟨_, call_max2 hc, ok_max2⟩
  · exact ⟨_, call_min2 hc, ok_min2⟩
  · exact ⟨_, CallR.imp (cr_sum hc) fun xs H Q ⟨a, e, ns, q1, q2⟩ => ⟨a, ns, e, q1, q2⟩, ok_sum⟩
  · exact ⟨_, CallR.imp (cr_all hc) fun xs H Q ⟨a, e, ns, q1, q2⟩ => ⟨a, ns, e, q1, q2⟩, ok_all⟩
  · exact ⟨_, CallR.imp (cr_any hc) fun xs H Q ⟨a, e, ns, q1, q2⟩ => ⟨a, ns, e, q1, q2⟩, ok_any⟩
  · exact ⟨_, call_tuple_of, ok_tuple⟩
  · exact ⟨_, call_list_of, ok_list⟩
  · exact ⟨_, CallR.imp cr_sortedI fun xs H Q ⟨a, e, ns, q1, q2⟩ => ⟨a, ns, e, q1, q2⟩, ok_sorted⟩
  · exact ⟨_, CallR.imp (cr_max hc) fun xs H Q ⟨a, e, ns, q1, q2, q3⟩ => ⟨a, ns, e, q1, q2, q3⟩, ok_max1⟩
  · exact ⟨_, CallR.imp (cr_min hc) fun xs H Q ⟨a, e, ns, q1, q2, q3⟩ => ⟨a, ns, e, q1, q2, q3⟩, ok_min1⟩
theorem lst_rep {a : Nat} {xs : List PV} (rh : RepH K h H) (e : h a = some (.lst xs)) : ∃ vs, H a = some (.lst vs) ∧ RepVs K H xs vs := rh a _ e
theorem set_rep {a : Nat} {xs ys : List PV} {vs : List V} {pv : PV} {v : V} {Q' : QK} {Q : VK} (rh : RepH K h H) (e : h a = some (.lst xs)) (r : RepVs K H ys vs) (rv : RepV K H pv v) (q : Q' pv (pupd h a (.lst ys))) (lk : Lk K h H Q' Q) : Q v (upd H a (.lst vs)) :=
  lk pv (pupd h a (.lst ys)) v (upd H a (.lst vs)) (rv.keep (h' := pupd h a (.lst ys)) rh (Fr.set e)) (rh.set e r) (Fr.set e) q
theorem seqIndex_ixN {n k : Nat} {i : Int} (e : L2.ixN n i = some k) : seqIndex? i n = some k := (ixN_seq e).1
def rMt (m : Mth) : V → List V → Hp → VK → Prop := match m with
  | .append => rAppend | .pop => rPop | .popAt => rPopAt | _ => fun _ _ _ _ => False
theorem ok_mth (m : Mth) {x : PV} {vs : List PV} {vx : V} {ws : List V} {Q' : QK} {Q : VK} (rx : RepV K H x vx) (rs : RepVs K H vs ws) (rh : RepH K h H) (q : mthS m x vs h Q') (lk : Lk K h H Q' Q) : rMt m vx ws H Q := by
  cases x with
  | ref a =>
    have q' : (match h a with | some (.lst xs) => mthL m xs vs (fun y ys => Q' y (pupd h a (.lst ys))) | _ => False) := q
    split at q'
    · rename_i xs e
      obtain ⟨us, e1, r⟩ := lst_rep rh e
      cases m with
      | append =>
        rcases vs with _ | ⟨y, _ | ⟨z, zs⟩⟩
        · exact False.elim q'
        · obtain ⟨v, rfl, r1⟩ := one_rep rs
          obtain ⟨q1, q2⟩ : xs.length < 16777216 ∧ Q' .non (pupd h a (.lst (xs ++ [y]))) := q'
          exact ⟨a, us, v, rep_ref rx, rfl, e1, by rw [line16, ← r.length]; exact q1, set_rep rh e (r.append (RepVs.cons_iff.mpr ⟨_, _, rfl, r1, RepVs.nil_iff.mpr rfl⟩)) non_rep q2 lk⟩
        · exact False.elim q'
      | pop =>
        rcases vs with _ | ⟨y, ys⟩
        · have q2 : (match xs[xs.length - 1]? with | some y => Q' y (pupd h a (.lst xs.dropLast)) | none => False) := q'
          split at q2
          · rename_i y ey
            obtain ⟨v, ev, rv⟩ := r.get ey
            rw [r.length] at ev
            exact ⟨a, us, v, rep_ref rx, RepVs.nil_iff.mp rs, e1, ev, set_rep rh e r.dropLast rv q2 lk⟩
          · exact q2.elim
        · exact False.elim q'
      | popAt =>
        rcases vs with _ | ⟨y, _ | ⟨z, zs⟩⟩
        · exact False.elim q'
        · obtain ⟨v, rfl, r1⟩ := one_rep rs
          cases y with
          | int i =>
            obtain ⟨⟨b1, b2⟩, q2⟩ : (-(2 ^ 63) ≤ i ∧ i < 2 ^ 63) ∧ (match L2.ixN xs.length i with
              | some k => match xs[k]? with | some y => Q' y (pupd h a (.lst (xs.eraseIdx k))) | none => False
              | none => False) := q'
            split at q2
            · rename_i k ek
              split at q2
              · rename_i y ey
                obtain ⟨w, ew, rw'⟩ := r.get ey
                rw [r.length] at ek
                exact ⟨a, us, i, k, w, rep_ref rx, by rw [rep_int r1], e1, b1, b2, seqIndex_ixN ek, ew, set_rep rh e (r.eraseIdx k) rw' q2 lk⟩
              · exact q2.elim
            · exact q2.elim
          | _ => exact False.elim q'
        · cases y <;> exact False.elim q'
      | index => cases vs <;> exact False.elim q'
      | count => cases vs <;> exact False.elim q'
    · exact q'.elim
  | _ => exact False.elim q
theorem ok_set {o i v : PV} {vo vi vv : V} {Q' : PH → Prop} {Q : Hp → Prop} (ro : RepV K H o vo) (ri : RepV K H i vi) (rv : RepV K H v vv) (rh : RepH K h H) (q : setS o i v h Q')
    (lk : ∀ h' H', RepH K h' H' → Fr h H h' H' → Q' h' → Q H') : rSetL vo vi vv H Q := by
  cases o with
  | ref a =>
    cases i with
    | int k =>
      have q' : (match h a with
        | some (.lst xs) => match L2.ixN xs.length k with | some j => Q' (pupd h a (.lst (xs.set j v))) | none => False
        | _ => False) := q
      split at q'
      · rename_i xs e
        obtain ⟨us, e1, r⟩ := lst_rep rh e
        split at q'
        · rename_i j ej
          rw [r.length] at ej
          exact ⟨a, us, k, j, rep_ref ro, rep_int ri, e1, ej, lk _ _ (rh.set e (r.set j rv)) (Fr.set e) q'⟩
        · exact q'.elim
      · exact q'.elim
    | _ => exact False.elim q
  | _ => cases i <;> exact False.elim q
end
end Co
namespace Co
open PySem L2
open PySem.Spec PyProof.Rows
/-- what the module's names are: defs, exception classes, constants, built-ins that no name hides -/
structure Tb where
  fns : List Str
  excs : List Str
  cons : List (Str × PV)
  blts : List Str
def vis (sc : Scope) (x : Str) : Bool := match sc.names.lookup x with | some .local => true | some .cell => true | some .free => true | _ => false
def loc (sc : Scope) (x : Str) : Bool := match sc.names.lookup x with | some .local => true | some .cell => true | _ => false
def locL (sc : Scope) (x : Str) : Bool := match sc.names.lookup x with | some .local => true | _ => false
def cel (sc : Scope) (x : Str) : Bool := match sc.names.lookup x with | some .cell => true | _ => false
def glb (sc : Scope) (x : Str) : Bool := match sc.names.lookup x with | some .globalImplicit => true | _ => false
def nmOk (x : Str) : Bool := !(x == ("__debug__" : Str)) && !(x == ("__classdict__" : Str)) && decide (x ≠ "__name__")
def slotOf (N : List Str) (x : Str) : Option Nat := N.findIdx? (· == x)
def toEs : List E → Es
  | [] => .nil
  | e :: es => .cons e (toEs es)
def toTgs : List Tg → Tgs
  | [] => .nil
  | e :: es => .cons e (toTgs es)
def mkB (f : E → E → E) : List E → Option E
  | [] => none
  | [a] => some a
  | a :: as => (mkB f as).map (f a)
def mkT (f : T → T → T) : List T → Option T
  | [] => none
  | [a] => some (f a a)
  | a :: as => (mkT f as).map (f a)
def foldT (and : Bool) : List T → Option T
  | [] => none
  | [a] => some a
  | a :: as => (foldT and as).map (if and then T.and a else T.or a)
def allBlt : List Blt := [.len, .abs, .int, .max2, .min2, .sum, .all, .any, .tuple, .list, .sorted, .max1, .min1]
def bltAr : Blt → Nat
  | .max2 => 2 | .min2 => 2 | _ => 1
def bltOf (x : Str) (n : Nat) : Option Blt := allBlt.find? fun b => bltNm b == x && bltAr b == n
def allTy : List Ty := [.int, .bool, .tuple, .list, .str]
def tyS (t : Ty) : Str := Str.ofString (tyN t)
def tyOf (x : Str) : Option Ty := allTy.find? fun t => tyS t == x
def notSet : Expr → Bool
  | .Set .. => false
  | _ => true
def hasB (t : Tb) (sc : Scope) (x : Str) : Bool := glb sc x && nmOk x && t.blts.contains x
def cName (t : Tb) (N : List Str) (sc : Scope) (x : Str) : Option E :=
  match slotOf N x with
  | some i => if decide (N[i]? = some x) && vis sc x && nmOk x then some (.v i) else if glb sc x && nmOk x then (t.cons.lookup x).map .k else none
  | none => if glb sc x && nmOk x then (t.cons.lookup x).map .k else none
def cTy (t : Tb) (sc : Scope) : Expr → Option Ty
  | .Name x _ => if hasB t sc x then tyOf x else none
  | _ => none
/-- isinstance's second argument -/
def cTys (t : Tb) (sc : Scope) : Expr → Option (List Ty × Bool)
  | .Tuple es _ _ => (es.mapM (cTy t sc)).bind fun ts => if ts.length ≤ 100 then some (ts, true) else none
  | e => (cTy t sc e).map fun x => ([x], false)
def mthOf (x : Str) (n : Nat) : Option Mth :=
  if x == "append" && n == 1 then some .append else if x == "pop" && n == 0 then some .pop else if x == "pop" && n == 1 then some .popAt else none
def ownOf (N : List Str) (sc : Scope) : List (Str × Nat) := sc.names.filterMap fun y => match y.2 with
  | .local => (slotOf N y.1).map fun i => (y.1, i)
  | .cell => (slotOf N y.1).map fun i => (y.1, i)
  | _ => none
mutual
def tgIn : Tg → List Nat → Bool
  | .nm i, vs => vs.contains i
  | .tp ts, vs => tgsIn ts vs
  | .sub _ _, _ => true
def tgsIn : Tgs → List Nat → Bool
  | .nil, _ => true
  | .cons t ts, vs => tgIn t vs && tgsIn ts vs
end
mutual
def cE (t : Tb) (N : List Str) : Nat → Scope → Expr → Option E
  | 0, _, _ => none
  | n + 1, sc, e => match e with
    | .Constant c _ _ => (match c with | .int i => some (.k (.int i)) | .bool b => some (.k (.bl b)) | .none => some (.k .non) | .str s => some (.k (.str s)) | _ => none)
    | .Name x _ => cName t N sc x
    | .BinOp a op b _ => (match opOf op with
      | some o => (match cE t N n sc a, cE t N n sc b with | some a, some b => some (.bin o a b) | _, _ => none)
      | none => none)
    | .UnaryOp op a _ => (match op with | .USub => (cE t N n sc a).map .neg | .Not => (cE t N n sc a).map .not | _ => none)
    | .BoolOp op es _ => (match es.mapM (cE t N n sc) with
      | some cs => (match op with | .And => mkB .and cs | .Or => mkB .or cs)
      | none => none)
    | .Compare a ops cs _ => (match ops, cs with
      | [op], [b] => if notSet b then (match cmpOf op, cE t N n sc a, cE t N n sc b with | some o, some a, some b => some (.cmp o a b) | _, _, _ => none) else none
      | [op, op'], [b, c] => if notSet c then (match cmpOf op, cmpOf op', cE t N n sc a, cE t N n sc b, cE t N n sc c with | some o, some o', some a, some b, some c => some (.chn o o' a b c) | _, _, _, _, _ => none) else none
      | _, _ => none)
    | .IfExp c a b _ => (match cT t N n sc c, cE t N n sc a, cE t N n sc b with | some c, some a, some b => some (.ite c a b) | _, _, _ => none)
    | .Tuple es _ _ => (es.mapM (cE t N n sc)).map fun cs => .tup (toEs cs)
    | .List es _ => (es.mapM (cE t N n sc)).map fun cs => .lst (toEs cs)
    | .Call f args kws cpos => (match kws with
      | [] => (match f with
        | .Name x _ => if glb sc x && nmOk x then
            (match args.mapM (cE t N n sc), slotOf t.fns x with
            | some cs, some i => if decide (t.fns[i]? = some x) && decide (0 < cs.length) then some (.call i (toEs cs)) else none
            | some cs, none => if t.blts.contains x then (bltOf x cs.length).map fun b => .blt b (toEs cs) else none
            | none, _ => (match args with
              | [a, ty] => if x == "isinstance" && t.blts.contains x then (match cE t N n sc a, cTys t sc ty with | some a, some (ts, tp) => some (.isi a ts tp) | _, _ => none) else none
              | [a] => if (x == "tuple" || x == "list") && t.blts.contains x then (match a with
                  | .Call (.Name r _) [u] [] _ => if r == "range" && hasB t sc r then (cE t N n sc u).map (.rg1 (x == "tuple")) else none
                  | .Call (.Name r _) [u, w] [] _ => if r == "range" && hasB t sc r then (match cE t N n sc u, cE t N n sc w with | some u, some w => some (.rg2 (x == "tuple") u w) | _, _ => none) else none
                  | _ => none) else none
              | _ => none)) else none
        | .Attribute o m apos => (match mthOf m args.length, cE t N n sc o, args.mapM (cE t N n sc) with
            | some k, some o, some cs => if (apos.endLine == cpos.line) then some (.mth k o (toEs cs)) else none
            | _, _, _ => none)
        | _ => none)
      | _ => none)
    | .Subscript a i _ => (match i with
      | .Slice lo hi st _ => (match st, cE t N n sc a, cO t N n sc lo, cO t N n sc hi with | none, some a, some lo, some hi => some (.sl a lo hi) | _, _, _, _ => none)
      | i => (match cE t N n sc a, cE t N n sc i with | some a, some i => some (.ix a i) | _, _ => none))
    | .ListComp elt gens sc' _ => (match gens with
      | [⟨tg, it, ifs, as⟩] => if as = 0 ∧ blkC N sc sc' (ownOf N sc') = true then
          (match cIt t N n sc tg it, cG t N n (relS sc' sc) sc' tg, cIfs t N n (relS sc' sc) ifs, cE t N n (relS sc' sc) elt with
          | some g, some tg, some c, some e => if tgIn tg ((ownOf N sc').map (·.2)) then some (.cpr g tg c e ((ownOf N sc').map (·.2))) else none
          | _, _, _, _ => none) else none
      | _ => none)
    | _ => none
def cO (t : Tb) (N : List Str) : Nat → Scope → Option Expr → Option Eo
  | 0, _, _ => none
  | n + 1, sc, o => match o with
    | none => some .none
    | some e => (cE t N n sc e).map .some
def cIfs (t : Tb) (N : List Str) : Nat → Scope → List Expr → Option T
  | 0, _, _ => none
  | n + 1, sc, es => match es with
    | [] => some .yes
    | [c] => cT t N n sc c
    | _ => none
def cT (t : Tb) (N : List Str) : Nat → Scope → Expr → Option T
  | 0, _, _ => none
  | n + 1, sc, e => match e with
    | .UnaryOp op a _ => (match op with | .Not => (cT t N n sc a).map .not | _ => none)
    | .BoolOp op es _ => (match es.mapM (cT t N n sc) with
      | some cs => foldT (match op with | .And => true | .Or => false) cs
      | none => none)
    | .IfExp .. => none
    | .Compare a ops cs _ => (match ops, cs with
      | [op], [b] => if notSet b then (match cmpOf op, cE t N n sc a, cE t N n sc b with | some o, some a, some b => some (.e (.cmp o a b)) | _, _, _ => none) else none
      | [op, op'], [b, c] => if notSet c then (match cmpOf op, cmpOf op', cE t N n sc a, cE t N n sc b, cE t N n sc c with | some o, some o', some a, some b, some c => some (.e (.chn o o' a b c)) | _, _, _, _, _ => none) else none
      | _, _ => none)
    | e => (cE t N n sc e).map .e
def cG (t : Tb) (N : List Str) : Nat → Scope → Scope → Expr → Option Tg
  | 0, _, _, _ => none
  | n + 1, sc, st, e => match e with
    | .Name x _ => (match slotOf N x with | some i => if decide (N[i]? = some x) && loc sc x && (locL sc x || cel st x) then some (.nm i) else none | none => none)
    | .Tuple es _ _ => (es.mapM (cG t N n sc st)).map fun ts => .tp (toTgs ts)
    | .Subscript o i _ => (match i with
      | .Slice .. => none
      | i => (match cE t N n sc o, cE t N n sc i with | some o, some i => some (.sub o i) | _, _ => none))
    | _ => none
def cIt (t : Tb) (N : List Str) : Nat → Scope → Expr → Expr → Option It
  | 0, _, _, _ => none
  | n + 1, sc, tg, e => match e with
    | .Call f args kws _ => (match f, args, kws with
      | .Name x _, [a], [] => if hasB t sc x && x == "range" then (cE t N n sc a).map .rng1
          else if hasB t sc x && x == "reversed" then (cE t N n sc a).map .rev
          else if hasB t sc x && x == "enumerate" then (match tg with | .Tuple .. => (cE t N n sc a).map .enum | _ => none)
          else (cE t N n sc e).map .seq
      | .Name x _, [a, b], [] => if hasB t sc x && x == "range" then (match cE t N n sc a, cE t N n sc b with | some a, some b => some (.rng2 a b) | _, _ => none)
          else if hasB t sc x && x == "zip" then (match tg, cE t N n sc a, cE t N n sc b with | .Tuple .., some a, some b => some (.zip a b) | _, _, _ => none)
          else (cE t N n sc e).map .seq
      | _, _, _ => (cE t N n sc e).map .seq)
    | e => (cE t N n sc e).map .seq
end
end Co
namespace Co
open PySem L2
open PySem.Spec PyProof.Rows
/-- a promise, lifted -/
def lSp (ea : Nat → Addr) (K : PySem.W.Frag) (s : List PV → PH → QK → XK → Prop) : Sp := fun vs H Q E => ∃ pvs h Q' X', RepVs K H pvs vs ∧ RepH K h H ∧ s pvs h Q' X' ∧ Lk K h H Q' Q ∧
  ∀ x h' cls d H', RepX ea x cls d → RepH K h' H' → Fr h H h' H' → X' x h' → E cls d H'
/-- an exception class of the text, without fields -/
structure ExcOk (X : Cx) (x : Str) (C : Addr) : Prop where
  mg : X.mg x = some (.ref C)
  inK : PySem.W.excIn X.K C [.type "ValueError", .type "Exception", .type "BaseException", .type "object"] "ValueError.__new__" = true
  kp : PySem.W.keepIn X.K (.ref C) = true
  rs : Raises X (.ref C)
structure CtxOk (ea : Nat → Addr) (t : Tb) (C : CS) (k : Nat) (N : List Str) (sc : Scope) (W : WX) (X : Cx) : Prop where
  hN : X.N = N
  nd : N.Nodup
  hsc : X.env.scope = sc
  calm : X.calm = true
  room : Room k X.A
  tk : Takes X W
  fns : ∀ i x, t.fns[i]? = some x → ∃ f fd ps, X.mg x = some (.ref f) ∧ PySem.W.keepIn X.K (.ref f) = true ∧ Binds X.K fd ps [] ∧ FnOk X.prog X.w X.K X.mg X.base (L2.CX X.prog X.w) k f fd ps (lSp ea X.K (C i))
  cons : ∀ x v, t.cons.lookup x = some v → ∃ vv u, X.mg x = some u ∧ RelV vv u ∧ ∀ H, RepV X.K H v vv
  blts : ∀ x, t.blts.contains x = true → X.mg x = none
  excs : ∀ i x, t.excs[i]? = some x → ExcOk X x (ea i)
section
variable {ea : Nat → Addr} {t : Tb} {C : CS} {k : Nat} {N : List Str} {sc : Scope} {W : WX} {X : Cx} {e a b c : Expr} {pos : Pos}
theorem CtxOk.hu (cx : CtxOk ea t C k N sc W X) : X.A.units + 64 < cLine := cx.room.units
theorem Lk.here {K : PySem.W.Frag} {h : PH} {H : Hp} {Q' : QK} {Q : VK} {pv : PV} {v : V} (lk : Lk K h H Q' Q) (r : RepV K H pv v) (rh : RepH K h H) (q : Q' pv h) : Q v H := lk _ _ _ _ r rh Fr.refl q
theorem LkC.here {α : Type} {K : PySem.W.Frag} {h : PH} {H : Hp} {Q' : α → PH → Prop} {Q : α → Hp → Prop} {b : α} (lk : LkC K h H Q' Q) (rh : RepH K h H) (q : Q' b h) : Q b H := lk _ _ _ rh Fr.refl q
theorem vis_of {x : Str} (h : vis sc x = true) : Vis sc x := by
  unfold vis at h
  split at h <;> first | exact .inl ‹_› | exact .inr (.inl ‹_›) | exact .inr (.inr ‹_›) | cases h
theorem loc_of {x : Str} (h : loc sc x = true) : Loc sc x := by
  unfold loc at h
  split at h <;> first | exact .inl ‹_› | exact .inr ‹_› | cases h
theorem locL_of {x : Str} (h : locL sc x = true) : sc.names.lookup x = some .local := by
  unfold locL at h
  split at h <;> first | assumption | cases h
theorem glb_of {x : Str} (hs : X.env.scope = sc) (h : glb sc x = true) : Gl X x := by
  unfold glb at h
  split at h
  · show X.env.scope.names.lookup x = _
    rw [hs]; assumption
  · cases h
theorem nm_of {x : Str} (h : nmOk x = true) : (x == ("__debug__" : Str)) = false ∧ (x == ("__classdict__" : Str)) = false ∧ x ≠ "__name__" := by
  unfold nmOk at h
  simp only [Bool.and_eq_true, Bool.not_eq_true', decide_eq_true_eq] at h
  exact ⟨h.1.1, h.1.2, h.2⟩
theorem s_k {v : PV} {vv : V} (r : ∀ H, RepV X.K H v vv) (p : PE X e (tC vv)) : PE X e (lE ea X.K W (wE C (.k v))) :=
  PE.imp p fun σ H Q ⟨pσ, h, Q', X', rs, rh, q, lk, lx⟩ => lk.here (r H) rh (by simpa only [wE] using q)
theorem s_const {cst : Const} {j : Nat} {c' : E} (e : (match cst with | .int i => some (.k (.int i)) | .bool b => some (.k (.bl b)) | .none => some (.k .non) | .str s => some (.k (.str s)) | _ => none) = some c') :
    PE X (.Constant cst j pos) (lE ea X.K W (wE C c')) := by
  cases cst <;> first | (cases e; done) | (cases e; first | exact s_k (fun _ => non_rep) pe_non | exact s_k (fun _ => bl_rep) pe_bl | exact s_k (fun _ => int_rep) pe_int | exact s_k (fun _ => str_rep) pe_str)
theorem s_gl {x : Str} {c' : E} (cx : CtxOk ea t C k N sc W X) (h : (if (glb sc x && nmOk x) = true then (t.cons.lookup x).map E.k else none) = some c') : PE X (.Name x pos) (lE ea X.K W (wE C c')) := by
  split at h
  · rename_i g
    rw [Bool.and_eq_true] at g
    cases q : t.cons.lookup x with
    | none => rw [q] at h; cases h
    | some v =>
      rw [q] at h; cases h
      obtain ⟨vv, u, h1, h2, h3⟩ := cx.cons x v q
      exact s_k h3 (pe_glob (glb_of cx.hsc g.1) h1 h2 (nm_of g.2).1)
  · cases h
theorem s_name {x : Str} {c' : E} (cx : CtxOk ea t C k N sc W X) (h : cName t N sc x = some c') : PE X (.Name x pos) (lE ea X.K W (wE C c')) := by
  unfold cName at h
  split at h
  · rename_i i hi
    split at h
    · rename_i g
      rw [Bool.and_eq_true, Bool.and_eq_true, decide_eq_true_eq] at g
      obtain ⟨⟨g1, g2⟩, g3⟩ := g
      cases h
      obtain ⟨n1, n2, n3⟩ := nm_of g3
      refine PE.imp (pe_var (i := i) (by rw [cx.hN]; exact g1) (by rw [cx.hsc]; exact vis_of g2) n1 n2) fun σ H Q ⟨pσ, h, Q', X', rs, rh, q, lk, lx⟩ => ?_
      simp only [wE] at q
      split at q
      · rename_i v ev
        obtain ⟨vv, e1, r⟩ := rs.2 i v ev
        exact ⟨vv, e1, lk.here r rh q⟩
      · exact q.elim
    · exact s_gl cx h
  · exact s_gl cx h
theorem s_op2 {s : PV → PV → PH → QK → Prop} {r : R2} {ta tb : Sl → PH → QK → XK → Prop} (ok : Ok2 X.K s r) (hp : PE X e (tOp r (lE ea X.K W ta) (lE ea X.K W tb))) :
    PE X e (lE ea X.K W fun σ h Q Xk => ta σ h (fun x h => tb σ h (fun y h => s x y h Q) Xk) Xk) :=
  PE.imp hp fun σ H Q q => lE_seq (LQ := Lk X.K) (tk := fun x pσ h1 Q' X' => tb pσ h1 (fun y h => s x y h Q') X') Lk.keep q fun pσ h1 x vx H1 Q' X' _ rs rh rx q lk lx =>
    lE_seq (LQ := Lk X.K) (tk := fun y pσ h Q' X' => s x y h Q') Lk.keep ⟨pσ, h1, Q', X', rs, rh, q, lk, lx⟩ fun pσ h2 y vy H2 Q' X' ks rs rh2 ry q lk lx =>
      ok x y h2 Q' vx vy H2 Q (rx.mono ks) ry rh2 q lk
theorem s_op1 {s : PV → PH → QK → Prop} {r : V → Hp → VK → Prop} {ta : Sl → PH → QK → XK → Prop} (ok : Ok1 X.K s r) (hp : PE X e (tUn r (lE ea X.K W ta))) :
    PE X e (lE ea X.K W fun σ h Q Xk => ta σ h (fun x h => s x h Q) Xk) :=
  PE.imp hp fun σ H Q q => lE_seq (LQ := Lk X.K) (tk := fun x pσ h1 Q' X' => s x h1 Q') Lk.keep q fun pσ h1 x vx H1 Q' X' _ rs rh rx q lk lx => ok x h1 Q' vx H1 Q rx rh q lk
theorem s_bin {op : Operator} {o : Bop} {a' b' : E} (ho : opOf op = some o) (ha : PE X a (lE ea X.K W (wE C a'))) (hb : PE X b (lE ea X.K W (wE C b'))) : PE X (.BinOp a op b pos) (lE ea X.K W (wE C (.bin o a' b'))) := by
  obtain ⟨r, h1, h2⟩ := r_bop (X := X) ho
  have := s_op2 (W := W) (ea := ea) h2 (pe_op h1 ha hb (pos := pos))
  simpa only [wE] using this
theorem s_neg {a' : E} (ha : PE X a (lE ea X.K W (wE C a'))) : PE X (.UnaryOp .USub a pos) (lE ea X.K W (wE C (.neg a'))) := by
  have ok : Ok1 X.K negS (rU fun i => .int (-i)) := fun x h Q' vx H Q rx rh q lk => by
    cases x <;> first | exact False.elim q | exact ⟨_, rep_int rx, lk.here int_rep rh q⟩
  have := s_op1 (W := W) (ea := ea) ok (pe_un un_neg ha (pos := pos))
  simpa only [wE] using this
/-- a comparison's answer is True or False -/
theorem cop_bool {op : Cop} {x y : PV} {h : PH} {Q : QK} (q : copS op x y h Q) : copS op x y h fun z h => (∃ b, z = .bl b) ∧ Q z h := by
  have eqs : ∀ {q1 q2 : Bool → Prop}, (∀ b, q1 b → q2 b) → eqS x y h q1 → eqS x y h q2 := fun {q1 q2} i e => by
    cases x <;> cases y <;> first | exact i _ e | (obtain ⟨d, e', h1, h2, h3⟩ := e; exact ⟨d, e', h1, h2, i _ h3⟩)
  have ins : ∀ {q1 q2 : Bool → Prop}, (∀ b, q1 b → q2 b) → inS x y h q1 → inS x y h q2 := fun {q1 q2} i e => by
    unfold inS at e ⊢
    split at e
    · exact ⟨e.1, e.2.1, i _ e.2.2⟩
    · exact e.elim
  cases op
  · exact eqs (q1 := fun b => Q (.bl b) h) (q2 := fun b => (∃ b', PV.bl b = .bl b') ∧ Q (.bl b) h) (fun b z => ⟨⟨_, rfl⟩, z⟩) q
  · exact eqs (q1 := fun b => Q (.bl (!b)) h) (q2 := fun b => (∃ b', PV.bl (!b) = .bl b') ∧ Q (.bl (!b)) h) (fun b z => ⟨⟨_, rfl⟩, z⟩) q
  · cases x <;> cases y <;> first | exact False.elim q | exact ⟨⟨_, rfl⟩, q⟩
  · cases x <;> cases y <;> first | exact False.elim q | exact ⟨⟨_, rfl⟩, q⟩
  · cases x <;> cases y <;> first | exact False.elim q | exact ⟨⟨_, rfl⟩, q⟩
  · cases x <;> cases y <;> first | exact False.elim q | exact ⟨⟨_, rfl⟩, q⟩
  · cases y <;> first | exact False.elim q | exact ⟨⟨_, rfl⟩, q⟩
  · cases y <;> first | exact False.elim q | exact ⟨⟨_, rfl⟩, q⟩
  · exact ins (q1 := fun b => Q (.bl b) h) (q2 := fun b => (∃ b', PV.bl b = .bl b') ∧ Q (.bl b) h) (fun b z => ⟨⟨_, rfl⟩, z⟩) q
  · exact ins (q1 := fun b => Q (.bl (!b)) h) (q2 := fun b => (∃ b', PV.bl (!b) = .bl b') ∧ Q (.bl (!b)) h) (fun b z => ⟨⟨_, rfl⟩, z⟩) q
theorem mark_of {op : CmpOp} (h : notSet b = true) : behindInMarks op b = false := by
  cases b <;> first | rfl | cases h
theorem s_cmp {op : CmpOp} {o : Cop} {a' b' : E} (hu : X.A.units + 64 < cLine) (hs : notSet b = true) (ho : cmpOf op = some o) (ha : PE X a (lE ea X.K W (wE C a'))) (hb : PE X b (lE ea X.K W (wE C b'))) :
    PE X (.Compare a [op] [b] pos) (lE ea X.K W (wE C (.cmp o a' b'))) := by
  obtain ⟨r, h1, h2⟩ := r_cop hu ho
  have := s_op2 (W := W) (ea := ea) h2 (pe_cmpR h1 ha hb (mark_of hs) (pos := pos))
  simpa only [wE] using this
end
end Co
namespace Co
open PySem L2
open PySem.Spec PyProof.Rows
section
variable {ea : Nat → Addr} {t : Tb} {C : CS} {k : Nat} {N : List Str} {sc : Scope} {W : WX} {X : Cx} {e a b c : Expr} {pos : Pos}
theorem marks_of {op op' : CmpOp} (h : notSet c = true) : lastMarks [op, op'] [b, c] = false := by
  show behindInMarks op' c = false
  exact mark_of h
theorem chain_gen {β γ : Type} {LQ : PH → Hp → (β → PH → Prop) → γ → Prop} (hl : ∀ {h h' : PH} {H H' : Hp} {Q' : β → PH → Prop} {Q : γ}, LQ h H Q' Q → Fr h H h' H' → LQ h' H' Q' Q) {F : (β → PH → Prop) → QK} {R : VK} {Q : γ}
    (hR : ∀ h H Q' b, RepH X.K h H → LQ h H Q' Q → F Q' (.bl b) h → R (.bl b) H) {o o' : Cop} {a' b' c' : E} {r r' : R2} (ok : Ok2 X.K (copS o) r) (ok' : Ok2 X.K (copS o') r') {σ : L2.St} {H : Hp}
    (q : ∃ pσ h Q' X', RepS X.K H pσ σ ∧ RepH X.K h H ∧ wE C (.chn o o' a' b' c') pσ h (F Q') X' ∧ LQ h H Q' Q ∧ LkX ea X.K h H X' σ W) :
    tChain r r' (lE ea X.K W (wE C a')) (lE ea X.K W (wE C b')) (lE ea X.K W (wE C c')) σ H R := by
  simp only [wE] at q
  refine lE_seq (LQ := LQ) (tk := fun x pσ h Q' X' => wE C b' pσ h (fun y h => copS o x y h fun z h => match z with
      | .bl true => wE C c' pσ h (fun u h => copS o' y u h (F Q')) X'
      | .bl false => F Q' (.bl false) h
      | _ => False) X') hl q fun pσ h1 x vx H1 Q' X' _ rs rh rx q lk lx => ?_
  refine lE_seq (LQ := LQ) (tk := fun y pσ h Q' X' => copS o x y h fun z h => match z with
      | .bl true => wE C c' pσ h (fun u h => copS o' y u h (F Q')) X'
      | .bl false => F Q' (.bl false) h
      | _ => False) hl ⟨pσ, h1, Q', X', rs, rh, q, lk, lx⟩ fun pσ h2 y vy H2 Q' X' ks rs rh2 ry q lk lx => ?_
  refine ok x y h2 _ vx vy H2 _ (rx.mono ks) ry rh2 (cop_bool q) fun z h3 vz H3 rz rh3 fr q3 => ?_
  obtain ⟨⟨d, rfl⟩, q3⟩ := q3
  rw [rep_bl rz]
  refine ⟨d, rfl, ?_⟩
  cases d with
  | true =>
    rw [if_pos rfl]
    refine lE_seq (LQ := LQ) (tk := fun u pσ h Q' X' => copS o' y u h (F Q')) hl ⟨pσ, h3, Q', X', rs.keep rh2 fr, rh3, q3, hl lk fr, lx.keep fr⟩ fun pσ h4 u vu H4 Q' X' ks4 rs rh4 ru q lk lx => ?_
    refine ok' y u h4 _ vy vu H4 R ((ry.keep rh2 fr).mono ks4) ru rh4 (cop_bool q) fun z h5 vz H5 rz rh5 fr5 q5 => ?_
    obtain ⟨⟨d, rfl⟩, q5⟩ := q5
    rw [rep_bl rz]
    exact hR h5 H5 Q' d rh5 (hl lk fr5) q5
  | false =>
    rw [if_neg (Bool.false_ne_true)]
    exact hR h3 H3 Q' false rh3 (hl lk fr) q3
theorem s_chn {op op' : CmpOp} {o o' : Cop} {a' b' c' : E} (hu : X.A.units + 64 < cLine) (hs : notSet c = true) (ho : cmpOf op = some o) (ho' : cmpOf op' = some o')
    (ha : PE X a (lE ea X.K W (wE C a'))) (hb : PE X b (lE ea X.K W (wE C b'))) (hc : PE X c (lE ea X.K W (wE C c'))) : PE X (.Compare a [op, op'] [b, c] pos) (lE ea X.K W (wE C (.chn o o' a' b' c'))) := by
  obtain ⟨r, h1, h2⟩ := r_cop hu ho
  obtain ⟨r', h1', h2'⟩ := r_cop hu ho'
  exact PE.imp (pe_chain h1 h1' ha hb hc (marks_of hs)) fun σ H Q q => chain_gen (LQ := Lk X.K) (F := id) Lk.keep (fun h H Q' b rh lk q => lk.here bl_rep rh q) h2 h2' q
theorem tru_seq {ta : Sl → PH → QK → XK → Prop} {s : Bool → PV → Sl → PH → QK → XK → Prop} {R : Bool → V → Hp → Prop} {σ : L2.St} {H : Hp} {Q : VK}
    (q : lE ea X.K W (fun σ h Q Xk => ta σ h (fun x h => truS x h fun c h => s c x σ h Q Xk) Xk) σ H Q)
    (hk : ∀ pσ h1 x vx H1 Q' X' c, RepS X.K H1 pσ σ → RepH X.K h1 H1 → RepV X.K H1 x vx → s c x pσ h1 Q' X' → Lk X.K h1 H1 Q' Q → LkX ea X.K h1 H1 X' σ W → R c vx H1) :
    lE ea X.K W ta σ H fun vx H1 => ∃ k, TruV X.K vx H1 k ∧ R k vx H1 :=
  lE_seq (LQ := Lk X.K) (tk := fun x pσ h Q' X' => truS x h fun c h => s c x pσ h Q' X') Lk.keep q fun pσ h1 x vx H1 Q' X' _ rs rh rx q lk lx =>
    ok_tru (Q' := fun c h => s c x pσ h Q' X') (Q := fun c H2 => H2 = H1 → R c vx H1) rx rh q (fun c h2 H2 rh2 fr q2 e => by subst e; exact hk pσ h2 x vx H2 Q' X' c (rs.keep rh fr) rh2 (rx.keep rh fr) q2 (lk.keep fr) (lx.keep fr)) |>.imp fun k z => ⟨z.1, z.2 rfl⟩
theorem s_not {a' : E} (ha : PE X a (lE ea X.K W (wE C a'))) : PE X (.UnaryOp .Not a pos) (lE ea X.K W (wE C (.not a'))) :=
  PE.imp (pe_notT ha) fun σ H Q q => tru_seq (s := fun c _ _ h Q _ => Q (.bl (!c)) h) (R := fun c _ H => Q (.bl (!c)) H) (by simpa only [wE] using q) fun _ _ _ _ _ _ _ _ _ rh _ q lk _ => lk.here bl_rep rh q
theorem s_and2 {a' b' : E} {rest : List Expr} (ha : PE X a (lE ea X.K W (wE C a'))) (hb : PE X (.BoolOp .And (b :: rest) pos) (lE ea X.K W (wE C b'))) : PE X (.BoolOp .And (a :: b :: rest) pos) (lE ea X.K W (wE C (.and a' b'))) :=
  PE.imp (pe_andT ha hb) fun σ H Q q => tru_seq (s := fun c x σ h Q Xk => if c = true then wE C b' σ h Q Xk else Q x h) (R := fun c x H => if c = true then lE ea X.K W (wE C b') σ H Q else Q x H) (by simpa only [wE] using q)
    fun pσ h1 x vx H1 Q' X' c rs rh rx q lk lx => by
      cases c with
      | true => exact ⟨pσ, h1, Q', X', rs, rh, q, lk, lx⟩
      | false => exact lk.here rx rh q
theorem s_or2 {a' b' : E} {rest : List Expr} (ha : PE X a (lE ea X.K W (wE C a'))) (hb : PE X (.BoolOp .Or (b :: rest) pos) (lE ea X.K W (wE C b'))) : PE X (.BoolOp .Or (a :: b :: rest) pos) (lE ea X.K W (wE C (.or a' b'))) :=
  PE.imp (pe_orT ha hb) fun σ H Q q => tru_seq (s := fun c x σ h Q Xk => if c = true then Q x h else wE C b' σ h Q Xk) (R := fun c x H => if c = true then Q x H else lE ea X.K W (wE C b') σ H Q) (by simpa only [wE] using q)
    fun pσ h1 x vx H1 Q' X' c rs rh rx q lk lx => by
      cases c with
      | true => exact lk.here rx rh q
      | false => exact ⟨pσ, h1, Q', X', rs, rh, q, lk, lx⟩
/-- the list of what is compiled -/
theorem mapM_cons {α β : Type} {f : α → Option β} {x : α} {xs : List α} {ys : List β} (h : (x :: xs).mapM f = some ys) : ∃ y zs, f x = some y ∧ xs.mapM f = some zs ∧ ys = y :: zs := by
  rw [List.mapM_cons] at h
  cases e1 : f x with
  | none => rw [e1] at h; cases h
  | some y =>
    rw [e1] at h
    cases e2 : xs.mapM f with
    | none => rw [e2] at h; cases h
    | some zs => rw [e2] at h; cases h; exact ⟨y, zs, rfl, rfl, rfl⟩
theorem mapM_nil {α β : Type} {f : α → Option β} {ys : List β} (h : ([] : List α).mapM f = some ys) : ys = [] := by
  rw [List.mapM_nil] at h; cases h; rfl
theorem s_and {f : Expr → Option E} : ∀ {es : List Expr} {cs : List E} {c' : E}, (∀ e c, e ∈ es → f e = some c → PE X e (lE ea X.K W (wE C c))) → es.mapM f = some cs → mkB .and cs = some c' → PE X (.BoolOp .And es pos) (lE ea X.K W (wE C c'))
  | [], _, _, _, h, g => by rw [mapM_nil h] at g; cases g
  | [a], _, _, ih, h, g => by
    obtain ⟨y, zs, h1, h2, rfl⟩ := mapM_cons h
    rw [mapM_nil h2] at g
    cases g
    exact pe_one (ih a _ (by simp) h1)
  | a :: b :: es, _, _, ih, h, g => by
    obtain ⟨y, zs, h1, h2, rfl⟩ := mapM_cons h
    have h3 := h2
    obtain ⟨y2, zs2, _, _, rfl⟩ := mapM_cons h3
    simp only [mkB] at g
    cases q : mkB .and (y2 :: zs2) with
    | none => rw [q] at g; cases g
    | some c2 =>
      rw [q] at g; cases g
      exact s_and2 (ih a y (by simp) h1) (s_and (fun e c m => ih e c (List.mem_cons_of_mem _ m)) h2 q)
theorem s_or {f : Expr → Option E} : ∀ {es : List Expr} {cs : List E} {c' : E}, (∀ e c, e ∈ es → f e = some c → PE X e (lE ea X.K W (wE C c))) → es.mapM f = some cs → mkB .or cs = some c' → PE X (.BoolOp .Or es pos) (lE ea X.K W (wE C c'))
  | [], _, _, _, h, g => by rw [mapM_nil h] at g; cases g
  | [a], _, _, ih, h, g => by
    obtain ⟨y, zs, h1, h2, rfl⟩ := mapM_cons h
    rw [mapM_nil h2] at g
    cases g
    exact pe_one (ih a _ (by simp) h1)
  | a :: b :: es, _, _, ih, h, g => by
    obtain ⟨y, zs, h1, h2, rfl⟩ := mapM_cons h
    have h3 := h2
    obtain ⟨y2, zs2, _, _, rfl⟩ := mapM_cons h3
    simp only [mkB] at g
    cases q : mkB .or (y2 :: zs2) with
    | none => rw [q] at g; cases g
    | some c2 =>
      rw [q] at g; cases g
      exact s_or2 (ih a y (by simp) h1) (s_or (fun e c m => ih e c (List.mem_cons_of_mem _ m)) h2 q)
theorem t_not {a' : T} (ha : PT X a (lC ea X.K W (wT C a'))) : PT X (.UnaryOp .Not a pos) (lC ea X.K W (wT C (.not a'))) :=
  PT.imp (pt_not ha) fun σ H Q q => lC_seq (LQ := LkC X.K) (tk := fun c pσ h Q' X' => Q' (!c) h) LkC.keep (by simpa only [lC, wT] using q) fun _ _ _ _ _ _ _ _ rh q lk _ => lk.here rh q
theorem t_andw {a' b' : T} {rest : List Expr} (ha : PT X a (lC ea X.K W (wT C a'))) (hb : PW X (.BoolOp .And (b :: rest) pos) (lC ea X.K W (wT C b'))) : PW X (.BoolOp .And (a :: b :: rest) pos) (lC ea X.K W (wT C (.and a' b'))) := by
  refine ⟨fun whole pins s σ H Q I q => (pw_and ha hb).run whole pins s σ H Q I ?_⟩
  refine lC_seq (LQ := LkC X.K) (tk := fun c pσ h Q' X' => if c = true then wT C b' pσ h Q' X' else Q' false h) LkC.keep (by simpa only [lC, wT] using q) fun pσ h1 c H1 Q' X' _ rs rh q lk lx => ?_
  cases c with
  | true => exact ⟨pσ, h1, Q', X', rs, rh, q, lk, lx⟩
  | false => exact lk.here rh q
theorem t_orw {a' b' : T} {rest : List Expr} (ha : PT X a (lC ea X.K W (wT C a'))) (hb : PW X (.BoolOp .Or (b :: rest) pos) (lC ea X.K W (wT C b'))) : PW X (.BoolOp .Or (a :: b :: rest) pos) (lC ea X.K W (wT C (.or a' b'))) := by
  refine ⟨fun whole pins s σ H Q I q => (pw_or ha hb).run whole pins s σ H Q I ?_⟩
  refine lC_seq (LQ := LkC X.K) (tk := fun c pσ h Q' X' => if c = true then Q' true h else wT C b' pσ h Q' X') LkC.keep (by simpa only [lC, wT] using q) fun pσ h1 c H1 Q' X' _ rs rh q lk lx => ?_
  cases c with
  | true => exact lk.here rh q
  | false => exact ⟨pσ, h1, Q', X', rs, rh, q, lk, lx⟩
theorem t_and {f : Expr → Option T} : ∀ {es : List Expr} {cs : List T} {c' : T}, (∀ e c, e ∈ es → f e = some c → PT X e (lC ea X.K W (wT C c))) → es.mapM f = some cs → foldT true cs = some c' → PW X (.BoolOp .And es pos) (lC ea X.K W (wT C c'))
  | [], _, _, _, h, g => by rw [mapM_nil h] at g; cases g
  | [a], _, _, ih, h, g => by
    obtain ⟨y, zs, h1, h2, rfl⟩ := mapM_cons h
    rw [mapM_nil h2] at g
    cases g
    exact pw_and1 (ih a _ (by simp) h1)
  | a :: b :: es, _, _, ih, h, g => by
    obtain ⟨y, zs, h1, h2, rfl⟩ := mapM_cons h
    have h3 := h2
    obtain ⟨y2, zs2, _, _, rfl⟩ := mapM_cons h3
    simp only [foldT] at g
    cases q : foldT true (y2 :: zs2) with
    | none => rw [q] at g; cases g
    | some c2 =>
      rw [q] at g; cases g
      exact t_andw (ih a y (by simp) h1) (t_and (fun e c m => ih e c (List.mem_cons_of_mem _ m)) h2 q)
theorem t_or {f : Expr → Option T} : ∀ {es : List Expr} {cs : List T} {c' : T}, (∀ e c, e ∈ es → f e = some c → PT X e (lC ea X.K W (wT C c))) → es.mapM f = some cs → foldT false cs = some c' → PW X (.BoolOp .Or es pos) (lC ea X.K W (wT C c'))
  | [], _, _, _, h, g => by rw [mapM_nil h] at g; cases g
  | [a], _, _, ih, h, g => by
    obtain ⟨y, zs, h1, h2, rfl⟩ := mapM_cons h
    rw [mapM_nil h2] at g
    cases g
    exact pw_or1 (ih a _ (by simp) h1)
  | a :: b :: es, _, _, ih, h, g => by
    obtain ⟨y, zs, h1, h2, rfl⟩ := mapM_cons h
    have h3 := h2
    obtain ⟨y2, zs2, _, _, rfl⟩ := mapM_cons h3
    simp only [foldT] at g
    cases q : foldT false (y2 :: zs2) with
    | none => rw [q] at g; cases g
    | some c2 =>
      rw [q] at g; cases g
      exact t_orw (ih a y (by simp) h1) (t_or (fun e c m => ih e c (List.mem_cons_of_mem _ m)) h2 q)
/-- a value's truth as a test -/
theorem t_tru {a' : E} (ha : PE X a (lE ea X.K W (wE C a'))) (he : ∀ whole, isTrue a X.env whole = (do let v ← whole; standAt a.pos; holding [v] (truthy v))) : PT X a (lC ea X.K W (wT C (.e a'))) :=
  PT.imp (pt_truth ha he) fun σ H Q q => lE_seq (LQ := LkC X.K) (tk := fun x pσ h Q' X' => truS x h Q') LkC.keep (by simpa only [lC, wT] using q) fun pσ h1 x vx H1 Q' X' _ rs rh rx q lk lx =>
    ok_tru rx rh q lk
theorem t_cmp {op : CmpOp} {o : Cop} {a' b' : E} (hu : X.A.units + 64 < cLine) (hs : notSet b = true) (ho : cmpOf op = some o) (ha : PE X a (lE ea X.K W (wE C a'))) (hb : PE X b (lE ea X.K W (wE C b'))) :
    PT X (.Compare a [op] [b] pos) (lC ea X.K W (wT C (.e (.cmp o a' b')))) := by
  obtain ⟨r, h1, h2⟩ := r_cop hu ho
  refine PT.imp (pt_cmpR h1 ha hb (mark_of hs)) fun σ H Q q => ?_
  simp only [lC, wT, wE] at q
  refine lE_seq (LQ := LkC X.K) (tk := fun x pσ h Q' X' => wE C b' pσ h (fun y h => copS o x y h fun v h => truS v h Q') X') LkC.keep q fun pσ h1 x vx H1 Q' X' _ rs rh rx q lk lx => ?_
  refine lE_seq (LQ := LkC X.K) (tk := fun y pσ h Q' X' => copS o x y h fun v h => truS v h Q') LkC.keep ⟨pσ, h1, Q', X', rs, rh, q, lk, lx⟩ fun pσ hb2 y vy H2 Q' X' ks rs rh2 ry q lk lx => ?_
  refine h2 x y _ _ vx vy H2 _ (rx.mono ks) ry rh2 (cop_bool q) fun z h3 vz H3 rz rh3 fr q3 => ?_
  obtain ⟨⟨d, rfl⟩, q3⟩ := q3
  exact ⟨d, rep_bl rz, (lk.keep fr).here rh3 q3⟩
theorem t_chn {op op' : CmpOp} {o o' : Cop} {a' b' c' : E} (hu : X.A.units + 64 < cLine) (hs : notSet c = true) (ho : cmpOf op = some o) (ho' : cmpOf op' = some o')
    (ha : PE X a (lE ea X.K W (wE C a'))) (hb : PE X b (lE ea X.K W (wE C b'))) (hc : PE X c (lE ea X.K W (wE C c'))) : PT X (.Compare a [op, op'] [b, c] pos) (lC ea X.K W (wT C (.e (.chn o o' a' b' c')))) := by
  obtain ⟨r, h1, h2⟩ := r_cop hu ho
  obtain ⟨r', h1', h2'⟩ := r_cop hu ho'
  exact PT.imp (pt_chain h1 h1' ha hb hc (marks_of hs)) fun σ H Q q => chain_gen (LQ := LkC X.K) (F := fun Q' v h => truS v h Q') LkC.keep (fun h H Q' b rh lk q => ⟨b, rfl, lk.here rh q⟩) h2 h2' (by simpa only [lC, wT] using q)
end
end Co
namespace Co
open PySem L2
open PySem.Spec PyProof.Rows
def notStar : Expr → Bool
  | .Starred .. => false
  | _ => true
def notSlice : Expr → Bool
  | .Slice .. => false
  | _ => true
/-- no call without arguments -/
def notCall0 : Expr → Bool
  | .Call (.Name _ _) [] [] _ => false
  | _ => true
section
variable {ea : Nat → Addr} {t : Tb} {C : CS} {k : Nat} {N : List Str} {sc : Scope} {W : WX} {X : Cx} {e a b c : Expr} {es : List Expr} {pos : Pos}
theorem star_of {env : Env} (h : notStar e = true) : starEach (e :: es) env = (false, eval e env) :: starEach es env := by
  cases e <;> first | rfl | cases h
theorem plain_of {env : Env} : ∀ {es : List Expr}, es.all notStar = true → (backTo pos (starEach es env)).any (·.1) = false
  | [], _ => rfl
  | e :: es, h => by
    (rw [List.all_cons] at h; rw [Bool.and_eq_true] at h)
    rw [star_of h.1]
    show (false || (backTo pos (starEach es env)).any (·.1)) = false
    rw [plain_of h.2]; rfl
theorem few_of {env : Env} : ∀ {es : List Expr}, es.all notStar = true → (backTo pos (starEach es env)).all (fun x => !x.1) = true
  | [], _ => rfl
  | e :: es, h => by
    (rw [List.all_cons] at h; rw [Bool.and_eq_true] at h)
    rw [star_of h.1]
    show (true && (backTo pos (starEach es env)).all (fun x => !x.1)) = true
    rw [few_of h.2]; rfl
theorem s_ite {c' : T} {a' b' : E} (hc : PT X c (lC ea X.K W (wT C c'))) (ha : PE X a (lE ea X.K W (wE C a'))) (hb : PE X b (lE ea X.K W (wE C b'))) : PE X (.IfExp c a b pos) (lE ea X.K W (wE C (.ite c' a' b'))) :=
  PE.imp (pe_ifExp hc ha hb) fun σ H Q q => lC_seq (LQ := Lk X.K) (tk := fun c pσ h Q' X' => if c = true then wE C a' pσ h Q' X' else wE C b' pσ h Q' X') Lk.keep (by simpa only [lE, wE] using q) fun pσ h1 c H1 Q' X' _ rs rh q lk lx => by
    cases c with
    | true => exact ⟨pσ, h1, Q', X', rs, rh, q, lk, lx⟩
    | false => exact ⟨pσ, h1, Q', X', rs, rh, q, lk, lx⟩
theorem s_args {f : Expr → Option E} : ∀ {es : List Expr} {cs : List E}, (∀ e c, e ∈ es → f e = some c → PE X e (lE ea X.K W (wE C c)) ∧ notStar e = true) → es.mapM f = some cs → PA X es (lA ea X.K W (wEs C (toEs cs))) ∧ es.all notStar = true
  | [], _, _, h => by
    rw [mapM_nil h]
    exact ⟨PA.imp pa_nil fun σ H Q ⟨pσ, h, Q', X', rs, rh, q, lk, lx⟩ => lk [] h [] H (RepVs.nil_iff.mpr rfl) rh Fr.refl (by simpa only [toEs, wEs] using q), rfl⟩
  | e :: es, _, ih, h => by
    obtain ⟨y, zs, h1, h2, rfl⟩ := mapM_cons h
    obtain ⟨p1, p2⟩ := ih e y (by simp) h1
    obtain ⟨q1, q2⟩ := s_args (fun e c m => ih e c (List.mem_cons_of_mem _ m)) h2
    refine ⟨PA.imp (pa_cons p1 q1 (star_of p2)) fun σ H Q q => ?_, by rw [List.all_cons, p2, q2]; rfl⟩
    refine lE_seq (LQ := LkA X.K) (tk := fun x pσ h Q' X' => wEs C (toEs zs) pσ h (fun vs h => Q' (x :: vs) h) X') LkA.keep (by simpa only [lA, toEs, wEs] using q) fun pσ h1 x vx H1 Q' X' _ rs rh rx q lk lx => ?_
    refine lA_seq (LQ := LkA X.K) (tk := fun vs pσ h Q' X' => Q' (x :: vs) h) LkA.keep ⟨pσ, h1, Q', X', rs, rh, q, lk, lx⟩ fun pσ h2 xs vxs H2 Q' X' ks rs rh2 rxs q lk lx => ?_
    exact lk _ _ _ _ (RepVs.cons_iff.mpr ⟨_, _, rfl, rx.mono ks, rxs⟩) rh2 Fr.refl q
/-- one thing made of arguments -/
theorem s_argsK {e : Expr} {ts : Es} {s : List PV → PH → QK → Prop} {r : List V → Hp → VK → Prop} (ok : OkL X.K s r) (hp : PE X e (tCB r (lA ea X.K W (wEs C ts)))) :
    PE X e (lE ea X.K W fun σ h Q Xk => wEs C ts σ h (fun vs h => s vs h Q) Xk) :=
  PE.imp hp fun σ H Q q => lA_seq (LQ := Lk X.K) (tk := fun vs pσ h Q' X' => s vs h Q') Lk.keep q fun pσ h1 x vx H1 Q' X' _ rs rh rx q lk lx => ok x h1 Q' vx H1 Q rx rh q lk
theorem s_tup {x1 : Nat} {cs : List E} (ha : PA X es (lA ea X.K W (wEs C (toEs cs)))) : PE X (.Tuple es x1 pos) (lE ea X.K W (wE C (.tup (toEs cs)))) := by
  have ok : OkL X.K (fun vs h Q => vs.length ≤ 16777216 ∧ Q (.tup vs) h) (fun xs H1 Q => xs.length ≤ sizeLine ∧ ∀ p, H1 p = none → Q (.ref p) (upd H1 p (.tup xs))) := fun xs h Q' vs H Q rx rh q lk =>
    ⟨by rw [line16, ← rx.length]; exact q.1, newT_rep rh rx q.2 lk⟩
  have := s_argsK (W := W) (ea := ea) ok (pe_tup (x1 := x1) (pos := pos) ha)
  simpa only [wE] using this
theorem s_lst {cs : List E} (ha : PA X es (lA ea X.K W (wEs C (toEs cs)))) : PE X (.List es pos) (lE ea X.K W (wE C (.lst (toEs cs)))) := by
  have ok : OkL X.K (fun vs h Q => vs.length ≤ 16777216 ∧ newL h vs Q) (fun xs H1 Q => xs.length ≤ sizeLine ∧ ∀ p, H1 p = none → Q (.ref p) (upd H1 p (.lst xs))) := fun xs h Q' vs H Q rx rh q lk =>
    ⟨by rw [line16, ← rx.length]; exact q.1, newL_rep rh rx q.2 lk⟩
  have := s_argsK (W := W) (ea := ea) ok (pe_lst (pos := pos) ha)
  simpa only [wE] using this
theorem s_call {x : Str} {i : Nat} {p : Pos} {cs : List E} (cx : CtxOk ea t C k N sc W X) (hx : t.fns[i]? = some x) (hg : glb sc x = true) (hn : nmOk x = true) (ha : PA X (a :: es) (lA ea X.K W (wEs C (toEs cs)))) (hs : (a :: es).all notStar = true) :
    PE X (.Call (.Name x p) (a :: es) [] pos) (lE ea X.K W (wE C (.call i (toEs cs)))) := by
  obtain ⟨f, fd, ps, h1, h2, h3, h4⟩ := cx.fns i x hx
  have hs' := hs
  rw [List.all_cons, Bool.and_eq_true] at hs'
  refine PE.imp (pe_callS h4 cx.room (glb_of cx.hsc hg) h1 h2 h3 (fun σ => passAt cx.tk σ) ha (nm_of hn).1 (star_of hs'.1) (plain_of hs'.2)) fun σ H Q q => ?_
  refine lA_seq (LQ := Lk X.K) (tk := fun vs pσ h Q' X' => C i vs h Q' X') Lk.keep (by simpa only [lE, wE] using q) fun pσ h1 x vx H1 Q' X' _ rs rh rx q lk lx => ?_
  exact ⟨x, h1, Q', X', rx, rh, q, lk, lx⟩
theorem pe_blt {bt : Blt} {r : List V → Hp → VK → Prop} {ta : TA} {p : Pos} (hc : CallR X (bltV bt) r) (hg : Gl X (bltNm bt)) (hm : X.mg (bltNm bt) = none) (ha : PA X (a :: es) ta) (hs : (a :: es).all notStar = true) : PE X (.Call (.Name (bltNm bt) p) (a :: es) [] pos) (tCB r ta) := by
  rw [List.all_cons, Bool.and_eq_true] at hs
  have hv := boot_blt bt
  cases bt <;> first
    | exact pe_callB hc hg hm hv ha (by decide) (by decide) (star_of hs.1) (plain_of hs.2)
    | exact pe_callTy hc hg hm hv ha (by decide) (by decide) (star_of hs.1) (plain_of hs.2)
theorem blt_of {x : Str} {n : Nat} {bt : Blt} (h : bltOf x n = some bt) : bltNm bt = x := by
  have := List.find?_some h
  rw [Bool.and_eq_true, beq_iff_eq] at this
  exact this.1
theorem s_blt {x : Str} {n : Nat} {bt : Blt} {p : Pos} {cs : List E} (cx : CtxOk ea t C k N sc W X) (hb : bltOf x n = some bt) (hg : glb sc x = true) (hm : t.blts.contains x = true) (ha : PA X (a :: es) (lA ea X.K W (wEs C (toEs cs)))) (hs : (a :: es).all notStar = true) :
    PE X (.Call (.Name x p) (a :: es) [] pos) (lE ea X.K W (wE C (.blt bt (toEs cs)))) := by
  have e := blt_of hb
  subst e
  obtain ⟨r, h1, h2⟩ := r_blt (X := X) cx.calm bt
  have := s_argsK (W := W) (ea := ea) h2 (pe_blt (p := p) (pos := pos) h1 (glb_of cx.hsc hg) (cx.blts _ hm) ha hs)
  simpa only [wE] using this
theorem boot_ty (y : Ty) : bootBuiltins (tyS y) = some (.type (tyN y)) := by cases y <;> decide +kernel
theorem ty_of {x : Str} {y : Ty} (h : tyOf x = some y) : tyS y = x := by
  have := List.find?_some h
  rw [beq_iff_eq] at this
  exact this
theorem s_ty {ty : Expr} {y : Ty} (cx : CtxOk ea t C k N sc W X) (h : cTy t sc ty = some y) : PE X ty (tC (.ty (tyN y))) ∧ notStar ty = true := by
  unfold cTy at h
  split at h
  · rename_i x p
    split at h
    · rename_i g
      unfold hasB at g
      rw [Bool.and_eq_true, Bool.and_eq_true] at g
      have e := ty_of h
      subst e
      obtain ⟨n1, n2, n3⟩ := nm_of g.1.2
      exact ⟨pe_bltn (glb_of cx.hsc g.1.1) (cx.blts _ g.2) (boot_ty y) rfl n3 n1, rfl⟩
    · cases h
  · cases h
theorem s_tysA (cx : CtxOk ea t C k N sc W X) : ∀ {es : List Expr} {ts : List Ty}, es.mapM (cTy t sc) = some ts → PA X es (fun σ H Q => Q (ts.map fun y => V.ty (tyN y)) H) ∧ es.all notStar = true
  | [], _, h => by rw [mapM_nil h]; exact ⟨pa_nil, rfl⟩
  | e :: es, _, h => by
    obtain ⟨y, zs, h1, h2, rfl⟩ := mapM_cons h
    obtain ⟨p1, p2⟩ := s_ty cx h1
    obtain ⟨q1, q2⟩ := s_tysA cx h2
    exact ⟨pa_cons p1 q1 (star_of p2), by rw [List.all_cons, p2, q2]; rfl⟩
theorem clsv : ∀ ts : List Ty, Paired ClsV (ts.map fun y => V.ty (tyN y)) (ts.map fun y => Value.type (tyN y))
  | [] => .nil
  | y :: ts => .cons (.ty _) (clsv ts)
theorem boot_isi : bootBuiltins "isinstance" = some (.builtin "isinstance") := by decide +kernel
theorem s_isi {ty : Expr} {ts : List Ty} {tp : Bool} {a' : E} {p : Pos} (cx : CtxOk ea t C k N sc W X) (hg : glb sc "isinstance" = true) (hm : t.blts.contains "isinstance" = true) (ha : PE X a (lE ea X.K W (wE C a'))) (hs : notStar a = true)
    (h : cTys t sc ty = some (ts, tp)) : PE X (.Call (.Name "isinstance" p) [a, ty] [] pos) (lE ea X.K W (wE C (.isi a' ts tp))) := by
  have gen : ∀ y, ts = [y] → cTy t sc ty = some y → PE X (.Call (.Name "isinstance" p) [a, ty] [] pos) (lE ea X.K W (wE C (.isi a' ts tp))) := fun y e hy => by
    subst e
    obtain ⟨p1, p2⟩ := s_ty cx hy
    refine PE.imp (pe_callB call_isi (glb_of cx.hsc hg) (cx.blts _ hm) boot_isi (pa_cons ha (pa_cons p1 pa_nil (star_of p2)) (star_of hs)) (by decide) (by decide) (star_of hs) (plain_of (by rw [List.all_cons, p2]; rfl))) fun σ H Q q => ?_
    refine lE_seq (LQ := Lk X.K) (tk := fun x pσ h Q' X' => isiS x [y] h Q') Lk.keep (by simpa only [lE, wE] using q) fun pσ h1 x vx H1 Q' X' _ rs rh rx q lk lx => ?_
    refine ⟨vx, .ty (tyN y), .type (tyP x), .type (tyN y), isTy h1 x y, rfl, .ty _, tyx_rep rx rh q.1, kit1 x y, lk.here bl_rep rh ?_⟩
    have q2 := q.2
    rw [List.any_cons, List.any_nil, Bool.or_false] at q2
    exact q2
  unfold cTys at h
  split at h
  · rename_i es x1 p1
    cases em : es.mapM (cTy t sc) with
    | none => rw [em] at h; cases h
    | some us =>
      rw [em] at h
      have h : (if us.length ≤ 100 then some (us, true) else none) = some (ts, tp) := h
      split at h <;> cases h
      rename_i hl
      obtain ⟨q1, q2⟩ := s_tysA cx em
      refine PE.imp (pe_callB call_isiT (glb_of cx.hsc hg) (cx.blts _ hm) boot_isi (pa_cons ha (pa_cons (pe_tup q1) pa_nil (star_of rfl)) (star_of hs)) (by decide) (by decide) (star_of hs) (plain_of rfl)) fun σ H Q q => ?_
      refine lE_seq (LQ := Lk X.K) (tk := fun x pσ h Q' X' => isiS x ts h Q') Lk.keep (by simpa only [lE, wE] using q) fun pσ h1 x vx H1 Q' X' _ rs rh rx q lk lx => ?_
      refine ⟨by rw [line16, List.length_map]; omega, fun tp hp => ?_⟩
      have fr : Fr h1 H1 h1 (upd H1 tp (.tup (ts.map fun y => V.ty (tyN y)))) := Fr.tup hp
      exact ⟨vx, tp, _, .type (tyP x), _, ts.any (isTy h1 x), rfl, upd_same, clsv ts, tyx_rep (rx.keep rh fr) (rh.tup hp) q.1, kitA x ts, (lk.keep fr).here bl_rep (rh.tup hp) q.2⟩
  · cases em : cTy t sc ty with
    | none => rw [em] at h; cases h
    | some y => rw [em] at h; cases h; exact gen y rfl em
end
end Co
namespace Co
open PySem L2
open PySem.Spec PyProof.Rows
section
variable {ea : Nat → Addr} {t : Tb} {C : CS} {k : Nat} {N : List Str} {sc : Scope} {W : WX} {X : Cx} {e a b c : Expr} {es : List Expr} {pos : Pos}
theorem plainIx_of (h : notSlice b = true) : PlainIx b := by
  intro o i
  cases b <;> first | rfl | cases h
theorem s_ix {a' b' : E} (ha : PE X a (lE ea X.K W (wE C a'))) (hb : PE X b (lE ea X.K W (wE C b'))) (hs : notSlice b = true) : PE X (.Subscript a b pos) (lE ea X.K W (wE C (.ix a' b'))) := by
  have := s_op2 (W := W) (ea := ea) ok_ix (pe_ix ix_seq ha hb (plainIx_of hs) (pos := pos))
  simpa only [wE] using this
theorem s_po {o : Option Expr} {o' : Eo} (h : (o = none ∧ o' = .none) ∨ ∃ e e', o = some e ∧ o' = .some e' ∧ PE X e (lE ea X.K W (wE C e'))) : L2.PO X o (lC ea X.K W (wEo C o')) := by
  rcases h with ⟨rfl, rfl⟩ | ⟨e, e', rfl, rfl, p⟩
  · exact ⟨fun pins s σ H Q I ⟨pσ, h, Q', X', rs, rh, q, lk, lx⟩ => (po_none (X := X)).run pins s σ H Q I (lk.here rh (by simpa only [wEo] using q))⟩
  · refine ⟨fun pins s σ H Q I q => (po_some p).run pins s σ H Q I ?_⟩
    refine lE_seq (LQ := LkC X.K) (tk := fun v pσ h Q' X' => intS v fun i => Q' (Option.some i) h) LkC.keep (by simpa only [lC, wEo] using q) fun pσ h1 x vx H1 Q' X' _ rs rh rx q lk lx => ?_
    cases x with
    | int i => exact ⟨i, rep_int rx, lk.here rh q⟩
    | _ => exact False.elim q
theorem s_sl {lo hi : Option Expr} {a' : E} {lo' hi' : Eo} {p2 : Pos} (ha : PE X a (lE ea X.K W (wE C a'))) (hl : L2.PO X lo (lC ea X.K W (wEo C lo'))) (hh : L2.PO X hi (lC ea X.K W (wEo C hi'))) :
    PE X (.Subscript a (.Slice lo hi none p2) pos) (lE ea X.K W (wE C (.sl a' lo' hi'))) :=
  PE.imp (pe_slice r_sl ha hl hh) fun σ H Q q => by
    refine lE_seq (LQ := Lk X.K) (tk := fun x pσ h Q' X' => wEo C lo' pσ h (fun l h => wEo C hi' pσ h (fun u h => slS x l u h Q') X') X') Lk.keep (by simpa only [lE, wE] using q) fun pσ h1 x vx H1 Q' X' _ rs rh rx q lk lx => ?_
    refine lC_seq (LQ := Lk X.K) (tk := fun l pσ h Q' X' => wEo C hi' pσ h (fun u h => slS x l u h Q') X') Lk.keep ⟨pσ, h1, Q', X', rs, rh, q, lk, lx⟩ fun pσ h2 l H2 Q' X' ks rs rh2 q lk lx => ?_
    refine lC_seq (LQ := Lk X.K) (tk := fun u pσ h Q' X' => slS x l u h Q') Lk.keep ⟨pσ, h2, Q', X', rs, rh2, q, lk, lx⟩ fun pσ h3 u H3 Q' X' ks3 rs rh3 q lk lx => ?_
    exact ok_sl ((rx.mono ks).mono ks3) rh3 q lk
theorem base_of {m : Str} {w : Sem Value} {env : Env} (h : notCall0 e = true) : attributeBase e m env w = w := by
  unfold attributeBase
  split
  · cases h
  · rfl
theorem lstOk_list {x : PV} {h : PH} {P : Prop} (q : lstOk x h P) : (∃ a xs, x = .ref a ∧ h a = some (.lst xs)) ∧ P := by
  unfold lstOk at q
  split at q
  · split at q
    · exact ⟨⟨_, _, rfl, ‹_›⟩, q⟩
    · exact q.elim
  · exact q.elim
theorem s_mth0 {m : Str} {mm : Mth} {a' : E} {apos : Pos} {id : String} (hr : MtR X id (rMt mm)) (pa : PlainAttrs "list") (slot : Slot "list" m id) (hty : typeOf (.builtin id) = pure (.type "method_descriptor"))
    (ha : PE X a (lE ea X.K W (wE C a'))) (hb : notCall0 a = true) (hl : (apos.endLine == pos.line) = true) : PE X (.Call (.Attribute a m apos) [] [] pos) (lE ea X.K W (wE C (.mth mm a' (toEs [])))) :=
  PE.imp (pe_bm0 pa slot hty hr ha (base_of hb) hl) fun σ H Q q => by
    refine lE_seq (LQ := Lk X.K) (tk := fun x pσ h Q' X' => lstOk x h (wEs C .nil pσ h (fun vs h => mthS mm x vs h Q') X')) Lk.keep (by simpa only [lE, wE, toEs] using q) fun pσ h1 x vx H1 Q' X' _ rs rh rx q lk lx => ?_
    obtain ⟨⟨p, xs, rfl, e⟩, q⟩ := lstOk_list q
    simp only [wEs] at q
    obtain ⟨vs, e1, _⟩ := lst_rep rh e
    rw [rep_ref rx]
    exact ⟨.inl ⟨rfl, vs, .inl (.inl e1)⟩, ok_mth mm ref_rep (RepVs.nil_iff.mpr rfl) rh q lk⟩
theorem s_mth1 {m : Str} {mm : Mth} {a' : E} {cs : List E} {apos : Pos} {id : String} (hr : MtR X id (rMt mm)) (pa : PlainAttrs "list") (slot : Slot "list" m id) (hty : typeOf (.builtin id) = pure (.type "method_descriptor"))
    (ha : PE X a (lE ea X.K W (wE C a'))) (hargs : PA X [b] (lA ea X.K W (wEs C (toEs cs)))) (hs : notStar b = true) (hb : notCall0 a = true) (hl : (apos.endLine == pos.line) = true) :
    PE X (.Call (.Attribute a m apos) [b] [] pos) (lE ea X.K W (wE C (.mth mm a' (toEs cs)))) :=
  PE.imp (pe_bm pa slot hty hr ha hargs (base_of hb) (by rw [star_of hs]; rfl) hl (star_of hs) rfl) fun σ H Q q => by
    refine lE_seq (LQ := Lk X.K) (tk := fun x pσ h Q' X' => lstOk x h (wEs C (toEs cs) pσ h (fun vs h => mthS mm x vs h Q') X')) Lk.keep (by simpa only [lE, wE] using q) fun pσ h1 x vx H1 Q' X' _ rs rh rx q lk lx => ?_
    obtain ⟨⟨p, xs, rfl, e⟩, q⟩ := lstOk_list q
    obtain ⟨vs, e1, _⟩ := lst_rep rh e
    refine ⟨by rw [rep_ref rx]; exact .inl ⟨rfl, vs, .inl (.inl e1)⟩, ?_⟩
    refine lA_seq (LQ := Lk X.K) (tk := fun vs pσ h Q' X' => mthS mm (.ref p) vs h Q') Lk.keep ⟨pσ, h1, Q', X', rs, rh, q, lk, lx⟩ fun pσ h2 ys vys H2 Q' X' ks rs rh2 rys q lk lx => ?_
    exact ok_mth mm (rx.mono ks) rys rh2 q lk
theorem s_mth {f : Expr → Option E} {m : Str} {mm : Mth} {a' : E} {cs : List E} {apos : Pos} (hm : mthOf m es.length = some mm) (ha : PE X a (lE ea X.K W (wE C a'))) (hb : notCall0 a = true) (hl : (apos.endLine == pos.line) = true)
    (ih : ∀ e c, e ∈ es → f e = some c → PE X e (lE ea X.K W (wE C c)) ∧ notStar e = true) (hc : es.mapM f = some cs) : PE X (.Call (.Attribute a m apos) es [] pos) (lE ea X.K W (wE C (.mth mm a' (toEs cs)))) := by
  have hargs := s_args ih hc
  unfold mthOf at hm
  split at hm
  · rename_i g
    rw [Bool.and_eq_true, beq_iff_eq, beq_iff_eq] at g
    obtain ⟨rfl, g⟩ := g
    cases hm
    rcases es with _ | ⟨b, _ | ⟨_, _⟩⟩ <;> simp at g
    have := hargs.2
    rw [List.all_cons, List.all_nil, Bool.and_true] at this
    exact s_mth1 mt_append PySem.F.plainAttrs_list PySem.F.slot_list_append PySem.F.type_list_append ha hargs.1 this hb hl
  · split at hm
    · rename_i g
      rw [Bool.and_eq_true, beq_iff_eq, beq_iff_eq] at g
      obtain ⟨rfl, g⟩ := g
      cases hm
      rcases es with _ | ⟨b, _⟩ <;> simp at g
      rw [mapM_nil hc]
      exact s_mth0 mt_pop PySem.F.plainAttrs_list PySem.F.slot_list_pop PySem.F.type_list_pop ha hb hl
    · split at hm
      · rename_i g
        rw [Bool.and_eq_true, beq_iff_eq, beq_iff_eq] at g
        obtain ⟨rfl, g⟩ := g
        cases hm
        rcases es with _ | ⟨b, _ | ⟨_, _⟩⟩ <;> simp at g
        have := hargs.2
        rw [List.all_cons, List.all_nil, Bool.and_true] at this
        exact s_mth1 mt_popAt PySem.F.plainAttrs_list PySem.F.slot_list_pop PySem.F.type_list_pop ha hargs.1 this hb hl
      · cases hm
theorem rg_rep {K : PySem.W.Frag} {H : Hp} (lo hi : Int) : RepVs K H (rgL lo hi) (rgV lo hi) := by
  unfold rgL rgV
  generalize List.range (hi - lo).toNat = l
  induction l with
  | nil => exact RepVs.nil_iff.mpr rfl
  | cons n l ih => exact RepVs.cons_iff.mpr ⟨_, _, rfl, int_rep, ih⟩
theorem s_rgK {e : Expr} {tp : Bool} {te : L2.St → Hp → (Int → Int → Hp → Prop) → Prop} {x : Str} {p : Pos} {ta : Sl → PH → (Int × Int → PH → Prop) → XK → Prop} (cx : CtxOk ea t C k N sc W X) (hx : x = "tuple" ∨ x = "list") (htp : tp = (x == "tuple")) (hg : glb sc x = true) (hm : t.blts.contains x = true)
    (he : PRg X e te) (hs : notStar e = true) (hte : ∀ σ H Q, lC ea X.K W ta σ H Q → te σ H fun a b H => Q (a, b) H) :
    PE X (.Call (.Name x p) [e] [] pos) (lE ea X.K W fun σ h Q Xk => ta σ h (fun ab h => rgOk ab.1 ab.2 ∧ (if tp = true then Q (.tup (rgL ab.1 ab.2)) h else newL h (rgL ab.1 ab.2) Q)) Xk) := by
  rcases hx with rfl | rfl
  · obtain rfl : tp = true := htp
    refine PE.imp (pe_tupRg cx.calm (glb_of cx.hsc hg) (cx.blts _ hm) he (star_of hs)) fun σ H Q q => ?_
    refine hte σ H (fun ab H1 => RgOk ab.1 ab.2 ∧ ∀ q, H1 q = none → Q (.ref q) (upd H1 q (.tup (rgV ab.1 ab.2)))) ?_
    refine lC_seq (LQ := Lk X.K) (tk := fun (ab : Int × Int) pσ h Q' X' => rgOk ab.1 ab.2 ∧ (if true = true then Q' (.tup (rgL ab.1 ab.2)) h else newL h (rgL ab.1 ab.2) Q')) Lk.keep (by simpa only [lE] using q) fun pσ h1 ab H1 Q' X' _ rs rh q lk lx => ?_
    rw [if_pos rfl] at q
    exact ⟨q.1, newT_rep rh (rg_rep _ _) q.2 lk⟩
  · obtain rfl : tp = false := htp
    refine PE.imp (pe_listRg cx.calm (glb_of cx.hsc hg) (cx.blts _ hm) he (star_of hs)) fun σ H Q q => ?_
    refine hte σ H (fun ab H1 => RgOk ab.1 ab.2 ∧ ∀ q, H1 q = none → Q (.ref q) (upd H1 q (.lst (rgV ab.1 ab.2)))) ?_
    refine lC_seq (LQ := Lk X.K) (tk := fun (ab : Int × Int) pσ h Q' X' => rgOk ab.1 ab.2 ∧ (if false = true then Q' (.tup (rgL ab.1 ab.2)) h else newL h (rgL ab.1 ab.2) Q')) Lk.keep (by simpa only [lE] using q) fun pσ h1 ab H1 Q' X' _ rs rh q lk lx => ?_
    rw [if_neg Bool.false_ne_true] at q
    exact ⟨q.1, newL_rep rh (rg_rep _ _) q.2 lk⟩
theorem s_rg1 {tp : Bool} {x : Str} {p p2 pos2 : Pos} {a' : E} (cx : CtxOk ea t C k N sc W X) (hx : x = "tuple" ∨ x = "list") (htp : tp = (x == "tuple")) (hg : glb sc x = true) (hm : t.blts.contains x = true) (hg2 : glb sc "range" = true) (hm2 : t.blts.contains "range" = true)
    (ha : PE X a (lE ea X.K W (wE C a'))) (hs : notStar a = true) : PE X (.Call (.Name x p) [.Call (.Name "range" p2) [a] [] pos2] [] pos) (lE ea X.K W (wE C (.rg1 tp a'))) := by
  have := s_rgK (pos := pos) (p := p) (ta := fun σ h Q Xk => wE C a' σ h (fun x h => intS x fun n => Q (0, n) h) Xk) cx hx htp hg hm (prg_1 (p := p2) (pos := pos2) (glb_of cx.hsc hg2) (cx.blts _ hm2) ha (star_of hs)) rfl fun σ H Q q => by
    refine lE_seq (LQ := LkC X.K) (tk := fun x pσ h Q' X' => intS x fun n => Q' (0, n) h) LkC.keep q fun pσ h1 x vx H1 Q' X' _ rs rh rx q lk lx => ?_
    cases x with
    | int n => exact ⟨n, rep_int rx, lk.here rh q⟩
    | _ => exact False.elim q
  simpa only [wE] using this
theorem s_rg2 {tp : Bool} {x : Str} {p p2 pos2 : Pos} {a' b' : E} (cx : CtxOk ea t C k N sc W X) (hx : x = "tuple" ∨ x = "list") (htp : tp = (x == "tuple")) (hg : glb sc x = true) (hm : t.blts.contains x = true) (hg2 : glb sc "range" = true) (hm2 : t.blts.contains "range" = true)
    (ha : PE X a (lE ea X.K W (wE C a'))) (hs : notStar a = true) (hb : PE X b (lE ea X.K W (wE C b'))) (hsb : notStar b = true) : PE X (.Call (.Name x p) [.Call (.Name "range" p2) [a, b] [] pos2] [] pos) (lE ea X.K W (wE C (.rg2 tp a' b'))) := by
  have := s_rgK (pos := pos) (p := p) (ta := fun σ h Q Xk => wE C a' σ h (fun x h => wE C b' σ h (fun y h => int2S x y fun m n => Q (m, n) h) Xk) Xk) cx hx htp hg hm (prg_2 (p := p2) (pos := pos2) (glb_of cx.hsc hg2) (cx.blts _ hm2) ha hb (star_of hs) (star_of hsb) (by rw [star_of hsb]; rfl)) rfl fun σ H Q q => by
    refine lE_seq (LQ := LkC X.K) (tk := fun x pσ h Q' X' => wE C b' pσ h (fun y h => int2S x y fun m n => Q' (m, n) h) X') LkC.keep q fun pσ h1 x vx H1 Q' X' _ rs rh rx q lk lx => ?_
    refine lE_seq (LQ := LkC X.K) (tk := fun y pσ h Q' X' => int2S x y fun m n => Q' (m, n) h) LkC.keep ⟨pσ, h1, Q', X', rs, rh, q, lk, lx⟩ fun pσ h2 y vy H2 Q' X' ks rs rh ry q lk lx => ?_
    cases x <;> cases y <;> first | exact False.elim q | exact ⟨_, _, rep_int rx, rep_int ry, lk.here rh q⟩
  simpa only [wE] using this
end
end Co
namespace Co
open PySem L2
open PySem.Spec PyProof.Rows
theorem wipe_comm {σ : L2.St} {i : Nat} {x : Option V} : ∀ {vs : List Nat}, i ∉ vs → L2.wipe (σ.set i x) vs = (L2.wipe σ vs).set i x
  | [], _ => rfl
  | v :: vs, h => by
    have h1 : i ≠ v := fun e => h (by simp [e])
    have h2 : i ∉ vs := fun e => h (by simp [e])
    unfold L2.wipe
    rw [wipe_comm h2, List.set_comm _ _ h1]
theorem wipe_set {σ : L2.St} {i : Nat} {x : Option V} : ∀ {vs : List Nat}, i ∈ vs → L2.wipe (σ.set i x) vs = L2.wipe σ vs
  | v :: vs, h => by
    unfold L2.wipe
    by_cases h2 : i ∈ vs
    · rw [wipe_set h2]
    · have e : i = v := by simpa [h2] using h
      subst e
      rw [wipe_comm h2, List.set_set]
theorem wipe_wipe {σ : L2.St} : ∀ {vs ws : List Nat}, (∀ v ∈ vs, v ∈ ws) → L2.wipe (L2.wipe σ vs) ws = L2.wipe σ ws
  | [], _, _ => rfl
  | v :: vs, ws, h => by
    show L2.wipe ((L2.wipe σ vs).set v none) ws = _
    rw [wipe_set (h v (by simp)), wipe_wipe fun u m => h u (by simp [m])]
theorem cowipe_some {pσ : Sl} {i : Nat} {x : PV} : ∀ {vs : List Nat}, (wipe pσ vs)[i]? = some (some x) → pσ[i]? = some (some x) ∧ i ∉ vs := fun {vs} h => by
  induction vs generalizing pσ with
  | nil => exact ⟨h, by simp⟩
  | cons v vs ih =>
    obtain ⟨h1, h2⟩ := ih (pσ := pσ.set v none) h
    by_cases e : v = i
    · subst e
      by_cases hv : v < pσ.length
      · rw [List.getElem?_set_self hv] at h1; cases h1
      · rw [List.getElem?_eq_none (by simpa using hv)] at h1; cases h1
    · rw [List.getElem?_set_ne e] at h1
      exact ⟨h1, by simp only [List.mem_cons, not_or]; exact ⟨fun z => e z.symm, h2⟩⟩
theorem cowipe_length : ∀ (vs : List Nat) (pσ : Sl), (wipe pσ vs).length = pσ.length
  | [], _ => rfl
  | v :: vs, pσ => by unfold wipe; rw [cowipe_length vs, List.length_set]
theorem RepS.wipe {K : PySem.W.Frag} {H : Hp} {pσ : Sl} {σ : L2.St} (r : RepS K H pσ σ) (vs : List Nat) : RepS K H (Co.wipe pσ vs) (L2.wipe σ vs) := by
  refine ⟨by rw [cowipe_length, L2.wipe_length]; exact r.1, fun i pv e => ?_⟩
  obtain ⟨h1, h2⟩ := cowipe_some e
  obtain ⟨v, h3, h4⟩ := r.2 i pv h1
  exact ⟨v, by rw [L2.wipe_out h2]; exact h3, h4⟩
theorem RepS.set {K : PySem.W.Frag} {H : Hp} {pσ : Sl} {σ : L2.St} {pv : PV} {v : V} (r : RepS K H pσ σ) (i : Nat) (rv : RepV K H pv v) : RepS K H (pσ.set i (some pv)) (σ.set i (some v)) := by
  refine ⟨by rw [List.length_set, List.length_set]; exact r.1, fun j x e => ?_⟩
  by_cases h : i = j
  · subst h
    by_cases hi : i < pσ.length
    · rw [List.getElem?_set_self hi] at e
      cases e
      exact ⟨v, List.getElem?_set_self (by rw [← r.1]; exact hi), rv⟩
    · rw [List.getElem?_eq_none (by simpa using hi)] at e; cases e
  · rw [List.getElem?_set_ne h] at e ⊢
    exact r.2 j x e
/-- the slots of the target alone may differ -/
def SB (g : Tg) (σ σ' : L2.St) : Prop := ∀ vs, tgIn g vs = true → L2.wipe σ' vs = L2.wipe σ vs
def SBs (g : Tgs) (σ σ' : L2.St) : Prop := ∀ vs, tgsIn g vs = true → L2.wipe σ' vs = L2.wipe σ vs
/-- a target's reading, lifted -/
def lG (K : PySem.W.Frag) (t : PV → Sl → PH → (Sl → PH → Prop) → Prop) (sb : L2.St → L2.St → Prop) : TG := fun v σ H Q => ∃ pv pσ h Q', RepV K H pv v ∧ RepS K H pσ σ ∧ RepH K h H ∧ t pv pσ h Q' ∧
  ∀ pσ' h' σ' H', RepS K H' pσ' σ' → RepH K h' H' → Fr h H h' H' → sb σ σ' → Q' pσ' h' → Q σ' H'
def lGs (K : PySem.W.Frag) (t : List PV → Sl → PH → (Sl → PH → Prop) → Prop) (sb : L2.St → L2.St → Prop) : TGs := fun v σ H Q => ∃ pv pσ h Q', RepVs K H pv v ∧ RepS K H pσ σ ∧ RepH K h H ∧ t pv pσ h Q' ∧
  ∀ pσ' h' σ' H', RepS K H' pσ' σ' → RepH K h' H' → Fr h H h' H' → sb σ σ' → Q' pσ' h' → Q σ' H'
section
variable {ea : Nat → Addr} {t : Tb} {C : CS} {k : Nat} {N : List Str} {sc : Scope} {W : WX} {X : Cx} {e a b c : Expr} {es : List Expr} {pos : Pos}
theorem cel_of {x : Str} (h : cel sc x = true) : sc.names.lookup x = some .cell := by
  unfold cel at h
  split at h <;> first | assumption | cases h
theorem g_name {st : Scope} {x : Str} {i : Nat} (cx : CtxOk ea t C k N sc W X) (hf0 : ∀ x, st.names.lookup x = some .cell → X.fn x = true) (hi : N[i]? = some x) (hl : loc sc x = true) (hl2 : (locL sc x || cel st x) = true) : PG X (.Name x pos) (lG X.K (wTg C (.nm i)) (SB (.nm i))) := by
  have hf : X.fn x = true ∨ X.env.scope.names.lookup x = some .local := by
    rw [Bool.or_eq_true] at hl2
    rcases hl2 with q | q
    · exact .inr (by rw [cx.hsc]; exact locL_of q)
    · exact .inl (hf0 x (cel_of q))
  refine PG.imp (pg_name (i := i) (by rw [cx.hN]; exact cx.nd) (by rw [cx.hN]; exact hi) (by rw [cx.hsc]; exact loc_of hl) hf) fun v σ H Q ⟨pv, pσ, h, Q', rv, rs, rh, q, lk⟩ => ?_
  simp only [wTg] at q
  exact lk _ _ _ _ (rs.set i rv) rh Fr.refl (fun vs m => wipe_set (by simpa [tgIn] using m)) q
theorem asg_star {env : Env} (h : notStar e = true) : assignEach (e :: es) env = (false, assign e env) :: assignEach es env := by
  cases e <;> first | rfl | cases h
theorem asg_len {env : Env} : ∀ {es : List Expr}, es.all notStar = true → (assignEach es env).length = es.length ∧ (assignEach es env).findIdx? (·.1) = none
  | [], _ => ⟨rfl, rfl⟩
  | e :: es, h => by
    (rw [List.all_cons] at h; rw [Bool.and_eq_true] at h)
    obtain ⟨h1, h2⟩ := asg_len (env := env) h.2
    rw [asg_star h.1]
    refine ⟨by simp [h1], ?_⟩
    rw [List.findIdx?_cons]
    simp [h2]
theorem g_list {f : Expr → Option Tg} : ∀ {es : List Expr} {gs : List Tg}, (∀ e g, e ∈ es → f e = some g → PG X e (lG X.K (wTg C g) (SB g)) ∧ notStar e = true) → es.mapM f = some gs → PGs X es (lGs X.K (wTgs C (toTgs gs)) (SBs (toTgs gs))) ∧ es.all notStar = true ∧ tgsLen (toTgs gs) = es.length
  | [], _, _, h => by
    rw [mapM_nil h]
    refine ⟨⟨fun pins s σ H vs us Q I r ⟨pv, pσ, h, Q', rv, rs, rh, q, lk⟩ => (pgs_nil (X := X)).run pins s σ H vs us Q I r ?_⟩, rfl, rfl⟩
    · simp only [toTgs, wTgs] at q
      split at q
      · exact ⟨RepVs.nil_iff.mp rv, lk _ _ _ _ rs rh Fr.refl (fun _ _ => rfl) q⟩
      · exact q.elim
  | e :: es, _, ih, h => by
    obtain ⟨y, zs, h1, h2, rfl⟩ := mapM_cons h
    obtain ⟨p1, p2⟩ := ih e y (by simp) h1
    obtain ⟨q1, q2, q3⟩ := g_list (fun e c m => ih e c (List.mem_cons_of_mem _ m)) h2
    refine ⟨⟨fun pins s σ H vs us Q I r ⟨pv, pσ, h, Q', rv, rs, rh, q, lk⟩ => (pgs_cons p1 q1 (by rw [asg_star p2]; rfl)).run pins s σ H vs us Q I r ?_⟩, by rw [List.all_cons, p2, q2]; rfl, by simp only [toTgs, tgsLen, List.length_cons, q3]⟩
    · simp only [toTgs, wTgs] at q
      split at q
      · rename_i x xs
        obtain ⟨v, w, rfl, r1, r2⟩ := RepVs.cons_iff.mp rv
        refine ⟨v, w, rfl, x, pσ, h, _, r1, rs, rh, q, fun pσ1 h1 σ1 H1 rs1 rh1 fr1 sb1 q1 => ?_⟩
        refine ⟨xs, pσ1, h1, Q', r2.keep rh fr1, rs1, rh1, q1, fun pσ2 h2 σ2 H2 rs2 rh2 fr2 sb2 q2 => lk _ _ _ _ rs2 rh2 (fr1.trans fr2) (fun vs m => ?_) q2⟩
        simp only [toTgs, tgsIn, Bool.and_eq_true] at m
        exact (sb2 vs m.2).trans (sb1 vs m.1)
      · exact q.elim
theorem g_tup {f : Expr → Option Tg} {x1 : Nat} {gs : List Tg} (hc : X.calm = true) (ih : ∀ e g, e ∈ es → f e = some g → PG X e (lG X.K (wTg C g) (SB g)) ∧ notStar e = true) (h : es.mapM f = some gs) :
    PG X (.Tuple es x1 pos) (lG X.K (wTg C (.tp (toTgs gs))) (SB (.tp (toTgs gs)))) := by
  obtain ⟨p1, p2, p3⟩ := g_list ih h
  obtain ⟨a1, a2⟩ := asg_len (env := X.env) p2
  refine PG.imp (pg_tup hc p1 a1 a2) fun v σ H Q ⟨pv, pσ, h, Q', rv, rs, rh, q, lk⟩ => ?_
  simp only [wTg] at q
  split at q
  · rename_i l
    obtain ⟨a, vs, e, q1, r⟩ := rep_tup rv
    exact ⟨a, vs, e, q1, by rw [← r.length, q.1, p3], l, pσ, h, Q', r, rs, rh, q.2, lk⟩
  · exact q.elim
theorem g_sub {a' b' : E} (ha : PE X a (lE ea X.K (fun _ _ _ _ => False) (wE C a'))) (hb : PE X b (lE ea X.K (fun _ _ _ _ => False) (wE C b'))) (hs : notSlice b = true) : PG X (.Subscript a b pos) (lG X.K (wTg C (.sub a' b')) (SB (.sub a' b'))) := by
  refine PG.imp (pg_sub ha hb set_list (by intro _; cases b <;> first | rfl | cases hs)) fun v σ H Q ⟨pv, pσ, h, Q', rv, rs, rh, q, lk⟩ => ?_
  simp only [wTg] at q
  have lx : LkX ea X.K h H (fun _ _ => False) σ (fun _ _ _ _ => False) := fun _ _ _ _ _ _ _ _ z => z
  refine ⟨pσ, h, _, _, rs, rh, q, fun ov h1 vov H1 rov rh1 fr1 q1 => ?_, lx⟩
  refine ⟨pσ, h1, _, _, rs.keep rh fr1, rh1, q1, fun iv h2 viv H2 riv rh2 fr2 q2 => ?_, lx.keep fr1⟩
  exact ok_set (rov.keep rh1 fr2) riv ((rv.keep rh fr1).keep rh1 fr2) rh2 q2 fun h3 H3 rh3 fr3 q3 => lk _ _ _ _ (((rs.keep rh fr1).keep rh1 fr2).keep rh2 fr3) rh3 ((fr1.trans fr2).trans fr3) (fun _ _ => rfl) q3
end
/-- how the layer's iterator walks the items xs while ok holds -/
def ItRep (K : PySem.W.Frag) (h0 : PH) (H0 : Hp) (xs : List PV) (ok : PH → Prop) (J : L2.It) : Prop := ∀ h H, RepH K h H → Fr h0 H0 h H → ok h →
  (∀ (i : Nat) (pv : PV), xs[i]? = some pv → J.go i H ∧ ∀ x H', J.yld i H x H' → RepV K H' pv x ∧ RepH K h H' ∧ Fr h H h H') ∧ J.stop xs.length H
def LkI (K : PySem.W.Frag) (h : PH) (H : Hp) (R' : RK) (R : L2.It → Hp → Prop) : Prop := ∀ xs ok h' J H', RepH K h' H' → Fr h H h' H' → ItRep K h' H' xs ok J → R' xs ok h' → R J H'
theorem LkI.keep {K : PySem.W.Frag} {h h' : PH} {H H' : Hp} {Q' : RK} {Q : L2.It → Hp → Prop} (l : LkI K h H Q' Q) (f : Fr h H h' H') : LkI K h' H' Q' Q := fun xs ok h2 J H2 rh g i q => l xs ok h2 J H2 rh (f.trans g) i q
def lI (ea : Nat → Addr) (K : PySem.W.Frag) (W : WX) (t : Sl → PH → RK → XK → Prop) : TI := fun σ H R => ∃ pσ h R' X', RepS K H pσ σ ∧ RepH K h H ∧ t pσ h R' X' ∧ LkI K h H R' R ∧ LkX ea K h H X' σ W
/-- the same, the items told as a list from the left (seen as a wish of a pair) -/
theorem lI_seq {ea : Nat → Addr} {K : PySem.W.Frag} {W : WX} {σ : L2.St} {H : Hp} {ta : Sl → PH → QK → XK → Prop} {tk : PV → Sl → PH → RK → XK → Prop} {Q : L2.It → Hp → Prop} {R : VK}
    (h : ∃ pσ h Q' X', RepS K H pσ σ ∧ RepH K h H ∧ ta pσ h (fun x h1 => tk x pσ h1 Q' X') X' ∧ LkI K h H Q' Q ∧ LkX ea K h H X' σ W)
    (hk : ∀ pσ h1 pv v H1 Q' X', Ks K H H1 → RepS K H1 pσ σ → RepH K h1 H1 → RepV K H1 pv v → tk pv pσ h1 Q' X' → LkI K h1 H1 Q' Q → LkX ea K h1 H1 X' σ W → R v H1) : lE ea K W ta σ H R := by
  obtain ⟨pσ, h, Q', X', rs, rh, ht, lk, lx⟩ := h
  exact ⟨pσ, h, _, X', rs, rh, ht, fun pv h1 v H1 rv rh1 fr q => hk pσ h1 pv v H1 Q' X' (Ks.keep rh fr) (rs.keep rh fr) rh1 rv q (lk.keep fr) (lx.keep fr), lx⟩
section
variable {ea : Nat → Addr} {t : Tb} {C : CS} {k : Nat} {N : List Str} {sc : Scope} {W : WX} {X : Cx} {e a b c tg : Expr} {es : List Expr} {pos : Pos}
/-- a list or a tuple is walked -/
theorem pi_any {l : Expr} {tl : TE} (hl : PE X l tl) : PI X tg l (fun σ H R => tl σ H fun x H1 => ∃ a, x = .ref a ∧ ((∃ xs, SqL X.K H1 a xs ∧ R (Itl X.K a) H1) ∨ (∃ xs, SqT X.K H1 a xs ∧ R (Itt X.K a) H1))) := by
  refine ⟨?_⟩
  intro pins s σ H R I h
  refine thn (hl.run _ s σ H _ I h) fun v s1 ⟨x, H1, I1, r1, q1⟩ => ?_
  obtain ⟨a, rfl, q⟩ := q1
  rcases q with ⟨xs, hq, q⟩ | ⟨xs, hq, q⟩
  · cases r1
    obtain ⟨us, ru, pl, _⟩ := I1.list hq
    refine wpAny_pyIter_list pl.isList ⟨_, [_], _, _, H1, rfl, I1.kept (t' := s1.toks) fun _ _ z => Heap.get?_push_of_some _ z, turn_list a _, ⟨_, Heap.get?_push_size _ rfl, rfl, rfl⟩, fun b hb => ?_, q⟩
    rw [List.mem_singleton.mp hb]
    exact I1.fpOk Nat.le.refl (I1.hok.fresh Nat.le.refl)
  · cases r1
    obtain ⟨us, ru, pl, _⟩ := I1.tuple hq
    refine wpAny_pyIter_tuple (show s1.heap.IsTuple a us.toArray from pl) ⟨_, [_], _, _, H1, rfl, I1.kept (t' := s1.toks) fun _ _ z => Heap.get?_push_of_some _ z, turn_tuple a _, ⟨_, Heap.get?_push_size _ rfl, rfl, rfl⟩, fun b hb => ?_, q⟩
    rw [List.mem_singleton.mp hb]
    exact I1.fpOk Nat.le.refl (I1.hok.fresh Nat.le.refl)
theorem PI.imp {tg e : Expr} {t t' : TI} (p : PI X tg e t') (h : ∀ σ H Q, t σ H Q → t' σ H Q) : PI X tg e t := ⟨fun pins s σ H Q I q => p.run pins s σ H Q I (h σ H Q q)⟩
/-- what is walked, read at a later turn -/
theorem SqL.uniq {K : PySem.W.Frag} {h : PH} {H : Hp} {a : Nat} {xs : List PV} (rh : RepH K h H) (e : rdL h a = some xs) : ∃ vs, SqL K H a vs ∧ RepVs K H xs vs := rdL_rep rh e
theorem it_list {K : PySem.W.Frag} {h0 : PH} {H0 : Hp} {a : Nat} {xs : List PV} : ItRep K h0 H0 xs (okOf (.ref a) xs) (Itl K a) := fun h H rh fr ok => by
  obtain ⟨vs, q, r⟩ := rdL_rep rh (show rdL h a = some xs from ok)
  refine ⟨fun i pv e => ?_, ⟨vs, q, by rw [r.length]; exact Nat.le_refl _⟩⟩
  obtain ⟨v, e1, r1⟩ := r.get e
  refine ⟨⟨vs, v, q, e1⟩, fun x H' ⟨hH, hx⟩ => ?_⟩
  subst hH
  have e2 := hx vs q
  rw [e1] at e2
  cases e2
  exact ⟨r1, rh, Fr.refl⟩
theorem it_tup {K : PySem.W.Frag} {h0 : PH} {H0 : Hp} {a : Nat} {l xs : List PV} {vs : List V} (rh0 : RepH K h0 H0) (q : SqT K H0 a vs) (r : RepVs K H0 l vs) : ItRep K h0 H0 l (okOf (.tup l) xs) (Itt K a) := fun h H rh fr ok => by
  have q' := SqT.keep rh0 fr q
  have r' := r.keep rh0 fr
  refine ⟨fun i pv e => ?_, ⟨vs, q', by rw [r'.length]; exact Nat.le_refl _⟩⟩
  obtain ⟨v, e1, r1⟩ := r'.get e
  refine ⟨⟨vs, v, q', e1⟩, fun x H' ⟨hH, hx⟩ => ?_⟩
  subst hH
  have e2 := hx vs q'
  rw [e1] at e2
  cases e2
  exact ⟨r1, rh, Fr.refl⟩
theorem it_rol {K : PySem.W.Frag} {h0 : PH} {H0 : Hp} {a : Nat} {l xs : List PV} {vs : List V} (rh0 : RepH K h0 H0) (q : FzL K H0 a vs) (r : RepVs K H0 l vs) : ItRep K h0 H0 l (okOf (.rol l) xs) (Itl K a) := fun h H rh fr ok => by
  have q' := ((Ks.keep rh0 fr).2 _ _ q).sq
  have r' := r.keep rh0 fr
  refine ⟨fun i pv e => ?_, ⟨vs, q', by rw [r'.length]; exact Nat.le_refl _⟩⟩
  obtain ⟨v, e1, r1⟩ := r'.get e
  refine ⟨⟨vs, v, q', e1⟩, fun x H' ⟨hH, hx⟩ => ?_⟩
  subst hH
  have e2 := hx vs q'
  rw [e1] at e2
  cases e2
  exact ⟨r1, rh, Fr.refl⟩
theorem it_revR {K : PySem.W.Frag} {h0 : PH} {H0 : Hp} {a : Nat} {l xs : List PV} {vs : List V} (rh0 : RepH K h0 H0) (q : FzL K H0 a vs) (r : RepVs K H0 l vs) : ItRep K h0 H0 l.reverse (okOf (.rol l) xs) (Itv K a l.length) := fun h H rh fr ok => by
  have q' := ((Ks.keep rh0 fr).2 _ _ q).sq
  have r' := r.keep rh0 fr
  refine ⟨fun i pv e => ?_, by show _ ≤ _; simp⟩
  have hi : i < l.length := by have := (List.getElem?_eq_some_iff.mp e).1; simpa using this
  rw [List.getElem?_reverse hi] at e
  obtain ⟨v, e1, r1⟩ := r'.get e
  refine ⟨⟨hi, vs, v, q', e1⟩, fun x H' ⟨hH, hx⟩ => ?_⟩
  subst hH
  have e2 := hx vs q'
  rw [e1] at e2
  cases e2
  exact ⟨r1, rh, Fr.refl⟩
theorem seqS_some {v : PV} {h : PH} {P : List PV → Prop} (q : seqS v h P) : ∃ xs, seqOf v h = some xs ∧ P xs := by
  unfold seqS at q
  split at q
  · exact ⟨_, ‹_›, q⟩
  · exact q.elim
theorem i_seq {a' : E} (ha : PE X a (lE ea X.K W (wE C a'))) : PI X tg a (lI ea X.K W (wIt C (.seq a'))) :=
  PI.imp (pi_any ha) fun σ H R q => by
    refine lI_seq (tk := fun v pσ h R X' => seqS v h fun xs => R xs (okOf v xs) h) (by simpa only [lI, wIt] using q) fun pσ h1 v vv H1 R' X' _ rs rh rv q lk lx => ?_
    obtain ⟨xs, e, q⟩ := seqS_some q
    cases v with
    | ref a =>
      obtain ⟨vs, q1, _⟩ := rdL_rep rh (show rdL h1 a = some xs from e)
      exact ⟨a, rep_ref rv, .inl ⟨vs, q1, lk _ _ _ _ _ rh Fr.refl it_list q⟩⟩
    | tup l =>
      obtain ⟨a, vs, e1, q1, r⟩ := rep_tup rv
      obtain rfl : l = xs := by cases e; rfl
      exact ⟨a, e1, .inr ⟨vs, q1, lk _ _ _ _ _ rh Fr.refl (it_tup rh q1 r) q⟩⟩
    | rol l =>
      obtain ⟨a, vs, e1, q1, r⟩ := rep_rol rv
      obtain rfl : l = xs := by cases e; rfl
      exact ⟨a, e1, .inl ⟨vs, q1.sq, lk _ _ _ _ _ rh Fr.refl (it_rol rh q1 r) q⟩⟩
    | _ => cases e
theorem it_rng {K : PySem.W.Frag} {h0 : PH} {H0 : Hp} {lo hi : Int} : ItRep K h0 H0 (rgL lo hi) (fun _ => True) (Itr lo (hi - lo).toNat) := fun h H rh fr ok => by
  have hl : (rgL lo hi).length = (hi - lo).toNat := by unfold rgL; rw [List.length_map, List.length_range]
  refine ⟨fun i pv e => ?_, by rw [hl]; exact Nat.le_refl _⟩
  have hi' : i < (hi - lo).toNat := by rw [← hl]; exact (List.getElem?_eq_some_iff.mp e).1
  refine ⟨hi', fun x H' ⟨hH, hx⟩ => ?_⟩
  subst hH hx
  unfold rgL at e
  rw [List.getElem?_map, List.getElem?_range hi'] at e
  cases e
  exact ⟨int_rep, rh, Fr.refl⟩
theorem intS_of {x : PV} {P : Int → Prop} (q : intS x P) : ∃ n, x = .int n ∧ P n := by
  unfold intS at q
  split at q
  · exact ⟨_, rfl, q⟩
  · exact q.elim
theorem int2S_of {x y : PV} {P : Int → Int → Prop} (q : int2S x y P) : ∃ m n, x = .int m ∧ y = .int n ∧ P m n := by
  unfold int2S at q
  split at q
  · exact ⟨_, _, rfl, rfl, q⟩
  · exact q.elim
theorem starOne {env : Env} (h : notStar a = true) : starEach [a] env = [(false, eval a env)] := star_of h
theorem pa1 {ta : TE} (ha : PE X a ta) (hs : notStar a = true) : PA X [a] (tCons ta tNil) := pa_cons ha pa_nil (star_of hs)
theorem pa2 {ta tb : TE} (ha : PE X a ta) (hs : notStar a = true) (hb : PE X b tb) (hs2 : notStar b = true) : PA X [a, b] (tCons ta (tCons tb tNil)) := pa_cons ha (pa1 hb hs2) (star_of hs)
theorem i_rng1 {a' : E} {p : Pos} (cx : CtxOk ea t C k N sc W X) (hg : glb sc "range" = true) (hm : t.blts.contains "range" = true) (ha : PE X a (lE ea X.K W (wE C a'))) (hs : notStar a = true) : PI X tg (.Call (.Name "range" p) [a] [] pos) (lI ea X.K W (wIt C (.rng1 a'))) :=
  PI.imp (pi_range1 (glb_of cx.hsc hg) (cx.blts _ hm) (pa1 ha hs) (starOne hs)) fun σ H R q => by
    refine lI_seq (tk := fun x pσ h R X' => intS x fun n => small n ∧ R (rgL 0 n) (fun _ => True) h) (by simpa only [lI, wIt] using q) fun pσ h1 v vv H1 R' X' _ rs rh rv q lk lx => ?_
    obtain ⟨n, rfl, q1, q2⟩ := intS_of q
    refine ⟨n, by rw [rep_int rv], q1.1, q1.2, ?_⟩
    have := lk _ _ _ _ _ rh Fr.refl (it_rng (lo := 0) (hi := n)) q2
    rwa [Int.sub_zero] at this
theorem i_rng2 {a' b' : E} {p : Pos} (cx : CtxOk ea t C k N sc W X) (hg : glb sc "range" = true) (hm : t.blts.contains "range" = true) (ha : PE X a (lE ea X.K W (wE C a'))) (hs : notStar a = true) (hb : PE X b (lE ea X.K W (wE C b'))) (hs2 : notStar b = true) :
    PI X tg (.Call (.Name "range" p) [a, b] [] pos) (lI ea X.K W (wIt C (.rng2 a' b'))) :=
  PI.imp (pi_range2 (glb_of cx.hsc hg) (cx.blts _ hm) (pa2 ha hs hb hs2) (by rw [star_of hs, starOne hs2]) (starOne hs2)) fun σ H R q => by
    refine lI_seq (tk := fun x pσ h R X' => wE C b' pσ h (fun y h => int2S x y fun m n => (small m ∧ small n) ∧ R (rgL m n) (fun _ => True) h) X') (by simpa only [lI, wIt] using q) fun pσ h1 v vv H1 R' X' _ rs rh rv q lk lx => ?_
    refine lI_seq (tk := fun y pσ h R X' => int2S v y fun m n => (small m ∧ small n) ∧ R (rgL m n) (fun _ => True) h) ⟨pσ, h1, R', X', rs, rh, q, lk, lx⟩ fun pσ h2 u vu H2 R' X' ks rs rh ru q lk lx => ?_
    obtain ⟨m, n, rfl, rfl, q1, q2⟩ := int2S_of q
    exact ⟨m, n, by rw [rep_int rv, rep_int ru], ⟨q1.1.1, q1.1.2, q1.2.1, q1.2.2⟩, lk _ _ _ _ _ rh Fr.refl it_rng q2⟩
theorem it_revL {K : PySem.W.Frag} {h0 : PH} {H0 : Hp} {a : Nat} {xs : List PV} : ItRep K h0 H0 xs.reverse (okOf (.ref a) xs) (Itv K a xs.length) := fun h H rh fr ok => by
  obtain ⟨vs, q, r⟩ := rdL_rep rh (show rdL h a = some xs from ok)
  refine ⟨fun i pv e => ?_, by show _ ≤ _; simp⟩
  have hi : i < xs.length := by have := (List.getElem?_eq_some_iff.mp e).1; simpa using this
  rw [List.getElem?_reverse hi] at e
  obtain ⟨v, e1, r1⟩ := r.get e
  refine ⟨⟨hi, vs, v, q, e1⟩, fun x H' ⟨hH, hx⟩ => ?_⟩
  subst hH
  have e2 := hx vs q
  rw [e1] at e2
  cases e2
  exact ⟨r1, rh, Fr.refl⟩
theorem it_revT {K : PySem.W.Frag} {h0 : PH} {H0 : Hp} {a : Nat} {l xs : List PV} {vs : List V} (rh0 : RepH K h0 H0) (q : SqT K H0 a vs) (r : RepVs K H0 l vs) : ItRep K h0 H0 l.reverse (okOf (.tup l) xs) (RT.ItvT K a l.length) := fun h H rh fr ok => by
  have q' := SqT.keep rh0 fr q
  have r' := r.keep rh0 fr
  refine ⟨fun i pv e => ?_, by show _ ≤ _; simp⟩
  have hi : i < l.length := by have := (List.getElem?_eq_some_iff.mp e).1; simpa using this
  rw [List.getElem?_reverse hi] at e
  obtain ⟨v, e1, r1⟩ := r'.get e
  refine ⟨⟨hi, vs, v, q', e1⟩, fun x H' ⟨hH, hx⟩ => ?_⟩
  subst hH
  have e2 := hx vs q'
  rw [e1] at e2
  cases e2
  exact ⟨r1, rh, Fr.refl⟩
theorem i_rev {a' : E} {p : Pos} (cx : CtxOk ea t C k N sc W X) (hg : glb sc "reversed" = true) (hm : t.blts.contains "reversed" = true) (ha : PE X a (lE ea X.K W (wE C a'))) (hs : notStar a = true) : PI X tg (.Call (.Name "reversed" p) [a] [] pos) (lI ea X.K W (wIt C (.rev a'))) :=
  PI.imp (RT.pi_revA (glb_of cx.hsc hg) (cx.blts _ hm) ha (star_of hs)) fun σ H R q => by
    refine lI_seq (tk := fun v pσ h R X' => seqS v h fun xs => R xs.reverse (okOf v xs) h) (by simpa only [lI, wIt] using q) fun pσ h1 v vv H1 R' X' _ rs rh rv q lk lx => ?_
    obtain ⟨xs, e, q⟩ := seqS_some q
    cases v with
    | ref a =>
      obtain ⟨vs, q1, r1⟩ := rdL_rep rh (show rdL h1 a = some xs from e)
      exact ⟨a, vs, rep_ref rv, .inl ⟨q1, by rw [← r1.length]; exact lk _ _ _ _ _ rh Fr.refl it_revL q⟩⟩
    | tup l =>
      obtain ⟨a, vs, e1, q1, r⟩ := rep_tup rv
      obtain rfl : l = xs := by cases e; rfl
      exact ⟨a, vs, e1, .inr ⟨q1, by rw [← r.length]; exact lk _ _ _ _ _ rh Fr.refl (it_revT rh q1 r) q⟩⟩
    | rol l =>
      obtain ⟨a, vs, e1, q1, r⟩ := rep_rol rv
      obtain rfl : l = xs := by cases e; rfl
      exact ⟨a, vs, e1, .inl ⟨q1.sq, by rw [← r.length]; exact lk _ _ _ _ _ rh Fr.refl (it_revR rh q1 r) q⟩⟩
    | _ => cases e
end
end Co
namespace Co
open PySem L2
open PySem.Spec PyProof.Rows
theorem zipL_at {xs ys : List PV} {i : Nat} {pv : PV} (e : (zipL xs ys)[i]? = some pv) : ∃ x y, xs[i]? = some x ∧ ys[i]? = some y ∧ pv = .tup [x, y] := by
  unfold zipL at e
  rw [List.getElem?_map] at e
  cases q : (xs.zip ys)[i]? with
  | none => (rw [q] at e; cases e)
  | some p =>
    rw [q] at e; cases e
    rw [List.getElem?_zip_eq_some] at q
    exact ⟨p.1, p.2, q.1, q.2, rfl⟩
theorem zipL_len (xs ys : List PV) : (zipL xs ys).length = min xs.length ys.length := by unfold zipL; rw [List.length_map, List.length_zip]
theorem enumL_at {xs : List PV} {i : Nat} {pv : PV} (e : (enumL xs)[i]? = some pv) : ∃ x, xs[i]? = some x ∧ pv = .tup [.int (i : Nat), x] := by
  unfold enumL at e
  rw [List.getElem?_zipWith] at e
  cases q : xs[i]? with
  | none => rw [q] at e; cases h : (List.range xs.length)[i]? <;> rw [h] at e <;> cases e
  | some x =>
    have hi := (List.getElem?_eq_some_iff.mp q).1
    rw [q, List.getElem?_range hi] at e
    cases e
    exact ⟨x, rfl, rfl⟩
theorem enumL_len (xs : List PV) : (enumL xs).length = xs.length := by unfold enumL; simp
/-- a pair laid anew while walking -/
theorem pair_new {K : PySem.W.Frag} {h : PH} {H : Hp} {x y : PV} {v u : V} {T : Addr} (rh : RepH K h H) (e : H T = none) (rx : RepV K H x v) (ry : RepV K H y u) :
    RepV K (upd H T (.tup [v, u])) (.tup [x, y]) (.ref T) ∧ RepH K h (upd H T (.tup [v, u])) ∧ Fr h H h (upd H T (.tup [v, u])) := by
  have f : Fr h H h (upd H T (.tup [v, u])) := Fr.tup e
  exact ⟨tup_rep (SqT.of upd_same) (RepVs.cons_iff.mpr ⟨_, _, rfl, rx.keep rh f, RepVs.cons_iff.mpr ⟨_, _, rfl, ry.keep rh f, RepVs.nil_iff.mpr rfl⟩⟩), rh.tup e, f⟩
theorem it_zipL {K : PySem.W.Frag} {h0 : PH} {H0 : Hp} {a b : Nat} {xs ys : List PV} : ItRep K h0 H0 (zipL xs ys) (fun h => okOf (.ref a) xs h ∧ okOf (.ref b) ys h) (Itz K a b) := fun h H rh fr ok => by
  obtain ⟨vs, q, r⟩ := rdL_rep rh (show rdL h a = some xs from ok.1)
  obtain ⟨ws, q2, r2⟩ := rdL_rep rh (show rdL h b = some ys from ok.2)
  refine ⟨fun i pv e => ?_, ⟨vs, ws, q, q2, by rw [zipL_len, ← r.length, ← r2.length]; omega⟩⟩
  obtain ⟨x, y, hx, hy, rfl⟩ := zipL_at e
  obtain ⟨v, e1, r3⟩ := r.get hx
  obtain ⟨u, e2, r4⟩ := r2.get hy
  refine ⟨⟨vs, ws, v, u, q, q2, e1, e2⟩, fun z H' ⟨T, x1, y1, hz, hT, hH, hx1, hy1⟩ => ?_⟩
  have e3 := hx1 vs q
  have e4 := hy1 ws q2
  rw [e1] at e3
  rw [e2] at e4
  cases e3
  cases e4
  subst hz hH
  exact pair_new rh hT r3 r4
theorem it_zipT {K : PySem.W.Frag} {h0 : PH} {H0 : Hp} {a b : Nat} {l m : List PV} {vs ws : List V} {ok : PH → Prop} (rh0 : RepH K h0 H0) (q0 : SqT K H0 a vs) (r0 : RepVs K H0 l vs) (q1 : SqT K H0 b ws) (r1 : RepVs K H0 m ws) : ItRep K h0 H0 (zipL l m) ok (RZ.ItzT K a b) := fun h H rh fr _ => by
  have q := SqT.keep rh0 fr q0
  have r := r0.keep rh0 fr
  have q2 := SqT.keep rh0 fr q1
  have r2 := r1.keep rh0 fr
  refine ⟨fun i pv e => ?_, ⟨vs, ws, q, q2, by rw [zipL_len, ← r.length, ← r2.length]; omega⟩⟩
  obtain ⟨x, y, hx, hy, rfl⟩ := zipL_at e
  obtain ⟨v, e1, r3⟩ := r.get hx
  obtain ⟨u, e2, r4⟩ := r2.get hy
  refine ⟨⟨vs, ws, v, u, q, q2, e1, e2⟩, fun z H' ⟨T, x1, y1, hz, hT, hH, hx1, hy1⟩ => ?_⟩
  have e3 := hx1 vs q
  have e4 := hy1 ws q2
  rw [e1] at e3
  rw [e2] at e4
  cases e3
  cases e4
  subst hz hH
  exact pair_new rh hT r3 r4
theorem it_enum {K : PySem.W.Frag} {h0 : PH} {H0 : Hp} {a : Nat} {xs : List PV} : ItRep K h0 H0 (enumL xs) (okOf (.ref a) xs) (Ite K a) := fun h H rh fr ok => by
  obtain ⟨vs, q, r⟩ := rdL_rep rh (show rdL h a = some xs from ok)
  refine ⟨fun i pv e => ?_, ⟨vs, q, by rw [enumL_len, r.length]; exact Nat.le_refl _⟩⟩
  obtain ⟨x, hx, rfl⟩ := enumL_at e
  obtain ⟨v, e1, r3⟩ := r.get hx
  refine ⟨⟨vs, v, q, e1⟩, fun z H' ⟨T, x1, hz, hT, hH, hx1⟩ => ?_⟩
  have e3 := hx1 vs q
  rw [e1] at e3
  cases e3
  subst hz hH
  exact pair_new rh hT int_rep r3
section
variable {ea : Nat → Addr} {t : Tb} {C : CS} {k : Nat} {N : List Str} {sc : Scope} {W : WX} {X : Cx} {e a b c tg : Expr} {es : List Expr} {pos tpos p : Pos} {kk : Nat}
theorem i_zip {a' b' : E} (cx : CtxOk ea t C k N sc W X) (hg : glb sc "zip" = true) (hm : t.blts.contains "zip" = true) (ha : PE X a (lE ea X.K W (wE C a'))) (hs : notStar a = true) (hb : PE X b (lE ea X.K W (wE C b'))) (hs2 : notStar b = true) :
    PI X (.Tuple es kk tpos) (.Call (.Name "zip" p) [a, b] [] pos) (lI ea X.K W (wIt C (.zip a' b'))) :=
  PI.imp (RZ.pi_zipA (glb_of cx.hsc hg) (cx.blts _ hm) (pa2 ha hs hb hs2) (by rw [star_of hs, starOne hs2]) (hpl := by rw [starOne hs2]; rfl)) fun σ H R q => by
    refine lI_seq (tk := fun x pσ h R X' => wE C b' pσ h (fun y h => zipOk x y ∧ seqS x h fun xs => seqS y h fun ys => R (zipL xs ys) (fun h => okOf x xs h ∧ okOf y ys h) h) X') (by simpa only [lI, wIt] using q) fun pσ h1 x vx H1 R' X' _ rs rh rx q lk lx => ?_
    refine lI_seq (tk := fun y pσ h R X' => zipOk x y ∧ seqS x h fun xs => seqS y h fun ys => R (zipL xs ys) (fun h => okOf x xs h ∧ okOf y ys h) h) ⟨pσ, h1, R', X', rs, rh, q, lk, lx⟩ fun pσ h2 y vy H2 R' X' ks rs rh ry q lk lx => ?_
    obtain ⟨zk, q⟩ := q
    obtain ⟨xs, ex, q⟩ := seqS_some q
    obtain ⟨ys, ey, q⟩ := seqS_some q
    have rx' := rx.mono ks
    cases x with
    | ref a =>
      cases y with
      | ref b =>
        obtain ⟨vs, q1, _⟩ := rdL_rep rh (show rdL h2 a = some xs from ex)
        obtain ⟨ws, q2, _⟩ := rdL_rep rh (show rdL h2 b = some ys from ey)
        exact ⟨a, b, vs, ws, by rw [rep_ref rx', rep_ref ry], .inl ⟨q1, q2, lk _ _ _ _ _ rh Fr.refl it_zipL q⟩⟩
      | _ => exact False.elim zk
    | tup l =>
      cases y with
      | tup m =>
        obtain ⟨a, vs, e1, q1, r1⟩ := rep_tup rx'
        obtain ⟨b, ws, e2, q2, r2⟩ := rep_tup ry
        obtain rfl : l = xs := by cases ex; rfl
        obtain rfl : m = ys := by cases ey; rfl
        exact ⟨a, b, vs, ws, by rw [e1, e2], .inr ⟨q1, q2, lk _ _ _ _ _ rh Fr.refl (it_zipT rh q1 r1 q2 r2) q⟩⟩
      | _ => exact False.elim zk
    | _ => exact False.elim zk
theorem i_enum {a' : E} (cx : CtxOk ea t C k N sc W X) (hg : glb sc "enumerate" = true) (hm : t.blts.contains "enumerate" = true) (ha : PE X a (lE ea X.K W (wE C a'))) (hs : notStar a = true) :
    PI X (.Tuple es kk tpos) (.Call (.Name "enumerate" p) [a] [] pos) (lI ea X.K W (wIt C (.enum a'))) :=
  PI.imp (pi_enum (glb_of cx.hsc hg) (cx.blts _ hm) (pa1 ha hs) (starOne hs)) fun σ H R q => by
    refine lI_seq (tk := fun v pσ h R X' => isRef v ∧ seqS v h fun xs => R (enumL xs) (okOf v xs) h) (by simpa only [lI, wIt] using q) fun pσ h1 v vv H1 R' X' _ rs rh rv q lk lx => ?_
    obtain ⟨zk, q⟩ := q
    obtain ⟨xs, ex, q⟩ := seqS_some q
    cases v with
    | ref a =>
      obtain ⟨vs, q1, _⟩ := rdL_rep rh (show rdL h1 a = some xs from ex)
      exact ⟨a, vs, by rw [rep_ref rv], q1, lk _ _ _ _ _ rh Fr.refl it_enum q⟩
    | _ => exact False.elim zk
/-- a list that the pure heap does not know grows -/
theorem untr_ks {K : PySem.W.Frag} {H : Hp} {D : Addr} {vs ws : List V} (eD : H D = some (.lst vs)) : Ks K H (upd H D (.lst ws)) := by
  have ha : ∀ {a : Addr} (o : HO), H a = some o → (∀ l, o ≠ .lst l) → a ≠ D := fun o ho n z => by subst z; rw [eD] at ho; cases ho; exact n _ rfl
  refine ⟨fun a us s => ?_, fun a us s => ?_⟩
  · rcases s with (s | ⟨o, s⟩) | s
    · exact .inl (.inl (by rw [upd_ne (ha _ s (by intro l z; cases z))]; exact s))
    · exact .inl (.inr ⟨o, by rw [upd_ne (ha _ s (by intro l z; cases z))]; exact s⟩)
    · exact .inr s
  · rcases s with ⟨o, s⟩ | s
    · exact .inl ⟨o, by rw [upd_ne (ha _ s (by intro l z; cases z))]; exact s⟩
    · exact .inr s
theorem RepH.untr {K : PySem.W.Frag} {h : PH} {H : Hp} {D : Addr} {vs ws : List V} (rh : RepH K h H) (e : h D = none) (eD : H D = some (.lst vs)) : RepH K h (upd H D (.lst ws)) := fun b o q => by
  have hb : b ≠ D := fun z => by subst z; rw [e] at q; cases q
  have z := rh b o q
  cases o with
  | lst xs => obtain ⟨us, q1, r⟩ := z; exact ⟨us, by rw [upd_ne hb]; exact q1, RepVs.mono (untr_ks eD) _ _ r⟩
theorem RepS.mono {K : PySem.W.Frag} {H H' : Hp} {pσ : Sl} {σ : L2.St} (ks : Ks K H H') (r : RepS K H pσ σ) : RepS K H' pσ σ :=
  ⟨r.1, fun i pv e => let ⟨v, e', q⟩ := r.2 i pv e; ⟨v, e', q.mono ks⟩⟩
/-- the list D becomes known -/
theorem RepH.known {K : PySem.W.Frag} {h : PH} {H : Hp} {D : Addr} {vs : List V} {xs : List PV} (rh : RepH K h H) (eD : H D = some (.lst vs)) (r : RepVs K H xs vs) : RepH K (pupd h D (.lst xs)) H := fun b o q => by
  by_cases hb : b = D
  · subst hb
    unfold pupd at q; rw [if_pos rfl] at q; cases q
    exact ⟨vs, eD, r⟩
  · unfold pupd at q; rw [if_neg hb] at q
    exact rh b o q
theorem s_cpr_rd {K : PySem.W.Frag} {g : It} {tg : Tg} {c : T} {e : E} {own : List Nat} (hin : tgIn tg own = true) : ∀ σ H Q, lE ea K W (wE C (.cpr g tg c e own)) σ H Q →
    tLc (lI ea K W (wIt C g)) (lG K (wTg C tg) (SB tg)) (lC ea K (fun _ _ _ _ => False) (wT C c)) (lE ea K (fun _ _ _ _ => False) (wE C e)) own σ H Q := fun σ H Q q => by
  simp only [lE, wE] at q
  obtain ⟨pσ, h, Q', X', rs, rh, q, lk, lx⟩ := q
  refine ⟨pσ, h, _, X', rs, rh, q, fun xs ok h1 J H1 rh1 fr1 ir q1 => ?_, lx⟩
  intro D hD
  refine ⟨fun i m Hc => m = xs.length - i ∧ i ≤ xs.length ∧ ∃ h2 acc vs, RepH K h2 Hc ∧ Fr h1 H1 h2 Hc ∧ h2 D = none ∧ Hc D = some (.lst vs) ∧ RepVs K Hc acc vs ∧ RepS K Hc (wipe pσ own) (L2.wipe σ own) ∧
    cprL ok (fun v σ h Q => wTg C tg v σ h Q) (fun σ h Q => wT C c σ h Q fun _ _ => False) (fun σ h Q => wE C e σ h Q fun _ _ => False) (wipe pσ own) (fun acc h => newL h acc Q') acc (xs.drop i) h2, ⟨_, rfl, Nat.zero_le _, ?_⟩, ?_⟩
  · have f : Fr h1 H1 h1 (upd H1 D (.lst [])) := Fr.tup hD
    exact ⟨h1, [], [], rh1.tup hD, f, rh1.free hD, upd_same, RepVs.nil_iff.mpr rfl, ((rs.keep rh fr1).keep rh1 f).wipe own, q1⟩
  · rintro i m Hc ⟨rfl, hi, h2, acc, vs, rh2, fr2, n2, eD, ra, rs2, q2⟩
    by_cases hlt : i < xs.length
    · have ed : xs.drop i = xs[i] :: xs.drop (i + 1) := List.drop_eq_getElem_cons hlt
      rw [ed] at q2
      simp only [cprL] at q2
      obtain ⟨okh, q2⟩ := q2
      obtain ⟨ir1, _⟩ := ir h2 Hc rh2 fr2 okh
      obtain ⟨go, yl⟩ := ir1 i xs[i] (List.getElem?_eq_getElem hlt)
      refine .inr ⟨go, fun H' => ∃ h3 acc vs, RepH K h3 H' ∧ Fr h1 H1 h3 H' ∧ h3 D = none ∧ H' D = some (.lst vs) ∧ RepVs K H' acc vs ∧ RepS K H' (wipe pσ own) (L2.wipe σ own) ∧
        cprL ok (fun v σ h Q => wTg C tg v σ h Q) (fun σ h Q => wT C c σ h Q fun _ _ => False) (fun σ h Q => wE C e σ h Q fun _ _ => False) (wipe pσ own) (fun acc h => newL h acc Q') acc (xs.drop (i + 1)) h3,
        fun H' z => ⟨xs.length - (i + 1), by omega, rfl, hlt, z⟩, fun x H' y => ?_⟩
      obtain ⟨rx, rh3, fr3⟩ := yl x H' y
      refine ⟨xs[i], wipe pσ own, h2, _, rx, rs2.keep rh2 fr3, rh3, q2, fun pσ4 h4 σ4 H4 rs4 rh4 fr4 sb4 q4 => ⟨?_, ?_⟩⟩
      · rw [sb4 own hin]
        exact wipe_wipe fun v m => m
      · have nolx : ∀ {h H σ}, LkX ea K h H (fun _ _ => False) σ (fun _ _ _ _ => False) := fun _ _ _ _ _ _ _ _ z => z
        have frA : Fr h2 Hc h4 H4 := fr3.trans fr4
        refine ⟨pσ4, h4, _, _, rs4, rh4, q4, fun b h5 H5 rh5 fr5 q5 => ?_, nolx⟩
        have frB : Fr h2 Hc h5 H5 := frA.trans fr5
        obtain ⟨n5, eD5⟩ := frB D _ n2 eD
        cases b with
        | true =>
          simp only [if_true] at q5 ⊢
          refine ⟨pσ4, h5, _, _, rs4.keep rh4 fr5, rh5, q5, fun v h6 vv H6 rv rh6 fr6 q6 => ?_, nolx⟩
          have frC : Fr h2 Hc h6 H6 := frB.trans fr6
          obtain ⟨n6, eD6⟩ := frC D _ n2 eD
          have ra6 := ra.keep rh2 frC
          have ks := untr_ks (K := K) (ws := vs ++ [vv]) eD6
          refine ⟨vs, eD6, by rw [line16, ← ra6.length]; exact q6.1, h6, acc ++ [v], vs ++ [vv], rh6.untr n6 eD6, fun a o x y => ?_, n6, upd_same, (RepVs.mono ks _ _ ra6).append (RepVs.cons_iff.mpr ⟨_, _, rfl, rv.mono ks, RepVs.nil_iff.mpr rfl⟩), (rs2.keep rh2 frC).mono ks, q6.2⟩
          have ne : a ≠ D := fun z => by subst z; rw [hD] at y; cases y
          obtain ⟨y1, y2⟩ := (fr2.trans frC) a o x y
          exact ⟨y1, by rw [upd_ne ne]; exact y2⟩
        | false =>
          simp only [Bool.false_eq_true, if_false] at q5 ⊢
          exact ⟨h5, acc, vs, rh5, fr2.trans frB, n5, eD5, ra.keep rh2 frB, rs2.keep rh2 frB, q5⟩
    · obtain rfl : i = xs.length := by omega
      rw [List.drop_length] at q2
      simp only [cprL] at q2
      obtain ⟨okh, q2⟩ := q2
      obtain ⟨_, st⟩ := ir h2 Hc rh2 fr2 okh
      refine .inl ⟨st, lk (.ref D) (pupd h2 D (.lst acc)) _ _ ref_rep (rh2.known eD ra) (fun a o x y => ?_) (q2 D n2)⟩
      obtain ⟨y1, y2⟩ := fr1 a o x y
      obtain ⟨y3, y4⟩ := fr2 a o y1 y2
      have ne : a ≠ D := fun z => by subst z; rw [hD] at y2; cases y2
      exact ⟨by unfold pupd; rw [if_neg ne]; exact y3, y4⟩
end
end Co
namespace Co
open PySem L2
open PySem.Spec PyProof.Rows
theorem blt_ar {x : Str} {n : Nat} {b : Blt} (h : bltOf x n = some b) : 0 < n := by
  have := List.find?_some h
  rw [Bool.and_eq_true, beq_iff_eq, beq_iff_eq] at this
  rw [← this.2]
  cases b <;> decide
theorem cE_shape {t : Tb} {N : List Str} {n : Nat} {sc : Scope} {e : Expr} {c : E} (h : cE t N n sc e = some c) : notStar e = true ∧ notSlice e = true ∧ notSet e = true ∧ notCall0 e = true := by
  cases n with
  | zero => simp only [cE] at h; cases h
  | succ n =>
    cases e with
    | Call f args kws p =>
      refine ⟨rfl, rfl, rfl, ?_⟩
      cases kws with
      | cons _ _ => cases f <;> cases args <;> rfl
      | nil =>
        cases f with
        | Name x q =>
          cases args with
          | cons _ _ => rfl
          | nil =>
            exfalso
            simp only [cE, List.mapM_nil] at h
            split at h
            · split at h
              · rename_i cs i h1 h2
                cases h1
                simp at h
              · rename_i cs h1 h2
                cases h1
                split at h
                · cases q : bltOf x ([] : List E).length with
                  | none => rw [q] at h; cases h
                  | some b => exact absurd (blt_ar q) (by simp)
                · cases h
              · rename_i h1
                cases h1
            · cases h
        | _ => rfl
    | Starred _ _ => simp only [cE] at h; cases h
    | Slice _ _ _ _ => simp only [cE] at h; cases h
    | Set _ _ _ => simp only [cE] at h; cases h
    | _ => exact ⟨rfl, rfl, rfl, rfl⟩
section
variable {ea : Nat → Addr} {t : Tb} {C : CS} {k : Nat} {N : List Str}
theorem CtxOk.none {sc : Scope} {W : WX} {X : Cx} (cx : CtxOk ea t C k N sc W X) : CtxOk ea t C k N sc (fun _ _ _ _ => False) X :=
  ⟨cx.hN, cx.nd, cx.hsc, cx.calm, cx.room, takes_none5, cx.fns, cx.cons, cx.blts, cx.excs⟩
theorem rel_eq {sc' sc : Scope} {env : Env} {cl : List (Str × Addr)} {Cc : Addr} (h : env.scope = sc) : (compEnvC sc' cl Cc env).scope = relS sc' sc := by
  subst h
  rfl
theorem CtxOk.blk {sc sc' : Scope} {W : WX} {X : Cx} (cx : CtxOk ea t C k N sc W X) (s : Shared) (H : Hp) (Cc : Addr) (cl : List (Str × Addr)) (fp : List Addr) :
    CtxOk ea t C k N (relS sc' sc) (fun _ _ _ _ => False) (X.blk s H sc' (compEnvC sc' cl Cc X.env) fp) :=
  ⟨cx.hN, cx.nd, rel_eq cx.hsc, cx.calm, cx.room, takes_none5, cx.fns, cx.cons, cx.blts, fun i x h => let z := cx.excs i x h; ⟨z.mg, z.inK, z.kp, z.rs⟩⟩
theorem blk_fn {sc' : Scope} {X : Cx} {s : Shared} {H : Hp} {ce : Env} {fp : List Addr} : ∀ x, sc'.names.lookup x = some .cell → (X.blk s H sc' ce fp).fn x = true := fun x h => by
  show (sc'.names.lookup x == some NameKind.cell) = true
  rw [h]; rfl
variable (ea t C k N) in
structure AllE (n : Nat) : Prop where
  e : ∀ {sc : Scope} {e : Expr} {c : E} {W : WX} {X : Cx}, CtxOk ea t C k N sc W X → cE t N n sc e = some c → PE X e (lE ea X.K W (wE C c))
  o : ∀ {sc : Scope} {e : Option Expr} {c : Eo} {W : WX} {X : Cx}, CtxOk ea t C k N sc W X → cO t N n sc e = some c → L2.PO X e (lC ea X.K W (wEo C c))
  f : ∀ {sc : Scope} {e : List Expr} {c : T} {W : WX} {X : Cx}, CtxOk ea t C k N sc W X → cIfs t N n sc e = some c → PTs X e (lC ea X.K W (wT C c))
  tt : ∀ {sc : Scope} {e : Expr} {c : T} {W : WX} {X : Cx}, CtxOk ea t C k N sc W X → cT t N n sc e = some c → PT X e (lC ea X.K W (wT C c))
  g : ∀ {sc st : Scope} {e : Expr} {c : Tg} {W : WX} {X : Cx}, CtxOk ea t C k N sc W X → (∀ x, st.names.lookup x = some .cell → X.fn x = true) → cG t N n sc st e = some c → PG X e (lG X.K (wTg C c) (SB c)) ∧ notStar e = true
  i : ∀ {sc : Scope} {tg e : Expr} {c : It} {W : WX} {X : Cx}, CtxOk ea t C k N sc W X → cIt t N n sc tg e = some c → PI X tg e (lI ea X.K W (wIt C c)) ∧ notSet e = true
theorem fold_of {e : Expr} {env : Env} (h : notSet e = true) : ∀ x, foldedSetIterable e env x = pure x := by
  intro x
  cases e <;> first | rfl | cases h
theorem all_zero : AllE ea t C k N 0 where
  e := fun _ h => by simp only [cE] at h; cases h
  o := fun _ h => by simp only [cO] at h; cases h
  f := fun _ h => by simp only [cIfs] at h; cases h
  tt := fun _ h => by simp only [cT] at h; cases h
  g := fun _ _ h => by simp only [cG] at h; cases h
  i := fun _ h => by simp only [cIt] at h; cases h
section
variable {n : Nat} (A : AllE ea t C k N n) {sc : Scope} {W : WX} {X : Cx} (cx : CtxOk ea t C k N sc W X)
include A cx
theorem a_o {e : Option Expr} {c : Eo} (h : cO t N (n + 1) sc e = some c) : L2.PO X e (lC ea X.K W (wEo C c)) := by
  cases e with
  | none => simp only [cO] at h; cases h; exact s_po (.inl ⟨rfl, rfl⟩)
  | some e =>
    simp only [cO] at h
    cases q : cE t N n sc e with
    | none => rw [q] at h; cases h
    | some e' => rw [q] at h; cases h; exact s_po (.inr ⟨e, e', rfl, rfl, A.e cx q⟩)
theorem a_f {es : List Expr} {c : T} (h : cIfs t N (n + 1) sc es = some c) : PTs X es (lC ea X.K W (wT C c)) := by
  rcases es with _ | ⟨e, _ | ⟨_, _⟩⟩
  · simp only [cIfs] at h
    cases h
    exact ⟨fun pins s σ H Q I ⟨pσ, h, Q', X', rs, rh, q, lk, lx⟩ => (pts_nil (X := X)).run pins s σ H Q I (lk.here rh (by simpa only [wT] using q))⟩
  · simp only [cIfs] at h
    exact pts_one (A.tt cx h)
  · simp only [cIfs] at h; cases h
theorem a_t {e : Expr} {c : T} (h : cT t N (n + 1) sc e = some c) : PT X e (lC ea X.K W (wT C c)) := by
  have dflt : ∀ {e : Expr} {c : T}, (cE t N n sc e).map T.e = some c → (∀ whole, isTrue e X.env whole = (do let v ← whole; standAt e.pos; holding [v] (truthy v))) → PT X e (lC ea X.K W (wT C c)) := fun {e c} h he => by
    cases q : cE t N n sc e with
    | none => rw [q] at h; cases h
    | some e' => rw [q] at h; cases h; exact t_tru (A.e cx q) he
  cases e with
  | UnaryOp op a pos =>
    cases op <;> simp only [cT] at h <;> try (cases h; done)
    cases q : cT t N n sc a with
    | none => rw [q] at h; cases h
    | some a' => rw [q] at h; cases h; exact t_not (A.tt cx q)
  | BoolOp op es pos =>
    simp only [cT] at h
    cases q : es.mapM (cT t N n sc) with
    | none => rw [q] at h; cases h
    | some cs =>
      rw [q] at h
      cases op with
      | And => exact (t_and (fun e c m hc => A.tt cx hc) q h).pt
      | Or => exact (t_or (fun e c m hc => A.tt cx hc) q h).pt
  | IfExp _ _ _ _ => simp only [cT] at h; cases h
  | Compare a ops cs pos =>
    rcases ops with _ | ⟨op, _ | ⟨op', _ | ⟨_, _⟩⟩⟩ <;> rcases cs with _ | ⟨b, _ | ⟨c, _ | ⟨_, _⟩⟩⟩ <;> simp only [cT] at h <;> try (cases h; done)
    · split at h
      · rename_i hs
        split at h
        · rename_i o a' b' h1 h2 h3
          cases h
          exact t_cmp cx.hu hs h1 (A.e cx h2) (A.e cx h3)
        · cases h
      · cases h
    · split at h
      · rename_i hs
        split at h
        · rename_i o o' a' b' c' h1 h2 h3 h4 h5
          cases h
          exact t_chn cx.hu hs h1 h2 (A.e cx h3) (A.e cx h4) (A.e cx h5)
        · cases h
      · cases h
  | _ => simp only [cT] at h; exact dflt h (fun _ => rfl)
theorem a_g {st : Scope} {e : Expr} {c : Tg} (hf : ∀ x, st.names.lookup x = some .cell → X.fn x = true) (h : cG t N (n + 1) sc st e = some c) : PG X e (lG X.K (wTg C c) (SB c)) ∧ notStar e = true := by
  cases e with
  | Name x pos =>
    simp only [cG] at h
    split at h
    · split at h
      · rename_i i hi g
        rw [Bool.and_eq_true, Bool.and_eq_true, decide_eq_true_eq] at g
        cases h
        exact ⟨g_name cx hf g.1.1 g.1.2 g.2, rfl⟩
      · cases h
    · cases h
  | Tuple es x1 pos =>
    simp only [cG] at h
    cases q : es.mapM (cG t N n sc st) with
    | none => rw [q] at h; cases h
    | some gs =>
      rw [q] at h; cases h
      exact ⟨g_tup cx.calm (fun e g m hg => A.g cx hf hg) q, rfl⟩
  | Subscript o i pos =>
    have gen : notSlice i = true → (match cE t N n sc o, cE t N n sc i with | some o, some i => some (Tg.sub o i) | _, _ => none) = some c → PG X (.Subscript o i pos) (lG X.K (wTg C c) (SB c)) := fun hs h => by
      split at h
      · rename_i o' i' h1 h2
        cases h
        exact g_sub (A.e cx.none h1) (A.e cx.none h2) hs
      · cases h
    cases i <;> first | (simp only [cG] at h; cases h; done) | (simp only [cG] at h; exact ⟨gen rfl h, rfl⟩)
  | _ => simp only [cG] at h; cases h
theorem a_i {tg e : Expr} {c : It} (h : cIt t N (n + 1) sc tg e = some c) : PI X tg e (lI ea X.K W (wIt C c)) ∧ notSet e = true := by
  have dflt : ∀ {e : Expr} {c : It}, (cE t N n sc e).map It.seq = some c → PI X tg e (lI ea X.K W (wIt C c)) ∧ notSet e = true := fun {e c} h => by
    cases q : cE t N n sc e with
    | none => rw [q] at h; cases h
    | some e' => rw [q] at h; cases h; exact ⟨i_seq (A.e cx q), (cE_shape q).2.2.1⟩
  have hb : ∀ {x y : Str}, (hasB t sc x && x == y) = true → glb sc y = true ∧ t.blts.contains y = true ∧ x = y := fun {x y} h => by
    unfold hasB at h
    rw [Bool.and_eq_true, Bool.and_eq_true, Bool.and_eq_true, beq_iff_eq] at h
    obtain ⟨⟨⟨h1, h2⟩, h3⟩, rfl⟩ := h
    exact ⟨h1, h3, rfl⟩
  cases e with
  | Call f args kws pos =>
    refine ⟨?_, rfl⟩
    simp only [cIt] at h
    split at h
    · rename_i x p a
      split at h
      · rename_i g
        obtain ⟨g1, g2, rfl⟩ := hb g
        cases q : cE t N n sc a with
        | none => rw [q] at h; cases h
        | some a' => rw [q] at h; cases h; exact i_rng1 cx g1 g2 (A.e cx q) (cE_shape q).1
      · split at h
        · rename_i g
          obtain ⟨g1, g2, rfl⟩ := hb g
          cases q : cE t N n sc a with
          | none => rw [q] at h; cases h
          | some a' => rw [q] at h; cases h; exact i_rev cx g1 g2 (A.e cx q) (cE_shape q).1
        · split at h
          · rename_i g
            obtain ⟨g1, g2, rfl⟩ := hb g
            split at h
            · cases q : cE t N n sc a with
              | none => rw [q] at h; cases h
              | some a' => rw [q] at h; cases h; exact i_enum cx g1 g2 (A.e cx q) (cE_shape q).1
            · cases h
          · exact (dflt h).1
    · rename_i x p a b
      split at h
      · rename_i g
        obtain ⟨g1, g2, rfl⟩ := hb g
        split at h
        · rename_i a' b' q1 q2
          cases h
          exact i_rng2 cx g1 g2 (A.e cx q1) (cE_shape q1).1 (A.e cx q2) (cE_shape q2).1
        · cases h
      · split at h
        · rename_i g
          obtain ⟨g1, g2, rfl⟩ := hb g
          split at h
          · rename_i a' b' q1 q2
            cases h
            exact i_zip cx g1 g2 (A.e cx q1) (cE_shape q1).1 (A.e cx q2) (cE_shape q2).1
          · cases h
        · exact (dflt h).1
    · exact (dflt h).1
  | _ => simp only [cIt] at h; exact dflt h
end
end
end Co
namespace Co
open PySem L2
open PySem.Spec PyProof.Rows
section
variable {ea : Nat → Addr} {t : Tb} {C : CS} {k : Nat} {N : List Str} {n : Nat} (A : AllE ea t C k N n) {sc : Scope} {W : WX} {X : Cx} (cx : CtxOk ea t C k N sc W X)
include A cx
theorem a_ih {es : List Expr} : ∀ e c, e ∈ es → cE t N n sc e = some c → PE X e (lE ea X.K W (wE C c)) ∧ notStar e = true := fun e c _ h => ⟨A.e cx h, (cE_shape h).1⟩
theorem a_call {x : Str} {p pos : Pos} {args : List Expr} {c : E} (h : cE t N (n + 1) sc (.Call (.Name x p) args [] pos) = some c) : PE X (.Call (.Name x p) args [] pos) (lE ea X.K W (wE C c)) := by
  have sh := cE_shape h
  simp only [cE] at h
  split at h
  · rename_i g
    rw [Bool.and_eq_true] at g
    split at h
    · rename_i cs i h1 h2
      split at h
      · rename_i g2
        rw [Bool.and_eq_true, decide_eq_true_eq, decide_eq_true_eq] at g2
        cases h
        obtain ⟨p1, p2⟩ := s_args (a_ih A cx) h1
        rcases args with _ | ⟨a, es⟩
        · rw [mapM_nil h1] at g2; exact absurd g2.2 (by simp)
        · exact s_call cx g2.1 g.1 g.2 p1 p2
      · cases h
    · rename_i cs h1 h2
      split at h
      · rename_i g2
        cases q : bltOf x cs.length with
        | none => rw [q] at h; cases h
        | some b =>
          rw [q] at h; cases h
          obtain ⟨p1, p2⟩ := s_args (a_ih A cx) h1
          rcases args with _ | ⟨a, es⟩
          · rw [mapM_nil h1] at q; exact absurd (blt_ar q) (by simp)
          · exact s_blt cx q g.1 g2 p1 p2
      · cases h
    · split at h
      · rename_i a ty
        split at h
        · rename_i g2
          rw [Bool.and_eq_true, beq_iff_eq] at g2
          obtain ⟨rfl, g2⟩ := g2
          split at h
          · rename_i a' ts tp q1 q2
            cases h
            exact s_isi cx g.1 g2 (A.e cx q1) (cE_shape q1).1 q2
          · cases h
        · cases h
      · rename_i a
        split at h
        · rename_i g2
          rw [Bool.and_eq_true, Bool.or_eq_true, beq_iff_eq, beq_iff_eq] at g2
          split at h
          · rename_i r rp u rpos
            split at h
            · rename_i g3
              unfold hasB at g3
              rw [Bool.and_eq_true, Bool.and_eq_true, Bool.and_eq_true, beq_iff_eq] at g3
              obtain ⟨rfl, ⟨g4, _⟩, g5⟩ := g3
              cases q : cE t N n sc u with
              | none => rw [q] at h; cases h
              | some u' =>
                rw [q] at h; cases h
                exact s_rg1 cx g2.1 rfl g.1 g2.2 g4 g5 (A.e cx q) (cE_shape q).1
            · cases h
          · rename_i r rp u w rpos
            split at h
            · rename_i g3
              unfold hasB at g3
              rw [Bool.and_eq_true, Bool.and_eq_true, Bool.and_eq_true, beq_iff_eq] at g3
              obtain ⟨rfl, ⟨g4, _⟩, g5⟩ := g3
              split at h
              · rename_i u' w' q1 q2
                cases h
                exact s_rg2 cx g2.1 rfl g.1 g2.2 g4 g5 (A.e cx q1) (cE_shape q1).1 (A.e cx q2) (cE_shape q2).1
              · cases h
            · cases h
          · cases h
        · cases h
      · cases h
  · cases h
theorem a_cpr {elt : Expr} {gens : List Comprehension} {sc' : Scope} {pos : Pos} {c : E} (h : cE t N (n + 1) sc (.ListComp elt gens sc' pos) = some c) :
    ∃ (tg iter : Expr) (ifs : List Expr) (g : It) (tg' : Tg) (cc : T) (e : E), gens = [⟨tg, iter, ifs, 0⟩] ∧ c = .cpr g tg' cc e ((ownOf N sc').map (·.2)) ∧ BlkOk X.N X.env.scope sc' (ownOf N sc') ∧ PI X tg iter (lI ea X.K W (wIt C g)) ∧ notSet iter = true ∧ tgIn tg' ((ownOf N sc').map (·.2)) = true ∧
      (∀ (s : Shared) (H : Hp) (Cc : Addr) (cl : List (Str × Addr)) (fp : List Addr), PG (X.blk s H sc' (compEnvC sc' cl Cc X.env) fp) tg (lG X.K (wTg C tg') (SB tg'))) ∧
      (∀ (s : Shared) (H : Hp) (Cc : Addr) (cl : List (Str × Addr)) (fp : List Addr), PTs (X.blk s H sc' (compEnvC sc' cl Cc X.env) fp) ifs (lC ea X.K (fun _ _ _ _ => False) (wT C cc))) ∧
      (∀ (s : Shared) (H : Hp) (Cc : Addr) (cl : List (Str × Addr)) (fp : List Addr), PE (X.blk s H sc' (compEnvC sc' cl Cc X.env) fp) elt (lE ea X.K (fun _ _ _ _ => False) (wE C e))) := by
  simp only [cE] at h
  split at h
  · rename_i tg it ifs as
    split at h
    · rename_i g
      obtain ⟨rfl, g⟩ := g
      split at h
      · rename_i g' tg' cc e' h1 h2 h3 h4
        split at h
        · rename_i hin
          cases h
          obtain ⟨p1, p2⟩ := A.i cx h1
          exact ⟨tg, it, ifs, g', tg', cc, e', rfl, rfl, by rw [cx.hN, cx.hsc]; exact blkOk_by g, p1, p2, hin, fun s H Cc cl fp => (A.g (cx.blk s H Cc cl fp) blk_fn h2).1, fun s H Cc cl fp => A.f (cx.blk s H Cc cl fp) h3, fun s H Cc cl fp => A.e (cx.blk s H Cc cl fp) h4⟩
        · cases h
      · cases h
    · cases h
  · cases h
theorem a_e {e : Expr} {c : E} (h : cE t N (n + 1) sc e = some c) : PE X e (lE ea X.K W (wE C c)) := by
  cases e with
  | Constant cst j pos => simp only [cE] at h; exact s_const h
  | Name x pos => simp only [cE] at h; exact s_name cx h
  | BinOp a op b pos =>
    simp only [cE] at h
    split at h
    · rename_i o ho
      split at h
      · rename_i a' b' h1 h2
        cases h
        exact s_bin ho (A.e cx h1) (A.e cx h2)
      · cases h
    · cases h
  | UnaryOp op a pos =>
    cases op <;> simp only [cE] at h <;> try (cases h; done)
    · cases q : cE t N n sc a with
      | none => rw [q] at h; cases h
      | some a' => rw [q] at h; cases h; exact s_not (A.e cx q)
    · cases q : cE t N n sc a with
      | none => rw [q] at h; cases h
      | some a' => rw [q] at h; cases h; exact s_neg (A.e cx q)
  | BoolOp op es pos =>
    simp only [cE] at h
    cases q : es.mapM (cE t N n sc) with
    | none => rw [q] at h; cases h
    | some cs =>
      rw [q] at h
      cases op with
      | And => exact s_and (fun e c m hc => A.e cx hc) q h
      | Or => exact s_or (fun e c m hc => A.e cx hc) q h
  | Compare a ops cs pos =>
    rcases ops with _ | ⟨op, _ | ⟨op', _ | ⟨_, _⟩⟩⟩ <;> rcases cs with _ | ⟨b, _ | ⟨c, _ | ⟨_, _⟩⟩⟩ <;> simp only [cE] at h <;> try (cases h; done)
    · split at h
      · rename_i hs
        split at h
        · rename_i o a' b' h1 h2 h3
          cases h
          exact s_cmp cx.hu hs h1 (A.e cx h2) (A.e cx h3)
        · cases h
      · cases h
    · split at h
      · rename_i hs
        split at h
        · rename_i o o' a' b' c' h1 h2 h3 h4 h5
          cases h
          exact s_chn cx.hu hs h1 h2 (A.e cx h3) (A.e cx h4) (A.e cx h5)
        · cases h
      · cases h
  | IfExp c a b pos =>
    simp only [cE] at h
    split at h
    · rename_i c' a' b' h1 h2 h3
      cases h
      exact s_ite (A.tt cx h1) (A.e cx h2) (A.e cx h3)
    · cases h
  | Tuple es x1 pos =>
    simp only [cE] at h
    cases q : es.mapM (cE t N n sc) with
    | none => rw [q] at h; cases h
    | some cs => rw [q] at h; cases h; exact s_tup (s_args (a_ih A cx) q).1
  | List es pos =>
    simp only [cE] at h
    cases q : es.mapM (cE t N n sc) with
    | none => rw [q] at h; cases h
    | some cs => rw [q] at h; cases h; exact s_lst (s_args (a_ih A cx) q).1
  | Call f args kws pos =>
    cases kws with
    | cons _ _ => simp only [cE] at h; cases h
    | nil =>
      cases f with
      | Name x p => exact a_call A cx h
      | Attribute o m apos =>
        simp only [cE] at h
        split at h
        · rename_i kk o' cs h1 h2 h3
          split at h
          · rename_i g
            cases h
            exact s_mth h1 (A.e cx h2) (cE_shape h2).2.2.2 g (a_ih A cx) h3
          · cases h
        · cases h
      | _ => simp only [cE] at h; cases h
  | Subscript a i pos =>
    have gen : notSlice i = true → (match cE t N n sc a, cE t N n sc i with | some a, some i => some (E.ix a i) | _, _ => none) = some c → PE X (.Subscript a i pos) (lE ea X.K W (wE C c)) := fun hs h => by
      split at h
      · rename_i a' i' h1 h2
        cases h
        exact s_ix (A.e cx h1) (A.e cx h2) hs
      · cases h
    cases i with
    | Slice lo hi st p2 =>
      simp only [cE] at h
      split at h
      · rename_i a' lo' hi' h1 h2 h3
        cases h
        exact s_sl (A.e cx h1) (A.o cx h2) (A.o cx h3)
      · cases h
    | _ => simp only [cE] at h; exact gen rfl h
  | ListComp elt gens sc' pos =>
    obtain ⟨tg, iter, ifs, g, tg', cc, e, rfl, rfl, ok, pi, ns, hin, pg, pt, pe⟩ := a_cpr A cx h
    exact PE.imp (pe_lc cx.calm (by rw [cx.hN]; exact cx.nd) pi ok pg pt pe (fold_of ns)) (s_cpr_rd hin)
  | _ => simp only [cE] at h; cases h
end
theorem all_e {ea : Nat → Addr} {t : Tb} {C : CS} {k : Nat} {N : List Str} : ∀ n, AllE ea t C k N n
  | 0 => all_zero
  | n + 1 => { e := fun cx h => a_e (all_e n) cx h, o := fun cx h => a_o (all_e n) cx h, f := fun cx h => a_f (all_e n) cx h, tt := fun cx h => a_t (all_e n) cx h, g := fun cx hf h => a_g (all_e n) cx hf h, i := fun cx h => a_i (all_e n) cx h }
end Co
namespace Co
open PySem L2
open PySem.Spec PyProof.Rows
def lineOf (ts : List Expr) : Nat := (ts.head?.map (·.pos.line)).getD 0
def swNm (sc : Scope) (l : Nat) (e : Expr) : Option Str := match e with
  | .Name id pos => if sc.names.lookup id == some .local && pos.line == l then some id else none
  | _ => none
/-- whether the names of the left are stored from the right -/
def swK (sc : Scope) (ts vs : List Expr) : Option Bool :=
  if !(ts.length == 2 || ts.length == 3) || vs.length != ts.length then some false
  else if (ts.filterMap (swNm sc (lineOf ts))).length != ts.length || (ts.filterMap (swNm sc (lineOf ts))).eraseDups.length != (ts.filterMap (swNm sc (lineOf ts))).length then some false
  else if vs.all (foldedForSure 8) then some false
  else if vs.all (constantsAlone 8) then none
  else some true
theorem sw_eval {sc : Scope} {env : Env} {ts vs : List Expr} {k k2 : Nat} {p p2 : Pos} (hk : env.scope.kind = .function) (hs : env.scope = sc) (hv : vs.all notStar = true) :
    (swK sc ts vs = some false → swappedStores [.Tuple ts k p] (.Tuple vs k2 p2) env = pure none) ∧ (swK sc ts vs = some true → swappedStores [.Tuple ts k p] (.Tuple vs k2 p2) env = pure (some (ts.filterMap (swNm sc (lineOf ts))))) := by
  subst hs
  have hb : env.blockKind = .function := by
    unfold Env.blockKind
    rw [hk]; rfl
  have hst : (vs.any fun | .Starred .. => true | _ => false) = false := by
    rw [List.any_eq_false]
    intro x hx
    have := List.all_eq_true.mp hv x hx
    cases x <;> first | exact absurd this Bool.false_ne_true | simp
  unfold swappedStores
  simp only [hb, hst]
  generalize hN : List.filterMap _ ts = ns
  have e : ns = ts.filterMap (swNm env.scope (lineOf ts)) := by
    rw [← hN]
    congr 1
  clear hN
  subst e
  have hf : ((ScopeKind.function != ScopeKind.function) : Bool) = false := by decide
  simp only [hf, Bool.or_false, Bool.false_eq_true, if_false]
  unfold swK
  constructor
  · intro h
    split at h
    · rename_i g
      rw [if_pos g]
    · rename_i g
      rw [if_neg g]
      split at h
      · rename_i g2
        rw [if_pos g2]
        split
        · rename_i g5; rfl
        · rfl
      · rename_i g2
        rw [if_neg g2]
        split at h
        · rename_i g3
          rw [if_pos g3]
          split
          · rename_i g5; rfl
          · rfl
        · rename_i g3
          split at h <;> cases h
  · intro h
    split at h
    · cases h
    · rename_i g
      rw [if_neg g]
      split at h
      · cases h
      · rename_i g2
        rw [if_neg g2]
        split at h
        · cases h
        · rename_i g3
          rw [if_neg g3]
          split at h
          · cases h
          · rename_i g4
            rw [if_neg g4]
            split
            · rename_i g5; exact absurd (g5.symm.trans hst) (by decide)
            · rfl
section
variable {X : Cx} {pos : Pos}
/-- X(), an own exception class without own __init__ -/
theorem pmk_own0 {C : Addr} {bmB : List Value} {B newId initId : String} {x : Str} {p : Pos} (F : ExcBaseFacts B newId initId bmB) (q : PySem.W.excIn X.K C bmB newId = true) (gC : X.mg x = some (.ref C))
    (kC : PySem.W.keepIn X.K (.ref C) = true) (r : Raises X (.ref C)) (hg : Gl X x) (hdb : (x == ("__debug__" : Str)) = false) : PMk X (.Call (.Name x p) [] [] pos) (fun _ H Q => Q (.ref C) none H) := by
  intro pins s σ H Q I h
  refine wpAny_Call_Name_kw ?_
  refine ld_glob I hg gC ?_ hdb
  refine PySem.W.callWith_K0 I.kIn kC ?_
  show wpAny _ _ (call (.ref C) []) _ _ _
  obtain ⟨bm, N, nm, qn, bs, hdct, sn, sub, ab, col, dd, k0, k1, k2, k3, k5, mN, hC, hN, hni, T⟩ := exc_obj I.kIn q
  rcases s with ⟨hp, g, dr, tk, os⟩
  exact wpAny_call_exc_subT F T hC hN hni (fun h' e hm => mk_of I hm r h (I.hok.gone hm.new)) (Nat.zero_le _)
end
end Co
namespace Co
open PySem L2
open PySem.Spec PyProof.Rows
def notLc : Expr → Bool
  | .ListComp .. => false | .SetComp .. => false | .DictComp .. => false
  | _ => true
def augOk : Bop → Bool
  | .add => true | .sub => true | .mul => true | _ => false
/-- an except suite's value -/
def cV : Expr → Option PV
  | .Constant c _ _ => (match c with | .int i => some (.int i) | .bool b => some (.bl b) | .none => some .non | .str s => some (.str s) | _ => none)
  | _ => none
def cHd (N : List Str) (sc : Scope) : List Stmt → Option Hd
  | [.Return (some e) _] => (cV e).map .ret
  | [.Assign [.Name x _] e _] => (match slotOf N x, cV e with | some i, some v => if decide (N[i]? = some x) && loc sc x then some (.asg i v) else none | _, _ => none)
  | _ => none
def cEh (t : Tb) (N : List Str) (sc : Scope) : ExceptHandler → Option (Nat × Hd)
  | .ExceptHandler (some (.Name x _)) none body _ => if glb sc x && nmOk x then (match slotOf t.excs x, cHd N sc body with | some j, some s => if decide (t.excs[j]? = some x) then some (j, s) else none | _, _ => none) else none
  | _ => none
def toSs : List S → Ss
  | [] => .nil
  | s :: r => .cons s (toSs r)
/-- name = [..] on one line: the name is stored while the block's frame stands -/
def lcSwap (sc sc' : Scope) (x : Str) (l l' : Nat) : Bool := locL sc x && l == l' && !(sc'.names.any fun (n, k) => n == x && (k == .local || k == .cell))
def cS (t : Tb) (N : List Str) (sc : Scope) (m : Nat) : Nat → Stmt → Option S
  | 0, _ => none
  | n + 1, st => match st with
    | .Expr e _ => (match e with
      | .Constant (.str _) _ _ => some .pass
      | e => if notLc e then (cE t N m sc e).map .ex else none)
    | .Assign [tg] e _ => (match tg, e with
      | .Tuple ts _ _, .Tuple vs _ _ => (match swK sc ts vs, cG t N m sc sc tg, cE t N m sc e with
        | some false, some g, some e => some (.asg g e)
        | some true, some g, some e => (match g with
          | .tp (.cons (.nm i) (.cons (.nm j) .nil)) => if decide (i ≠ j) then some (.asg g e) else none
          | .tp (.cons (.nm i) (.cons (.nm j) (.cons (.nm l) .nil))) => if decide (i ≠ j) && decide (i ≠ l) && decide (j ≠ l) then some (.asg g e) else none
          | _ => none)
        | _, _, _ => none)
      | tg, e => (match cG t N m sc sc tg, cE t N m sc e with | some g, some e => some (.asg g e) | _, _ => none))
    | .AugAssign (.Name x _) op e _ => (match slotOf N x, opOf op, cE t N m sc e with
      | some i, some o, some e => if decide (N[i]? = some x) && loc sc x && augOk o then some (.aug i o e) else none
      | _, _, _ => none)
    | .Return o _ => (match o with | some e => (cE t N m sc e).map .ret | none => some .retN)
    | .If c a b _ => (match cT t N m sc c, a.mapM (cS t N sc m n), b.mapM (cS t N sc m n) with | some c, some a, some b => some (.ife c (toSs a) (toSs b)) | _, _, _ => none)
    | .While c b [] _ => (match cT t N m sc c, b.mapM (cS t N sc m n) with | some c, some b => some (.whl c (toSs b)) | _, _ => none)
    | .For tg it b [] _ => (match cIt t N m sc tg it, cG t N m sc sc tg, b.mapM (cS t N sc m n) with | some g, some tg, some b => some (.for g tg (toSs b)) | _, _, _ => none)
    | .Pass _ => some .pass
    | .Break _ => some .brk
    | .Continue _ => some .cont
    | .Raise (some (.Call (.Name x _) [] [] _)) none _ => if glb sc x && nmOk x then (match slotOf t.excs x with | some j => if decide (t.excs[j]? = some x) then some (.rai j) else none | none => none) else none
    | .Try b (h :: hs) [] [] _ => (match b.mapM (cS t N sc m n), (h :: hs).mapM (cEh t N sc) with | some b, some hs => some (.try (toSs b) hs) | _, _ => none)
    | _ => none
structure LkD (ea : Nat → Addr) (K : PySem.W.Frag) (h : PH) (H : Hp) (D' : Ends) (D : L2.Ends) (W : WX) : Prop where
  nx : LkS K h H D'.nx D.nx
  rt : Lk K h H D'.rt D.rt
  bk : LkS K h H D'.bk D.bk
  ct : LkS K h H D'.ct D.ct
  ex : LkXS ea K h H D'.ex W
theorem LkD.keep {ea : Nat → Addr} {K : PySem.W.Frag} {h h' : PH} {H H' : Hp} {D' : Ends} {D : L2.Ends} {W : WX} (l : LkD ea K h H D' D W) (f : Fr h H h' H') : LkD ea K h' H' D' D W := ⟨l.nx.keep f, l.rt.keep f, l.bk.keep f, l.ct.keep f, l.ex.keep f⟩
theorem LkD.lx {ea : Nat → Addr} {K : PySem.W.Frag} {h : PH} {H : Hp} {D' : Ends} {D : L2.Ends} {W : WX} {pσ : Sl} {σ : L2.St} (l : LkD ea K h H D' D W) (rs : RepS K H pσ σ) (rh : RepH K h H) : LkX ea K h H (fun x h => D'.ex x pσ h) σ W :=
  fun x h' cls d H' rx rh' fr q => l.ex x pσ h' cls d σ H' rx (rs.keep rh fr) rh' fr q
def lS (ea : Nat → Addr) (K : PySem.W.Frag) (W : WX) (t : Ends → Sl → PH → Prop) : TS := fun D σ H => ∃ pσ h D', RepS K H pσ σ ∧ RepH K h H ∧ t D' pσ h ∧ LkD ea K h H D' D W
/-- where statements stand -/
structure CtxS (sub : Nat → Nat → Bool) (ea : Nat → Addr) (t : Tb) (C : CS) (k : Nat) (N : List Str) (sc : Scope) (W : WX) (X : Cx) : Prop extends CtxOk ea t C k N sc W X where
  fnc : ∀ x, sc.names.lookup x = some .cell → X.fn x = true
  pass : PassesOwn (model X.prog X.w) X.A X.env X.xe
  stk : X.stack = X.env :: X.outer
  frm : X.env.frame = some X.env.locals
  kind : sc.kind = .function
  exm : t.excs ≠ [] → ∀ i j, PySem.W.exmOne X.K (.ref (ea i)) (.ref (ea j)) = some (sub i j)
section
variable {sub : Nat → Nat → Bool} {ea : Nat → Addr} {t : Tb} {C : CS} {k : Nat} {N : List Str} {sc : Scope} {W : WX} {X : Cx} {e a b c tg : Expr} {pos : Pos}
/-- an expression, then what follows in the statement -/
theorem lE_st {ta : Sl → PH → QK → XK → Prop} {tk : PV → Ends → Sl → PH → Prop} {σ : L2.St} {H : Hp} {D : L2.Ends} {R : VK}
    (q : lS ea X.K W (fun D σ h => ta σ h (fun v h => tk v D σ h) fun x h => D.ex x σ h) D σ H)
    (hk : ∀ pσ h1 pv v H1 D', RepS X.K H1 pσ σ → RepH X.K h1 H1 → RepV X.K H1 pv v → tk pv D' pσ h1 → LkD ea X.K h1 H1 D' D W → R v H1) : lE ea X.K W ta σ H R := by
  obtain ⟨pσ, h, D', rs, rh, q, ld⟩ := q
  exact ⟨pσ, h, _, _, rs, rh, q, fun pv h1 v H1 rv rh1 fr q1 => hk pσ h1 pv v H1 D' (rs.keep rh fr) rh1 rv q1 (ld.keep fr), ld.lx rs rh⟩
theorem swaps_of {tg? : Option Expr} {l : Nat} {env : Env} (h : notLc e = true) : swapsWith e tg? l env = pure false := by
  cases e <;> first | rfl | cases h
theorem st_ex {e' : E} (hn : notLc e = true) (he : PE X e (lE ea X.K W (wE C e'))) : PS X (.Expr e pos) (lS ea X.K W (wS sub C (.ex e'))) :=
  PS.imp (ps_expr he (swaps_of hn)) fun D σ H q => lE_st (tk := fun _ D σ h => D.nx σ h) (by simpa only [wS] using q) fun pσ h1 pv v H1 D' rs rh _ q ld => ld.nx _ _ _ _ rs rh Fr.refl q
theorem st_ret {e' : E} (he : PE X e (lE ea X.K W (wE C e'))) : PS X (.Return (some e) pos) (lS ea X.K W (wS sub C (.ret e'))) :=
  PS.imp (ps_ret he) fun D σ H ⟨pσ, h, D', rs, rh, q, ld⟩ => ⟨pσ, h, _, _, rs, rh, by simpa only [wS] using q, ld.rt, ld.lx rs rh⟩
theorem st_retN : PS X (.Return none pos) (lS ea X.K W (wS sub C .retN)) :=
  PS.imp ps_retN fun D σ H ⟨pσ, h, D', rs, rh, q, ld⟩ => ld.rt.here non_rep rh (by simpa only [wS] using q)
theorem st_pass : PS X (.Pass pos) (lS ea X.K W (wS sub C .pass)) :=
  PS.imp ps_pass fun D σ H ⟨pσ, h, D', rs, rh, q, ld⟩ => ld.nx _ _ _ _ rs rh Fr.refl (by simpa only [wS] using q)
theorem st_doc {x : Str} {j : Nat} {p2 : Pos} : PS X (.Expr (.Constant (.str x) j p2) pos) (lS ea X.K W (wS sub C .pass)) :=
  PS.imp ps_doc fun D σ H ⟨pσ, h, D', rs, rh, q, ld⟩ => ld.nx _ _ _ _ rs rh Fr.refl (by simpa only [wS] using q)
theorem st_brk : PS X (.Break pos) (lS ea X.K W (wS sub C .brk)) :=
  PS.imp ps_break fun D σ H ⟨pσ, h, D', rs, rh, q, ld⟩ => ld.bk _ _ _ _ rs rh Fr.refl (by simpa only [wS] using q)
theorem st_cont : PS X (.Continue pos) (lS ea X.K W (wS sub C .cont)) :=
  PS.imp ps_continue fun D σ H ⟨pσ, h, D', rs, rh, q, ld⟩ => ld.ct _ _ _ _ rs rh Fr.refl (by simpa only [wS] using q)
theorem asg_rd {e' : E} {g : Tg} : ∀ D σ H, lS ea X.K W (wS sub C (.asg g e')) D σ H → tAsg (lE ea X.K W (wE C e')) (lG X.K (wTg C g) (SB g)) D σ H := fun D σ H q =>
  lE_st (tk := fun v D σ h => wTg C g v σ h D.nx) (by simpa only [wS] using q) fun pσ h1 pv v H1 D' rs rh rv q ld => ⟨pv, pσ, h1, _, rv, rs, rh, q, fun pσ' h' σ' H' rs' rh' fr _ q' => ld.nx _ _ _ _ rs' rh' fr q'⟩
theorem sole_of (hs : notStar tg = true) : (assignEach [tg] X.env).map (·.2) = [assign tg X.env] := by rw [asg_star hs]; rfl
theorem st_asg {e' : E} {g : Tg} (he : PE X e (lE ea X.K W (wE C e'))) (hg : PG X tg (lG X.K (wTg C g) (SB g))) (hs : notStar tg = true) (h1 : swapsWith e (some tg) pos.line X.env = pure false) (h2 : swappedStores [tg] e X.env = pure none) :
    PS X (.Assign [tg] e pos) (lS ea X.K W (wS sub C (.asg g e'))) := PS.imp (ps_asg he hg h1 h2 (sole_of hs)) asg_rd
/-- a name, a comprehension -/
theorem name_rd {K : PySem.W.Frag} {i : Nat} {v : V} {σ : L2.St} {H : Hp} {Q : L2.St → Hp → Prop} (q : lG K (wTg C (.nm i)) (SB (.nm i)) v σ H Q) : gName i v σ H Q := by
  obtain ⟨pv, pσ, h, Q', rv, rs, rh, q, lk⟩ := q
  simp only [wTg] at q
  exact lk _ _ _ _ (rs.set i rv) rh Fr.refl (fun vs m => wipe_set (by simpa [tgIn] using m)) q
end
end Co
namespace Co
open PySem L2
open PySem.Spec PyProof.Rows
section
variable {sub : Nat → Nat → Bool} {ea : Nat → Addr} {t : Tb} {C : CS} {k : Nat} {N : List Str} {sc : Scope} {W : WX} {X : Cx} {e a b c tg : Expr} {pos : Pos}
theorem ss_nil : PSs X [] (lS ea X.K W (wSs sub C .nil)) :=
  PSs.imp pss_nil fun D σ H ⟨pσ, h, D', rs, rh, q, ld⟩ => ld.nx _ _ _ _ rs rh Fr.refl (by simpa only [wSs] using q)
theorem ss_cons {s : Stmt} {r : List Stmt} {s' : S} {r' : Ss} (hs : PS X s (lS ea X.K W (wS sub C s'))) (hr : PSs X r (lS ea X.K W (wSs sub C r'))) : PSs X (s :: r) (lS ea X.K W (wSs sub C (.cons s' r'))) :=
  PSs.imp (pss_cons hs hr) fun D σ H ⟨pσ, h, D', rs, rh, q, ld⟩ => ⟨pσ, h, { D' with nx := wSs sub C r' D' }, rs, rh, by simpa only [wSs] using q,
    ⟨fun pσ' h' σ' H' rs' rh' fr q' => ⟨pσ', h', D', rs', rh', q', ld.keep fr⟩, ld.rt, ld.bk, ld.ct, ld.ex⟩⟩
theorem ss_all {f : Stmt → Option S} : ∀ {ss : List Stmt} {cs : List S}, (∀ s c, s ∈ ss → f s = some c → PS X s (lS ea X.K W (wS sub C c))) → ss.mapM f = some cs → PSs X ss (lS ea X.K W (wSs sub C (toSs cs)))
  | [], _, _, h => by rw [mapM_nil h]; exact ss_nil
  | s :: ss, _, ih, h => by
    obtain ⟨y, zs, h1, h2, rfl⟩ := mapM_cons h
    exact ss_cons (ih s y (by simp) h1) (ss_all (fun s c m => ih s c (List.mem_cons_of_mem _ m)) h2)
theorem lC_st {ta : Sl → PH → (Bool → PH → Prop) → XK → Prop} {tk : Bool → Ends → Sl → PH → Prop} {σ : L2.St} {H : Hp} {D : L2.Ends} {R : Bool → Hp → Prop}
    (q : ∃ pσ h D', RepS X.K H pσ σ ∧ RepH X.K h H ∧ ta pσ h (fun v h => tk v D' pσ h) (fun x h => D'.ex x pσ h) ∧ LkD ea X.K h H D' D W)
    (hk : ∀ pσ h1 b H1 D', RepS X.K H1 pσ σ → RepH X.K h1 H1 → tk b D' pσ h1 → LkD ea X.K h1 H1 D' D W → R b H1) : lC ea X.K W ta σ H R := by
  obtain ⟨pσ, h, D', rs, rh, q, ld⟩ := q
  exact ⟨pσ, h, _, _, rs, rh, q, fun b h1 H1 rh1 fr q1 => hk pσ h1 b H1 D' (rs.keep rh fr) rh1 q1 (ld.keep fr), ld.lx rs rh⟩
theorem st_if {c' : T} {a b : List Stmt} {a' b' : Ss} (hc : PT X c (lC ea X.K W (wT C c'))) (ha : PSs X a (lS ea X.K W (wSs sub C a'))) (hb : PSs X b (lS ea X.K W (wSs sub C b'))) : PS X (.If c a b pos) (lS ea X.K W (wS sub C (.ife c' a' b'))) :=
  PS.imp (ps_if hc ha hb) fun D σ H q => lC_st (tk := fun t D σ h => if t = true then wSs sub C a' D σ h else wSs sub C b' D σ h) (by simpa only [lS, wS] using q) fun pσ h1 b H1 D' rs rh q ld => by
    cases b with
    | true => exact ⟨pσ, h1, D', rs, rh, q, ld⟩
    | false => exact ⟨pσ, h1, D', rs, rh, q, ld⟩
theorem st_whl {c' : T} {b : List Stmt} {b' : Ss} (hp : PassesOwn (model X.prog X.w) X.A X.env X.xe) (hc : PT X c (lC ea X.K W (wT C c'))) (hb : PSs X b (lS ea X.K W (wSs sub C b'))) : PS X (.While c b [] pos) (lS ea X.K W (wS sub C (.whl c' b'))) :=
  PS.imp (ps_while hp hc hb) fun D σ H ⟨pσ, h, D', rs, rh, q, ld⟩ => by
    simp only [wS] at q
    obtain ⟨n, q⟩ := q
    refine ⟨fun m σ1 H1 => ∃ pσ1 h1, RepS X.K H1 pσ1 σ1 ∧ RepH X.K h1 H1 ∧ Fr h H h1 H1 ∧ whlN (fun σ h Q => wT C c' σ h Q fun x h => D'.ex x σ h) (wSs sub C b') D' m pσ1 h1, ⟨n, pσ, h, rs, rh, Fr.refl, q⟩, ?_⟩
    rintro m σ1 H1 ⟨pσ1, h1, rs1, rh1, fr1, q1⟩
    cases m with
    | zero => exact False.elim q1
    | succ m =>
      refine ⟨pσ1, h1, _, _, rs1, rh1, q1, fun tb h2 H2 rh2 fr2 q2 => ?_, (ld.keep fr1).lx rs1 rh1⟩
      cases tb with
      | true =>
        simp only [if_true] at q2 ⊢
        exact ⟨fun σ' H' => ∃ pσ' h', RepS X.K H' pσ' σ' ∧ RepH X.K h' H' ∧ Fr h H h' H' ∧ whlN (fun σ h Q => wT C c' σ h Q fun x h => D'.ex x σ h) (wSs sub C b') D' m pσ' h', fun σ' H' z => ⟨m, Nat.lt_succ_self m, z⟩,
          pσ1, h2, _, rs1.keep rh1 fr2, rh2, q2, ⟨fun pσ' h' σ' H' rs' rh' fr q => ⟨pσ', h', rs', rh', (fr1.trans fr2).trans fr, q⟩, (ld.keep (fr1.trans fr2)).rt, (ld.keep (fr1.trans fr2)).nx,
            fun pσ' h' σ' H' rs' rh' fr q => ⟨pσ', h', rs', rh', (fr1.trans fr2).trans fr, q⟩, (ld.keep (fr1.trans fr2)).ex⟩⟩
      | false =>
        simp only [Bool.false_eq_true, if_false] at q2 ⊢
        exact ld.nx _ _ _ _ (rs1.keep rh1 fr2) rh2 (fr1.trans fr2) q2
theorem st_for {it : Expr} {g : It} {tg' : Tg} {b : List Stmt} {b' : Ss} (hp : PassesOwn (model X.prog X.w) X.A X.env X.xe) (hc : X.calm = true) (hi : PI X tg it (lI ea X.K W (wIt C g))) (hg : PG X tg (lG X.K (wTg C tg') (SB tg'))) (hb : PSs X b (lS ea X.K W (wSs sub C b')))
    (hs : notSet it = true) : PS X (.For tg it b [] pos) (lS ea X.K W (wS sub C (.for g tg' b'))) :=
  PS.imp (ps_for hp hc hi hg hb (fold_of hs)) fun D σ H ⟨pσ, h, D', rs, rh, q, ld⟩ => by
    simp only [wS] at q
    refine ⟨pσ, h, _, _, rs, rh, q, fun xs ok h1 J H1 rh1 fr1 ir q1 => ?_, ld.lx rs rh⟩
    refine ⟨fun i m σ2 H2 => m = xs.length - i ∧ i ≤ xs.length ∧ ∃ pσ2 h2, RepS X.K H2 pσ2 σ2 ∧ RepH X.K h2 H2 ∧ Fr h1 H1 h2 H2 ∧ forL ok (fun v σ h Q => wTg C tg' v σ h Q) (wSs sub C b') D' (xs.drop i) pσ2 h2,
      ⟨_, rfl, Nat.zero_le _, pσ, h1, rs.keep rh fr1, rh1, Fr.refl, q1⟩, ?_⟩
    rintro i m σ2 H2 ⟨rfl, hi, pσ2, h2, rs2, rh2, fr2, q2⟩
    by_cases hlt : i < xs.length
    · have ed : xs.drop i = xs[i] :: xs.drop (i + 1) := List.drop_eq_getElem_cons hlt
      rw [ed] at q2
      simp only [forL] at q2
      obtain ⟨okh, q2⟩ := q2
      obtain ⟨ir1, _⟩ := ir h2 H2 rh2 fr2 okh
      obtain ⟨go, yl⟩ := ir1 i xs[i] (List.getElem?_eq_getElem hlt)
      refine .inr ⟨go, fun σ' H' => ∃ pσ' h', RepS X.K H' pσ' σ' ∧ RepH X.K h' H' ∧ Fr h1 H1 h' H' ∧ forL ok (fun v σ h Q => wTg C tg' v σ h Q) (wSs sub C b') D' (xs.drop (i + 1)) pσ' h',
        fun σ' H' z => ⟨xs.length - (i + 1), by omega, rfl, hlt, z⟩, fun x H' y => ?_⟩
      obtain ⟨rx, rh3, fr3⟩ := yl x H' y
      refine ⟨xs[i], pσ2, h2, _, rx, rs2.keep rh2 fr3, rh3, q2, fun pσ4 h4 σ4 H4 rs4 rh4 fr4 _ q4 => ?_⟩
      have frA : Fr h1 H1 h4 H4 := fr2.trans (fr3.trans fr4)
      have ld4 := ld.keep (fr1.trans frA)
      exact ⟨pσ4, h4, _, rs4, rh4, q4, ⟨fun pσ' h' σ' H' rs' rh' fr q => ⟨pσ', h', rs', rh', frA.trans fr, q⟩, ld4.rt, ld4.nx, fun pσ' h' σ' H' rs' rh' fr q => ⟨pσ', h', rs', rh', frA.trans fr, q⟩, ld4.ex⟩⟩
    · obtain rfl : i = xs.length := by omega
      rw [List.drop_length] at q2
      simp only [forL] at q2
      obtain ⟨okh, q2⟩ := q2
      obtain ⟨_, st⟩ := ir h2 H2 rh2 fr2 okh
      exact .inl ⟨st, ld.nx _ _ _ _ rs2 rh2 (fr1.trans fr2) q2⟩
theorem iop_mulW : OpR X (inplaceOp .Mult) (rI CMulW fun i j => .int (i * j)) := opI fun _ _ _ _ _ _ _ hc q => PyProof.Rows.imul_int q hc.ok
theorem r_aug {op : Operator} {o : Bop} (ho : opOf op = some o) (hk : augOk o = true) : ∃ r, OpR X (inplaceOp op) r ∧ Ok2 X.K (augS o) r := by
  cases op <;> cases ho <;> first | (cases hk; done) | skip
  · refine ⟨_, iop_add.or iop_add_str, ?_⟩
    intro x y h Q' vx vy H Q rx ry rh q lk
    cases x <;> cases y <;> first | exact False.elim q | skip
    · exact .inl ⟨_, _, rep_int rx, rep_int ry, lk.here int_rep rh q⟩
    · exact .inr ⟨_, _, rep_str rx, rep_str ry, by rw [line16]; exact q.1, lk.here str_rep rh q.2⟩
  · refine ⟨_, iop_sub, ok_int0 fun x y h Q q => ?_⟩
    cases x <;> cases y <;> first | exact False.elim q | exact ⟨_, _, rfl, rfl, q⟩
  · refine ⟨_, iop_mulW, ok_int fun x y h Q q => ?_⟩
    cases x <;> cases y <;> first | exact False.elim q | exact ⟨_, _, rfl, rfl, q.1, q.2⟩
theorem st_aug {x : Str} {i : Nat} {op : Operator} {o : Bop} {e' : E} {p2 : Pos} (cx : CtxS sub ea t C k N sc W X) (hi : N[i]? = some x) (hl : loc sc x = true) (ho : opOf op = some o) (hk : augOk o = true)
    (he : PE X e (lE ea X.K W (wE C e'))) : PS X (.AugAssign (.Name x p2) op e pos) (lS ea X.K W (wS sub C (.aug i o e'))) := by
  obtain ⟨r, h1, h2⟩ := r_aug (X := X) ho hk
  have hf : X.fn x = true ∨ X.env.scope.names.lookup x = some .local := by
    rcases loc_of hl with q | q
    · exact .inr (by rw [cx.hsc]; exact q)
    · exact .inl (cx.fnc x q)
  refine PS.imp (ps_aug (i := i) (ti := r) (by rw [cx.hN]; exact cx.nd) (by rw [cx.hN]; exact hi) (by rw [cx.hsc]; exact loc_of hl) he h1 hf) fun D σ H ⟨pσ, h, D', rs, rh, q, ld⟩ => ?_
  simp only [wS] at q
  split at q
  · rename_i pv ev
    obtain ⟨v, e1, rv⟩ := rs.2 i pv ev
    refine ⟨v, e1, pσ, h, _, _, rs, rh, q, fun y h1 vy H1 ry rh1 fr1 q1 => ?_, ld.lx rs rh⟩
    exact h2 pv y h1 _ v vy H1 _ (rv.keep rh fr1) ry rh1 q1 fun z h3 vz H3 rz rh3 fr3 q3 => ld.nx _ _ _ _ ((rs.keep rh (fr1.trans fr3)).set i rz) rh3 (fr1.trans fr3) q3
  · exact q.elim
theorem st_rai {x : Str} {j : Nat} {p p2 : Pos} (cx : CtxS sub ea t C k N sc W X) (hj : t.excs[j]? = some x) (hg : glb sc x = true) (hn : nmOk x = true) : PS X (.Raise (some (.Call (.Name x p) [] [] p2)) none pos) (lS ea X.K W (wS sub C (.rai j))) := by
  have ec := cx.excs j x hj
  refine PS.imp (ps_raise cx.calm cx.tk (pmk_own0 PySem.F.excBase_ValueError ec.inK ec.mg ec.kp ec.rs (glb_of cx.hsc hg) (nm_of hn).1)) fun D σ H ⟨pσ, h, D', rs, rh, q, ld⟩ => ?_
  exact ld.ex (.own j) pσ h _ _ σ H ⟨rfl, rfl⟩ rs rh Fr.refl (by simpa only [wS] using q)
end
end Co
namespace Co
open PySem L2
open PySem.Spec PyProof.Rows
section
variable {sub : Nat → Nat → Bool} {ea : Nat → Addr} {t : Tb} {C : CS} {k : Nat} {N : List Str} {sc : Scope} {W : WX} {X : Cx} {e a b c tg : Expr} {pos : Pos}
theorem cV_pe {v : PV} {Y : Cx} (h : cV e = some v) : PE Y e (tC (vOf v)) ∧ flat v = true ∧ notLc e = true := by
  unfold cV at h
  split at h
  · rename_i cst j p
    cases cst <;> first | (cases h; done) | (cases h; first | exact ⟨pe_non, rfl, rfl⟩ | exact ⟨pe_bl, rfl, rfl⟩ | exact ⟨pe_int, rfl, rfl⟩ | exact ⟨pe_str, rfl, rfl⟩)
  · cases h
theorem rep_vOf {K : PySem.W.Frag} {H : Hp} {v : PV} (f : flat v = true) : RepV K H v (vOf v) := by
  cases v with
  | non => exact non_rep
  | bl b => exact bl_rep
  | int i => exact int_rep
  | str s => exact str_rep
  | tup l => cases f
  | ref a => cases f
  | rol l => cases f
def hdFl (s : Hd) : Prop := match s with | .ret v => flat v = true | .asg i v => flat v = true
/-- a suite's reading -/
def tHd (s : Hd) : TS := match s with
  | .ret v => tRet (tC (vOf v))
  | .asg i v => tAsg (tC (vOf v)) (gName i)
theorem hd_ps {s : Hd} {body : List Stmt} {Y : Cx} (hY : Y.N = N) (hnd : N.Nodup) (hsc : Y.env.scope = sc) (hfn : ∀ x, sc.names.lookup x = some .cell → Y.fn x = true) (h : cHd N sc body = some s) :
    PSs Y body (tHd s) ∧ (∃ b₀ r, body = b₀ :: r) ∧ hdFl s := by
  unfold cHd at h
  split at h
  · rename_i e p
    cases q : cV e with
    | none => rw [q] at h; cases h
    | some v =>
      rw [q] at h; cases h
      obtain ⟨h1, h2, _⟩ := cV_pe (Y := Y) q
      exact ⟨pss_one (ps_ret h1), ⟨_, _, rfl⟩, h2⟩
  · rename_i x p e p2
    split at h
    · rename_i i v hi hv
      split at h
      · rename_i g
        rw [Bool.and_eq_true, decide_eq_true_eq] at g
        cases h
        obtain ⟨h1, h2, h3⟩ := cV_pe (Y := Y) hv
        have hf : Y.fn x = true ∨ Y.env.scope.names.lookup x = some .local := by
          rcases loc_of g.2 with q | q
          · exact .inr (by rw [hsc]; exact q)
          · exact .inl (hfn x q)
        exact ⟨pss_one (ps_set (i := i) (by rw [hY]; exact hnd) (by rw [hY]; exact g.1) (by rw [hsc]; exact loc_of g.2) h1 (swaps_of h3) hf), ⟨_, _, rfl⟩, h2⟩
      · cases h
    · cases h
  · cases h
theorem hd_rd {K : PySem.W.Frag} {s : Hd} {D' : Ends} {D : L2.Ends} {pσ : Sl} {σ : L2.St} {h : PH} {H : Hp} (f : hdFl s) (q : hdS s D' pσ h) (rs : RepS K H pσ σ) (rh : RepH K h H)
    (nx : LkS K h H D'.nx D.nx) (rt : Lk K h H D'.rt D.rt) : tHd s D σ H := by
  cases s with
  | ret v => exact rt.here (rep_vOf f) rh q
  | asg i v => exact nx _ _ _ _ (rs.set i (rep_vOf f)) rh Fr.refl q
def hdL (ea : Nat → Addr) (hs : List (Nat × Hd)) : List (Value × (Addr → Value → Option Addr → TS)) := hs.map fun p => (.ref (ea p.1), fun _ _ _ => tHd p.2)
def hdFlat (hs : List (Nat × Hd)) : Prop := ∀ p ∈ hs, hdFl p.2
theorem eh_ok (cx : CtxS sub ea t C k N sc W X) : ∀ {hds : List ExceptHandler} {hs : List (Nat × Hd)}, hds.mapM (cEh t N sc) = some hs → HdsOk X hds (hdL ea hs) ∧ hdFlat hs ∧ (hs ≠ [] → t.excs ≠ [])
  | [], _, h => by rw [mapM_nil h]; exact ⟨.nil, fun _ m => absurd m List.not_mem_nil, fun z => absurd rfl z⟩
  | hd :: hds, _, h => by
    obtain ⟨y, zs, h1, h2, rfl⟩ := mapM_cons h
    obtain ⟨p1, p2, _⟩ := eh_ok cx h2
    unfold cEh at h1
    split at h1
    · rename_i x p body p3
      split at h1
      · rename_i g
        rw [Bool.and_eq_true] at g
        split at h1
        · rename_i j s hj hs
          split at h1
          · rename_i g2
            rw [decide_eq_true_eq] at g2
            cases h1
            have ec := cx.excs j x g2
            have gen := fun (Y : Cx) (a1 : Y.N = N) (a2 : Y.env.scope = sc) (a3 : ∀ x, sc.names.lookup x = some .cell → Y.fn x = true) => hd_ps (Y := Y) a1 cx.nd a2 a3 hs
            obtain ⟨_, ⟨b0, r, rfl⟩, fl⟩ := gen X cx.hN cx.hsc cx.fnc
            refine ⟨.cons (c := .ref (ea j)) (ts := fun _ _ _ => tHd s) ⟨glb_of cx.hsc g.1, (nm_of g.2).1, .inl ec.mg⟩ (fun a oe cls d pn _ _ => (gen (X.suite a ((a, oe) :: pn)) cx.hN cx.hsc cx.fnc).1) p1, ?_, fun _ z => by rw [z] at g2; cases g2⟩
            intro p hp
            rcases List.mem_cons.1 hp with rfl | hp
            · exact fl
            · exact p2 p hp
          · cases h1
        · cases h1
      · cases h1
    · cases h1
theorem hds_rd {K : PySem.W.Frag} {D' : Ends} {D : L2.Ends} {h0 : PH} {H0 : Hp} (exm : ∀ i j, PySem.W.exmOne K (.ref (ea i)) (.ref (ea j)) = some (sub i j)) (ld : LkD ea K h0 H0 D' D W) : ∀ {hs : List (Nat × Hd)}, hdFlat hs →
    ∀ x pσ h cls d σ H, RepX ea x cls d → RepS K H pσ σ → RepH K h H → Fr h0 H0 h H → hdsS sub x D' pσ h hs → wMany K W D (hdL ea hs) cls d σ H
  | [], _, x, pσ, h, cls, d, σ, H, rx, rs, rh, fr, q => ld.ex x pσ h cls d σ H rx rs rh fr q
  | (j, s) :: hs, fl, .own i, pσ, h, cls, d, σ, H, rx, rs, rh, fr, q => by
    obtain ⟨rfl, rfl⟩ := rx
    have q' : if sub i j = true then hdS s D' pσ h else hdsS sub (.own i) D' pσ h hs := q
    refine ⟨sub i j, exm i j, fun e a _ => ?_, fun e => ?_⟩
    · rw [if_pos e] at q'
      exact hd_rd (fl (j, s) (by simp)) q' rs rh (ld.keep fr).nx (ld.keep fr).rt
    · rw [if_neg (by rw [e]; exact Bool.false_ne_true)] at q'
      exact hds_rd exm ld (fun p m => fl p (by simp [m])) (.own i) pσ h _ _ σ H ⟨rfl, rfl⟩ rs rh fr q'
theorem CtxS.tr (cx : CtxS sub ea t C k N sc W X) {W' : WX} {pn : List (Addr × Obj)} {xe : Value → Shared → Prop} (tk : Takes (X.tr pn xe) W') (ps : PassesOwn (model X.prog X.w) X.A X.env xe) : CtxS sub ea t C k N sc W' (X.tr pn xe) where
  hN := cx.hN
  nd := cx.nd
  hsc := cx.hsc
  calm := cx.calm
  room := cx.room
  tk := tk
  fns := cx.fns
  cons := cx.cons
  blts := cx.blts
  excs := fun i x h => let z := cx.excs i x h; ⟨z.mg, z.inK, z.kp, z.rs⟩
  fnc := cx.fnc
  pass := ps
  stk := cx.stk
  frm := cx.frm
  kind := cx.kind
  exm := cx.exm
theorem st_try {b : List Stmt} {b' : Ss} {h₀ : ExceptHandler} {hds : List ExceptHandler} {hs : List (Nat × Hd)} (cx : CtxS sub ea t C k N sc W X) (hh : (h₀ :: hds).mapM (cEh t N sc) = some hs)
    (hb : ∀ (W' : WX) (Y : Cx), Y.K = X.K → CtxS sub ea t C k N sc W' Y → PSs Y b (lS ea Y.K W' (wSs sub C b'))) : PS X (.Try b (h₀ :: hds) [] [] pos) (lS ea X.K W (wS sub C (.try b' hs))) := by
  obtain ⟨p1, p2, p3⟩ := eh_ok cx hh
  have ne : hs ≠ [] := by
    obtain ⟨y, zs, _, _, rfl⟩ := mapM_cons hh
    exact List.cons_ne_nil _ _
  refine PS.imp (ps_try_many (tb := fun W' => lS ea X.K W' (wSs sub C b')) cx.stk cx.frm cx.tk (fun W' pn xe tk ps => hb W' (X.tr pn xe) rfl (cx.tr tk ps)) p1) fun D σ H ⟨pσ, h, D', rs, rh, q, ld⟩ => ?_
  simp only [wS] at q
  exact ⟨pσ, h, _, rs, rh, q, ⟨ld.nx, ld.rt, ld.bk, ld.ct, fun x pσ' h' cls d σ' H' rx rs' rh' fr q' => hds_rd (cx.exm (p3 ne)) ld p2 x pσ' h' cls d σ' H' rx rs' rh' fr q'⟩⟩
end
end Co
namespace Co
open PySem L2
open PySem.Spec PyProof.Rows
section
variable {sub : Nat → Nat → Bool} {ea : Nat → Addr} {t : Tb} {C : CS} {k : Nat} {N : List Str} {sc : Scope} {W : WX} {X : Cx} {e a b c tg : Expr} {pos : Pos} {n m : Nat}
theorem sw_nt (h : ∀ ts k p, tg ≠ .Tuple ts k p) (h2 : ∀ ts p, tg ≠ .List ts p) : swappedStores [tg] e X.env = pure none := by
  cases tg <;> first | exact absurd rfl (h _ _ _) | exact absurd rfl (h2 _ _) | (cases e <;> rfl)
theorem sw_nv {ts : List Expr} {k : Nat} {p : Pos} (h : ∀ vs k p, e ≠ .Tuple vs k p) : swappedStores [.Tuple ts k p] e X.env = pure none := by
  cases e <;> first | exact absurd rfl (h _ _ _) | rfl
theorem swaps_nn {l : Nat} (h : ∀ x p, tg ≠ .Name x p) : swapsWith e (some tg) l X.env = pure false := by
  cases tg <;> first | exact absurd rfl (h _ _) | (cases e <;> rfl)
theorem swaps_name {x : Str} {p : Pos} {l : Nat} {elt : Expr} {gens : List Comprehension} {sc' : Scope} {pos' : Pos} :
    swapsWith (.ListComp elt gens sc' pos') (some (.Name x p)) l X.env = pure (X.env.blockKind == .function && X.env.kindOf x == some .local && p.line == pos'.line && !(sc'.names.any fun (n, k) => n == x && (k == .local || k == .cell))) := rfl
/-- name = value -/
theorem st_name {x : Str} {p : Pos} {g : Tg} {e' : E} (cx : CtxS sub ea t C k N sc W X) (hg : cG t N n sc sc (.Name x p) = some g) (he : cE t N m sc e = some e') : PS X (.Assign [.Name x p] e pos) (lS ea X.K W (wS sub C (.asg g e'))) := by
  cases n with
  | zero => simp only [cG] at hg; cases hg
  | succ n =>
    have pg := (all_e (n + 1)).g cx.toCtxOk cx.fnc hg
    simp only [cG] at hg
    split at hg
    · split at hg
      · rename_i i hi gg
        rw [Bool.and_eq_true, Bool.and_eq_true, decide_eq_true_eq] at gg
        cases hg
        have gen : swapsWith e (some (.Name x p)) pos.line X.env = pure false → PS X (.Assign [.Name x p] e pos) (lS ea X.K W (wS sub C (.asg (.nm i) e'))) := fun h =>
          st_asg ((all_e m).e cx.toCtxOk he) pg.1 rfl h (sw_nt (by intros; intro z; cases z) (by intros; intro z; cases z))
        cases e with
        | ListComp elt gens sc' pos' =>
          cases q : (X.env.blockKind == .function && X.env.kindOf x == some .local && p.line == pos'.line && !(sc'.names.any fun (n, k) => n == x && (k == .local || k == .cell))) with
          | false => exact gen (by rw [swaps_name, q])
          | true =>
            cases m with
            | zero => simp only [cE] at he; cases he
            | succ m =>
              obtain ⟨tg, iter, ifs, g, tg', cc, e, rfl, rfl, ok, pi, ns, hin, pg, pt, pe⟩ := a_cpr (all_e m) cx.toCtxOk he
              have hl : X.env.scope.names.lookup x = some .local := by
                rw [Bool.and_eq_true, Bool.and_eq_true, Bool.and_eq_true, beq_iff_eq, beq_iff_eq] at q
                exact q.1.1.2
              refine PS.imp (ps_setLc (i := i) cx.calm (by rw [cx.hN]; exact cx.nd) (by rw [cx.hN]; exact gg.1.1) hl (by rw [swaps_name, q]) pi ok pg pt pe (fold_of ns)) fun D σ H q => ?_
              refine s_cpr_rd hin σ H _ ?_
              exact lE_st (tk := fun v D σ h => wTg C (.nm i) v σ h D.nx) (by simpa only [wS] using q) fun pσ h1 pv v H1 D' rs rh rv q ld => by
                simp only [wTg] at q
                exact ld.nx _ _ _ _ (rs.set i rv) rh Fr.refl q
        | SetComp _ _ _ _ => cases m <;> simp only [cE] at he <;> cases he
        | DictComp _ _ _ _ _ => cases m <;> simp only [cE] at he <;> cases he
        | _ => exact gen rfl
      · cases hg
    · cases hg
theorem st_sub {o i : Expr} {p : Pos} {g : Tg} {e' : E} (cx : CtxS sub ea t C k N sc W X) (hg : cG t N n sc sc (.Subscript o i p) = some g) (he : cE t N m sc e = some e') : PS X (.Assign [.Subscript o i p] e pos) (lS ea X.K W (wS sub C (.asg g e'))) :=
  st_asg ((all_e m).e cx.toCtxOk he) ((all_e n).g cx.toCtxOk cx.fnc hg).1 rfl (swaps_nn (by intros; intro z; cases z)) (sw_nt (by intros; intro z; cases z) (by intros; intro z; cases z))
theorem st_tupN {ts : List Expr} {kk : Nat} {p : Pos} {g : Tg} {e' : E} (cx : CtxS sub ea t C k N sc W X) (hg : cG t N n sc sc (.Tuple ts kk p) = some g) (he : cE t N m sc e = some e') (hw : swappedStores [.Tuple ts kk p] e X.env = pure none) :
    PS X (.Assign [.Tuple ts kk p] e pos) (lS ea X.K W (wS sub C (.asg g e'))) :=
  st_asg ((all_e m).e cx.toCtxOk he) ((all_e n).g cx.toCtxOk cx.fnc hg).1 rfl (swaps_nn (by intros; intro z; cases z)) hw
/-- names of the left, each stored alone -/
theorem nm_of_cG {e : Expr} {i : Nat} (h : cG t N n sc sc e = some (.nm i)) : ∃ x p, e = .Name x p ∧ N[i]? = some x ∧ loc sc x = true := by
  cases n with
  | zero => simp only [cG] at h; cases h
  | succ n =>
    cases e with
    | Name x p =>
      simp only [cG] at h
      split at h
      · split at h
        · rename_i i hi gg
          rw [Bool.and_eq_true, Bool.and_eq_true, decide_eq_true_eq] at gg
          cases h
          exact ⟨x, p, rfl, gg.1.1, gg.1.2⟩
        · cases h
      · cases h
    | Tuple es _ _ =>
      simp only [cG] at h
      cases q : es.mapM (cG t N n sc sc) with
      | none => rw [q] at h; cases h
      | some gs => rw [q] at h; cases h
    | Subscript o i p =>
      cases i <;> simp only [cG] at h <;> first | (cases h; done) | (split at h <;> cases h)
    | _ => simp only [cG] at h; cases h
theorem filt_len {f : Expr → Option Str} : ∀ {l : List Expr}, (l.filterMap f).length = l.length → ∀ x ∈ l, (f x).isSome = true
  | [], _, _, m => absurd m List.not_mem_nil
  | a :: l, h, x, m => by
    cases q : f a with
    | none =>
      rw [List.filterMap_cons_none q] at h
      have := List.length_filterMap_le f l
      simp at h
      omega
    | some s =>
      rw [List.filterMap_cons_some q] at h
      rcases List.mem_cons.mp m with rfl | m
      · rw [q]; rfl
      · exact filt_len (by simpa using h) x m
theorem swNm_some {l : Nat} {x : Str} {p : Pos} (h : (swNm sc l (.Name x p)).isSome = true) : sc.names.lookup x = some .local ∧ swNm sc l (.Name x p) = some x := by
  have h' : (if (sc.names.lookup x == some NameKind.local && p.line == l) = true then some x else none).isSome = true := h
  by_cases g : (sc.names.lookup x == some NameKind.local && p.line == l) = true
  · refine ⟨?_, ?_⟩
    · rw [Bool.and_eq_true, beq_iff_eq] at g
      exact g.1
    · show (if _ then some x else none) = some x
      rw [if_pos g]
  · rw [if_neg g] at h'
    cases h'
theorem sw_true_len {ts vs : List Expr} (h : swK sc ts vs = some true) : (ts.filterMap (swNm sc (lineOf ts))).length = ts.length ∧ vs.length = ts.length := by
  unfold swK at h
  split at h
  · cases h
  · rename_i g1
    split at h
    · cases h
    · rename_i g2
      rw [Bool.or_eq_true, not_or] at g1 g2
      exact ⟨Decidable.of_not_not fun z => g2.1 (bne_iff_ne.mpr z), Decidable.of_not_not fun z => g1.2 (bne_iff_ne.mpr z)⟩
theorem st_par2 {ts vs : List Expr} {kk k2 : Nat} {p p2 : Pos} {i j : Nat} {e' : E} (cx : CtxS sub ea t C k N sc W X) (hsw : swK sc ts vs = some true) (hg : cG t N n sc sc (.Tuple ts kk p) = some (.tp (.cons (.nm i) (.cons (.nm j) .nil)))) (he : cE t N m sc (.Tuple vs k2 p2) = some e') (hij : i ≠ j) :
    PS X (.Assign [.Tuple ts kk p] (.Tuple vs k2 p2) pos) (lS ea X.K W (wS sub C (.asg (.tp (.cons (.nm i) (.cons (.nm j) .nil))) e'))) := by
  cases n with
  | zero => simp only [cG] at hg; cases hg
  | succ n =>
    cases m with
    | zero => simp only [cE] at he; cases he
    | succ m =>
      simp only [cG] at hg
      simp only [cE] at he
      cases q : ts.mapM (cG t N n sc sc) with
      | none => rw [q] at hg; cases hg
      | some gs =>
        rw [q] at hg
        rcases gs with _ | ⟨g1, _ | ⟨g2, _ | ⟨_, _⟩⟩⟩ <;> simp [toTgs] at hg
        obtain ⟨rfl, rfl⟩ := hg
        rcases ts with _ | ⟨t1, ts⟩
        · cases mapM_nil q
        · obtain ⟨_, _, q1, q2, z⟩ := mapM_cons q
          cases z
          rcases ts with _ | ⟨t2, ts⟩
          · cases mapM_nil q2
          · obtain ⟨_, _, q3, q4, z⟩ := mapM_cons q2
            cases z
            rcases ts with _ | ⟨t3, ts⟩
            · obtain ⟨x, px, rfl, x1, x2⟩ := nm_of_cG q1
              obtain ⟨y, py, rfl, y1, y2⟩ := nm_of_cG q3
              obtain ⟨s1, s2⟩ := sw_true_len hsw
              have sx := swNm_some (filt_len s1 (.Name x px) (by simp))
              have sy := swNm_some (filt_len s1 (.Name y py) (by simp))
              rcases vs with _ | ⟨v1, _ | ⟨v2, _ | ⟨_, _⟩⟩⟩ <;> simp at s2
              cases qe : [v1, v2].mapM (cE t N m sc) with
              | none => rw [qe] at he; cases he
              | some cs =>
                rw [qe] at he; cases he
                obtain ⟨pa, ps⟩ := s_args (a_ih (all_e m) cx.toCtxOk) qe
                have hw := (sw_eval (k := kk) (k2 := k2) (p := p) (p2 := p2) (env := X.env) (by rw [cx.hsc]; exact cx.kind) cx.hsc ps).2 hsw
                simp only [List.filterMap_cons_some sx.2, List.filterMap_cons_some sy.2, List.filterMap_nil] at hw
                refine PS.imp (ps_par cx.calm (by rw [cx.hN]; exact cx.nd) (by rw [cx.hN]; exact x1) (by rw [cx.hN]; exact y1) hij (by rw [cx.hsc]; exact sx.1) (by rw [cx.hsc]; exact sy.1) pa hw) fun D σ H ⟨pσ, h, D', rs, rh, q, ld⟩ => ?_
                simp only [wS, wE] at q
                refine ⟨pσ, h, _, _, rs, rh, q, fun l h1 us H1 rl rh1 fr1 q1 => ?_, ld.lx rs rh⟩
                obtain ⟨_, q1⟩ := q1
                simp only [wTg, wTgs, tgsLen] at q1
                obtain ⟨ll, q1⟩ := q1
                rcases l with _ | ⟨a1, _ | ⟨a2, _ | ⟨_, _⟩⟩⟩ <;> simp at ll
                obtain ⟨u1, u2, rfl, r1, r2⟩ := two_rep rl
                exact ⟨u1, u2, rfl, ld.nx _ _ _ _ (((rs.keep rh fr1).set i r1).set j r2) rh1 fr1 q1⟩
            · obtain ⟨_, _, _, _, z⟩ := mapM_cons q4
              cases z
end
end Co
namespace Co
open PySem L2
open PySem.Spec PyProof.Rows
section
variable {sub : Nat → Nat → Bool} {ea : Nat → Addr} {t : Tb} {C : CS} {k : Nat} {N : List Str} {sc : Scope} {W : WX} {X : Cx} {e a b c tg : Expr} {pos : Pos} {n m : Nat}
theorem st_par3 {ts vs : List Expr} {kk k2 : Nat} {p p2 : Pos} {i j l : Nat} {e' : E} (cx : CtxS sub ea t C k N sc W X) (hsw : swK sc ts vs = some true) (hg : cG t N n sc sc (.Tuple ts kk p) = some (.tp (.cons (.nm i) (.cons (.nm j) (.cons (.nm l) .nil))))) (he : cE t N m sc (.Tuple vs k2 p2) = some e')
    (hij : i ≠ j) (hil : i ≠ l) (hjl : j ≠ l) : PS X (.Assign [.Tuple ts kk p] (.Tuple vs k2 p2) pos) (lS ea X.K W (wS sub C (.asg (.tp (.cons (.nm i) (.cons (.nm j) (.cons (.nm l) .nil)))) e'))) := by
  cases n with
  | zero => simp only [cG] at hg; cases hg
  | succ n =>
    cases m with
    | zero => simp only [cE] at he; cases he
    | succ m =>
      simp only [cG] at hg
      simp only [cE] at he
      cases q : ts.mapM (cG t N n sc sc) with
      | none => rw [q] at hg; cases hg
      | some gs =>
        rw [q] at hg
        rcases gs with _ | ⟨g1, _ | ⟨g2, _ | ⟨g3, _ | ⟨_, _⟩⟩⟩⟩ <;> simp [toTgs] at hg
        obtain ⟨rfl, rfl, rfl⟩ := hg
        rcases ts with _ | ⟨t1, ts⟩
        · cases mapM_nil q
        · obtain ⟨_, _, q1, q2, z⟩ := mapM_cons q
          cases z
          rcases ts with _ | ⟨t2, ts⟩
          · cases mapM_nil q2
          · obtain ⟨_, _, q3, q4, z⟩ := mapM_cons q2
            cases z
            rcases ts with _ | ⟨t3, ts⟩
            · cases mapM_nil q4
            · obtain ⟨_, _, q5, q6, z⟩ := mapM_cons q4
              cases z
              rcases ts with _ | ⟨t4, ts⟩
              · obtain ⟨x, px, rfl, x1, x2⟩ := nm_of_cG q1
                obtain ⟨y, py, rfl, y1, y2⟩ := nm_of_cG q3
                obtain ⟨w, pw, rfl, w1, w2⟩ := nm_of_cG q5
                obtain ⟨s1, s2⟩ := sw_true_len hsw
                have sx := swNm_some (filt_len s1 (.Name x px) (by simp))
                have sy := swNm_some (filt_len s1 (.Name y py) (by simp))
                have sw := swNm_some (filt_len s1 (.Name w pw) (by simp))
                rcases vs with _ | ⟨v1, _ | ⟨v2, _ | ⟨v3, _ | ⟨_, _⟩⟩⟩⟩ <;> simp at s2
                cases qe : [v1, v2, v3].mapM (cE t N m sc) with
                | none => rw [qe] at he; cases he
                | some cs =>
                  rw [qe] at he; cases he
                  obtain ⟨pa, ps⟩ := s_args (a_ih (all_e m) cx.toCtxOk) qe
                  have hw := (sw_eval (k := kk) (k2 := k2) (p := p) (p2 := p2) (env := X.env) (by rw [cx.hsc]; exact cx.kind) cx.hsc ps).2 hsw
                  simp only [List.filterMap_cons_some sx.2, List.filterMap_cons_some sy.2, List.filterMap_cons_some sw.2, List.filterMap_nil] at hw
                  refine PS.imp (ps_par3 cx.calm (by rw [cx.hN]; exact cx.nd) (by rw [cx.hN]; exact x1) (by rw [cx.hN]; exact y1) (by rw [cx.hN]; exact w1) hij hil hjl (by rw [cx.hsc]; exact sx.1) (by rw [cx.hsc]; exact sy.1) (by rw [cx.hsc]; exact sw.1) pa hw) fun D σ H ⟨pσ, h, D', rs, rh, q, ld⟩ => ?_
                  simp only [wS, wE] at q
                  refine ⟨pσ, h, _, _, rs, rh, q, fun ls h1 us H1 rl rh1 fr1 q1 => ?_, ld.lx rs rh⟩
                  obtain ⟨_, q1⟩ := q1
                  simp only [wTg, wTgs, tgsLen] at q1
                  obtain ⟨ll, q1⟩ := q1
                  rcases ls with _ | ⟨a1, _ | ⟨a2, _ | ⟨a3, _ | ⟨_, _⟩⟩⟩⟩ <;> simp at ll
                  obtain ⟨u1, r, rfl, r1, rr⟩ := RepVs.cons_iff.mp rl
                  obtain ⟨u2, u3, rfl, r2, r3⟩ := two_rep rr
                  exact ⟨u1, u2, u3, rfl, ld.nx _ _ _ _ ((((rs.keep rh fr1).set i r1).set j r2).set l r3) rh1 fr1 q1⟩
              · obtain ⟨_, _, _, _, z⟩ := mapM_cons q6
                cases z
theorem cE_tup {n : Nat} {vs : List Expr} {k2 : Nat} {p2 : Pos} {e' : E} (h : cE t N n sc (.Tuple vs k2 p2) = some e') : vs.all notStar = true := by
  cases n with
  | zero => simp only [cE] at h; cases h
  | succ n =>
    simp only [cE] at h
    cases q : vs.mapM (cE t N n sc) with
    | none => rw [q] at h; cases h
    | some cs =>
      clear h
      induction vs generalizing cs with
      | nil => rfl
      | cons v vs ih =>
        obtain ⟨y, zs, q1, q2, _⟩ := mapM_cons q
        rw [List.all_cons, (cE_shape q1).1, ih zs q2]; rfl
theorem st_assign {e : Expr} {s : S} (cx : CtxS sub ea t C k N sc W X) (h : cS t N sc m (n + 1) (.Assign [tg] e pos) = some s) : PS X (.Assign [tg] e pos) (lS ea X.K W (wS sub C s)) := by
  have gen : (match cG t N m sc sc tg, cE t N m sc e with | some g, some e => some (S.asg g e) | _, _ => none) = some s → (∀ g e', cG t N m sc sc tg = some g → cE t N m sc e = some e' → PS X (.Assign [tg] e pos) (lS ea X.K W (wS sub C (.asg g e')))) → PS X (.Assign [tg] e pos) (lS ea X.K W (wS sub C s)) := fun h f => by
    split at h
    · rename_i g e' h1 h2
      cases h
      exact f g e' h1 h2
    · cases h
  cases tg with
  | Name x p => simp only [cS] at h; exact gen h fun g e' h1 h2 => st_name cx h1 h2
  | Subscript o i p => simp only [cS] at h; exact gen h fun g e' h1 h2 => st_sub cx h1 h2
  | Tuple ts kk p =>
    cases e with
    | Tuple vs k2 p2 =>
      simp only [cS] at h
      split at h
      · rename_i g e' h1 h2 h3
        cases h
        exact st_tupN cx h2 h3 ((sw_eval (by rw [cx.hsc]; exact cx.kind) cx.hsc (cE_tup h3)).1 h1)
      · rename_i g e' h1 h2 h3
        split at h
        · rename_i i j
          split at h
          · rename_i hij
            cases h
            exact st_par2 cx h1 h2 h3 (of_decide_eq_true hij)
          · cases h
        · rename_i i j l
          split at h
          · rename_i hij
            rw [Bool.and_eq_true, Bool.and_eq_true] at hij
            cases h
            exact st_par3 cx h1 h2 h3 (of_decide_eq_true hij.1.1) (of_decide_eq_true hij.1.2) (of_decide_eq_true hij.2)
          · cases h
        · cases h
      · cases h
    | _ => simp only [cS] at h; exact gen h fun g e' h1 h2 => st_tupN cx h1 h2 (sw_nv (by intros; intro z; cases z))
  | _ => simp only [cS] at h; exact gen h fun g e' h1 _ => by cases m <;> simp only [cG] at h1 <;> cases h1
theorem all_s : ∀ (n : Nat) {s : Stmt} {c : S} {W : WX} {X : Cx}, CtxS sub ea t C k N sc W X → cS t N sc m n s = some c → PS X s (lS ea X.K W (wS sub C c))
  | 0, _, _, _, _, _, h => by simp only [cS] at h; cases h
  | n + 1, s, c, W, X, cx, h => by
    have blk : ∀ {Y : Cx} {V : WX} {ss : List Stmt} {cs : List S}, CtxS sub ea t C k N sc V Y → ss.mapM (cS t N sc m n) = some cs → PSs Y ss (lS ea Y.K V (wSs sub C (toSs cs))) := fun cy h => ss_all (fun s c _ hc => all_s n cy hc) h
    have e1 := fun {e : Expr} {c : E} (h : cE t N m sc e = some c) => (all_e m).e cx.toCtxOk h
    cases s with
    | Expr e pos =>
      have gen : (if notLc e = true then (cE t N m sc e).map S.ex else none) = some c → PS X (.Expr e pos) (lS ea X.K W (wS sub C c)) := fun h => by
        split at h
        · rename_i hn
          cases q : cE t N m sc e with
          | none => rw [q] at h; cases h
          | some e' => rw [q] at h; cases h; exact st_ex hn (e1 q)
        · cases h
      cases e with
      | Constant cst j p =>
        cases cst with
        | str x => simp only [cS] at h; cases h; exact st_doc
        | _ => simp only [cS] at h; exact gen h
      | _ => simp only [cS] at h; exact gen h
    | Assign tgs e pos =>
      rcases tgs with _ | ⟨tg, _ | ⟨_, _⟩⟩
      · simp only [cS] at h; cases h
      · exact st_assign cx h
      · simp only [cS] at h; cases h
    | AugAssign tg op e pos =>
      cases tg <;> simp only [cS] at h <;> try (cases h; done)
      split at h
      · rename_i i o e' h1 h2 h3
        split at h
        · rename_i g
          rw [Bool.and_eq_true, Bool.and_eq_true, decide_eq_true_eq] at g
          cases h
          exact st_aug cx g.1.1 g.1.2 h2 g.2 (e1 h3)
        · cases h
      · cases h
    | Return o pos =>
      cases o with
      | none => simp only [cS] at h; cases h; exact st_retN
      | some e =>
        simp only [cS] at h
        cases q : cE t N m sc e with
        | none => rw [q] at h; cases h
        | some e' => rw [q] at h; cases h; exact st_ret (e1 q)
    | If c a b pos =>
      simp only [cS] at h
      split at h
      · rename_i c' a' b' h1 h2 h3
        cases h
        exact st_if ((all_e m).tt cx.toCtxOk h1) (blk cx h2) (blk cx h3)
      · cases h
    | While c b o pos =>
      cases o with
      | cons _ _ => simp only [cS] at h; cases h
      | nil =>
        simp only [cS] at h
        split at h
        · rename_i c' b' h1 h2
          cases h
          exact st_whl cx.pass ((all_e m).tt cx.toCtxOk h1) (blk cx h2)
        · cases h
    | For tg it b o pos =>
      cases o with
      | cons _ _ => simp only [cS] at h; cases h
      | nil =>
        simp only [cS] at h
        split at h
        · rename_i g tg' b' h1 h2 h3
          cases h
          obtain ⟨p1, p2⟩ := (all_e m).i cx.toCtxOk h1
          exact st_for cx.pass cx.calm p1 ((all_e m).g cx.toCtxOk cx.fnc h2).1 (blk cx h3) p2
        · cases h
    | Pass pos => simp only [cS] at h; cases h; exact st_pass
    | Break pos => simp only [cS] at h; cases h; exact st_brk
    | Continue pos => simp only [cS] at h; cases h; exact st_cont
    | Raise ex cause pos =>
      cases ex with
      | none => simp only [cS] at h; cases h
      | some ex =>
        cases ex with
        | Call f args kws p2 =>
          cases f with
          | Name x p =>
            cases args with
            | cons _ _ => simp only [cS] at h; cases h
            | nil =>
              cases kws with
              | cons _ _ => simp only [cS] at h; cases h
              | nil =>
                cases cause with
                | some _ => simp only [cS] at h; cases h
                | none =>
                  simp only [cS] at h
                  split at h
                  · rename_i g
                    rw [Bool.and_eq_true] at g
                    split at h
                    · rename_i j hj
                      split at h
                      · rename_i g2
                        rw [decide_eq_true_eq] at g2
                        cases h
                        exact st_rai cx g2 g.1 g.2
                      · cases h
                    · cases h
                  · cases h
          | _ => simp only [cS] at h; cases h
        | _ => simp only [cS] at h; cases h
    | Try b hs o f pos =>
      cases hs with
      | nil => simp only [cS] at h; cases h
      | cons h₀ hds =>
        cases o with
        | cons _ _ => simp only [cS] at h; cases h
        | nil =>
          cases f with
          | cons _ _ => simp only [cS] at h; cases h
          | nil =>
            simp only [cS] at h
            split at h
            · rename_i b' hs' h1 h2
              cases h
              exact st_try cx h2 fun W' Y e cy => blk cy h1
            · cases h
    | _ => simp only [cS] at h; cases h
end
/-- a def of the text: its name, parameters, slots, core -/
structure Fd where
  name : Str
  ps : List Str
  N : List Str
  body : Ss
def Fd.fn (d : Fd) : Fn := ⟨d.ps.length, d.N.length, d.body⟩
def cDef (t : Tb) (N : List Str) (st : Stmt) : Option Ss := ((defBody st).mapM (cS t N (defScope st) 40 40)).map toSs
/-- the text's def is the core's -/
def scopeB (N P : List Str) (sc : Scope) : Bool := (match sc.kind with | .function => true | _ => false) && !sc.isCoroutine && !sc.isGenerator && decide N.Nodup && decide (N.take P.length = P) && P.all (loc sc) && sc.names.all (fun y => match y.2 with | .free => false | _ => true)
theorem scope_of {N P : List Str} {sc : Scope} (h : scopeB N P sc = true) : FnScope N P sc := by
  unfold scopeB at h
  simp only [Bool.and_eq_true, decide_eq_true_eq, Bool.not_eq_true'] at h
  rcases h with ⟨⟨⟨⟨⟨⟨h1, h2⟩, h3⟩, h4⟩, h5⟩, h6⟩, h7⟩
  refine ⟨?_, h2, h3, h4, h5, fun x hx => loc_of (List.all_eq_true.mp h6 x hx), fun y hy e => ?_⟩
  · split at h1
    · assumption
    · cases h1
  · have := List.all_eq_true.mp h7 y hy
    rw [e] at this
    cases this
section
variable {P : Program} {w : World} {K : PySem.W.Frag} {mg : Str → Option Value} {base : Heap} {sub : Nat → Nat → Bool} {ea : Nat → Addr} {t : Tb} {fds : List Fd}
/-- what the top has left -/
structure TopOk (K : PySem.W.Frag) (mg : Str → Option Value) (sub : Nat → Nat → Bool) (ea : Nat → Addr) (t : Tb) (fds : List Fd) : Prop where
  names : t.fns = fds.map (·.name)
  fns : ∀ (i : Nat) (d : Fd), fds[i]? = some d → ∃ (st : Stmt) (f : Addr) (fd : FuncData) (x : Str), mg d.name = some (.ref f) ∧ Fun K x x st f fd ∧ Binds K fd d.ps [] ∧ scopeB d.N d.ps (defScope st) = true ∧ cDef t d.N st = some d.body
  cons : ∀ x v, t.cons.lookup x = some v → ∃ vv u, mg x = some u ∧ RelV vv u ∧ ∀ H, RepV K H v vv
  blts : ∀ x, t.blts.contains x = true → mg x = none
  excs : ∀ i x, t.excs[i]? = some x → mg x = some (.ref (ea i)) ∧ PySem.W.excIn K (ea i) [.type "ValueError", .type "Exception", .type "BaseException", .type "object"] "ValueError.__new__" = true ∧
    PySem.W.keepIn K (.ref (ea i)) = true ∧ PySem.W.subIn K (.ref (ea i)) (.type "BaseException") = some true ∧ PySem.W.typeIn K (.ref (ea i)) = some (.type "type")
  exm : t.excs ≠ [] → ∀ i j, PySem.W.exmOne K (.ref (ea i)) (.ref (ea j)) = some (sub i j)
theorem start_rep {H : Hp} {N : List Str} {pvs : List PV} {vs : List V} (r : RepVs K H pvs vs) : RepS K H (startP N.length pvs) (L2.start N vs) := by
  unfold startP L2.start
  refine ⟨by simp [r.length], fun i pv e => ?_⟩
  by_cases hi : i < pvs.length
  · rw [List.getElem?_append_left (by simpa using hi), List.getElem?_map] at e
    cases q : pvs[i]? with
    | none => (rw [q] at e; cases e)
    | some x =>
      rw [q] at e; cases e
      obtain ⟨v, e1, r1⟩ := r.get q
      refine ⟨v, ?_, r1⟩
      rw [List.getElem?_append_left (by rw [List.length_map, ← r.length]; exact hi), List.getElem?_map, e1]
      rfl
  · rw [List.getElem?_append_right (by simpa using hi), List.getElem?_replicate] at e
    split at e <;> cases e
theorem fn_all (T : TopOk K mg sub ea t fds) : ∀ (k i : Nat) (d : Fd) (f : Addr) (fd : FuncData) (x : Str) (st : Stmt), fds[i]? = some d → Fun K x x st f fd → scopeB d.N d.ps (defScope st) = true → cDef t d.N st = some d.body →
    FnOk P w K mg base (L2.CX P w) k f fd d.ps (lSp ea K (callN sub (fds.map Fd.fn) k i))
  | 0, i, d, f, fd, x, st, _, _, _, _ => by
    refine ⟨fun vs H Q E h => ?_, fun A outer s H args us vs Q E _ _ _ _ h => ?_⟩
    · obtain ⟨_, _, _, _, _, _, q, _⟩ := h; exact False.elim q
    · obtain ⟨_, _, _, _, _, _, q, _⟩ := h; exact False.elim q
  | k + 1, i, d, f, fd, x, st, hd, F, hs, hc => by
    have hl : (fds.map Fd.fn)[i]? = some d.fn := by rw [List.getElem?_map, hd]; rfl
    refine F.okX (scope_of hs) (fun vs H Q E h => ?_) (fun cdv A outer s H vs Q E hr h => ?_)
    · obtain ⟨pvs, h, Q', X', r, rh, q, _⟩ := h
      simp only [callN, hl] at q
      rw [← r.length]; exact q.1
    · unfold cDef at hc
      cases q : (defBody st).mapM (cS t d.N (defScope st) 40 40) with
      | none => rw [q] at hc; cases hc
      | some cs =>
        rw [q] at hc
        have hb : toSs cs = d.body := Option.some.inj hc
        have tk := takes_of (X := cxOf (L2.CX P w) P w K mg base d.N x (defScope st) f cdv A outer s H E) (E := E) rfl rfl rfl rfl
        have ok : CtxOk ea t (callN sub (fds.map Fd.fn) k) k d.N (defScope st) (fun cls d _ H => E cls d H) (cxOf (L2.CX P w) P w K mg base d.N x (defScope st) f cdv A outer s H E) :=
          ⟨rfl, (scope_of hs).nd, rfl, rfl, hr, tk, fun i y hy => by
            rw [T.names, List.getElem?_map] at hy
            cases qd : fds[i]? with
            | none => rw [qd] at hy; cases hy
            | some d2 =>
              rw [qd] at hy; cases hy
              obtain ⟨st2, f2, fd2, x2, m1, F2, b2, s2, c2⟩ := T.fns i d2 qd
              exact ⟨f2, fd2, d2.ps, m1, F2.kp, b2, fn_all T k i d2 f2 fd2 x2 st2 qd F2 s2 c2⟩,
            T.cons, T.blts, fun i y hy => let ⟨a1, a2, a3, a4, a5⟩ := T.excs i y hy; ⟨a1, a2, a3, raises_own a4 a5⟩⟩
        have cx : CtxS sub ea t (callN sub (fds.map Fd.fn) k) k d.N (defScope st) (fun cls d _ H => E cls d H) (cxOf (L2.CX P w) P w K mg base d.N x (defScope st) f cdv A outer s H E) :=
          { ok with fnc := fun _ _ => rfl, pass := passes_of rfl, stk := rfl, frm := rfl, kind := (scope_of hs).kind, exm := T.exm }
        refine ⟨_, ss_all (fun s c _ h => all_s 40 cx h) q, ?_⟩
        obtain ⟨pvs, h, Q', X', r, rh, q1, lk, lx⟩ := h
        simp only [callN, hl] at q1
        rw [hb]
        exact ⟨_, h, _, start_rep r, rh, q1.2, ⟨fun pσ' h' σ' H' rs' rh' fr q => lk _ _ _ _ non_rep rh' fr q, lk, fun _ _ _ _ _ _ _ q => q, fun _ _ _ _ _ _ _ q => q, fun x pσ' h' cls d σ' H' rx _ rh' fr q => lx x h' cls d H' rx rh' fr q⟩⟩
end
end Co
namespace Co
open PySem L2
open PySem.Spec PyProof.Rows
/-- the law's promise: the script's ints, then True -/
def spLaw (K : PySem.W.Frag) : Sp := fun vs H Q _ => ∃ (a : Addr) (ns : List Int), vs = [.ref a] ∧ ns.length ≤ 63 ∧ FzL K H a (ns.map V.int) ∧ ∀ H', Q (.bl true) H'
def noH : PH := fun _ => none
theorem repH_no {K : PySem.W.Frag} {H : Hp} : RepH K noH H := fun a o z => by unfold noH at z; cases z
section
variable {P : Program} {w : World} {K : PySem.W.Frag} {mg : Str → Option Value} {base : Heap} {sub : Nat → Nat → Bool} {ea : Nat → Addr} {t : Tb} {fds : List Fd}
theorem law_ok (T : TopOk K mg sub ea t fds) {k iL : Nat} {d : Fd} {f : Addr} {fd : FuncData} {x : Str} {st : Stmt} (hd : fds[iL]? = some d) (F : Fun K x x st f fd) (hs : scopeB d.N d.ps (defScope st) = true) (hc : cDef t d.N st = some d.body)
    (hlaw : ∀ ns : List Int, ns.length ≤ 63 → callN sub (fds.map Fd.fn) k iL [.rol (ns.map PV.int)] noH (fun v _ => v = .bl true) fun _ _ => False) : FnOk P w K mg base (L2.CX P w) k f fd d.ps (spLaw K) :=
  (fn_all T k iL d f fd x st hd F hs hc).imp fun vs H Q E ⟨a, ns, e, hl, hf, hq⟩ => by
    subst e
    refine ⟨_, noH, _, _, RepVs.cons_iff.mpr ⟨_, _, rfl, rol_rep hf (rep_ints ns), RepVs.nil_iff.mpr rfl⟩, repH_no, hlaw ns hl, fun pv h' v H' r _ _ q => ?_, fun _ _ _ _ _ _ _ _ z => z.elim⟩
    subst q
    rw [rep_bl r]; exact hq H'
theorem spLaw_of {H : Hp} {a : Addr} {ns : List Int} (hl : ns.length ≤ 63) (hO : Only H) (hS : SqL K H a (ns.map V.int)) : spLaw K [.ref a] H (fun v _ => v = .bl true) fun _ _ _ => False := by
  refine ⟨a, ns, rfl, hl, ?_, fun _ => rfl⟩
  rcases hS with (q | ⟨o, q⟩) | q
  · rcases hO a with z | ⟨o, xs, z⟩
    · rw [q] at z; cases z
    · rw [q] at z; cases z
  · exact .inl ⟨o, q⟩
  · exact .inr (.inr q)
theorem noCX (prog : Program) (w : World) (H : Hp) (s : Shared) (e : Value) (s' : Shared) (h : L2.CX prog w [] H s (fun _ _ _ => False) e s') : False := by
  rcases h with ⟨_, _, _, _, _, _, _, _, _, _, _, _, z⟩
  exact z
/-- a def where the top has left it -/
def DefAt (K : PySem.W.Frag) (mg : Str → Option Value) (x : Str) (st : Stmt) : Prop := ∃ (f : Addr) (fd : FuncData), mg x = some (.ref f) ∧ Fun K x x st f fd
theorem def_at {h : Heap} {x : Str} {st : Stmt} {f : Addr} {oc : Value} {od an : Option Addr} {osl : Array (Option Value)} {kV doc pm cdv ct : Value} (X : K.In h) (G : h.Ns mainGlobals mg) (a : PySem.W.nsIn K mainGlobals x = some (some (.ref f)))
    (l : K.lookup f = some ⟨oc, od, .func (PySem.W.fnOf x x (defArgs st) (defBody st) (defScope st) .none kV doc pm an cdv ct), osl⟩) (c : PySem.W.codeIn K cdv x = true) (k : PySem.W.keepIn K (.ref f) = true) : DefAt K mg x st :=
  ⟨f, _, PySem.W.mg_of X G a, fun_mk l c k⟩
/-- what is static of a def -/
structure DefS (t : Tb) (d : Fd) (st : Stmt) : Prop where
  sc : scopeB d.N d.ps (defScope st) = true
  co : cDef t d.N st = some d.body
  bd : ∀ (kV doc pm : Value) (an : Option Addr) (cdv ct : Value) (us : List Value), us.length = d.ps.length → bindArgs (PySem.W.fnOf d.name d.name (defArgs st) (defBody st) (defScope st) .none kV doc pm an cdv ct) ⟨us, []⟩ = pure (d.ps.zip us)
/-- all defs, with their texts -/
def DefsOk (K : PySem.W.Frag) (mg : Str → Option Value) (t : Tb) : List (Fd × Stmt) → Prop
  | [] => True
  | (d, st) :: r => (DefAt K mg d.name st ∧ DefS t d st) ∧ DefsOk K mg t r
theorem defs_at : ∀ {l : List (Fd × Stmt)}, DefsOk K mg t l → ∀ (i : Nat) (d : Fd), (l.map (·.1))[i]? = some d → ∃ (st : Stmt) (f : Addr) (fd : FuncData) (x : Str), mg d.name = some (.ref f) ∧ Fun K x x st f fd ∧ Binds K fd d.ps [] ∧ scopeB d.N d.ps (defScope st) = true ∧ cDef t d.N st = some d.body
  | [], _, i, d, e => by simp at e
  | (d0, st) :: r, ⟨⟨⟨f, fd, m, F⟩, s⟩, _⟩, 0, d, e => by
    simp at e; subst e
    exact ⟨st, f, fd, _, m, F, F.binds s.bd, s.sc, s.co⟩
  | (d0, st) :: r, ⟨_, h⟩, i + 1, d, e => defs_at h i d (by simpa using e)
theorem blts_of {h : Heap} (X : K.In h) (G : h.Ns mainGlobals mg) : ∀ {l : List Str}, (∀ x ∈ l, PySem.W.nsIn K mainGlobals x = some none) → ∀ x, l.contains x = true → mg x = none := fun {l} hl x hx => PySem.W.mg_none_of X G (hl x (by simpa using hx))
theorem bind_law {d : Fd} {st : Stmt} {f : Addr} {fd : FuncData} (F : Fun K d.name d.name st f fd) (S : DefS t d st) (hp : d.ps = [("script" : Str)]) : ∀ (s : Shared) (u : Value), BindsTo s fd ⟨[u], []⟩ [("script", u)] := by
  rcases F.ex with ⟨oc, od, kV, doc, pm, an, cdv, ct, osl, rfl, lk, hcd⟩
  intro s u
  have q := S.bd kV doc pm an cdv ct [u] (by rw [hp]; rfl)
  rw [hp] at q
  exact .of_eq q
structure ExcAt (K : PySem.W.Frag) (mg : Str → Option Value) (x : Str) (C : Addr) : Prop where
  m : mg x = some (.ref C)
  i : PySem.W.excIn K C [.type "ValueError", .type "Exception", .type "BaseException", .type "object"] "ValueError.__new__" = true
  k : PySem.W.keepIn K (.ref C) = true
  s : PySem.W.subIn K (.ref C) (.type "BaseException") = some true
  t : PySem.W.typeIn K (.ref C) = some (.type "type")
  c : PySem.W.isClsIn K C = true
theorem exc_at {h : Heap} {x : Str} {C : Addr} (X : K.In h) (G : h.Ns mainGlobals mg) (a : PySem.W.nsIn K mainGlobals x = some (some (.ref C)))
    (i : PySem.W.excIn K C [.type "ValueError", .type "Exception", .type "BaseException", .type "object"] "ValueError.__new__" = true) (k : PySem.W.keepIn K (.ref C) = true) (s : PySem.W.subIn K (.ref C) (.type "BaseException") = some true)
    (t : PySem.W.typeIn K (.ref C) = some (.type "type")) (c : PySem.W.isClsIn K C = true) : ExcAt K mg x C := ⟨PySem.W.mg_of X G a, i, k, s, t, c⟩
theorem exm_at {x : Str} {S C : Addr} {b : Bool} (e : ExcAt K mg x C) (h : PySem.W.subIn K (.ref S) (.ref C) = some b) : PySem.W.exmOne K (.ref S) (.ref C) = some b := by
  have e1 : (PySem.W.subIn K (.ref C) (.type "BaseException") == some true) = true := by rw [e.s] <;> rfl
  have e2 : ((PySem.W.clsIn K C).isSome && PySem.W.typeIn K (.ref C) == some (.type "type")) = true := by
    have h2' : (PySem.W.clsIn K C).isSome = true := e.c
    rw [h2', e.t] <;> rfl
  show (if (PySem.W.subIn K (.ref C) (.type "BaseException") == some true) = true then (if ((PySem.W.clsIn K C).isSome && PySem.W.typeIn K (.ref C) == some (.type "type")) = true then PySem.W.subIn K (.ref S) (.ref C) else none) else none) = some b
  rw [if_pos e1, if_pos e2]
  exact h
def clampN (n i : Nat) : Nat := if i < n then i else 0
def eaOf (l : List Addr) (i : Nat) : Addr := l.getD (clampN l.length i) 0
def subOf (T : List (List Bool)) (i j : Nat) : Bool := (T.getD (clampN T.length i) []).getD (clampN T.length j) false
theorem exm_of_all {l : List Addr} {T : List (List Bool)} (hl : l.length = T.length) (h0 : 0 < T.length) (h : ∀ i j, i < T.length → j < T.length → PySem.W.exmOne K (.ref (l.getD i 0)) (.ref (l.getD j 0)) = some ((T.getD i []).getD j false)) :
    ∀ i j, PySem.W.exmOne K (.ref (eaOf l i)) (.ref (eaOf l j)) = some (subOf T i j) := fun i j => by
  unfold eaOf subOf
  rw [hl]
  have c : ∀ i, clampN T.length i < T.length := fun i => by unfold clampN; split <;> omega
  exact h _ _ (c i) (c j)
/-- all classes, by their names -/
def ExcsOk (K : PySem.W.Frag) (mg : Str → Option Value) : List (Str × Addr) → Prop
  | [] => True
  | (x, C) :: r => ExcAt K mg x C ∧ ExcsOk K mg r
theorem excs_get : ∀ {l : List (Str × Addr)}, ExcsOk K mg l → ∀ (i : Nat) (x : Str), (l.map (·.1))[i]? = some x → ExcAt K mg x ((l.map (·.2)).getD i 0) ∧ i < l.length
  | [], _, i, x, e => by simp at e
  | (y, C) :: r, ⟨h, _⟩, 0, x, e => by
    simp at e; subst e
    exact ⟨h, Nat.succ_pos _⟩
  | (y, C) :: r, ⟨_, h⟩, i + 1, x, e => by
    obtain ⟨h1, h2⟩ := excs_get h i x (by simpa using e)
    exact ⟨by simpa using h1, Nat.succ_lt_succ h2⟩
theorem excs_top {l : List (Str × Addr)} (h : ExcsOk K mg l) : ∀ i x, (l.map (·.1))[i]? = some x → mg x = some (.ref (eaOf (l.map (·.2)) i)) ∧ PySem.W.excIn K (eaOf (l.map (·.2)) i) [.type "ValueError", .type "Exception", .type "BaseException", .type "object"] "ValueError.__new__" = true ∧
    PySem.W.keepIn K (.ref (eaOf (l.map (·.2)) i)) = true ∧ PySem.W.subIn K (.ref (eaOf (l.map (·.2)) i)) (.type "BaseException") = some true ∧ PySem.W.typeIn K (.ref (eaOf (l.map (·.2)) i)) = some (.type "type") := fun i x e => by
  obtain ⟨h1, h2⟩ := excs_get h i x e
  have c : clampN (l.map (·.2)).length i = i := by unfold clampN; rw [if_pos (by rw [List.length_map]; exact h2)]
  unfold eaOf
  rw [c]
  exact ⟨h1.m, h1.i, h1.k, h1.s, h1.t⟩
theorem cutIt {p q : Prop} (h : p) (k : p → q) : q := k h
def ConOk (K : PySem.W.Frag) (mg : Str → Option Value) (x : Str) (v : PV) : Prop := ∃ vv u, mg x = some u ∧ RelV vv u ∧ ∀ H, RepV K H v vv
def ConsOk (K : PySem.W.Frag) (mg : Str → Option Value) : List (Str × PV) → Prop
  | [] => True
  | (x, v) :: r => ConOk K mg x v ∧ ConsOk K mg r
theorem cons_get : ∀ {l : List (Str × PV)}, ConsOk K mg l → ∀ x v, l.lookup x = some v → ConOk K mg x v
  | [], _, x, v, e => by cases e
  | (y, u) :: r, ⟨h, h2⟩, x, v, e => by
    rw [List.lookup_cons] at e
    split at e
    · rename_i q
      cases e
      rw [beq_iff_eq] at q
      rw [q]; exact h
    · exact cons_get h2 x v e
theorem con_int {h : Heap} {x : Str} {i : Int} {tk : Tok} (X : K.In h) (G : h.Ns mainGlobals mg) (a : PySem.W.nsIn K mainGlobals x = some (some (.int i tk))) : ConOk K mg x (.int i) := ⟨.int i, _, PySem.W.mg_of X G a, ⟨_, rfl⟩, fun _ => int_rep⟩
theorem con_str {h : Heap} {x : Str} {i : Str} {tk : Tok} (X : K.In h) (G : h.Ns mainGlobals mg) (a : PySem.W.nsIn K mainGlobals x = some (some (.str i tk))) : ConOk K mg x (.str i) := ⟨.str i, _, PySem.W.mg_of X G a, ⟨_, rfl⟩, fun _ => str_rep⟩
theorem cut_def {q : Prop} {h : Heap} {x : Str} {st : Stmt} {f : Addr} {oc : Value} {od an : Option Addr} {osl : Array (Option Value)} {kV doc pm cdv ct : Value} (X : K.In h) (G : h.Ns mainGlobals mg) (a : PySem.W.nsIn K mainGlobals x = some (some (.ref f)))
    (l : K.lookup f = some ⟨oc, od, .func (PySem.W.fnOf x x (defArgs st) (defBody st) (defScope st) .none kV doc pm an cdv ct), osl⟩) (c : PySem.W.codeIn K cdv x = true) (k : PySem.W.keepIn K (.ref f) = true) (r : DefAt K mg x st → q) : q := r (def_at X G a l c k)
theorem cut_exc {q : Prop} {h : Heap} {x : Str} {C : Addr} (X : K.In h) (G : h.Ns mainGlobals mg) (a : PySem.W.nsIn K mainGlobals x = some (some (.ref C)))
    (i : PySem.W.excIn K C [.type "ValueError", .type "Exception", .type "BaseException", .type "object"] "ValueError.__new__" = true) (k : PySem.W.keepIn K (.ref C) = true) (s : PySem.W.subIn K (.ref C) (.type "BaseException") = some true)
    (t : PySem.W.typeIn K (.ref C) = some (.type "type")) (c : PySem.W.isClsIn K C = true) (r : ExcAt K mg x C → q) : q := r (exc_at X G a i k s t c)
theorem cut_exm {q : Prop} {h : Heap} {x y : Str} {S C : Addr} {b : Bool} (X : K.In h) (e : ExcAt K mg x C) (_ : ExcAt K mg y S) (hs : PySem.W.subIn K (.ref S) (.ref C) = some b) (r : PySem.W.exmOne K (.ref S) (.ref C) = some b → q) : q := r (exm_at e hs)
theorem cut_int {q : Prop} {h : Heap} {x : Str} {i : Int} {tk : Tok} (X : K.In h) (G : h.Ns mainGlobals mg) (a : PySem.W.nsIn K mainGlobals x = some (some (.int i tk))) (r : ConOk K mg x (.int i) → q) : q := r (con_int X G a)
theorem cut_str {q : Prop} {h : Heap} {x : Str} {i : Str} {tk : Tok} (X : K.In h) (G : h.Ns mainGlobals mg) (a : PySem.W.nsIn K mainGlobals x = some (some (.str i tk))) (r : ConOk K mg x (.str i) → q) : q := r (con_str X G a)
theorem cut_blt {q : Prop} {h : Heap} {x : Str} (X : K.In h) (G : h.Ns mainGlobals mg) (a : PySem.W.nsIn K mainGlobals x = some none) (r : mg x = none → q) : q := r (PySem.W.mg_none_of X G a)
def NonesOk (mg : Str → Option Value) : List Str → Prop
  | [] => True
  | x :: r => mg x = none ∧ NonesOk mg r
theorem nones_get : ∀ {l : List Str}, NonesOk mg l → ∀ x, l.contains x = true → mg x = none
  | [], _, x, h => by simp at h
  | y :: r, ⟨h, h2⟩, x, e => by
    rw [List.contains_cons, Bool.or_eq_true, beq_iff_eq] at e
    rcases e with rfl | e
    · exact h
    · exact nones_get h2 x e
/-- all together -/
theorem law_top {prog : Program} {h : Heap} {fa : Addr} {ld : List (Fd × Stmt)} {lx : List (Str × Addr)} {sT : List (List Bool)} {iL k : Nat} {dl : Fd} {st : Stmt} (X : K.In h) (hmg : mg dl.name = some (.ref fa)) (hd : DefsOk K mg t ld) (hx : ExcsOk K mg lx) (hc : ConsOk K mg t.cons) (hb : NonesOk mg t.blts)
    (h1 : t.fns = (ld.map (·.1)).map (·.name)) (h2 : t.excs = lx.map (·.1)) (h3 : (lx.map (·.2)).length = sT.length) (h0 : 0 < sT.length) (hm : ∀ i j, i < sT.length → j < sT.length → PySem.W.exmOne K (.ref ((lx.map (·.2)).getD i 0)) (.ref ((lx.map (·.2)).getD j 0)) = some ((sT.getD i []).getD j false))
    (hl : (ld.map (·.1))[iL]? = some dl) (hp : dl.ps = [("script" : Str)]) (D : DefAt K mg dl.name st) (S : DefS t dl st)
    (hlaw : ∀ ns : List Int, ns.length ≤ 63 → callN (subOf sT) ((ld.map (·.1)).map Fd.fn) k iL [.rol (ns.map PV.int)] noH (fun v _ => v = .bl true) fun _ _ => False) :
    ∃ fd : FuncData, (∀ (s : Shared) (u : Value), BindsTo s fd ⟨[u], []⟩ [("script", u)]) ∧ ∀ base : Heap, K.In base → base.Ns mainGlobals mg → FnOk prog w K mg base (L2.CX prog w) k fa fd [("script" : Str)] (spLaw K) := by
  obtain ⟨f, fd, m, F⟩ := D
  have e := hmg.symm.trans m
  cases e
  have T : TopOk K mg (subOf sT) (eaOf (lx.map (·.2))) t (ld.map (·.1)) :=
    { names := h1, fns := defs_at hd, cons := cons_get hc, blts := nones_get hb, excs := by rw [h2]; exact excs_top hx, exm := fun _ => exm_of_all h3 h0 hm }
  refine ⟨fd, bind_law F S hp, fun base _ _ => ?_⟩
  have := law_ok (P := prog) (w := w) (base := base) T hl F S.sc S.co hlaw
  rw [hp] at this
  exact this
end
end Co
namespace Co
open PySem
/-- the calls, not to be unfolded -/
@[irreducible] def Lv (sub : Nat → Nat → Bool) (P : List Fn) (k : Nat) : CS := callN sub P k
section
variable {sub : Nat → Nat → Bool} {P : List Fn}
theorem Lv_eq (k : Nat) : Lv sub P k = callN sub P k := by unfold Lv; rfl
theorem Lv_call {k i : Nat} {vs : List PV} {h : PH} {Q : QK} {X : XK} (d : Fn) (hd : P[i]? = some d) (hl : vs.length = d.np) (hb : wSs sub (Lv sub P k) d.body (endF Q X) (startP d.ns vs) h) : Lv sub P (k + 1) i vs h Q X := by
  rw [Lv_eq]
  simp only [callN, hd]
  rw [Lv_eq] at hb
  exact ⟨hl, hb⟩
end
/-- what stood stands as it stood -/
def Ext (h h' : PH) : Prop := ∀ a o, h a = some o → h' a = some o
theorem Ext.refl (h : PH) : Ext h h := fun _ _ e => e
theorem Ext.trans {h h1 h2 : PH} (a : Ext h h1) (b : Ext h1 h2) : Ext h h2 := fun c o e => b c o (a c o e)
theorem Ext.new {h : PH} {p : Nat} {o : PO} (e : h p = none) : Ext h (pupd h p o) := fun a u q => by
  unfold pupd
  rw [if_neg (fun z => by subst z; rw [e] at q; cases q)]
  exact q
theorem pupd_same {h : PH} {p : Nat} {o : PO} : pupd h p o p = some o := by unfold pupd; rw [if_pos rfl]
theorem pupd_ne {h : PH} {p a : Nat} {o : PO} (n : a ≠ p) : pupd h p o a = h a := by unfold pupd; rw [if_neg n]
theorem ne_new {h : PH} {a p : Nat} {o : PO} (e : h a = some o) (n : h p = none) : a ≠ p := fun z => by subst z; rw [n] at e; cases e
theorem whl_inv {α : Type} (st : α → Sl) (hp : α → PH) (I : α → Prop) (μ : α → Nat) {c : Sl → PH → (Bool → PH → Prop) → Prop} {b : Ends → Sl → PH → Prop} {D : Ends} (x0 : α) (h0 : I x0)
    (step : ∀ (N : Sl → PH → Prop) (x : α), I x → (∀ y, I y → μ y < μ x → N (st y) (hp y)) → c (st x) (hp x) fun t h => if t = true then b { D with nx := N, ct := N, bk := D.nx } (st x) h else D.nx (st x) h) : ∃ n, whlN c b D n (st x0) (hp x0) := by
  have key : ∀ m x, I x → μ x < m → whlN c b D m (st x) (hp x) := by
    intro m
    induction m with
    | zero => intro x _ h; exact absurd h (Nat.not_lt_zero _)
    | succ m ih =>
      intro x hx hm
      exact step (whlN c b D m) x hx fun y hy hl => ih y hy (by omega)
  exact ⟨_, key _ x0 h0 (Nat.lt_succ_self _)⟩
theorem for_inv {α : Type} (st : α → Sl) (hp : α → PH) (I : Nat → α → Prop) {ok : PH → Prop} {tg : PV → Sl → PH → (Sl → PH → Prop) → Prop} {b : Ends → Sl → PH → Prop} {D : Ends} {xs : List PV} (x0 : α) (h0 : I 0 x0)
    (step : ∀ (N : Sl → PH → Prop) (i : Nat) (v : PV) (x : α), xs[i]? = some v → I i x → (∀ y, I (i + 1) y → N (st y) (hp y)) → ok (hp x) ∧ tg v (st x) (hp x) fun σ h => b { D with nx := N, ct := N, bk := D.nx } σ h)
    (fin : ∀ x, I xs.length x → ok (hp x) ∧ D.nx (st x) (hp x)) : forL ok tg b D xs (st x0) (hp x0) := by
  have key : ∀ (m i : Nat) (x : α), xs.length - i = m → i ≤ xs.length → I i x → forL ok tg b D (xs.drop i) (st x) (hp x) := by
    intro m
    induction m with
    | zero =>
      intro i x hm hi hx
      obtain rfl : i = xs.length := by omega
      rw [List.drop_length]
      exact fin x hx
    | succ m ih =>
      intro i x hm hi hx
      have hlt : i < xs.length := (by omega)
      (rw [List.drop_eq_getElem_cons hlt])
      exact step (forL ok tg b D (xs.drop (i + 1))) i xs[i] x (List.getElem?_eq_getElem hlt) hx fun y hy => ih (i + 1) y (by omega) (by omega) hy
  have := key _ 0 x0 rfl (Nat.zero_le _) h0
  rwa [List.drop_zero] at this
/-- a comprehension whose turns leave the heap as Hv has it -/
theorem cpr_inv (Hv : PH → Prop) (p : PV → Bool) (f : PV → PV) {ok : PH → Prop} {tg : PV → Sl → PH → (Sl → PH → Prop) → Prop} {c : Sl → PH → (Bool → PH → Prop) → Prop} {e : Sl → PH → QK → Prop} {σ : Sl} {Q : List PV → PH → Prop} {xs : List PV} {h0 : PH}
    (hl : xs.length ≤ 16777216) (hh : Hv h0) (hok : ∀ h, Hv h → ok h)
    (step : ∀ x ∈ xs, ∀ h, Hv h → ∀ (R : PV → PH → Prop) (S : PH → Prop), (p x = true → ∀ h', Hv h' → R (f x) h') → (p x = false → ∀ h', Hv h' → S h') → tg x σ h fun σ2 h => c σ2 h fun b h => if b = true then e σ2 h R else S h)
    (hQ : ∀ h, Hv h → Q ((xs.filter p).map f) h) : cprL ok tg c e σ Q [] xs h0 := by
  have key : ∀ (ys acc : List PV) (h : PH), acc.length + ys.length ≤ 16777216 → (∀ x ∈ ys, x ∈ xs) → Hv h → (∀ h, Hv h → Q (acc ++ (ys.filter p).map f) h) → cprL ok tg c e σ Q acc ys h := by
    intro ys
    induction ys with
    | nil =>
      intro acc h _ _ hv q
      exact ⟨hok h hv, by simpa using q h hv⟩
    | cons y ys ih =>
      intro acc h hz hm hv q
      refine ⟨hok h hv, step y (hm y (by simp)) h hv _ _ (fun e h' hv' => ?_) (fun e h' hv' => ?_)⟩
      · simp only [List.length_cons] at hz
        refine ⟨by omega, ih (acc ++ [f y]) h' (by simp only [List.length_append, List.length_cons, List.length_nil]; omega) (fun x hx => hm x (by simp [hx])) hv' fun h2 hv2 => ?_⟩
        have := q h2 hv2
        rw [List.filter_cons_of_pos e, List.map_cons] at this
        simpa using this
      · refine ih acc h' (by simp only [List.length_cons] at hz; omega) (fun x hx => hm x (by simp [hx])) hv' fun h2 hv2 => ?_
        have := q h2 hv2
        rw [List.filter_cons_of_neg (by rw [e]; exact Bool.false_ne_true)] at this
        exact this
  exact key xs [] h0 (by simpa using hl) (fun _ h => h) hh (by simpa using hQ)
end Co
namespace Co
theorem ss_cons_eq {sub : Nat → Nat → Bool} {C : CS} {s : S} {r : Ss} {D : Ends} {σ : Sl} {h : PH} : wSs sub C (.cons s r) D σ h = wS sub C s { D with nx := wSs sub C r D } σ h := by simp only [wSs]
theorem ss_nil_eq {sub : Nat → Nat → Bool} {C : CS} {D : Ends} {σ : Sl} {h : PH} : wSs sub C .nil D σ h = D.nx σ h := by simp only [wSs]
end Co
namespace Co
open PySem
theorem bop_addi {h : PH} {Q : QK} {i j : Int} : bopS .add (.int i) (.int j) h Q = Q (.int (i + j)) h := rfl
theorem bop_adds {h : PH} {Q : QK} {i j : Str} : bopS .add (.str i) (.str j) h Q = (i.length + j.length ≤ 16777216 ∧ Q (.str (i ++ j)) h) := rfl
theorem bop_addt {h : PH} {Q : QK} {i j : List PV} : bopS .add (.tup i) (.tup j) h Q = (i.length + j.length ≤ 16777216 ∧ Q (.tup (i ++ j)) h) := rfl
theorem bop_addl {h : PH} {Q : QK} {a b : Nat} : bopS .add (.ref a) (.ref b) h Q = (match h a, h b with | some (.lst xs), some (.lst ys) => xs.length + ys.length ≤ 16777216 ∧ newL h (xs ++ ys) Q | _, _ => False) := rfl
theorem bop_sub {h : PH} {Q : QK} {i j : Int} : bopS .sub (.int i) (.int j) h Q = Q (.int (i - j)) h := rfl
theorem bop_mul {h : PH} {Q : QK} {i j : Int} : bopS .mul (.int i) (.int j) h Q = (CMul i j ∧ Q (.int (i * j)) h) := rfl
theorem bop_fdiv {h : PH} {Q : QK} {i j : Int} : bopS .fdiv (.int i) (.int j) h Q = (CDiv j ∧ Q (.int (i / j)) h) := rfl
theorem bop_mod {h : PH} {Q : QK} {i j : Int} : bopS .mod (.int i) (.int j) h Q = (0 < j ∧ Q (.int (i % j)) h) := rfl
theorem bop_pow {h : PH} {Q : QK} {i j : Int} : bopS .pow (.int i) (.int j) h Q = (CPow i j ∧ Q (.int (i ^ j.toNat)) h) := rfl
theorem neg_int {h : PH} {Q : QK} {i : Int} : negS (.int i) h Q = Q (.int (-i)) h := rfl
theorem tru_non {h : PH} {Q : Bool → PH → Prop}  : truS .non h Q = Q false h := rfl
theorem tru_bl {h : PH} {Q : Bool → PH → Prop} {b : Bool} : truS (.bl b) h Q = Q b h := rfl
theorem tru_int {h : PH} {Q : Bool → PH → Prop} {i : Int} : truS (.int i) h Q = Q (i != 0) h := rfl
theorem tru_str {h : PH} {Q : Bool → PH → Prop} {i : Str} : truS (.str i) h Q = (i.length ≤ 16777216 ∧ Q (i.length != 0) h) := rfl
theorem tru_tup {h : PH} {Q : Bool → PH → Prop} {i : List PV} : truS (.tup i) h Q = Q (!i.isEmpty) h := rfl
theorem tru_rol {h : PH} {Q : Bool → PH → Prop} {i : List PV} : truS (.rol i) h Q = Q (!i.isEmpty) h := rfl
theorem tru_ref {h : PH} {Q : Bool → PH → Prop} {a : Nat} : truS (.ref a) h Q = (match rdL h a with | some xs => Q (!xs.isEmpty) h | none => False) := rfl
theorem eq_int {h : PH} {Q : Bool → Prop} {i j : Int} : eqS (.int i) (.int j) h Q = Q (decide (i = j)) := rfl
theorem eq_bl {h : PH} {Q : Bool → Prop} {i j : Bool} : eqS (.bl i) (.bl j) h Q = Q (decide (i = j)) := rfl
theorem eq_str {h : PH} {Q : Bool → Prop} {i j : Str} : eqS (.str i) (.str j) h Q = Q (decide (i = j)) := rfl
theorem eq_non {h : PH} {Q : Bool → Prop}  : eqS .non .non h Q = Q true := rfl
theorem cop_eq {h : PH} {Q : QK} {x y : PV} : copS .eq x y h Q = eqS x y h fun b => Q (.bl b) h := rfl
theorem cop_ne {h : PH} {Q : QK} {x y : PV} : copS .ne x y h Q = eqS x y h fun b => Q (.bl (!b)) h := rfl
theorem cop_in {h : PH} {Q : QK} {x y : PV} : copS .In x y h Q = inS x y h fun b => Q (.bl b) h := rfl
theorem cop_ni {h : PH} {Q : QK} {x y : PV} : copS .notin x y h Q = inS x y h fun b => Q (.bl (!b)) h := rfl
theorem cop_is {h : PH} {Q : QK} {x : PV} : copS .is x .non h Q = Q (.bl (isnS x)) h := rfl
theorem cop_isn {h : PH} {Q : QK} {x : PV} : copS .isnot x .non h Q = Q (.bl (!isnS x)) h := rfl
theorem cop_lt {h : PH} {Q : QK} {i j : Int} : copS .lt (.int i) (.int j) h Q = Q (.bl (decide (i < j))) h := rfl
theorem cop_le {h : PH} {Q : QK} {i j : Int} : copS .le (.int i) (.int j) h Q = Q (.bl (decide (i ≤ j))) h := rfl
theorem cop_gt {h : PH} {Q : QK} {i j : Int} : copS .gt (.int i) (.int j) h Q = Q (.bl (decide (j < i))) h := rfl
theorem cop_ge {h : PH} {Q : QK} {i j : Int} : copS .ge (.int i) (.int j) h Q = Q (.bl (decide (j ≤ i))) h := rfl
theorem blt_lens {h : PH} {Q : QK} {s : Str} : bltS .len [.str s] h Q = (s.length ≤ 16777216 ∧ Q (.int s.length) h) := rfl
theorem blt_lent {h : PH} {Q : QK} {s : List PV} : bltS .len [.tup s] h Q = Q (.int s.length) h := rfl
theorem blt_leno {h : PH} {Q : QK} {s : List PV} : bltS .len [.rol s] h Q = Q (.int s.length) h := rfl
theorem blt_lenr {h : PH} {Q : QK} {a : Nat} : bltS .len [.ref a] h Q = (match rdL h a with | some xs => Q (.int xs.length) h | none => False) := rfl
theorem blt_abs {h : PH} {Q : QK} {i : Int} : bltS .abs [.int i] h Q = Q (.int (if i < 0 then -i else i)) h := rfl
theorem blt_int {h : PH} {Q : QK} {i : Int} : bltS .int [.int i] h Q = Q (.int i) h := rfl
theorem blt_intb {h : PH} {Q : QK} {i : Bool} : bltS .int [.bl i] h Q = Q (.int (if i then 1 else 0)) h := rfl
theorem blt_max2 {h : PH} {Q : QK} {i j : Int} : bltS .max2 [.int i, .int j] h Q = Q (.int (if j > i then j else i)) h := rfl
theorem blt_min2 {h : PH} {Q : QK} {i j : Int} : bltS .min2 [.int i, .int j] h Q = Q (.int (if j < i then j else i)) h := rfl
theorem blt_sum {h : PH} {Q : QK} {a : Nat} : bltS .sum [.ref a] h Q = (match (rdL h a).bind intsOf with | some ns => Q (.int ns.sum) h | none => False) := rfl
theorem blt_all {h : PH} {Q : QK} {a : Nat} : bltS .all [.ref a] h Q = (match (rdL h a).bind blsOf with | some ns => Q (.bl (ns.all id)) h | none => False) := rfl
theorem blt_any {h : PH} {Q : QK} {a : Nat} : bltS .any [.ref a] h Q = (match (rdL h a).bind blsOf with | some ns => Q (.bl (ns.any id)) h | none => False) := rfl
theorem blt_max1 {h : PH} {Q : QK} {a : Nat} : bltS .max1 [.ref a] h Q = (match (rdL h a).bind intsOf with | some ns => 0 < ns.length ∧ ∀ m, m ∈ ns → (∀ y, y ∈ ns → y ≤ m) → Q (.int m) h | none => False) := rfl
theorem blt_min1 {h : PH} {Q : QK} {a : Nat} : bltS .min1 [.ref a] h Q = (match (rdL h a).bind intsOf with | some ns => 0 < ns.length ∧ ∀ m, m ∈ ns → (∀ y, y ∈ ns → m ≤ y) → Q (.int m) h | none => False) := rfl
theorem blt_tupt {h : PH} {Q : QK} {s : List PV} : bltS .tuple [.tup s] h Q = Q (.tup s) h := rfl
theorem blt_tupo {h : PH} {Q : QK} {s : List PV} : bltS .tuple [.rol s] h Q = Q (.tup s) h := rfl
theorem blt_tupr {h : PH} {Q : QK} {a : Nat} : bltS .tuple [.ref a] h Q = (match rdL h a with | some xs => Q (.tup xs) h | none => False) := rfl
theorem blt_lstt {h : PH} {Q : QK} {s : List PV} : bltS .list [.tup s] h Q = newL h s Q := rfl
theorem blt_lsto {h : PH} {Q : QK} {s : List PV} : bltS .list [.rol s] h Q = newL h s Q := rfl
theorem blt_lstr {h : PH} {Q : QK} {a : Nat} : bltS .list [.ref a] h Q = (match rdL h a with | some xs => newL h xs Q | none => False) := rfl
theorem blt_sorted {h : PH} {Q : QK} {a : Nat} : bltS .sorted [.ref a] h Q = (match (rdL h a).bind intsOf with | some ns => ∀ ms : List Int, ms.Perm ns → ms.Pairwise (· ≤ ·) → newL h (ms.map PV.int) Q | none => False) := rfl
theorem ix_tup {h : PH} {Q : QK} {s : List PV} {i : Int} : ixS (.tup s) (.int i) h Q = (match (L2.ixN s.length i).bind fun j => s[j]? with | some v => Q v h | none => False) := rfl
theorem ix_rol {h : PH} {Q : QK} {s : List PV} {i : Int} : ixS (.rol s) (.int i) h Q = (match (L2.ixN s.length i).bind fun j => s[j]? with | some v => Q v h | none => False) := rfl
theorem ix_ref {h : PH} {Q : QK} {a : Nat} {i : Int} : ixS (.ref a) (.int i) h Q = (match rdL h a with | some xs => (match (L2.ixN xs.length i).bind fun j => xs[j]? with | some v => Q v h | none => False) | none => False) := rfl
theorem sl_tup {h : PH} {Q : QK} {s : List PV} {lo hi : Option Int} : slS (.tup s) lo hi h Q = Q (.tup (cut s lo hi)) h := rfl
theorem sl_rol {h : PH} {Q : QK} {s : List PV} {lo hi : Option Int} : slS (.rol s) lo hi h Q = newL h (cut s lo hi) Q := rfl
theorem sl_ref {h : PH} {Q : QK} {a : Nat} {lo hi : Option Int} : slS (.ref a) lo hi h Q = (match rdL h a with | some xs => newL h (cut xs lo hi) Q | none => False) := rfl
theorem mth_ref {h : PH} {Q : QK} {m : Mth} {a : Nat} {vs : List PV} : mthS m (.ref a) vs h Q = (match h a with | some (.lst xs) => mthL m xs vs fun y ys => Q y (pupd h a (.lst ys)) | _ => False) := rfl
theorem lstOk_ref {h : PH} {a : Nat} {P : Prop} : lstOk (.ref a) h P = (match h a with | some (.lst _) => P | _ => False) := rfl
theorem seqS_tup {h : PH} {s : List PV} {P : List PV → Prop} : seqS (.tup s) h P = P s := rfl
theorem seqS_rol {h : PH} {s : List PV} {P : List PV → Prop} : seqS (.rol s) h P = P s := rfl
theorem seqS_ref {h : PH} {a : Nat} {P : List PV → Prop} : seqS (.ref a) h P = (match rdL h a with | some xs => P xs | none => False) := rfl
theorem intS_int {i : Int} {P : Int → Prop} : intS (.int i) P = P i := rfl
theorem int2S_int {i j : Int} {P : Int → Int → Prop} : int2S (.int i) (.int j) P = P i j := rfl
theorem refOk_non {h : PH} : refOk .non h = True := rfl
theorem refOk_bl {h : PH} {b : Bool} : refOk (.bl b) h = True := rfl
theorem refOk_int {h : PH} {b : Int} : refOk (.int b) h = True := rfl
theorem refOk_str {h : PH} {b : Str} : refOk (.str b) h = True := rfl
theorem refOk_tup {h : PH} {b : List PV} : refOk (.tup b) h = True := rfl
theorem refOk_rol {h : PH} {b : List PV} : refOk (.rol b) h = True := rfl
theorem isi_ {h : PH} {Q : QK} {x : PV} {ts : List Ty} : isiS x ts h Q = (refOk x h ∧ Q (.bl (ts.any (isTy h x))) h) := rfl
theorem seqOf_tup {h : PH} {l : List PV} : seqOf (.tup l) h = some l := rfl
theorem seqOf_rol {h : PH} {l : List PV} : seqOf (.rol l) h = some l := rfl
theorem refOk_of {h : PH} {a : Nat} {o : PO} (e : h a = some o) : refOk (.ref a) h := by show (h a).isSome = true; rw [e]; rfl
theorem ss_whl {sub : Nat → Nat → Bool} {C : CS} {c : T} {b r : Ss} {D : Ends} {σ : Sl} {h : PH} (g : ∃ n, whlN (fun σ h Q => wT C c σ h Q fun x h => D.ex x σ h) (wSs sub C b) { D with nx := wSs sub C r D } n σ h) : wSs sub C (.cons (.whl c b) r) D σ h := by
  simp only [wSs, wS]
  exact g
/-- a comprehension, not to be looked into -/
def cprW (C : CS) (t : Tg) (c : T) (e : E) (ok : PH → Prop) (σ : Sl) (Q : List PV → PH → Prop) (xs : List PV) (h : PH) : Prop := cprL ok (fun v σ h Q => wTg C t v σ h Q) (fun σ h Q => wT C c σ h Q fun _ _ => False) (fun σ h Q => wE C e σ h Q fun _ _ => False) σ Q [] xs h
theorem wE_cpr {C : CS} {g : It} {t : Tg} {c : T} {e : E} {own : List Nat} {σ : Sl} {h : PH} {Q : QK} {X : XK} : wE C (.cpr g t c e own) σ h Q X = wIt C g σ h (fun xs ok h => cprW C t c e ok (wipe σ own) (fun acc h => newL h acc Q) xs h) X := by simp only [wE, cprW]
theorem rdL_same {h : PH} {p : Nat} {xs : List PV} : rdL (pupd h p (.lst xs)) p = some xs := by unfold rdL; rw [pupd_same]
theorem rdL_of {h : PH} {p : Nat} {xs : List PV} (e : h p = some (.lst xs)) : rdL h p = some xs := by unfold rdL; rw [e]
theorem seqOf_of {h : PH} {p : Nat} {xs : List PV} (e : h p = some (.lst xs)) : seqOf (.ref p) h = some xs := rdL_of e
theorem ixN_z {n : Nat} : L2.ixN (n + 1) 0 = some 0 := by unfold L2.ixN; rw [if_pos (by decide), if_pos (by omega)]; rfl
theorem ixN_pos {n : Nat} {i : Int} (h : 0 ≤ i) (h2 : i < (n : Int)) : L2.ixN n i = some i.toNat := by unfold L2.ixN; rw [if_pos h, if_pos h2]
theorem ixN_neg {n : Nat} {i : Int} (h : i < 0) (h2 : -(n : Int) ≤ i) : L2.ixN n i = some (i + n).toNat := by unfold L2.ixN; rw [if_neg (by omega), if_pos h2]
theorem abs_eq (a : Int) : (if a < 0 then -a else a) = (a.natAbs : Int) := by split <;> omega
theorem log2_lt_of {n p : Nat} (hp : 0 < p) (h : n < 2 ^ p) : n.log2 < p := by
  cases n with
  | zero => simpa using hp
  | succ n => exact (Nat.log2_lt (by omega)).2 h
theorem cmul_b {i j : Int} (m n : Nat) (hm : 0 < m) (hn : 0 < n) (hi : i.natAbs < 2 ^ m) (hj : j.natAbs < 2 ^ n) (hmn : m + n ≤ 1000000) : CMul i j := by
  have a := log2_lt_of hm hi
  have b := log2_lt_of hn hj
  unfold CMul
  omega
theorem cdiv_b {j : Int} (h0 : 0 < j) (n : Nat) (hj : j.natAbs < 2 ^ n) (hn : n ≤ 9000) : CDiv j := by
  refine ⟨h0, ?_⟩
  cases n with
  | zero => simp only [Nat.pow_zero] at hj; omega
  | succ n => have := log2_lt_of (Nat.succ_pos n) hj; omega
/-- small numbers -/
theorem cmul_s {i j : Int} (hi : i.natAbs < 2 ^ 1000) (hj : j.natAbs < 2 ^ 1000) : CMul i j := cmul_b 1000 1000 (by decide) (by decide) hi hj (by decide)
theorem cdiv_s {j : Int} (h0 : 0 < j) (hj : j.natAbs < 2 ^ 1000) : CDiv j := cdiv_b h0 1000 hj (by decide)
theorem gcd_step (a b : Nat) (h : b ≠ 0) : Nat.gcd b (a % b) = Nat.gcd a b := by rw [Nat.gcd_comm a b, Nat.gcd_rec b a, Nat.gcd_comm]
abbrev I3 := Int × Int × Int
def pv3 (x : I3) : PV := .tup [.int x.1, .int x.2.1, .int x.2.2]
def wfS (l r : I3) : I3 := (l.1 - l.1 / r.1 * r.1, l.2.1 - l.1 / r.1 * r.2.1, l.2.2 - l.1 / r.1 * r.2.2)
def wfG : Nat → I3 → I3 → I3
  | 0, l, _ => l
  | n + 1, l, r => if r.1 = 0 then l else wfG n r (wfS l r)
def wf (a b : Int) : I3 := wfG (b.toNat + 1) (a, 1, 0) (b, 0, 1)
theorem wfS_fst (l r : I3) : (wfS l r).1 = l.1 % r.1 := by
  simp only [wfS]
  have := Int.mul_ediv_add_emod l.1 r.1
  grind
/-- what stays so through the steps; M bounds the factors -/
structure WfI (a b M : Int) (l r : I3) : Prop where
  l0 : 0 ≤ l.1
  r0 : 0 ≤ r.1
  bl : l.1 = l.2.1 * a + l.2.2 * b
  br : r.1 = r.2.1 * a + r.2.2 * b
  g : Nat.gcd l.1.natAbs r.1.natAbs = Int.gcd a b
  m1 : (l.2.1.natAbs : Int) * r.1 + r.2.1.natAbs * l.1 ≤ M
  m2 : (l.2.2.natAbs : Int) * r.1 + r.2.2.natAbs * l.1 ≤ M
  b1 : (r.2.1.natAbs : Int) ≤ M + 1
  b2 : (r.2.2.natAbs : Int) ≤ M + 1
  c1 : (l.2.1.natAbs : Int) ≤ M + 1
  c2 : (l.2.2.natAbs : Int) ≤ M + 1
  lM : l.1 ≤ M
  rM : r.1 ≤ M
theorem wf_bound {x y t l r M : Int} (hl : 0 ≤ l) (hr : 0 < r) (ht : t = l / r) (h : (x.natAbs : Int) * r + y.natAbs * l ≤ M) : (y.natAbs : Int) * (l - t * r) + ((x - t * y).natAbs : Int) * r ≤ M := by
  have t0 : 0 ≤ t := ht ▸ Int.ediv_nonneg hl (by omega)
  have e : ((x - t * y).natAbs : Int) ≤ x.natAbs + t * y.natAbs := by
    have h1 : (x - t * y).natAbs ≤ x.natAbs + (t * y).natAbs := by omega
    rw [Int.natAbs_mul] at h1
    have h2 : ((t.natAbs * y.natAbs : Nat) : Int) = t * y.natAbs := by rw [Int.natCast_mul]; congr 1; omega
    omega
  have e2 := Int.mul_le_mul_of_nonneg_right e (Int.le_of_lt hr)
  grind
theorem nat_le_mul {y : Nat} {l M : Int} (hl : 0 < l) (h : (y : Int) * l ≤ M) : (y : Int) ≤ M := by
  have : (y : Int) * 1 ≤ y * l := Int.mul_le_mul_of_nonneg_left (by omega) (by omega)
  omega
theorem WfI.step {a b M : Int} {l r : I3} (i : WfI a b M l r) (h : r.1 ≠ 0) : WfI a b M r (wfS l r) := by
  have hr : 0 < r.1 := by have := i.r0; omega
  have q1 := wf_bound i.l0 hr rfl i.m1
  have q2 := wf_bound i.l0 hr rfl i.m2
  have s0 : 0 ≤ (wfS l r).1 := by rw [wfS_fst]; exact Int.emod_nonneg _ h
  have s1 : (wfS l r).1 < r.1 := by rw [wfS_fst]; exact Int.emod_lt_of_pos _ hr
  refine ⟨i.r0, s0, i.br, ?_, ?_, q1, q2, ?_, ?_, i.b1, i.b2, i.rM, by have := i.rM; omega⟩
  · have := i.bl; have := i.br; simp only [wfS]; grind
  · rw [← i.g, wfS_fst, Int.natAbs_emod_of_nonneg i.l0]
    exact gcd_step _ _ (by omega)
  · have : ((wfS l r).2.1.natAbs : Int) * r.1 ≤ M := by
      have := Int.mul_nonneg (show (0:Int) ≤ (r.2.1.natAbs : Int) by omega) s0
      simp only [wfS] at this q1 ⊢
      omega
    have := nat_le_mul hr this
    omega
  · have : ((wfS l r).2.2.natAbs : Int) * r.1 ≤ M := by
      have := Int.mul_nonneg (show (0:Int) ≤ (r.2.2.natAbs : Int) by omega) s0
      simp only [wfS] at this q2 ⊢
      omega
    have := nat_le_mul hr this
    omega
theorem WfI.start {a b M : Int} (ha : 0 ≤ a) (hb : 0 ≤ b) (hM : a ≤ M) (hN : b ≤ M) : WfI a b M (a, 1, 0) (b, 0, 1) :=
  ⟨ha, hb, by simp, by simp, rfl, by simp; omega, by simp; omega, by simp; omega, by simp; omega, by simp; omega, by simp; omega, hM, hN⟩
theorem wfG_I {a b M : Int} : ∀ (n : Nat) (l r : I3), WfI a b M l r → r.1 < (n : Int) → ∃ r', WfI a b M (wfG n l r) r' ∧ r'.1 = 0
  | 0, l, r, i, h => by have := i.r0; omega
  | n + 1, l, r, i, h => by
    unfold wfG
    split
    · rename_i e; exact ⟨r, i, e⟩
    · rename_i e
      refine wfG_I n r (wfS l r) (i.step e) ?_
      have : (wfS l r).1 < r.1 := by rw [wfS_fst]; exact Int.emod_lt_of_pos _ (by have := i.r0; omega)
      omega
theorem wf_spec {a b M : Int} (ha : 0 ≤ a) (hb : 0 ≤ b) (hM : a ≤ M) (hN : b ≤ M) : (wf a b).1 = Int.gcd a b ∧ (wf a b).1 = (wf a b).2.1 * a + (wf a b).2.2 * b ∧ ((wf a b).2.1.natAbs : Int) ≤ M + 1 ∧ ((wf a b).2.2.natAbs : Int) ≤ M + 1 := by
  obtain ⟨r', i, e⟩ := wfG_I (b.toNat + 1) _ _ (WfI.start ha hb hM hN) (by simp only; omega)
  have := i.g
  rw [e, Int.natAbs_zero, Nat.gcd_zero_right] at this
  have l0 := i.l0
  exact ⟨by unfold wf; omega, i.bl, i.c1, i.c2⟩
theorem pow_emod (b s : Int) (n : Nat) : (b % s) ^ n % s = b ^ n % s := by
  induction n with
  | zero => rw [Int.pow_zero, Int.pow_zero]
  | succ n ih => rw [Int.pow_succ, Int.pow_succ, Int.mul_emod, ih, Int.emod_emod, ← Int.mul_emod]
theorem mul_emod_l (a b s : Int) : a % s * b % s = a * b % s := by rw [Int.mul_emod, Int.emod_emod, ← Int.mul_emod]
theorem mul_emod_r (a b s : Int) : a * (b % s) % s = a * b % s := by rw [Int.mul_emod, Int.emod_emod, ← Int.mul_emod]
theorem pow_half (B : Int) (n : Nat) : B ^ n = (if n % 2 = 1 then B else 1) * (B * B) ^ (n / 2) := by
  have hm : B * B = B ^ 2 := by grind
  rw [hm, ← Int.pow_mul]
  split
  · have : n = 2 * (n / 2) + 1 := by omega
    conv => lhs; rw [this, Int.pow_succ]
    grind
  · have : n = 2 * (n / 2) := by omega
    conv => lhs; rw [this]
    simp
structure TapeAt (a c : Nat) (h : PH) : Prop where
  ne : a ≠ c
  st : ∃ (xs : List Int) (s : Int), h a = some (.lst [.ref c, .int s]) ∧ h c = some (.lst (xs.map .int)) ∧ 0 ≤ s ∧ s < 2147483647
/-- what a draw leaves -/
structure DrawR (a c : Nat) (h h' : PH) : Prop where
  t : TapeAt a c h'
  fr : ∀ b, b ≠ a → b ≠ c → h' b = h b
theorem TapeAt.ext {a c : Nat} {h h' : PH} (t : TapeAt a c h) (e : Ext h h') : TapeAt a c h' := by
  obtain ⟨n, xs, s, h1, h2, h3⟩ := t
  exact ⟨n, xs, s, e _ _ h1, e _ _ h2, h3⟩
theorem TapeAt.ne_of {a c p : Nat} {h : PH} (t : TapeAt a c h) (f : h p = none) : p ≠ a ∧ p ≠ c := by
  obtain ⟨n, xs, s, h1, h2, h3⟩ := t
  exact ⟨fun e => by (rw [e, h1] at f; exact nomatch f), fun e => by (rw [e, h2] at f; exact nomatch f)⟩
def SmL (P : PV → PV → Prop) : List PV → List PV → Prop
  | [], [] => True
  | x :: xs, y :: ys => P x y ∧ SmL P xs ys
  | _, _ => False
def Sm (h : PH) : Nat → PV → PV → Prop
  | _, .non, .non => True
  | _, .bl a, .bl b => a = b
  | _, .int a, .int b => a = b
  | _, .str a, .str b => a = b
  | n + 1, .tup l, .tup m => l.length ≤ 16777216 ∧ SmL (Sm h n) l m
  | n + 1, .ref a, .ref b => ∃ xs ys, h a = some (.lst xs) ∧ h b = some (.lst ys) ∧ xs.length ≤ 16777216 ∧ SmL (Sm h n) xs ys
  | _, _, _ => False
theorem SmL.imp {P R : PV → PV → Prop} (f : ∀ x y, P x y → R x y) : ∀ xs ys, SmL P xs ys → SmL R xs ys
  | [], [], _ => trivial
  | x :: xs, y :: ys, h => ⟨f x y h.1, SmL.imp f xs ys h.2⟩
  | [], _ :: _, h => h.elim
  | _ :: _, [], h => h.elim
theorem SmL.len {P : PV → PV → Prop} : ∀ xs ys, SmL P xs ys → xs.length = ys.length
  | [], [], _ => rfl
  | x :: xs, y :: ys, h => by simp only [List.length_cons, SmL.len xs ys h.2]
  | [], _ :: _, h => h.elim
  | _ :: _, [], h => h.elim
theorem SmL.at {P : PV → PV → Prop} : ∀ (xs ys : List PV), SmL P xs ys → ∀ i, i < xs.length → ∃ x y, xs[i]? = some x ∧ ys[i]? = some y ∧ P x y
  | [], [], _, i, hi => absurd hi (Nat.not_lt_zero _)
  | x :: xs, y :: ys, h, 0, hi => ⟨x, y, rfl, rfl, h.1⟩
  | x :: xs, y :: ys, h, i + 1, hi => by
    obtain ⟨u, v, a, b, c⟩ := SmL.at xs ys h.2 i (by simpa using hi)
    exact ⟨u, v, by simpa using a, by simpa using b, c⟩
  | [], _ :: _, h, _, _ => h.elim
  | _ :: _, [], h, _, _ => h.elim
theorem Sm.ext {h h' : PH} (e : Ext h h') : ∀ (n : Nat) (x y : PV), Sm h n x y → Sm h' n x y
  | 0, x, y, s => by cases x <;> cases y <;> first | exact s | exact False.elim s
  | n + 1, x, y, s => by
    cases x <;> cases y <;> first | exact s | exact False.elim s | skip
    · exact ⟨s.1, SmL.imp (Sm.ext e n) _ _ s.2⟩
    · obtain ⟨xs, ys, h1, h2, h3, h4⟩ := s
      exact ⟨xs, ys, e _ _ h1, e _ _ h2, h3, SmL.imp (Sm.ext e n) _ _ h4⟩
theorem rgL_len (n : Nat) : (rgL 0 (n : Int)).length = n := by simp [rgL]
theorem rgL_mem {n : Nat} {x : PV} (hx : x ∈ rgL 0 (n : Int)) : ∃ i : Nat, i < n ∧ x = .int (i : Int) := by
  simp only [rgL, List.mem_map, List.mem_range] at hx
  obtain ⟨i, hi, rfl⟩ := hx
  exact ⟨i, by omega, by simp⟩
theorem blsOf_bl {α : Type} (f : α → Bool) : ∀ xs : List α, blsOf (xs.map fun x => PV.bl (f x)) = some (xs.map f)
  | [] => rfl
  | x :: xs => by simp only [List.map_cons, blsOf, blsOf_bl f xs, Option.map_some]
theorem intsOf_int : ∀ xs : List Int, intsOf (xs.map PV.int) = some xs
  | [] => rfl
  | x :: xs => by simp only [List.map_cons, intsOf, intsOf_int xs, Option.map_some]
theorem ixN_nat {n i : Nat} (h : i < n) : L2.ixN n (i : Int) = some i := by
  unfold L2.ixN
  (rw [if_pos (by omega)]; rw [if_pos (by omega)])
  simp
theorem filter_true {α : Type} (p : α → Bool) (hp : ∀ x, p x = true) (xs : List α) : xs.filter p = xs := List.filter_eq_self.2 fun x _ => hp x
def PV.isStr : PV → Bool | .str _ => true | _ => false
theorem ixS_of {x : PV} {i : Int} {h : PH} {Q : QK} {xs : List PV} {j : Nat} {v : PV} (n : x.isStr = false) (e : seqOf x h = some xs) (e2 : L2.ixN xs.length i = some j) (e3 : xs[j]? = some v) (q : Q v h) : ixS x (.int i) h Q := by
  cases x <;> first | (cases n; done) | (cases e; done) | (simp only [seqOf] at e; simp only [ixS, seqOf, e, e2, Option.bind_some, e3]; exact q) | (cases e; simp only [ixS, seqOf, e2, Option.bind_some, e3]; exact q)
def rgI (n : Nat) : List Int := (List.range n).map Int.ofNat
theorem rgI_mem {n : Nat} {x : Int} : x ∈ rgI n ↔ 0 ≤ x ∧ x < n := by
  simp only [rgI, List.mem_map, List.mem_range]
  constructor
  · rintro ⟨i, hi, rfl⟩; simp only [Int.ofNat_eq_natCast]; omega
  · intro h; exact ⟨x.toNat, by omega, by simp only [Int.ofNat_eq_natCast]; omega⟩
theorem rgI_len (n : Nat) : (rgI n).length = n := by simp [rgI]
theorem rgL_rgI (m : Int) : rgL 0 m = (rgI m.toNat).map PV.int := by
  simp only [rgL, rgI, List.map_map, Int.sub_zero]
  congr 1
  funext i
  simp
theorem cpr_int (Hv : PH → Prop) (p : Int → Bool) (f : Int → PV) {C : CS} {t : Tg} {c : T} {e : E} {ok : PH → Prop} {σ : Sl} {Q : List PV → PH → Prop} {xs : List Int} {h0 : PH}
    (hl : xs.length ≤ 16777216) (hh : Hv h0) (hok : ∀ h, Hv h → ok h)
    (step : ∀ x ∈ xs, ∀ h, Hv h → ∀ (R : PV → PH → Prop) (S : PH → Prop), (p x = true → ∀ h', Hv h' → R (f x) h') → (p x = false → ∀ h', Hv h' → S h') → wTg C t (.int x) σ h fun σ2 h => wT C c σ2 h (fun b h => if b = true then wE C e σ2 h R (fun _ _ => False) else S h) (fun _ _ => False))
    (hQ : ∀ h, Hv h → Q ((xs.filter p).map f) h) : cprW C t c e ok σ Q (xs.map PV.int) h0 := by
  refine cpr_inv Hv (fun v => match v with | .int i => p i | _ => false) (fun v => match v with | .int i => f i | v => v) (by simpa using hl) hh hok ?_ ?_
  · intro v hv h hvh R S r s
    obtain ⟨i, hi, rfl⟩ := List.mem_map.1 hv
    exact step i hi h hvh R S r s
  · intro h hvh
    have := hQ h hvh
    rw [List.filter_map, List.map_map]
    exact this
theorem toD_ints {h : PH} {n : Nat} : ∀ xs : List Int, (xs.map PV.int).mapM (toD h n) = some (xs.map PyData.int)
  | [] => rfl
  | x :: xs => by
    rw [List.map_cons, List.mapM_cons, toD_ints xs]
    cases n <;> rfl
theorem eqvAll_nil (xs : List PyData) : PyData.eqvAll xs [] = xs.isEmpty := by cases xs <;> simp [PyData.eqvAll]
theorem eqv_tnil (xs : List PyData) : PyData.eqv (.tuple xs) (.tuple []) = xs.isEmpty := by simp only [PyData.eqv, eqvAll_nil]
theorem eqv_lnil (xs : List PyData) : PyData.eqv (.list xs) (.list []) = xs.isEmpty := by simp only [PyData.eqv, eqvAll_nil]
/-- a list of numbers beside the empty list -/
theorem eqS_nil {h : PH} {a b : Nat} {xs : List Int} {Q : Bool → Prop} (ha : h a = some (.lst (xs.map .int))) (hb : h b = some (.lst [])) (q : Q xs.isEmpty) : eqS (.ref a) (.ref b) h Q := by
  refine ⟨.list (xs.map .int), .list [], by simp only [toD, rdL_of ha, toD_ints, Option.map_some], by simp only [toD, rdL_of hb]; rfl, ?_⟩
  rw [eqv_lnil, List.isEmpty_map]
  exact q
theorem eqS_tnil {h : PH} {xs : List Int} {Q : Bool → Prop} (q : Q xs.isEmpty) : eqS (.tup (xs.map .int)) (.tup []) h Q := by
  refine ⟨.tuple (xs.map .int), .tuple [], by simp only [toD, toD_ints, Option.map_some], by simp only [toD]; rfl, ?_⟩
  rw [eqv_tnil, List.isEmpty_map]
  exact q
theorem sqrt_uniq {r s n : Int} (r0 : 0 ≤ r) (s0 : 0 ≤ s) (h1 : r * r ≤ n) (h2 : n < (r + 1) * (r + 1)) (h3 : s * s ≤ n) (h4 : n < (s + 1) * (s + 1)) : r = s := by
  have key : ∀ a b : Int, 0 ≤ a → a + 1 ≤ b → (a + 1) * (a + 1) ≤ b * b := fun a b h0 h => Int.mul_self_le_mul_self (by omega) h
  by_cases c : r < s
  · have := key r s r0 (by omega); omega
  · by_cases c2 : s < r
    · have := key s r s0 (by omega); omega
    · omega
theorem inv_gcd {a s m : Int} (hs : 0 < s) (e : a * m % s = 1 % s) : Int.gcd (a % s) s = 1 := by
  have h1 : ((Int.gcd (a % s) s : Nat) : Int) ∣ s := Int.gcd_dvd_right (a % s) s
  have h2 : ((Int.gcd (a % s) s : Nat) : Int) ∣ a % s := Int.gcd_dvd_left (a % s) s
  have h3 : ((Int.gcd (a % s) s : Nat) : Int) ∣ a := by
    have := Int.mul_ediv_add_emod a s
    have h9 := Int.dvd_add (Int.dvd_trans h1 ⟨a / s, rfl⟩) h2
    rwa [this] at h9
  have h4 : s ∣ a * m - 1 := Int.dvd_of_emod_eq_zero (Int.emod_eq_emod_iff_emod_sub_eq_zero.1 e)
  have h5 : ((Int.gcd (a % s) s : Nat) : Int) ∣ 1 := by
    have : (1 : Int) = a * m - (a * m - 1) := by omega
    rw [this]
    exact Int.dvd_sub (Int.dvd_trans h3 ⟨_, rfl⟩) (Int.dvd_trans h1 h4)
  have := Int.le_of_dvd (by decide) h5
  have : 0 < Int.gcd (a % s) s := Int.gcd_pos_of_ne_zero_right _ (by omega)
  omega
theorem inv_uniq {a s x y : Int} (x0 : 0 ≤ x) (x1 : x < s) (y0 : 0 ≤ y) (y1 : y < s) (h1 : a * x % s = 1 % s) (h2 : a * y % s = 1 % s) : x = y := by
  obtain ⟨p, hp⟩ := Int.dvd_of_emod_eq_zero (Int.emod_eq_emod_iff_emod_sub_eq_zero.1 h1)
  obtain ⟨q, hq⟩ := Int.dvd_of_emod_eq_zero (Int.emod_eq_emod_iff_emod_sub_eq_zero.1 h2)
  have e : x - y = s * (x * (p - q) - p * (x - y)) := by grind
  have : x * (p - q) - p * (x - y) = 0 := by
    generalize x * (p - q) - p * (x - y) = z at e
    have c1 : z < 1 := by
      by_cases c : z < 1
      · exact c
      · have := Int.mul_le_mul_of_nonneg_left (show 1 ≤ z by omega) (show 0 ≤ s by omega); omega
    have c2 : -1 < z := by
      by_cases c : -1 < z
      · exact c
      · have := Int.mul_le_mul_of_nonneg_left (show z ≤ -1 by omega) (show 0 ≤ s by omega); omega
    omega
  rw [this] at e
  omega
/-- the number of figures, the least first -/
def valD (b : Int) : List Int → Int | [] => 0 | d :: r => d + b * valD b r
theorem valD_snoc (b d : Int) : ∀ l : List Int, valD b (l ++ [d]) = valD b l + b ^ l.length * d
  | [] => by simp [valD]
  | c :: l => by simp only [List.cons_append, valD, valD_snoc b d l, List.length_cons, Int.pow_succ]; grind
theorem valD_nonneg {b : Int} (b0 : 0 ≤ b) : ∀ l : List Int, (∀ d ∈ l, 0 ≤ d) → 0 ≤ valD b l
  | [], _ => by simp [valD]
  | d :: l, h => by
    have h1 := valD_nonneg b0 l fun x hx => h x (by simp [hx])
    have h2 := h d (by simp)
    have := Int.mul_nonneg b0 h1
    simp only [valD]
    omega
theorem valD_drop {b : Int} (b1 : 1 ≤ b) : ∀ (l : List Int) (j : Nat), (∀ d ∈ l, 0 ≤ d) → valD b (l.drop j) ≤ valD b l
  | l, 0, _ => by simp
  | [], j + 1, _ => by simp
  | d :: l, j + 1, h => by
    have h0 : ∀ x ∈ l, 0 ≤ x := fun x hx => h x (by simp [hx])
    have h1 := valD_drop b1 l j h0
    have h2 := valD_nonneg (b := b) (by omega) l h0
    have h3 := h d (by simp)
    have h4 := Int.mul_le_mul_of_nonneg_right b1 h2
    simp only [List.drop_succ_cons, valD]
    omega
end Co
namespace Co.G
open PySem
def tb : Tb where
  fns := ["is_count", "check_count", "is_whole", "divisor", "with_factors", "power", "raised", "undone", "root", "is_rest", "together", "all_together", "figures", "_law_tape", "_law_draw", "_law_same", "_law_common", "_law_refused", "_law_rows", "law"]
  excs := ["VerseError", "BadNumber"]
  cons := [("MOST", (.int 1000000000000000000))]
  blts := ["abs", "all", "any", "bool", "int", "isinstance", "len", "list", "range", "reversed", "str", "tuple", "zip"]
abbrev topS (i : Nat) : Stmt := PySem.Challenge.pw_spiralverses_k00_rests_and_common_diviso.main.body.getD i (.Pass ⟨0, 0, 0, 0⟩)
/-- is_count -/
def b_is_count : Ss := (.cons (.ret (.and (.isi (.v 0) [.int] false) (.and (.not (.isi (.v 0) [.bool] false)) (.cmp .ge (.v 0) (.k (.int 0))))))
  .nil)
def d_is_count : Fd := ⟨"is_count", ["value"], ["value"], b_is_count⟩
abbrev I_is_count : Nat := 0
/-- check_count -/
def b_check_count : Ss := (.cons (.ife (.or (.not (.e (.call 0 (.cons (.v 0) .nil)))) (.not (.e (.chn .le .le (.v 1) (.v 0) (.k (.int 1000000000000000000)))))) (.cons (.rai 1)
  .nil) .nil)
  .nil)
def d_check_count : Fd := ⟨"check_count", ["value", "least"], ["value", "least"], b_check_count⟩
abbrev I_check_count : Nat := 1
/-- is_whole -/
def b_is_whole : Ss := (.cons (.ret (.and (.isi (.v 0) [.int] false) (.not (.isi (.v 0) [.bool] false))))
  .nil)
def d_is_whole : Fd := ⟨"is_whole", ["value"], ["value"], b_is_whole⟩
abbrev I_is_whole : Nat := 2
/-- divisor -/
def b_divisor : Ss := (.cons (.asg (.tp (.cons (.nm 0) (.cons (.nm 1) .nil))) (.tup (.cons (.blt .abs (.cons (.v 0) .nil)) (.cons (.blt .abs (.cons (.v 1) .nil)) .nil))))
  (.cons (.whl (.e (.cmp .ne (.v 1) (.k (.int 0)))) (.cons (.asg (.tp (.cons (.nm 0) (.cons (.nm 1) .nil))) (.tup (.cons (.v 1) (.cons (.bin .mod (.v 0) (.v 1)) .nil))))
  .nil))
  (.cons (.ret (.v 0))
  .nil)))
def d_divisor : Fd := ⟨"divisor", ["one", "other"], ["one", "other"], b_divisor⟩
abbrev I_divisor : Nat := 3
/-- with_factors -/
def b_with_factors : Ss := (.cons (.asg (.tp (.cons (.nm 2) (.cons (.nm 3) .nil))) (.tup (.cons (.tup (.cons (.v 0) (.cons (.k (.int 1)) (.cons (.k (.int 0)) .nil)))) (.cons (.tup (.cons (.v 1) (.cons (.k (.int 0)) (.cons (.k (.int 1)) .nil)))) .nil))))
  (.cons (.whl (.e (.cmp .ne (.ix (.v 3) (.k (.int 0))) (.k (.int 0)))) (.cons (.asg (.nm 4) (.bin .fdiv (.ix (.v 2) (.k (.int 0))) (.ix (.v 3) (.k (.int 0)))))
  (.cons (.asg (.tp (.cons (.nm 2) (.cons (.nm 3) .nil))) (.tup (.cons (.v 3) (.cons (.blt .tuple (.cons (.cpr (.zip (.v 2) (.v 3)) (.tp (.cons (.nm 5) (.cons (.nm 6) .nil))) .yes (.bin .sub (.v 5) (.bin .mul (.v 4) (.v 6))) [5, 6]) .nil)) .nil))))
  .nil)))
  (.cons (.ret (.v 2))
  .nil)))
def d_with_factors : Fd := ⟨"with_factors", ["one", "other"], ["one", "other", "left", "right", "times", "item", "its"], b_with_factors⟩
abbrev I_with_factors : Nat := 4
/-- power -/
def b_power : Ss := (.cons (.asg (.tp (.cons (.nm 3) (.cons (.nm 4) .nil))) (.tup (.cons (.bin .mod (.k (.int 1)) (.v 2)) (.cons (.bin .mod (.v 0) (.v 2)) .nil))))
  (.cons (.whl (.e (.cmp .gt (.v 1) (.k (.int 0)))) (.cons (.ife (.e (.cmp .eq (.bin .mod (.v 1) (.k (.int 2))) (.k (.int 1)))) (.cons (.asg (.nm 3) (.bin .mod (.bin .mul (.v 3) (.v 4)) (.v 2)))
  .nil) .nil)
  (.cons (.asg (.tp (.cons (.nm 4) (.cons (.nm 1) .nil))) (.tup (.cons (.bin .mod (.bin .mul (.v 4) (.v 4)) (.v 2)) (.cons (.bin .fdiv (.v 1) (.k (.int 2))) .nil))))
  .nil)))
  (.cons (.ret (.v 3))
  .nil)))
def d_power : Fd := ⟨"power", ["base", "count", "size"], ["base", "count", "size", "found", "factor"], b_power⟩
abbrev I_power : Nat := 5
/-- raised -/
def b_raised : Ss := (.cons (.asg (.nm 2) (.k (.int 1)))
  (.cons (.whl (.e (.cmp .gt (.v 1) (.k (.int 0)))) (.cons (.ife (.e (.cmp .eq (.bin .mod (.v 1) (.k (.int 2))) (.k (.int 1)))) (.cons (.asg (.nm 2) (.bin .mul (.v 2) (.v 0)))
  .nil) .nil)
  (.cons (.asg (.tp (.cons (.nm 0) (.cons (.nm 1) .nil))) (.tup (.cons (.bin .mul (.v 0) (.v 0)) (.cons (.bin .fdiv (.v 1) (.k (.int 2))) .nil))))
  .nil)))
  (.cons (.ret (.v 2))
  .nil)))
def d_raised : Fd := ⟨"raised", ["base", "count"], ["base", "count", "found"], b_raised⟩
abbrev I_raised : Nat := 6
/-- undone -/
def b_undone : Ss := (.cons (.ex (.call 1 (.cons (.v 1) (.cons (.k (.int 1)) .nil))))
  (.cons (.ife (.not (.e (.call 2 (.cons (.v 0) .nil)))) (.cons (.rai 1)
  .nil) .nil)
  (.cons (.asg (.tp (.cons (.nm 2) (.cons (.nm 3) (.cons (.nm 4) .nil)))) (.call 4 (.cons (.bin .mod (.v 0) (.v 1)) (.cons (.v 1) .nil))))
  (.cons (.ife (.e (.cmp .ne (.v 2) (.k (.int 1)))) (.cons (.rai 1)
  .nil) .nil)
  (.cons (.ret (.bin .mod (.v 3) (.v 1)))
  .nil)))))
def d_undone : Fd := ⟨"undone", ["number", "size"], ["number", "size", "common", "factor", "other"], b_undone⟩
abbrev I_undone : Nat := 7
/-- root -/
def b_root : Ss := (.cons (.ife (.e (.cmp .lt (.v 0) (.k (.int 2)))) (.cons (.ret (.v 0))
  .nil) .nil)
  (.cons (.asg (.nm 1) (.k (.int 1)))
  (.cons (.whl (.e (.cmp .le (.bin .mul (.v 1) (.v 1)) (.v 0))) (.cons (.aug 1 .mul (.k (.int 2)))
  .nil))
  (.cons (.asg (.tp (.cons (.nm 2) (.cons (.nm 3) .nil))) (.tup (.cons (.bin .fdiv (.v 1) (.k (.int 2))) (.cons (.v 1) .nil))))
  (.cons (.whl (.e (.cmp .gt (.bin .sub (.v 3) (.v 2)) (.k (.int 1)))) (.cons (.asg (.nm 4) (.bin .fdiv (.bin .add (.v 2) (.v 3)) (.k (.int 2))))
  (.cons (.ife (.e (.cmp .le (.bin .mul (.v 4) (.v 4)) (.v 0))) (.cons (.asg (.nm 2) (.v 4))
  .nil) (.cons (.asg (.nm 3) (.v 4))
  .nil))
  .nil)))
  (.cons (.ret (.v 2))
  .nil))))))
def d_root : Fd := ⟨"root", ["number"], ["number", "found", "low", "high", "middle"], b_root⟩
abbrev I_root : Nat := 8
/-- is_rest -/
def b_is_rest : Ss := (.cons (.ife (.or (.not (.e (.isi (.v 0) [.tuple] false))) (.or (.e (.cmp .ne (.blt .len (.cons (.v 0) .nil)) (.k (.int 2)))) (.or (.not (.e (.call 0 (.cons (.ix (.v 0) (.k (.int 0))) .nil)))) (.not (.e (.call 0 (.cons (.ix (.v 0) (.k (.int 1))) .nil))))))) (.cons (.ret (.k (.bl false)))
  .nil) .nil)
  (.cons (.ret (.cmp .lt (.ix (.v 0) (.k (.int 0))) (.ix (.v 0) (.k (.int 1)))))
  .nil))
def d_is_rest : Fd := ⟨"is_rest", ["value"], ["value"], b_is_rest⟩
abbrev I_is_rest : Nat := 9
/-- together -/
def b_together : Ss := (.cons (.ife (.or (.not (.e (.call 9 (.cons (.v 0) .nil)))) (.not (.e (.call 9 (.cons (.v 1) .nil))))) (.cons (.rai 1)
  .nil) .nil)
  (.cons (.asg (.tp (.cons (.nm 2) (.cons (.nm 3) (.cons (.nm 4) .nil)))) (.call 4 (.cons (.ix (.v 0) (.k (.int 1))) (.cons (.ix (.v 1) (.k (.int 1))) .nil))))
  (.cons (.ife (.e (.cmp .ne (.bin .mod (.bin .sub (.ix (.v 1) (.k (.int 0))) (.ix (.v 0) (.k (.int 0)))) (.v 2)) (.k (.int 0)))) (.cons (.ret (.k .non))
  .nil) .nil)
  (.cons (.asg (.nm 5) (.bin .mul (.bin .fdiv (.ix (.v 0) (.k (.int 1))) (.v 2)) (.ix (.v 1) (.k (.int 1)))))
  (.cons (.ret (.tup (.cons (.bin .mod (.bin .add (.ix (.v 0) (.k (.int 0))) (.bin .mul (.bin .mul (.bin .fdiv (.bin .sub (.ix (.v 1) (.k (.int 0))) (.ix (.v 0) (.k (.int 0)))) (.v 2)) (.v 3)) (.ix (.v 0) (.k (.int 1))))) (.v 5)) (.cons (.v 5) .nil))))
  .nil)))))
def d_together : Fd := ⟨"together", ["one", "other"], ["one", "other", "common", "factor", "mate", "size"], b_together⟩
abbrev I_together : Nat := 10
/-- all_together -/
def b_all_together : Ss := (.cons (.ife (.not (.e (.isi (.v 0) [.tuple] false))) (.cons (.rai 1)
  .nil) .nil)
  (.cons (.asg (.nm 1) (.tup (.cons (.k (.int 0)) (.cons (.k (.int 1)) .nil))))
  (.cons (.for (.seq (.v 0)) (.nm 2) (.cons (.ife (.e (.cmp .isnot (.v 1) (.k .non))) (.cons (.asg (.nm 1) (.call 10 (.cons (.v 1) (.cons (.v 2) .nil))))
  .nil) .nil)
  .nil))
  (.cons (.ret (.v 1))
  .nil))))
def d_all_together : Fd := ⟨"all_together", ["rests"], ["rests", "found", "item"], b_all_together⟩
abbrev I_all_together : Nat := 11
/-- figures -/
def b_figures : Ss := (.cons (.ife (.or (.not (.e (.call 0 (.cons (.v 0) .nil)))) (.or (.not (.e (.call 0 (.cons (.v 1) .nil)))) (.e (.cmp .lt (.v 1) (.k (.int 2)))))) (.cons (.rai 1)
  .nil) .nil)
  (.cons (.asg (.nm 2) (.tup .nil))
  (.cons (.whl (.e (.cmp .gt (.v 0) (.k (.int 0)))) (.cons (.asg (.tp (.cons (.nm 2) (.cons (.nm 0) .nil))) (.tup (.cons (.bin .add (.v 2) (.tup (.cons (.bin .mod (.v 0) (.v 1)) .nil))) (.cons (.bin .fdiv (.v 0) (.v 1)) .nil))))
  .nil))
  (.cons (.ret (.v 2))
  .nil))))
def d_figures : Fd := ⟨"figures", ["number", "base"], ["number", "base", "found"], b_figures⟩
abbrev I_figures : Nat := 12
/-- _law_tape -/
def b__law_tape : Ss := (.cons (.asg (.nm 1) (.k (.int 7)))
  (.cons (.for (.seq (.v 0)) (.nm 2) (.cons (.asg (.nm 1) (.bin .mod (.blt .int (.cons (.bin .add (.bin .mul (.v 1) (.k (.int 31))) (.v 2)) .nil)) (.k (.int 1000003))))
  .nil))
  (.cons (.ret (.lst (.cons (.cpr (.seq (.v 0)) (.nm 2) .yes (.blt .abs (.cons (.blt .int (.cons (.v 2) .nil)) .nil)) [2]) (.cons (.bin .add (.v 1) (.k (.int 1))) .nil))))
  .nil)))
def d__law_tape : Fd := ⟨"_law_tape", ["script"], ["script", "seed", "cell"], b__law_tape⟩
abbrev I__law_tape : Nat := 13
/-- _law_draw -/
def b__law_draw : Ss := (.cons (.asg (.nm 2) (.ix (.v 0) (.k (.int 0))))
  (.cons (.whl (.and (.e (.cmp .gt (.blt .len (.cons (.v 2) .nil)) (.k (.int 0)))) (.e (.cmp .eq (.ix (.v 2) (.k (.int 0))) (.k (.int 0))))) (.cons (.ex (.mth .popAt (.v 2) (.cons (.k (.int 0)) .nil)))
  .nil))
  (.cons (.ife (.e (.cmp .gt (.blt .len (.cons (.v 2) .nil)) (.k (.int 0)))) (.cons (.asg (.nm 3) (.ix (.v 2) (.k (.int 0))))
  (.cons (.asg (.sub (.v 2) (.k (.int 0))) (.bin .fdiv (.v 3) (.v 1)))
  (.cons (.ret (.bin .mod (.blt .int (.cons (.v 3) .nil)) (.v 1)))
  .nil))) .nil)
  (.cons (.asg (.sub (.v 0) (.k (.int 1))) (.bin .mod (.blt .int (.cons (.bin .add (.bin .mul (.ix (.v 0) (.k (.int 1))) (.k (.int 48271))) (.k (.int 12345))) .nil)) (.k (.int 2147483647))))
  (.cons (.ret (.bin .mod (.blt .int (.cons (.bin .fdiv (.ix (.v 0) (.k (.int 1))) (.k (.int 64))) .nil)) (.v 1)))
  .nil)))))
def d__law_draw : Fd := ⟨"_law_draw", ["tape", "many"], ["tape", "many", "cells", "number"], b__law_draw⟩
abbrev I__law_draw : Nat := 14
/-- _law_same -/
def b__law_same : Ss := (.cons (.ife (.e (.cmp .is (.v 1) (.k .non))) (.cons (.ret (.cmp .is (.v 0) (.k .non)))
  .nil) .nil)
  (.cons (.ife (.e (.isi (.v 1) [.bool] false)) (.cons (.ret (.and (.isi (.v 0) [.bool] false) (.cmp .eq (.v 0) (.v 1))))
  .nil) .nil)
  (.cons (.ife (.e (.isi (.v 1) [.tuple, .list] true)) (.cons (.ife (.or (.e (.cmp .ne (.isi (.v 1) [.tuple] false) (.isi (.v 0) [.tuple] false))) (.e (.cmp .ne (.isi (.v 1) [.list] false) (.isi (.v 0) [.list] false)))) (.cons (.ret (.k (.bl false)))
  .nil) .nil)
  (.cons (.ret (.and (.cmp .eq (.blt .len (.cons (.v 0) .nil)) (.blt .len (.cons (.v 1) .nil))) (.blt .all (.cons (.cpr (.rng1 (.blt .len (.cons (.v 1) .nil))) (.nm 2) .yes (.call 15 (.cons (.ix (.v 0) (.v 2)) (.cons (.ix (.v 1) (.v 2)) .nil))) [2]) .nil))))
  .nil)) .nil)
  (.cons (.ife (.e (.isi (.v 1) [.str] false)) (.cons (.ret (.and (.isi (.v 0) [.str] false) (.cmp .eq (.v 0) (.v 1))))
  .nil) .nil)
  (.cons (.ret (.and (.isi (.v 0) [.int] false) (.and (.not (.isi (.v 0) [.bool] false)) (.cmp .eq (.v 0) (.v 1)))))
  .nil)))))
def d__law_same : Fd := ⟨"_law_same", ["actual", "due"], ["actual", "due", "k"], b__law_same⟩
abbrev I__law_same : Nat := 15
/-- _law_common -/
def b__law_common : Ss := (.cons (.asg (.tp (.cons (.nm 0) (.cons (.nm 1) .nil))) (.tup (.cons (.blt .abs (.cons (.v 0) .nil)) (.cons (.blt .abs (.cons (.v 1) .nil)) .nil))))
  (.cons (.whl (.e (.cmp .ne (.v 1) (.k (.int 0)))) (.cons (.asg (.tp (.cons (.nm 0) (.cons (.nm 1) .nil))) (.tup (.cons (.v 1) (.cons (.bin .mod (.v 0) (.v 1)) .nil))))
  .nil))
  (.cons (.ret (.v 0))
  .nil)))
def d__law_common : Fd := ⟨"_law_common", ["one", "other"], ["one", "other"], b__law_common⟩
abbrev I__law_common : Nat := 16
/-- _law_refused -/
def b__law_refused : Ss := (.cons (.try (.cons (.ife (.e (.cmp .eq (.v 0) (.k (.int 0)))) (.cons (.asg (.nm 3) (.call 7 (.cons (.v 1) (.cons (.v 2) .nil))))
  .nil) (.cons (.ife (.e (.cmp .eq (.v 0) (.k (.int 1)))) (.cons (.asg (.nm 3) (.call 10 (.cons (.v 1) (.cons (.v 2) .nil))))
  .nil) (.cons (.ife (.e (.cmp .eq (.v 0) (.k (.int 2)))) (.cons (.asg (.nm 3) (.call 12 (.cons (.v 1) (.cons (.v 2) .nil))))
  .nil) (.cons (.asg (.nm 3) (.call 11 (.cons (.v 1) .nil)))
  .nil))
  .nil))
  .nil))
  .nil) [(1, .ret (.bl true))])
  (.cons (.ret (.k (.bl false)))
  .nil))
def d__law_refused : Fd := ⟨"_law_refused", ["kind", "one", "other"], ["kind", "one", "other", "told"], b__law_refused⟩
abbrev I__law_refused : Nat := 17
/-- _law_rows -/
def b__law_rows : Ss := (.cons (.asg (.nm 2) (.lst (.cons (.tup (.cons (.v 0) (.cons (.k (.int 1)) (.cons (.k (.int 0)) .nil)))) (.cons (.tup (.cons (.v 1) (.cons (.k (.int 0)) (.cons (.k (.int 1)) .nil)))) .nil))))
  (.cons (.whl (.e (.cmp .ne (.ix (.ix (.v 2) (.neg (.k (.int 1)))) (.k (.int 0))) (.k (.int 0)))) (.cons (.asg (.nm 3) (.bin .fdiv (.ix (.ix (.v 2) (.neg (.k (.int 2)))) (.k (.int 0))) (.ix (.ix (.v 2) (.neg (.k (.int 1)))) (.k (.int 0)))))
  (.cons (.ex (.mth .append (.v 2) (.cons (.blt .tuple (.cons (.cpr (.zip (.ix (.v 2) (.neg (.k (.int 2)))) (.ix (.v 2) (.neg (.k (.int 1))))) (.tp (.cons (.nm 4) (.cons (.nm 5) .nil))) .yes (.bin .sub (.v 4) (.bin .mul (.v 3) (.v 5))) [4, 5]) .nil)) .nil)))
  .nil)))
  (.cons (.ret (.ix (.v 2) (.neg (.k (.int 2)))))
  .nil)))
def d__law_rows : Fd := ⟨"_law_rows", ["one", "other"], ["one", "other", "rows", "times", "a", "b"], b__law_rows⟩
abbrev I__law_rows : Nat := 18
/-- law -/
def b_law : Ss := (.cons (.asg (.nm 1) (.call 13 (.cons (.v 0) .nil)))
  (.cons (.asg (.tp (.cons (.nm 2) (.cons (.nm 3) (.cons (.nm 4) .nil)))) (.tup (.cons (.call 14 (.cons (.v 1) (.cons (.k (.int 3000)) .nil))) (.cons (.call 14 (.cons (.v 1) (.cons (.k (.int 400)) .nil))) (.cons (.bin .add (.k (.int 1)) (.call 14 (.cons (.v 1) (.cons (.k (.int 90)) .nil)))) .nil)))))
  (.cons (.ife (.or (.not (.e (.call 15 (.cons (.call 3 (.cons (.v 2) (.cons (.neg (.v 3)) .nil))) (.cons (.call 16 (.cons (.v 2) (.cons (.v 3) .nil))) .nil))))) (.not (.e (.call 15 (.cons (.call 4 (.cons (.v 2) (.cons (.v 3) .nil))) (.cons (.call 18 (.cons (.v 2) (.cons (.v 3) .nil))) .nil)))))) (.cons (.ret (.k (.bl false)))
  .nil) .nil)
  (.cons (.asg (.tp (.cons (.nm 5) (.cons (.nm 6) (.cons (.nm 7) .nil)))) (.tup (.cons (.call 14 (.cons (.v 1) (.cons (.k (.int 30)) .nil))) (.cons (.bin .mod (.k (.int 1)) (.v 4)) (.cons (.k (.int 1)) .nil)))))
  (.cons (.for (.rng1 (.v 5)) (.nm 8) (.cons (.asg (.tp (.cons (.nm 6) (.cons (.nm 7) .nil))) (.tup (.cons (.bin .mod (.bin .mul (.v 6) (.v 2)) (.v 4)) (.cons (.bin .mul (.v 7) (.bin .mod (.v 3) (.k (.int 7)))) .nil))))
  .nil))
  (.cons (.ife (.or (.not (.e (.call 15 (.cons (.call 5 (.cons (.v 2) (.cons (.v 5) (.cons (.v 4) .nil)))) (.cons (.v 6) .nil))))) (.not (.e (.call 15 (.cons (.call 6 (.cons (.bin .mod (.v 3) (.k (.int 7))) (.cons (.v 5) .nil))) (.cons (.v 7) .nil)))))) (.cons (.ret (.k (.bl false)))
  .nil) .nil)
  (.cons (.asg (.nm 9) (.cpr (.rng1 (.v 4)) (.nm 23) (.e (.cmp .eq (.bin .mod (.bin .mul (.v 23) (.v 2)) (.v 4)) (.bin .mod (.k (.int 1)) (.v 4)))) (.v 23) [23]))
  (.cons (.ife (.e (.cmp .eq (.v 9) (.lst .nil))) (.cons (.ife (.not (.e (.call 17 (.cons (.k (.int 0)) (.cons (.v 2) (.cons (.v 4) .nil)))))) (.cons (.ret (.k (.bl false)))
  .nil) .nil)
  .nil) (.cons (.ife (.not (.e (.call 15 (.cons (.call 7 (.cons (.v 2) (.cons (.v 4) .nil))) (.cons (.ix (.v 9) (.k (.int 0))) .nil))))) (.cons (.ret (.k (.bl false)))
  .nil) .nil)
  .nil))
  (.cons (.asg (.nm 10) (.bin .add (.bin .mul (.bin .mul (.v 2) (.v 2)) (.k (.int 1000003))) (.v 3)))
  (.cons (.ife (.or (.e (.cmp .gt (.bin .pow (.call 8 (.cons (.v 10) .nil)) (.k (.int 2))) (.v 10))) (.or (.e (.cmp .le (.bin .pow (.bin .add (.call 8 (.cons (.v 10) .nil)) (.k (.int 1))) (.k (.int 2))) (.v 10))) (.not (.e (.call 15 (.cons (.lst (.cons (.call 8 (.cons (.k (.int 0)) .nil)) (.cons (.call 8 (.cons (.k (.int 1)) .nil)) (.cons (.call 8 (.cons (.k (.int 3)) .nil)) (.cons (.call 8 (.cons (.k (.int 4)) .nil)) .nil))))) (.cons (.lst (.cons (.k (.int 0)) (.cons (.k (.int 1)) (.cons (.k (.int 1)) (.cons (.k (.int 2)) .nil))))) .nil))))))) (.cons (.ret (.k (.bl false)))
  .nil) .nil)
  (.cons (.asg (.nm 11) (.bin .add (.k (.int 1)) (.call 14 (.cons (.v 1) (.cons (.k (.int 60)) .nil)))))
  (.cons (.asg (.tp (.cons (.nm 12) (.cons (.nm 13) .nil))) (.tup (.cons (.tup (.cons (.call 14 (.cons (.v 1) (.cons (.v 4) .nil))) (.cons (.v 4) .nil))) (.cons (.tup (.cons (.call 14 (.cons (.v 1) (.cons (.v 11) .nil))) (.cons (.v 11) .nil))) .nil))))
  (.cons (.asg (.nm 14) (.bin .mul (.bin .fdiv (.v 4) (.call 16 (.cons (.v 4) (.cons (.v 11) .nil)))) (.v 11)))
  (.cons (.asg (.nm 15) (.cpr (.rng1 (.v 14)) (.nm 23) (.and (.e (.cmp .eq (.bin .mod (.v 23) (.v 4)) (.ix (.v 12) (.k (.int 0))))) (.e (.cmp .eq (.bin .mod (.v 23) (.v 11)) (.ix (.v 13) (.k (.int 0)))))) (.v 23) [23]))
  (.cons (.ife (.not (.e (.call 15 (.cons (.call 10 (.cons (.v 12) (.cons (.v 13) .nil))) (.cons (.ite (.e (.cmp .ne (.v 15) (.lst .nil))) (.tup (.cons (.ix (.v 15) (.k (.int 0))) (.cons (.v 14) .nil))) (.k .non)) .nil))))) (.cons (.ret (.k (.bl false)))
  .nil) .nil)
  (.cons (.asg (.nm 16) (.tup (.cons (.call 14 (.cons (.v 1) (.cons (.k (.int 5)) .nil))) (.cons (.k (.int 5)) .nil))))
  (.cons (.asg (.nm 17) (.bin .mul (.bin .fdiv (.v 14) (.call 16 (.cons (.v 14) (.cons (.k (.int 5)) .nil)))) (.k (.int 5))))
  (.cons (.asg (.nm 18) (.cpr (.rng1 (.v 17)) (.nm 23) (.and (.e (.cmp .ne (.v 15) (.lst .nil))) (.and (.e (.cmp .eq (.bin .mod (.v 23) (.v 14)) (.ix (.v 15) (.k (.int 0))))) (.e (.cmp .eq (.bin .mod (.v 23) (.k (.int 5))) (.ix (.v 16) (.k (.int 0))))))) (.v 23) [23]))
  (.cons (.ife (.not (.e (.call 15 (.cons (.call 11 (.cons (.tup (.cons (.v 12) (.cons (.v 13) (.cons (.v 16) .nil)))) .nil)) (.cons (.ite (.e (.cmp .ne (.v 18) (.lst .nil))) (.tup (.cons (.ix (.v 18) (.k (.int 0))) (.cons (.v 17) .nil))) (.k .non)) .nil))))) (.cons (.ret (.k (.bl false)))
  .nil) .nil)
  (.cons (.asg (.nm 19) (.bin .add (.k (.int 2)) (.call 14 (.cons (.v 1) (.cons (.k (.int 9)) .nil)))))
  (.cons (.asg (.nm 20) (.call 12 (.cons (.v 10) (.cons (.v 19) .nil))))
  (.cons (.ife (.or (.e (.blt .any (.cons (.cpr (.seq (.v 20)) (.nm 22) .yes (.not (.chn .le .lt (.k (.int 0)) (.v 22) (.v 19))) [22]) .nil))) (.and (.e (.cmp .ne (.v 20) (.tup .nil))) (.e (.cmp .eq (.ix (.v 20) (.neg (.k (.int 1)))) (.k (.int 0)))))) (.cons (.ret (.k (.bl false)))
  .nil) .nil)
  (.cons (.asg (.nm 21) (.k (.int 0)))
  (.cons (.for (.rev (.v 20)) (.nm 22) (.cons (.asg (.nm 21) (.bin .add (.bin .mul (.v 21) (.v 19)) (.v 22)))
  .nil))
  (.cons (.ife (.or (.e (.cmp .ne (.v 21) (.v 10))) (.or (.not (.e (.call 15 (.cons (.call 12 (.cons (.k (.int 0)) (.cons (.v 19) .nil))) (.cons (.tup .nil) .nil))))) (.not (.e (.call 15 (.cons (.call 11 (.cons (.tup .nil) .nil)) (.cons (.tup (.cons (.k (.int 0)) (.cons (.k (.int 1)) .nil))) .nil))))))) (.cons (.ret (.k (.bl false)))
  .nil) .nil)
  (.cons (.ife (.not (.e (.call 15 (.cons (.lst (.cons (.call 9 (.cons (.tup (.cons (.k (.int 0)) (.cons (.k (.int 1)) .nil))) .nil)) (.cons (.call 9 (.cons (.tup (.cons (.k (.int 3)) (.cons (.k (.int 3)) .nil))) .nil)) (.cons (.call 9 (.cons (.tup (.cons (.k (.bl true)) (.cons (.k (.int 2)) .nil))) .nil)) (.cons (.call 9 (.cons (.lst (.cons (.k (.int 0)) (.cons (.k (.int 1)) .nil))) .nil)) (.cons (.call 0 (.cons (.neg (.k (.int 1))) .nil)) (.cons (.call 0 (.cons (.k (.bl true)) .nil)) .nil))))))) (.cons (.lst (.cons (.k (.bl true)) (.cons (.k (.bl false)) (.cons (.k (.bl false)) (.cons (.k (.bl false)) (.cons (.k (.bl false)) (.cons (.k (.bl false)) .nil))))))) .nil))))) (.cons (.ret (.k (.bl false)))
  .nil) .nil)
  (.cons (.ret (.blt .all (.cons (.lst (.cons (.call 17 (.cons (.k (.int 2)) (.cons (.k (.int 5)) (.cons (.k (.int 1)) .nil)))) (.cons (.call 17 (.cons (.k (.int 1)) (.cons (.tup (.cons (.k (.int 2)) (.cons (.k (.int 2)) .nil))) (.cons (.tup (.cons (.k (.int 0)) (.cons (.k (.int 1)) .nil))) .nil)))) (.cons (.call 17 (.cons (.k (.int 3)) (.cons (.lst (.cons (.tup (.cons (.k (.int 0)) (.cons (.k (.int 1)) .nil))) .nil)) (.cons (.k .non) .nil)))) (.cons (.call 17 (.cons (.k (.int 0)) (.cons (.k (.bl true)) (.cons (.k (.int 3)) .nil)))) (.cons (.call 17 (.cons (.k (.int 0)) (.cons (.k (.int 2)) (.cons (.k (.int 0)) .nil)))) .nil)))))) .nil)))
  .nil)))))))))))))))))))))))))))
def d_law : Fd := ⟨"law", ["script"], ["script", "tape", "one", "other", "size", "count", "rest", "grown", "turn", "mates", "great", "mate", "first", "second", "whole", "both", "third", "wide", "all_three", "base", "told", "back", "item", "k"], b_law⟩
abbrev I_law : Nat := 19
def fds : List Fd := [d_is_count, d_check_count, d_is_whole, d_divisor, d_with_factors, d_power, d_raised, d_undone, d_root, d_is_rest, d_together, d_all_together, d_figures, d__law_tape, d__law_draw, d__law_same, d__law_common, d__law_refused, d__law_rows, d_law]
theorem s_is_count : DefS tb d_is_count (topS 5) := ⟨by decide +kernel, by kernel_rfl, fun _ _ _ _ _ _ us hl => match us, hl with | [_], _ => rfl⟩
theorem s_check_count : DefS tb d_check_count (topS 6) := ⟨by decide +kernel, by kernel_rfl, fun _ _ _ _ _ _ us hl => match us, hl with | [_, _], _ => rfl⟩
theorem s_is_whole : DefS tb d_is_whole (topS 7) := ⟨by decide +kernel, by kernel_rfl, fun _ _ _ _ _ _ us hl => match us, hl with | [_], _ => rfl⟩
theorem s_divisor : DefS tb d_divisor (topS 8) := ⟨by decide +kernel, by kernel_rfl, fun _ _ _ _ _ _ us hl => match us, hl with | [_, _], _ => rfl⟩
theorem s_with_factors : DefS tb d_with_factors (topS 9) := ⟨by decide +kernel, by kernel_rfl, fun _ _ _ _ _ _ us hl => match us, hl with | [_, _], _ => rfl⟩
theorem s_power : DefS tb d_power (topS 10) := ⟨by decide +kernel, by kernel_rfl, fun _ _ _ _ _ _ us hl => match us, hl with | [_, _, _], _ => rfl⟩
theorem s_raised : DefS tb d_raised (topS 11) := ⟨by decide +kernel, by kernel_rfl, fun _ _ _ _ _ _ us hl => match us, hl with | [_, _], _ => rfl⟩
theorem s_undone : DefS tb d_undone (topS 12) := ⟨by decide +kernel, by kernel_rfl, fun _ _ _ _ _ _ us hl => match us, hl with | [_, _], _ => rfl⟩
theorem s_root : DefS tb d_root (topS 13) := ⟨by decide +kernel, by kernel_rfl, fun _ _ _ _ _ _ us hl => match us, hl with | [_], _ => rfl⟩
theorem s_is_rest : DefS tb d_is_rest (topS 14) := ⟨by decide +kernel, by kernel_rfl, fun _ _ _ _ _ _ us hl => match us, hl with | [_], _ => rfl⟩
theorem s_together : DefS tb d_together (topS 15) := ⟨by decide +kernel, by kernel_rfl, fun _ _ _ _ _ _ us hl => match us, hl with | [_, _], _ => rfl⟩
theorem s_all_together : DefS tb d_all_together (topS 16) := ⟨by decide +kernel, by kernel_rfl, fun _ _ _ _ _ _ us hl => match us, hl with | [_], _ => rfl⟩
theorem s_figures : DefS tb d_figures (topS 17) := ⟨by decide +kernel, by kernel_rfl, fun _ _ _ _ _ _ us hl => match us, hl with | [_, _], _ => rfl⟩
theorem s__law_tape : DefS tb d__law_tape (topS 19) := ⟨by decide +kernel, by kernel_rfl, fun _ _ _ _ _ _ us hl => match us, hl with | [_], _ => rfl⟩
theorem s__law_draw : DefS tb d__law_draw (topS 20) := ⟨by decide +kernel, by kernel_rfl, fun _ _ _ _ _ _ us hl => match us, hl with | [_, _], _ => rfl⟩
theorem s__law_same : DefS tb d__law_same (topS 21) := ⟨by decide +kernel, by kernel_rfl, fun _ _ _ _ _ _ us hl => match us, hl with | [_, _], _ => rfl⟩
theorem s__law_common : DefS tb d__law_common (topS 22) := ⟨by decide +kernel, by kernel_rfl, fun _ _ _ _ _ _ us hl => match us, hl with | [_, _], _ => rfl⟩
theorem s__law_refused : DefS tb d__law_refused (topS 23) := ⟨by decide +kernel, by kernel_rfl, fun _ _ _ _ _ _ us hl => match us, hl with | [_, _, _], _ => rfl⟩
theorem s__law_rows : DefS tb d__law_rows (topS 24) := ⟨by decide +kernel, by kernel_rfl, fun _ _ _ _ _ _ us hl => match us, hl with | [_, _], _ => rfl⟩
theorem s_law : DefS tb d_law (topS 25) := ⟨by decide +kernel, by kernel_rfl, fun _ _ _ _ _ _ us hl => match us, hl with | [_], _ => rfl⟩
def subT : List (List Bool) := [[true, false], [true, true]]
abbrev fns : List Fn := fds.map Fd.fn
abbrev L (k : Nat) : CS := Lv (subOf subT) fns k
end Co.G
namespace Co.G
open PySem Co
local macro_rules | `(tactic| walk_at "st") => `(tactic| ((try simp only [↓wE_cpr, wS, wE, wEs, wEo, wT, wTg, wTgs, wIt, tgsLen, endF, List.set_cons_zero, List.set_cons_succ, List.getElem?_cons_zero, List.getElem?_cons_succ, List.length_cons, List.length_nil, Nat.reduceAdd, Nat.reduceLeDiff, Nat.reduceLT, seqOf_tup, seqOf_rol, true_and, and_true, decide_eq_true_eq, Bool.not_eq_true', Bool.not_true, Bool.not_false, decide_eq_false_iff_not, ite_not, ixN_z, ixN_pos, ixN_neg, Int.reduceLE, Int.reduceLT, Int.reduceNeg, Int.reduceAdd, Int.reduceToNat, Int.cast_ofNat_Int, ↓reduceIte, Option.bind_some, pv3, Bool.false_eq_true, Bool.true_eq_false, eq_self, isnS, Bool.not_eq_eq_eq_not, zipOk, zipL, List.zip_cons_cons, List.zip_nil_right, List.zip_nil_left, List.map_cons, List.map_nil, wipe, okOf, List.nil_append, List.cons_append, augS, hdS, hdsS, rdL_same, isTy, List.any_cons, List.any_nil, Bool.or_false, Bool.or_true, Bool.true_or, List.eraseIdx_cons_zero, decide_true, decide_false, Int.reduceEq, Option.some.injEq, bop_addi, bop_adds, bop_addt, bop_addl, bop_sub, bop_mul, bop_fdiv, bop_mod, bop_pow, neg_int, tru_non, tru_bl, tru_int, tru_str, tru_tup, tru_rol, tru_ref, eq_int, eq_bl, eq_str, eq_non, cop_eq, cop_ne, cop_in, cop_ni, cop_is, cop_isn, cop_lt, cop_le, cop_gt, cop_ge, blt_lens, blt_lent, blt_leno, blt_lenr, blt_abs, blt_int, blt_intb, blt_max2, blt_min2, blt_sum, blt_all, blt_any, blt_max1, blt_min1, blt_tupt, blt_tupo, blt_tupr, blt_lstt, blt_lsto, blt_lstr, blt_sorted, ix_tup, ix_rol, ix_ref, sl_tup, sl_rol, sl_ref, mth_ref, lstOk_ref, seqS_tup, seqS_rol, seqS_ref, intS_int, int2S_int, refOk_non, refOk_bl, refOk_int, refOk_str, refOk_tup, refOk_rol, isi_]); (repeat (rw [ss_nil_eq]; (try dsimp only))); rw [ss_cons_eq]; simp only [↓wE_cpr, wS, wE, wEs, wEo, wT, wTg, wTgs, wIt, tgsLen, endF, List.set_cons_zero, List.set_cons_succ, List.getElem?_cons_zero, List.getElem?_cons_succ, List.length_cons, List.length_nil, Nat.reduceAdd, Nat.reduceLeDiff, Nat.reduceLT, seqOf_tup, seqOf_rol, true_and, and_true, decide_eq_true_eq, Bool.not_eq_true', Bool.not_true, Bool.not_false, decide_eq_false_iff_not, ite_not, ixN_z, ixN_pos, ixN_neg, Int.reduceLE, Int.reduceLT, Int.reduceNeg, Int.reduceAdd, Int.reduceToNat, Int.cast_ofNat_Int, ↓reduceIte, Option.bind_some, pv3, Bool.false_eq_true, Bool.true_eq_false, eq_self, isnS, Bool.not_eq_eq_eq_not, zipOk, zipL, List.zip_cons_cons, List.zip_nil_right, List.zip_nil_left, List.map_cons, List.map_nil, wipe, okOf, List.nil_append, List.cons_append, augS, hdS, hdsS, rdL_same, isTy, List.any_cons, List.any_nil, Bool.or_false, Bool.or_true, Bool.true_or, List.eraseIdx_cons_zero, decide_true, decide_false, Int.reduceEq, Option.some.injEq, bop_addi, bop_adds, bop_addt, bop_addl, bop_sub, bop_mul, bop_fdiv, bop_mod, bop_pow, neg_int, tru_non, tru_bl, tru_int, tru_str, tru_tup, tru_rol, tru_ref, eq_int, eq_bl, eq_str, eq_non, cop_eq, cop_ne, cop_in, cop_ni, cop_is, cop_isn, cop_lt, cop_le, cop_gt, cop_ge, blt_lens, blt_lent, blt_leno, blt_lenr, blt_abs, blt_int, blt_intb, blt_max2, blt_min2, blt_sum, blt_all, blt_any, blt_max1, blt_min1, blt_tupt, blt_tupo, blt_tupr, blt_lstt, blt_lsto, blt_lstr, blt_sorted, ix_tup, ix_rol, ix_ref, sl_tup, sl_rol, sl_ref, mth_ref, lstOk_ref, seqS_tup, seqS_rol, seqS_ref, intS_int, int2S_int, refOk_non, refOk_bl, refOk_int, refOk_str, refOk_tup, refOk_rol, isi_]))
local macro_rules | `(tactic| walk_at "ev") => `(tactic| (try simp only [↓wE_cpr, wS, wE, wEs, wEo, wT, wTg, wTgs, wIt, tgsLen, endF, List.set_cons_zero, List.set_cons_succ, List.getElem?_cons_zero, List.getElem?_cons_succ, List.length_cons, List.length_nil, Nat.reduceAdd, Nat.reduceLeDiff, Nat.reduceLT, seqOf_tup, seqOf_rol, true_and, and_true, decide_eq_true_eq, Bool.not_eq_true', Bool.not_true, Bool.not_false, decide_eq_false_iff_not, ite_not, ixN_z, ixN_pos, ixN_neg, Int.reduceLE, Int.reduceLT, Int.reduceNeg, Int.reduceAdd, Int.reduceToNat, Int.cast_ofNat_Int, ↓reduceIte, Option.bind_some, pv3, Bool.false_eq_true, Bool.true_eq_false, eq_self, isnS, Bool.not_eq_eq_eq_not, zipOk, zipL, List.zip_cons_cons, List.zip_nil_right, List.zip_nil_left, List.map_cons, List.map_nil, wipe, okOf, List.nil_append, List.cons_append, augS, hdS, hdsS, rdL_same, isTy, List.any_cons, List.any_nil, Bool.or_false, Bool.or_true, Bool.true_or, List.eraseIdx_cons_zero, decide_true, decide_false, Int.reduceEq, Option.some.injEq, bop_addi, bop_adds, bop_addt, bop_addl, bop_sub, bop_mul, bop_fdiv, bop_mod, bop_pow, neg_int, tru_non, tru_bl, tru_int, tru_str, tru_tup, tru_rol, tru_ref, eq_int, eq_bl, eq_str, eq_non, cop_eq, cop_ne, cop_in, cop_ni, cop_is, cop_isn, cop_lt, cop_le, cop_gt, cop_ge, blt_lens, blt_lent, blt_leno, blt_lenr, blt_abs, blt_int, blt_intb, blt_max2, blt_min2, blt_sum, blt_all, blt_any, blt_max1, blt_min1, blt_tupt, blt_tupo, blt_tupr, blt_lstt, blt_lsto, blt_lstr, blt_sorted, ix_tup, ix_rol, ix_ref, sl_tup, sl_rol, sl_ref, mth_ref, lstOk_ref, seqS_tup, seqS_rol, seqS_ref, intS_int, int2S_int, refOk_non, refOk_bl, refOk_int, refOk_str, refOk_tup, refOk_rol, isi_]))
local macro_rules | `(tactic| walk_at "un") => `(tactic| (try simp only [cprW, cprL, wS, wE, wEs, wEo, wT, wTg, wTgs, wIt, tgsLen, endF, List.set_cons_zero, List.set_cons_succ, List.getElem?_cons_zero, List.getElem?_cons_succ, List.length_cons, List.length_nil, Nat.reduceAdd, Nat.reduceLeDiff, Nat.reduceLT, seqOf_tup, seqOf_rol, true_and, and_true, decide_eq_true_eq, Bool.not_eq_true', Bool.not_true, Bool.not_false, decide_eq_false_iff_not, ite_not, ixN_z, ixN_pos, ixN_neg, Int.reduceLE, Int.reduceLT, Int.reduceNeg, Int.reduceAdd, Int.reduceToNat, Int.cast_ofNat_Int, ↓reduceIte, Option.bind_some, pv3, Bool.false_eq_true, Bool.true_eq_false, eq_self, isnS, Bool.not_eq_eq_eq_not, zipOk, zipL, List.zip_cons_cons, List.zip_nil_right, List.zip_nil_left, List.map_cons, List.map_nil, wipe, okOf, List.nil_append, List.cons_append, augS, hdS, hdsS, rdL_same, isTy, List.any_cons, List.any_nil, Bool.or_false, Bool.or_true, Bool.true_or, List.eraseIdx_cons_zero, decide_true, decide_false, Int.reduceEq, Option.some.injEq, bop_addi, bop_adds, bop_addt, bop_addl, bop_sub, bop_mul, bop_fdiv, bop_mod, bop_pow, neg_int, tru_non, tru_bl, tru_int, tru_str, tru_tup, tru_rol, tru_ref, eq_int, eq_bl, eq_str, eq_non, cop_eq, cop_ne, cop_in, cop_ni, cop_is, cop_isn, cop_lt, cop_le, cop_gt, cop_ge, blt_lens, blt_lent, blt_leno, blt_lenr, blt_abs, blt_int, blt_intb, blt_max2, blt_min2, blt_sum, blt_all, blt_any, blt_max1, blt_min1, blt_tupt, blt_tupo, blt_tupr, blt_lstt, blt_lsto, blt_lstr, blt_sorted, ix_tup, ix_rol, ix_ref, sl_tup, sl_rol, sl_ref, mth_ref, lstOk_ref, seqS_tup, seqS_rol, seqS_ref, intS_int, int2S_int, refOk_non, refOk_bl, refOk_int, refOk_str, refOk_tup, refOk_rol, isi_]))
local macro_rules | `(tactic| walk_at "in") => `(tactic| (simp only [Fd.fn, startP, List.map_cons, List.map_nil, List.length_cons, List.length_nil, List.replicate, List.append_nil, Nat.sub_self, List.cons_append, List.nil_append, Nat.reduceSub, Nat.reduceAdd]))
local macro_rules | `(tactic| walk_at "nx") => `(tactic| (rw [ss_nil_eq]; (try dsimp only)))
variable {h : PH} {Q : QK} {X : XK} {k : Nat}
/-- what is_count tells -/
def isCnt : PV → Bool | .int i => decide (0 ≤ i) | _ => false
theorem sp_is_count (v : PV) (hv : refOk v h) (q : Q (.bl (isCnt v)) h) : L (k + 1) I_is_count [v] h Q X := by
  refine Lv_call d_is_count.fn rfl rfl ?_
  simp only [d_is_count, b_is_count]
  walk_at "in"
  walk_at "st"
  refine ⟨hv, ?_⟩
  cases v <;> simp_all [isTy, isCnt, refOk, cop_ge]
/-- what is_whole tells -/
def isWh : PV → Bool | .int i => true | _ => false
theorem sp_is_whole (v : PV) (hv : refOk v h) (q : Q (.bl (isWh v)) h) : L (k + 1) I_is_whole [v] h Q X := by
  refine Lv_call d_is_whole.fn rfl rfl ?_
  simp only [d_is_whole, b_is_whole]
  walk_at "in"
  walk_at "st"
  refine ⟨hv, ?_⟩
  cases v <;> simp_all [isTy, isWh, refOk]
/-- check_count of a number within its bounds, and of one that is not -/
theorem sp_check_count (i l : Int) (q : l ≤ i → 0 ≤ i → i ≤ 1000000000000000000 → Q .non h) (x : ¬ (l ≤ i ∧ 0 ≤ i ∧ i ≤ 1000000000000000000) → X (.own 1) h) : L (k + 2) I_check_count [.int i, .int l] h Q X := by
  refine Lv_call d_check_count.fn rfl rfl ?_
  simp only [d_check_count, b_check_count]
  walk_at "in"
  walk_at "st"
  refine sp_is_count _ trivial ?_
  simp only [isCnt, truS]
  by_cases h0 : 0 ≤ i <;> by_cases h1 : l ≤ i <;> by_cases h2 : i ≤ 1000000000000000000 <;> simp [h0, h1, h2, wSs, wS] <;> first | exact q h1 h0 h2 | exact x (by omega)
theorem sp_divisor (a b : Int) (q : Q (.int (Int.gcd a b)) h) : L (k + 1) I_divisor [.int a, .int b] h Q X := by
  refine Lv_call d_divisor.fn rfl rfl ?_
  simp only [d_divisor, b_divisor]
  walk_at "in"
  walk_at "st"
  refine ss_whl ?_
  rw [abs_eq, abs_eq]
  refine whl_inv (α := Nat × Nat) (st := fun p => [some (.int p.1), some (.int p.2)]) (hp := fun _ => h) (I := fun p => Nat.gcd p.1 p.2 = Int.gcd a b) (μ := fun p => p.2) (a.natAbs, b.natAbs) rfl ?_
  intro N p hp hN
  walk_at "ev"
  split
  · rename_i e
    walk_at "st"
    have e2 : p.2 = 0 := by omega
    rw [e2, Nat.gcd_zero_right] at hp
    rw [hp]
    exact q
  · rename_i e
    walk_at "st"
    refine ⟨by omega, ?_⟩
    walk_at "nx"
    have := hN (p.2, p.1 % p.2) (by rw [gcd_step _ _ (by omega)]; exact hp) (Nat.mod_lt _ (by omega))
    simpa using this
theorem ext_nil {p : Nat} {o : PO} (e : h p = none) : Ext h (pupd h p o) := Ext.new e
theorem sp_with_factors (a b : Int) (ha : 0 ≤ a) (hb : 0 ≤ b) (hM : a < 2 ^ 500) (hN : b < 2 ^ 500) (q : ∀ h', Ext h h' → Q (pv3 (wf a b)) h') : L (k + 1) I_with_factors [.int a, .int b] h Q X := by
  refine Lv_call d_with_factors.fn rfl rfl ?_
  simp only [d_with_factors, b_with_factors]
  walk_at "in"
  walk_at "st"
  refine ss_whl ?_
  refine whl_inv (α := (I3 × I3) × (Option PV × PH)) (st := fun p => [some (.int a), some (.int b), some (pv3 p.1.1), some (pv3 p.1.2), p.2.1, none, none]) (hp := fun p => p.2.2)
    (I := fun p => (∃ M, 0 ≤ M ∧ M < 2 ^ 500 ∧ WfI a b M p.1.1 p.1.2) ∧ Ext h p.2.2 ∧ ∃ n : Nat, p.1.2.1 < (n : Int) ∧ wfG n p.1.1 p.1.2 = wf a b) (μ := fun p => p.1.2.1.toNat)
    (((a, 1, 0), (b, 0, 1)), (none, h)) ⟨?_, Ext.refl h, b.toNat + 1, by simp only; omega, rfl⟩ ?_
  · by_cases c : a ≤ b
    · exact ⟨b, hb, hN, WfI.start ha hb c (Int.le_refl b)⟩
    · exact ⟨a, ha, hM, WfI.start ha hb (Int.le_refl a) (by omega)⟩
  rintro N ⟨⟨l, r⟩, ⟨tm, h1⟩⟩ ⟨⟨M, hM0, hM1, i⟩, he, n, hn, hw⟩ hN
  simp only at i he hn hw ⊢
  walk_at "ev"
  split
  · rename_i e
    walk_at "st"
    have : wfG n l r = l := by cases n with
      | zero => rfl
      | succ n => unfold wfG; rw [if_pos e]
    rw [← hw, this] at q
    exact q h1 he
  · rename_i e
    have r0 : 0 < r.1 := by have := i.r0; omega
    have lM := i.lM
    have rM := i.rM
    have l0 := i.l0
    have d0 : l.1 / r.1 ≤ l.1 := Int.ediv_le_self _ l0
    have d1 : 0 ≤ l.1 / r.1 := Int.ediv_nonneg l0 (by omega)
    have b1 := i.b1
    have b2 := i.b2
    walk_at "st"
    refine ⟨cdiv_b r0 500 (by omega) (by decide), ?_⟩
    walk_at "st"
    walk_at "un"
    refine ⟨cmul_b 500 500 (by decide) (by decide) (by omega) (by omega) (by decide), cmul_b 500 501 (by decide) (by decide) (by omega) (by omega) (by decide), cmul_b 500 501 (by decide) (by decide) (by omega) (by omega) (by decide), ?_⟩
    intro p hp
    walk_at "ev"
    walk_at "nx"
    have st := i.step e
    have lt : (wfS l r).1 < r.1 := by rw [wfS_fst]; exact Int.emod_lt_of_pos _ r0
    refine hN ((r, wfS l r), (some (.int (l.1 / r.1)), _)) ⟨⟨M, hM0, hM1, st⟩, he.trans (Ext.new hp), ?_⟩ (by have := st.r0; simp only; omega)
    cases n with
    | zero => omega
    | succ n =>
      refine ⟨n, by simp only; omega, ?_⟩
      rw [← hw]
      conv => rhs; unfold wfG
      rw [if_neg e]
theorem sp_power (b c s : Int) (hc : 0 ≤ c) (hs : 0 < s) (hs2 : s < 2 ^ 1000) (q : Q (.int (b ^ c.toNat % s)) h) : L (k + 1) I_power [.int b, .int c, .int s] h Q X := by
  refine Lv_call d_power.fn rfl rfl ?_
  simp only [d_power, b_power]
  walk_at "in"
  walk_at "st"
  refine ⟨hs, hs, ?_⟩
  refine ss_whl ?_
  refine whl_inv (α := (Int × Int) × Int) (st := fun p => [some (.int b), some (.int p.2), some (.int s), some (.int p.1.1), some (.int p.1.2)]) (hp := fun _ => h)
    (I := fun p => 0 ≤ p.2 ∧ 0 ≤ p.1.1 ∧ p.1.1 < s ∧ 0 ≤ p.1.2 ∧ p.1.2 < s ∧ p.1.1 * p.1.2 ^ p.2.toNat % s = b ^ c.toNat % s) (μ := fun p => p.2.toNat) ((1 % s, b % s), c)
    ⟨hc, Int.emod_nonneg _ (by omega), Int.emod_lt_of_pos _ hs, Int.emod_nonneg _ (by omega), Int.emod_lt_of_pos _ hs, ?_⟩ ?_
  · simp only
    rw [mul_emod_l, Int.one_mul, pow_emod]
  rintro N ⟨⟨f, g⟩, n⟩ ⟨n0, f0, f1, g0, g1, e⟩ hN
  simp only at n0 f0 f1 g0 g1 e ⊢
  walk_at "ev"
  split
  · rename_i np
    have half := pow_half g n.toNat
    have hn2 : (n / 2).toNat = n.toNat / 2 := by omega
    walk_at "st"
    split
    · rename_i od
      walk_at "st"
      refine ⟨cmul_s (by omega) (by omega), hs, ?_⟩
      walk_at "nx"
      walk_at "st"
      refine ⟨cmul_s (by omega) (by omega), hs, cdiv_s (by decide) (by decide), ?_⟩
      walk_at "nx"
      refine hN ((f * g % s, g * g % s), n / 2) ⟨by simp only; omega, Int.emod_nonneg _ (by omega), Int.emod_lt_of_pos _ hs, Int.emod_nonneg _ (by omega), Int.emod_lt_of_pos _ hs, ?_⟩ (by simp only; omega)
      simp only
      rw [← e, half, if_pos (by omega), mul_emod_l, ← mul_emod_r, pow_emod, mul_emod_r, hn2, Int.mul_assoc]
    · rename_i od
      walk_at "nx"
      walk_at "st"
      refine ⟨cmul_s (by omega) (by omega), hs, cdiv_s (by decide) (by decide), ?_⟩
      walk_at "nx"
      refine hN ((f, g * g % s), n / 2) ⟨by simp only; omega, f0, f1, Int.emod_nonneg _ (by omega), Int.emod_lt_of_pos _ hs, ?_⟩ (by simp only; omega)
      simp only
      rw [← e, half, if_neg (by omega), ← mul_emod_r, pow_emod, mul_emod_r, hn2, Int.one_mul]
  · rename_i np
    walk_at "st"
    obtain rfl : n = 0 := by omega
    rw [← e] at q
    simp only [Int.toNat_zero, Int.pow_zero, Int.mul_one] at q
    rwa [Int.emod_eq_of_lt f0 f1] at q
theorem sp_raised (b c : Int) (m : Nat) (hm : 0 < m) (hc : 0 ≤ c) (hb : b.natAbs < 2 ^ m) (hx : m * (c.toNat + 1) ≤ 500000) (q : Q (.int (b ^ c.toNat)) h) : L (k + 1) I_raised [.int b, .int c] h Q X := by
  refine Lv_call d_raised.fn rfl rfl ?_
  simp only [d_raised, b_raised]
  walk_at "in"
  walk_at "st"
  refine ss_whl ?_
  refine whl_inv (α := (Int × Int) × Int) (st := fun p => [some (.int p.1.1), some (.int p.2), some (.int p.1.2)]) (hp := fun _ => h)
    (I := fun p => 0 ≤ p.2 ∧ p.1.2 * p.1.1 ^ p.2.toNat = b ^ c.toNat ∧ ∃ i j, p.1.2.natAbs ≤ 2 ^ (m * j) ∧ p.1.1.natAbs ≤ 2 ^ (m * i) ∧ 0 < i ∧ i * p.2.toNat + j ≤ c.toNat) (μ := fun p => p.2.toNat) ((b, 1), c)
    ⟨hc, by simp, 1, 0, by simp, by simpa using Nat.le_of_lt hb, by decide, by simp⟩ ?_
  rintro N ⟨⟨g, f⟩, n⟩ ⟨n0, e, i, j, h1, h2, h3, h4⟩ hN
  simp only at n0 e h1 h2 h4 ⊢
  walk_at "ev"
  split
  · rename_i np
    have half := pow_half g n.toNat
    have hn2 : (n / 2).toNat = n.toNat / 2 := by omega
    have hi : i ≤ c.toNat := by
      have : i * 1 ≤ i * n.toNat := Nat.mul_le_mul_left i (by omega)
      omega
    have mi : m * i ≤ m * c.toNat := Nat.mul_le_mul_left m hi
    have mj : m * j ≤ m * c.toNat := Nat.mul_le_mul_left m (by omega)
    have mx : m * c.toNat + m ≤ 500000 := by simpa [Nat.mul_add] using hx
    have g1 : g.natAbs < 2 ^ 500000 := Nat.lt_of_le_of_lt h2 (Nat.pow_lt_pow_right (by decide) (by omega))
    have f1 : f.natAbs < 2 ^ 500000 := Nat.lt_of_le_of_lt h1 (Nat.pow_lt_pow_right (by decide) (by omega))
    have gg : (g * g).natAbs ≤ 2 ^ (m * (2 * i)) := by
      rw [Int.natAbs_mul, show m * (2 * i) = m * i + m * i by grind, Nat.pow_add]
      exact Nat.mul_le_mul h2 h2
    have gf : (f * g).natAbs ≤ 2 ^ (m * (i + j)) := by
      rw [Int.natAbs_mul, show m * (i + j) = m * j + m * i by grind, Nat.pow_add]
      exact Nat.mul_le_mul h1 h2
    have cg : CMul g g := cmul_b 500000 500000 (by decide) (by decide) g1 g1 (by decide)
    have cf : CMul f g := cmul_b 500000 500000 (by decide) (by decide) f1 g1 (by decide)
    walk_at "st"
    split
    · rename_i od
      walk_at "st"
      refine ⟨cf, ?_⟩
      walk_at "nx"
      walk_at "st"
      refine ⟨cg, cdiv_s (by decide) (by decide), ?_⟩
      walk_at "nx"
      refine hN ((g * g, f * g), n / 2) ⟨by simp only; omega, ?_, 2 * i, i + j, gf, gg, by omega, ?_⟩ (by simp only; omega)
      · simp only
        rw [← e, half, if_pos (by omega), hn2, Int.mul_assoc]
      · simp only
        have : n.toNat = 2 * (n.toNat / 2) + 1 := by omega
        rw [hn2]
        rw [this] at h4
        grind
    · rename_i od
      walk_at "nx"
      walk_at "st"
      refine ⟨cg, cdiv_s (by decide) (by decide), ?_⟩
      walk_at "nx"
      refine hN ((g * g, f), n / 2) ⟨by simp only; omega, ?_, 2 * i, j, h1, gg, by omega, ?_⟩ (by simp only; omega)
      · simp only
        rw [← e, half, if_neg (by omega), hn2, Int.one_mul]
      · simp only
        have : n.toNat = 2 * (n.toNat / 2) := by omega
        rw [hn2]
        rw [this] at h4
        grind
  · rename_i np
    walk_at "st"
    obtain rfl : n = 0 := by omega
    rw [← e] at q
    simpa only [Int.toNat_zero, Int.pow_zero, Int.mul_one] using q
end Co.G
namespace Co.G
open PySem Co
local macro_rules | `(tactic| walk_at "st") => `(tactic| ((try simp only [↓wE_cpr, wS, wE, wEs, wEo, wT, wTg, wTgs, wIt, tgsLen, endF, List.set_cons_zero, List.set_cons_succ, List.getElem?_cons_zero, List.getElem?_cons_succ, List.length_cons, List.length_nil, Nat.reduceAdd, Nat.reduceLeDiff, Nat.reduceLT, seqOf_tup, seqOf_rol, true_and, and_true, decide_eq_true_eq, Bool.not_eq_true', Bool.not_true, Bool.not_false, decide_eq_false_iff_not, ite_not, ixN_z, ixN_pos, ixN_neg, Int.reduceLE, Int.reduceLT, Int.reduceNeg, Int.reduceAdd, Int.reduceToNat, Int.cast_ofNat_Int, ↓reduceIte, Option.bind_some, pv3, Bool.false_eq_true, Bool.true_eq_false, eq_self, isnS, Bool.not_eq_eq_eq_not, zipOk, zipL, List.zip_cons_cons, List.zip_nil_right, List.zip_nil_left, List.map_cons, List.map_nil, wipe, okOf, List.nil_append, List.cons_append, augS, hdS, hdsS, rdL_same, isTy, List.any_cons, List.any_nil, Bool.or_false, Bool.or_true, Bool.true_or, List.eraseIdx_cons_zero, decide_true, decide_false, Int.reduceEq, Option.some.injEq, bop_addi, bop_adds, bop_addt, bop_addl, bop_sub, bop_mul, bop_fdiv, bop_mod, bop_pow, neg_int, tru_non, tru_bl, tru_int, tru_str, tru_tup, tru_rol, tru_ref, eq_int, eq_bl, eq_str, eq_non, cop_eq, cop_ne, cop_in, cop_ni, cop_is, cop_isn, cop_lt, cop_le, cop_gt, cop_ge, blt_lens, blt_lent, blt_leno, blt_lenr, blt_abs, blt_int, blt_intb, blt_max2, blt_min2, blt_sum, blt_all, blt_any, blt_max1, blt_min1, blt_tupt, blt_tupo, blt_tupr, blt_lstt, blt_lsto, blt_lstr, blt_sorted, ix_tup, ix_rol, ix_ref, sl_tup, sl_rol, sl_ref, mth_ref, lstOk_ref, seqS_tup, seqS_rol, seqS_ref, intS_int, int2S_int, refOk_non, refOk_bl, refOk_int, refOk_str, refOk_tup, refOk_rol, isi_]); (repeat (rw [ss_nil_eq]; (try dsimp only))); rw [ss_cons_eq]; simp only [↓wE_cpr, wS, wE, wEs, wEo, wT, wTg, wTgs, wIt, tgsLen, endF, List.set_cons_zero, List.set_cons_succ, List.getElem?_cons_zero, List.getElem?_cons_succ, List.length_cons, List.length_nil, Nat.reduceAdd, Nat.reduceLeDiff, Nat.reduceLT, seqOf_tup, seqOf_rol, true_and, and_true, decide_eq_true_eq, Bool.not_eq_true', Bool.not_true, Bool.not_false, decide_eq_false_iff_not, ite_not, ixN_z, ixN_pos, ixN_neg, Int.reduceLE, Int.reduceLT, Int.reduceNeg, Int.reduceAdd, Int.reduceToNat, Int.cast_ofNat_Int, ↓reduceIte, Option.bind_some, pv3, Bool.false_eq_true, Bool.true_eq_false, eq_self, isnS, Bool.not_eq_eq_eq_not, zipOk, zipL, List.zip_cons_cons, List.zip_nil_right, List.zip_nil_left, List.map_cons, List.map_nil, wipe, okOf, List.nil_append, List.cons_append, augS, hdS, hdsS, rdL_same, isTy, List.any_cons, List.any_nil, Bool.or_false, Bool.or_true, Bool.true_or, List.eraseIdx_cons_zero, decide_true, decide_false, Int.reduceEq, Option.some.injEq, bop_addi, bop_adds, bop_addt, bop_addl, bop_sub, bop_mul, bop_fdiv, bop_mod, bop_pow, neg_int, tru_non, tru_bl, tru_int, tru_str, tru_tup, tru_rol, tru_ref, eq_int, eq_bl, eq_str, eq_non, cop_eq, cop_ne, cop_in, cop_ni, cop_is, cop_isn, cop_lt, cop_le, cop_gt, cop_ge, blt_lens, blt_lent, blt_leno, blt_lenr, blt_abs, blt_int, blt_intb, blt_max2, blt_min2, blt_sum, blt_all, blt_any, blt_max1, blt_min1, blt_tupt, blt_tupo, blt_tupr, blt_lstt, blt_lsto, blt_lstr, blt_sorted, ix_tup, ix_rol, ix_ref, sl_tup, sl_rol, sl_ref, mth_ref, lstOk_ref, seqS_tup, seqS_rol, seqS_ref, intS_int, int2S_int, refOk_non, refOk_bl, refOk_int, refOk_str, refOk_tup, refOk_rol, isi_]))
local macro_rules | `(tactic| walk_at "ev") => `(tactic| (try simp only [↓wE_cpr, wS, wE, wEs, wEo, wT, wTg, wTgs, wIt, tgsLen, endF, List.set_cons_zero, List.set_cons_succ, List.getElem?_cons_zero, List.getElem?_cons_succ, List.length_cons, List.length_nil, Nat.reduceAdd, Nat.reduceLeDiff, Nat.reduceLT, seqOf_tup, seqOf_rol, true_and, and_true, decide_eq_true_eq, Bool.not_eq_true', Bool.not_true, Bool.not_false, decide_eq_false_iff_not, ite_not, ixN_z, ixN_pos, ixN_neg, Int.reduceLE, Int.reduceLT, Int.reduceNeg, Int.reduceAdd, Int.reduceToNat, Int.cast_ofNat_Int, ↓reduceIte, Option.bind_some, pv3, Bool.false_eq_true, Bool.true_eq_false, eq_self, isnS, Bool.not_eq_eq_eq_not, zipOk, zipL, List.zip_cons_cons, List.zip_nil_right, List.zip_nil_left, List.map_cons, List.map_nil, wipe, okOf, List.nil_append, List.cons_append, augS, hdS, hdsS, rdL_same, isTy, List.any_cons, List.any_nil, Bool.or_false, Bool.or_true, Bool.true_or, List.eraseIdx_cons_zero, decide_true, decide_false, Int.reduceEq, Option.some.injEq, bop_addi, bop_adds, bop_addt, bop_addl, bop_sub, bop_mul, bop_fdiv, bop_mod, bop_pow, neg_int, tru_non, tru_bl, tru_int, tru_str, tru_tup, tru_rol, tru_ref, eq_int, eq_bl, eq_str, eq_non, cop_eq, cop_ne, cop_in, cop_ni, cop_is, cop_isn, cop_lt, cop_le, cop_gt, cop_ge, blt_lens, blt_lent, blt_leno, blt_lenr, blt_abs, blt_int, blt_intb, blt_max2, blt_min2, blt_sum, blt_all, blt_any, blt_max1, blt_min1, blt_tupt, blt_tupo, blt_tupr, blt_lstt, blt_lsto, blt_lstr, blt_sorted, ix_tup, ix_rol, ix_ref, sl_tup, sl_rol, sl_ref, mth_ref, lstOk_ref, seqS_tup, seqS_rol, seqS_ref, intS_int, int2S_int, refOk_non, refOk_bl, refOk_int, refOk_str, refOk_tup, refOk_rol, isi_]))
local macro_rules | `(tactic| walk_at "un") => `(tactic| (try simp only [cprW, cprL, wS, wE, wEs, wEo, wT, wTg, wTgs, wIt, tgsLen, endF, List.set_cons_zero, List.set_cons_succ, List.getElem?_cons_zero, List.getElem?_cons_succ, List.length_cons, List.length_nil, Nat.reduceAdd, Nat.reduceLeDiff, Nat.reduceLT, seqOf_tup, seqOf_rol, true_and, and_true, decide_eq_true_eq, Bool.not_eq_true', Bool.not_true, Bool.not_false, decide_eq_false_iff_not, ite_not, ixN_z, ixN_pos, ixN_neg, Int.reduceLE, Int.reduceLT, Int.reduceNeg, Int.reduceAdd, Int.reduceToNat, Int.cast_ofNat_Int, ↓reduceIte, Option.bind_some, pv3, Bool.false_eq_true, Bool.true_eq_false, eq_self, isnS, Bool.not_eq_eq_eq_not, zipOk, zipL, List.zip_cons_cons, List.zip_nil_right, List.zip_nil_left, List.map_cons, List.map_nil, wipe, okOf, List.nil_append, List.cons_append, augS, hdS, hdsS, rdL_same, isTy, List.any_cons, List.any_nil, Bool.or_false, Bool.or_true, Bool.true_or, List.eraseIdx_cons_zero, decide_true, decide_false, Int.reduceEq, Option.some.injEq, bop_addi, bop_adds, bop_addt, bop_addl, bop_sub, bop_mul, bop_fdiv, bop_mod, bop_pow, neg_int, tru_non, tru_bl, tru_int, tru_str, tru_tup, tru_rol, tru_ref, eq_int, eq_bl, eq_str, eq_non, cop_eq, cop_ne, cop_in, cop_ni, cop_is, cop_isn, cop_lt, cop_le, cop_gt, cop_ge, blt_lens, blt_lent, blt_leno, blt_lenr, blt_abs, blt_int, blt_intb, blt_max2, blt_min2, blt_sum, blt_all, blt_any, blt_max1, blt_min1, blt_tupt, blt_tupo, blt_tupr, blt_lstt, blt_lsto, blt_lstr, blt_sorted, ix_tup, ix_rol, ix_ref, sl_tup, sl_rol, sl_ref, mth_ref, lstOk_ref, seqS_tup, seqS_rol, seqS_ref, intS_int, int2S_int, refOk_non, refOk_bl, refOk_int, refOk_str, refOk_tup, refOk_rol, isi_]))
local macro_rules | `(tactic| walk_at "in") => `(tactic| (simp only [Fd.fn, startP, List.map_cons, List.map_nil, List.length_cons, List.length_nil, List.replicate, List.append_nil, Nat.sub_self, List.cons_append, List.nil_append, Nat.reduceSub, Nat.reduceAdd]))
local macro_rules | `(tactic| walk_at "nx") => `(tactic| (rw [ss_nil_eq]; (try dsimp only)))
variable {h : PH} {Q : QK} {X : XK} {k : Nat}
theorem sp_undone (a s : Int) (q : 1 ≤ s → s ≤ 1000000000000000000 → Int.gcd (a % s) s = 1 → ∀ x, 0 ≤ x → x < s → a * x % s = 1 % s → ∀ h', Ext h h' → Q (.int x) h') (x : ¬ (1 ≤ s ∧ s ≤ 1000000000000000000 ∧ Int.gcd (a % s) s = 1) → ∀ h', Ext h h' → X (.own 1) h') : L (k + 3) I_undone [.int a, .int s] h Q X := by
  refine Lv_call d_undone.fn rfl rfl ?_
  simp only [d_undone, b_undone]
  walk_at "in"
  walk_at "st"
  refine sp_check_count s 1 (fun c1 c2 c3 => ?_) (fun c => x (by omega) h (Ext.refl h))
  walk_at "st"
  refine sp_is_whole _ trivial ?_
  walk_at "ev"
  simp only [isWh]
  walk_at "ev"
  walk_at "nx"
  walk_at "st"
  refine ⟨by omega, ?_⟩
  have r0 := Int.emod_nonneg a (show s ≠ 0 by omega)
  have r1 := Int.emod_lt_of_pos a (show 0 < s by omega)
  refine sp_with_factors (a % s) s r0 (by omega) (by omega) (by omega) fun h' he => ?_
  obtain ⟨w1, w2, w3, w4⟩ := wf_spec (a := a % s) (b := s) (M := s) r0 (by omega) (by omega) (by omega)
  walk_at "ev"
  walk_at "st"
  split
  · rename_i e
    rw [w1] at e
    walk_at "nx"
    walk_at "st"
    refine ⟨by omega, ?_⟩
    refine q c1 c3 (by omega) _ (Int.emod_nonneg _ (by omega)) (Int.emod_lt_of_pos _ (by omega)) ?_ h' he
    rw [mul_emod_r, ← mul_emod_l]
    have : a % s * (wf (a % s) s).2.1 = 1 - (wf (a % s) s).2.2 * s := by rw [w1] at w2; grind
    rw [this, Int.sub_mul_emod_self_right]
  · rename_i e
    rw [w1] at e
    walk_at "st"
    exact x (by omega) h' he
theorem sp_undone_bl (b : Bool) (s : Int) (x : X (.own 1) h) : L (k + 3) I_undone [.bl b, .int s] h Q X := by
  refine Lv_call d_undone.fn rfl rfl ?_
  simp only [d_undone, b_undone]
  walk_at "in"
  walk_at "st"
  refine sp_check_count s 1 (fun c1 c2 c3 => ?_) (fun c => x)
  walk_at "st"
  refine sp_is_whole _ trivial ?_
  walk_at "ev"
  simp only [isWh]
  walk_at "ev"
  walk_at "st"
  exact x
theorem sp_root (n : Int) (hn : 0 ≤ n) (hn2 : n < 2 ^ 900) (q : ∀ r, 0 ≤ r → r * r ≤ n → n < (r + 1) * (r + 1) → Q (.int r) h) : L (k + 1) I_root [.int n] h Q X := by
  refine Lv_call d_root.fn rfl rfl ?_
  simp only [d_root, b_root]
  walk_at "in"
  walk_at "st"
  split
  · rename_i e
    walk_at "st"
    have : n = 0 ∨ n = 1 := by omega
    rcases this with rfl | rfl
    · exact q 0 (by decide) (by decide) (by decide)
    · exact q 1 (by decide) (by decide) (by decide)
  rename_i n2
  walk_at "nx"
  walk_at "st"
  refine ss_whl ?_
  have mono : ∀ f : Int, 0 ≤ f → f ≤ f * f := fun f h0 => by
    by_cases e : f = 0
    · rw [e]; decide
    · have := Int.mul_le_mul_of_nonneg_left (show (1:Int) ≤ f by omega) h0
      omega
  refine whl_inv (α := Int) (st := fun f => [some (.int n), some (.int f), none, none, none]) (hp := fun _ => h)
    (I := fun f => 1 ≤ f ∧ f ≤ 2 * n ∧ (f = 1 ∨ (f % 2 = 0 ∧ f / 2 * (f / 2) ≤ n))) (μ := fun f => (2 * n - f).toNat) 1 ⟨by decide, by omega, Or.inl rfl⟩ ?_
  rintro N f ⟨f1, f2, f3⟩ hN
  walk_at "ev"
  refine ⟨cmul_s (by omega) (by omega), ?_⟩
  split
  · rename_i le
    walk_at "st"
    refine ⟨cmul_s (by omega) (by decide), ?_⟩
    walk_at "nx"
    have := mono f (by omega)
    have e : f * 2 / 2 = f := by omega
    exact hN (f * 2) ⟨by omega, by omega, Or.inr ⟨by omega, by rw [e]; exact le⟩⟩ (by omega)
  · rename_i gt
    walk_at "st"
    refine ⟨cdiv_s (by decide) (by decide), ?_⟩
    have f3 : f % 2 = 0 ∧ f / 2 * (f / 2) ≤ n := by
      rcases f3 with e | e
      · rw [e] at gt; omega
      · exact e
    refine ss_whl ?_
    refine whl_inv (α := (Int × Int) × Option PV) (st := fun p => [some (.int n), some (.int f), some (.int p.1.1), some (.int p.1.2), p.2]) (hp := fun _ => h)
      (I := fun p => 0 ≤ p.1.1 ∧ p.1.1 < p.1.2 ∧ p.1.2 ≤ f ∧ p.1.1 * p.1.1 ≤ n ∧ n < p.1.2 * p.1.2) (μ := fun p => (p.1.2 - p.1.1).toNat) ((f / 2, f), none) ⟨by simp only; omega, by simp only; omega, by simp only; omega, f3.2, by simp only; omega⟩ ?_
    rintro N ⟨⟨lo, hi⟩, m⟩ ⟨l0, l1, l2, l3, l4⟩ hN
    simp only at l0 l1 l2 l3 l4 ⊢
    walk_at "ev"
    split
    · rename_i gp
      walk_at "st"
      refine ⟨cdiv_s (by decide) (by decide), ?_⟩
      walk_at "st"
      refine ⟨cmul_s (by omega) (by omega), ?_⟩
      split
      · rename_i c
        walk_at "st"
        walk_at "nx"
        walk_at "nx"
        exact hN (((lo + hi) / 2, hi), some (.int ((lo + hi) / 2))) ⟨by simp only; omega, by simp only; omega, l2, c, l4⟩ (by simp only; omega)
      · rename_i c
        walk_at "st"
        walk_at "nx"
        walk_at "nx"
        exact hN ((lo, (lo + hi) / 2), some (.int ((lo + hi) / 2))) ⟨l0, by simp only; omega, by simp only; omega, l3, by simp only; omega⟩ (by simp only; omega)
    · rename_i gp
      walk_at "st"
      have : hi = lo + 1 := by omega
      exact q lo l0 l3 (by rw [← this]; exact l4)
/-- what is_rest tells of a tuple of two numbers -/
theorem sp_is_rest2 (a b : PV) (ha : refOk a h) (hb : refOk b h) (q : ∀ i j, a = .int i → b = .int j → 0 ≤ i → 0 ≤ j → Q (.bl (decide (i < j))) h) (q2 : ¬ (isCnt a = true ∧ isCnt b = true) → Q (.bl false) h) : L (k + 2) I_is_rest [.tup [a, b]] h Q X := by
  refine Lv_call d_is_rest.fn rfl rfl ?_
  simp only [d_is_rest, b_is_rest]
  walk_at "in"
  walk_at "st"
  refine sp_is_count a ha ?_
  walk_at "ev"
  by_cases ca : isCnt a = true
  · simp only [ca]
    walk_at "ev"
    refine sp_is_count b hb ?_
    walk_at "ev"
    by_cases cb : isCnt b = true
    · simp only [cb]
      walk_at "ev"
      walk_at "nx"
      walk_at "st"
      cases a <;> simp [isCnt] at ca
      cases b <;> simp [isCnt] at cb
      exact q _ _ rfl rfl ca cb
    · simp only [cb]
      walk_at "ev"
      walk_at "st"
      exact q2 (fun c => cb c.2)
  · simp only [ca]
    walk_at "ev"
    walk_at "st"
    exact q2 (fun c => ca c.1)
theorem sp_is_rest (i j : Int) (h0 : 0 ≤ i) (h1 : i < j) (q : Q (.bl true) h) : L (k + 2) I_is_rest [.tup [.int i, .int j]] h Q X := by
  refine sp_is_rest2 _ _ trivial trivial (fun a b ea eb _ _ => ?_) (fun c => absurd ⟨by simpa [isCnt] using h0, by simp [isCnt]; omega⟩ c)
  cases ea; cases eb
  simpa [h1] using q
end Co.G
namespace Co.G
open PySem Co
local macro_rules | `(tactic| walk_at "st") => `(tactic| ((try simp only [↓wE_cpr, wS, wE, wEs, wEo, wT, wTg, wTgs, wIt, tgsLen, endF, List.set_cons_zero, List.set_cons_succ, List.getElem?_cons_zero, List.getElem?_cons_succ, List.length_cons, List.length_nil, Nat.reduceAdd, Nat.reduceLeDiff, Nat.reduceLT, seqOf_tup, seqOf_rol, true_and, and_true, decide_eq_true_eq, Bool.not_eq_true', Bool.not_true, Bool.not_false, decide_eq_false_iff_not, ite_not, ixN_z, ixN_pos, ixN_neg, Int.reduceLE, Int.reduceLT, Int.reduceNeg, Int.reduceAdd, Int.reduceToNat, Int.cast_ofNat_Int, ↓reduceIte, Option.bind_some, pv3, Bool.false_eq_true, Bool.true_eq_false, eq_self, isnS, Bool.not_eq_eq_eq_not, zipOk, zipL, List.zip_cons_cons, List.zip_nil_right, List.zip_nil_left, List.map_cons, List.map_nil, wipe, okOf, List.nil_append, List.cons_append, augS, hdS, hdsS, rdL_same, isTy, List.any_cons, List.any_nil, Bool.or_false, Bool.or_true, Bool.true_or, List.eraseIdx_cons_zero, decide_true, decide_false, Int.reduceEq, Option.some.injEq, bop_addi, bop_adds, bop_addt, bop_addl, bop_sub, bop_mul, bop_fdiv, bop_mod, bop_pow, neg_int, tru_non, tru_bl, tru_int, tru_str, tru_tup, tru_rol, tru_ref, eq_int, eq_bl, eq_str, eq_non, cop_eq, cop_ne, cop_in, cop_ni, cop_is, cop_isn, cop_lt, cop_le, cop_gt, cop_ge, blt_lens, blt_lent, blt_leno, blt_lenr, blt_abs, blt_int, blt_intb, blt_max2, blt_min2, blt_sum, blt_all, blt_any, blt_max1, blt_min1, blt_tupt, blt_tupo, blt_tupr, blt_lstt, blt_lsto, blt_lstr, blt_sorted, ix_tup, ix_rol, ix_ref, sl_tup, sl_rol, sl_ref, mth_ref, lstOk_ref, seqS_tup, seqS_rol, seqS_ref, intS_int, int2S_int, refOk_non, refOk_bl, refOk_int, refOk_str, refOk_tup, refOk_rol, isi_]); (repeat (rw [ss_nil_eq]; (try dsimp only))); rw [ss_cons_eq]; simp only [↓wE_cpr, wS, wE, wEs, wEo, wT, wTg, wTgs, wIt, tgsLen, endF, List.set_cons_zero, List.set_cons_succ, List.getElem?_cons_zero, List.getElem?_cons_succ, List.length_cons, List.length_nil, Nat.reduceAdd, Nat.reduceLeDiff, Nat.reduceLT, seqOf_tup, seqOf_rol, true_and, and_true, decide_eq_true_eq, Bool.not_eq_true', Bool.not_true, Bool.not_false, decide_eq_false_iff_not, ite_not, ixN_z, ixN_pos, ixN_neg, Int.reduceLE, Int.reduceLT, Int.reduceNeg, Int.reduceAdd, Int.reduceToNat, Int.cast_ofNat_Int, ↓reduceIte, Option.bind_some, pv3, Bool.false_eq_true, Bool.true_eq_false, eq_self, isnS, Bool.not_eq_eq_eq_not, zipOk, zipL, List.zip_cons_cons, List.zip_nil_right, List.zip_nil_left, List.map_cons, List.map_nil, wipe, okOf, List.nil_append, List.cons_append, augS, hdS, hdsS, rdL_same, isTy, List.any_cons, List.any_nil, Bool.or_false, Bool.or_true, Bool.true_or, List.eraseIdx_cons_zero, decide_true, decide_false, Int.reduceEq, Option.some.injEq, bop_addi, bop_adds, bop_addt, bop_addl, bop_sub, bop_mul, bop_fdiv, bop_mod, bop_pow, neg_int, tru_non, tru_bl, tru_int, tru_str, tru_tup, tru_rol, tru_ref, eq_int, eq_bl, eq_str, eq_non, cop_eq, cop_ne, cop_in, cop_ni, cop_is, cop_isn, cop_lt, cop_le, cop_gt, cop_ge, blt_lens, blt_lent, blt_leno, blt_lenr, blt_abs, blt_int, blt_intb, blt_max2, blt_min2, blt_sum, blt_all, blt_any, blt_max1, blt_min1, blt_tupt, blt_tupo, blt_tupr, blt_lstt, blt_lsto, blt_lstr, blt_sorted, ix_tup, ix_rol, ix_ref, sl_tup, sl_rol, sl_ref, mth_ref, lstOk_ref, seqS_tup, seqS_rol, seqS_ref, intS_int, int2S_int, refOk_non, refOk_bl, refOk_int, refOk_str, refOk_tup, refOk_rol, isi_]))
local macro_rules | `(tactic| walk_at "ev") => `(tactic| (try simp only [↓wE_cpr, wS, wE, wEs, wEo, wT, wTg, wTgs, wIt, tgsLen, endF, List.set_cons_zero, List.set_cons_succ, List.getElem?_cons_zero, List.getElem?_cons_succ, List.length_cons, List.length_nil, Nat.reduceAdd, Nat.reduceLeDiff, Nat.reduceLT, seqOf_tup, seqOf_rol, true_and, and_true, decide_eq_true_eq, Bool.not_eq_true', Bool.not_true, Bool.not_false, decide_eq_false_iff_not, ite_not, ixN_z, ixN_pos, ixN_neg, Int.reduceLE, Int.reduceLT, Int.reduceNeg, Int.reduceAdd, Int.reduceToNat, Int.cast_ofNat_Int, ↓reduceIte, Option.bind_some, pv3, Bool.false_eq_true, Bool.true_eq_false, eq_self, isnS, Bool.not_eq_eq_eq_not, zipOk, zipL, List.zip_cons_cons, List.zip_nil_right, List.zip_nil_left, List.map_cons, List.map_nil, wipe, okOf, List.nil_append, List.cons_append, augS, hdS, hdsS, rdL_same, isTy, List.any_cons, List.any_nil, Bool.or_false, Bool.or_true, Bool.true_or, List.eraseIdx_cons_zero, decide_true, decide_false, Int.reduceEq, Option.some.injEq, bop_addi, bop_adds, bop_addt, bop_addl, bop_sub, bop_mul, bop_fdiv, bop_mod, bop_pow, neg_int, tru_non, tru_bl, tru_int, tru_str, tru_tup, tru_rol, tru_ref, eq_int, eq_bl, eq_str, eq_non, cop_eq, cop_ne, cop_in, cop_ni, cop_is, cop_isn, cop_lt, cop_le, cop_gt, cop_ge, blt_lens, blt_lent, blt_leno, blt_lenr, blt_abs, blt_int, blt_intb, blt_max2, blt_min2, blt_sum, blt_all, blt_any, blt_max1, blt_min1, blt_tupt, blt_tupo, blt_tupr, blt_lstt, blt_lsto, blt_lstr, blt_sorted, ix_tup, ix_rol, ix_ref, sl_tup, sl_rol, sl_ref, mth_ref, lstOk_ref, seqS_tup, seqS_rol, seqS_ref, intS_int, int2S_int, refOk_non, refOk_bl, refOk_int, refOk_str, refOk_tup, refOk_rol, isi_]))
local macro_rules | `(tactic| walk_at "un") => `(tactic| (try simp only [cprW, cprL, wS, wE, wEs, wEo, wT, wTg, wTgs, wIt, tgsLen, endF, List.set_cons_zero, List.set_cons_succ, List.getElem?_cons_zero, List.getElem?_cons_succ, List.length_cons, List.length_nil, Nat.reduceAdd, Nat.reduceLeDiff, Nat.reduceLT, seqOf_tup, seqOf_rol, true_and, and_true, decide_eq_true_eq, Bool.not_eq_true', Bool.not_true, Bool.not_false, decide_eq_false_iff_not, ite_not, ixN_z, ixN_pos, ixN_neg, Int.reduceLE, Int.reduceLT, Int.reduceNeg, Int.reduceAdd, Int.reduceToNat, Int.cast_ofNat_Int, ↓reduceIte, Option.bind_some, pv3, Bool.false_eq_true, Bool.true_eq_false, eq_self, isnS, Bool.not_eq_eq_eq_not, zipOk, zipL, List.zip_cons_cons, List.zip_nil_right, List.zip_nil_left, List.map_cons, List.map_nil, wipe, okOf, List.nil_append, List.cons_append, augS, hdS, hdsS, rdL_same, isTy, List.any_cons, List.any_nil, Bool.or_false, Bool.or_true, Bool.true_or, List.eraseIdx_cons_zero, decide_true, decide_false, Int.reduceEq, Option.some.injEq, bop_addi, bop_adds, bop_addt, bop_addl, bop_sub, bop_mul, bop_fdiv, bop_mod, bop_pow, neg_int, tru_non, tru_bl, tru_int, tru_str, tru_tup, tru_rol, tru_ref, eq_int, eq_bl, eq_str, eq_non, cop_eq, cop_ne, cop_in, cop_ni, cop_is, cop_isn, cop_lt, cop_le, cop_gt, cop_ge, blt_lens, blt_lent, blt_leno, blt_lenr, blt_abs, blt_int, blt_intb, blt_max2, blt_min2, blt_sum, blt_all, blt_any, blt_max1, blt_min1, blt_tupt, blt_tupo, blt_tupr, blt_lstt, blt_lsto, blt_lstr, blt_sorted, ix_tup, ix_rol, ix_ref, sl_tup, sl_rol, sl_ref, mth_ref, lstOk_ref, seqS_tup, seqS_rol, seqS_ref, intS_int, int2S_int, refOk_non, refOk_bl, refOk_int, refOk_str, refOk_tup, refOk_rol, isi_]))
local macro_rules | `(tactic| walk_at "in") => `(tactic| (simp only [Fd.fn, startP, List.map_cons, List.map_nil, List.length_cons, List.length_nil, List.replicate, List.append_nil, Nat.sub_self, List.cons_append, List.nil_append, Nat.reduceSub, Nat.reduceAdd]))
local macro_rules | `(tactic| walk_at "nx") => `(tactic| (rw [ss_nil_eq]; (try dsimp only)))
variable {h : PH} {Q : QK} {X : XK} {k : Nat}
theorem nmul_lt {a b : Int} {p q : Nat} (ha : a.natAbs < 2 ^ p) (hb : b.natAbs < 2 ^ q) : (a * b).natAbs < 2 ^ (p + q) := by
  (rw [Int.natAbs_mul]; rw [Nat.pow_add])
  exact Nat.mul_lt_mul'' ha hb
/-- two rests come together just at one number below the common size -/
theorem crt_uniq {m n g M u v y z : Int} (hM : g * M = m * n) (hg : 0 < g) (hb : u * m + v * n = g) (hy0 : 0 ≤ y) (hyM : y < M) (hz0 : 0 ≤ z) (hzM : z < M) (h1 : y % m = z % m) (h2 : y % n = z % n) : y = z := by
  obtain ⟨p, hp⟩ := (Int.emod_eq_emod_iff_emod_sub_eq_zero.1 h1 |> Int.dvd_of_emod_eq_zero)
  obtain ⟨q, hq⟩ := (Int.emod_eq_emod_iff_emod_sub_eq_zero.1 h2 |> Int.dvd_of_emod_eq_zero)
  have e : g * (y - z) = g * (M * (u * q + v * p)) := by
    have : g * (y - z) = u * m * (y - z) + v * n * (y - z) := by rw [← hb]; grind
    rw [this]
    conv => lhs; lhs; rw [hq]
    conv => lhs; rhs; rw [hp]
    grind
  have e2 := Int.eq_of_mul_eq_mul_left (by omega) e
  have : u * q + v * p = 0 := by
    have c1 : u * q + v * p < 1 := by
      by_cases c : u * q + v * p < 1
      · exact c
      · have := Int.mul_le_mul_of_nonneg_left (show 1 ≤ u * q + v * p by omega) (show 0 ≤ M by omega)
        omega
    have c2 : -1 < u * q + v * p := by
      by_cases c : -1 < u * q + v * p
      · exact c
      · have := Int.mul_le_mul_of_nonneg_left (show u * q + v * p ≤ -1 by omega) (show 0 ≤ M by omega)
        omega
    omega
  rw [this] at e2
  omega
def lcm2 (m n : Int) : Int := m / (Int.gcd m n : Int) * n
theorem lcm2_eq (m n : Int) : (Int.gcd m n : Int) * lcm2 m n = m * n := by
  unfold lcm2
  obtain ⟨p, hp⟩ := Int.gcd_dvd_left (a := m) (b := n)
  by_cases g0 : (Int.gcd m n : Int) = 0
  · rw [g0] at hp; rw [hp]; simp [g0]
  · have : m / (Int.gcd m n : Int) = p := by
      conv => lhs; lhs; rw [hp]
      exact Int.mul_ediv_cancel_left _ g0
    rw [this]
    conv => rhs; lhs; rw [hp]
    grind
theorem lcm2_dvd_l (m n : Int) (hm : 0 < m) : ∃ c, lcm2 m n = m * c := by
  obtain ⟨p, hp⟩ := Int.gcd_dvd_left (a := m) (b := n)
  obtain ⟨q, hq⟩ := Int.gcd_dvd_right (a := m) (b := n)
  have g0 : (Int.gcd m n : Int) ≠ 0 := fun e => by rw [e] at hp; omega
  refine ⟨q, Int.eq_of_mul_eq_mul_left g0 ?_⟩
  rw [lcm2_eq]
  conv => lhs; rhs; rw [hq]
  grind
theorem lcm2_pos {m n : Int} (hm : 0 < m) (hn : 0 < n) : 0 < lcm2 m n := by
  have e := lcm2_eq m n
  have : 0 < m * n := Int.mul_pos hm hn
  rw [← e] at this
  by_cases c : 0 < lcm2 m n
  · exact c
  · have := Int.mul_le_mul_of_nonneg_left (show lcm2 m n ≤ 0 by omega) (show (0:Int) ≤ (Int.gcd m n : Int) by omega)
    omega
theorem sp_together (a m b n : Int) (a0 : 0 ≤ a) (am : a < m) (b0 : 0 ≤ b) (bn : b < n) (hm : m < 2 ^ 200) (hn : n < 2 ^ 200)
    (qn : (∀ y, ¬ (y % m = a ∧ y % n = b)) → ∀ h', Ext h h' → Q .non h')
    (qs : ∀ x, 0 ≤ x → x < lcm2 m n → x % m = a → x % n = b → ∀ h', Ext h h' → Q (.tup [.int x, .int (lcm2 m n)]) h') : L (k + 3) I_together [.tup [.int a, .int m], .tup [.int b, .int n]] h Q X := by
  refine Lv_call d_together.fn rfl rfl ?_
  simp only [d_together, b_together]
  walk_at "in"
  walk_at "st"
  refine sp_is_rest a m a0 am ?_
  walk_at "ev"
  refine sp_is_rest b n b0 bn ?_
  walk_at "ev"
  walk_at "nx"
  walk_at "st"
  refine sp_with_factors m n (by omega) (by omega) (by omega) (by omega) fun h' he => ?_
  obtain ⟨M, hM, hN, hM2⟩ : ∃ M : Int, m ≤ M ∧ n ≤ M ∧ M < 2 ^ 200 := by
    by_cases c : m ≤ n
    · exact ⟨n, c, by omega, hn⟩
    · exact ⟨m, by omega, by omega, hm⟩
  obtain ⟨w1, w2, w3, w4⟩ := wf_spec (a := m) (b := n) (M := M) (by omega) (by omega) hM hN
  have gp : 0 < (Int.gcd m n : Int) := by
    have : 0 < Int.gcd m n := Int.gcd_pos_of_ne_zero_left _ (by omega)
    omega
  have gl : (Int.gcd m n : Int) ≤ m := Int.le_of_dvd (by omega) (Int.gcd_dvd_left m n)
  rw [w1] at w2
  walk_at "ev"
  rw [w1]
  walk_at "st"
  refine ⟨gp, ?_⟩
  split
  · rename_i dv
    walk_at "nx"
    obtain ⟨t, ht⟩ := Int.dvd_of_emod_eq_zero dv
    have te : (b - a) / (Int.gcd m n : Int) = t := by rw [ht]; exact Int.mul_ediv_cancel_left _ (by omega)
    have tb : t.natAbs < 2 ^ 200 := by
      have h1 : (b - a).natAbs = Int.gcd m n * t.natAbs := by rw [ht, Int.natAbs_mul, Int.natAbs_natCast]
      have h2 : 1 * t.natAbs ≤ Int.gcd m n * t.natAbs := Nat.mul_le_mul_right _ (by omega)
      omega
    have qe := Int.ediv_le_self (Int.gcd m n : Int) (show 0 ≤ m by omega)
    have q1 : m / (Int.gcd m n : Int) ≤ m := Int.ediv_le_self _ (by omega)
    have q0 : 0 ≤ m / (Int.gcd m n : Int) := Int.ediv_nonneg (by omega) (by omega)
    walk_at "st"
    refine ⟨cdiv_s gp (by omega), cmul_s (by omega) (by omega), ?_⟩
    walk_at "st"
    have lp : 0 < lcm2 m n := lcm2_pos (by omega) (by omega)
    have tu := nmul_lt (p := 200) (q := 201) tb (show (wf m n).2.1.natAbs < 2 ^ 201 by omega)
    have lpe : m / (Int.gcd m n : Int) * n = lcm2 m n := rfl
    rw [te, lpe]
    refine ⟨cdiv_s gp (by omega), cmul_s (by omega) (by omega), cmul_b 401 200 (by decide) (by decide) tu (by omega) (by decide), lp, ?_⟩
    refine qs _ (Int.emod_nonneg _ (by omega)) (Int.emod_lt_of_pos _ lp) ?_ ?_ h' he
    · obtain ⟨c, hc⟩ := lcm2_dvd_l m n (by omega)
      rw [Int.emod_emod_of_dvd _ ⟨c, hc⟩]
      have : a + t * (wf m n).2.1 * m = a + m * (t * (wf m n).2.1) := by grind
      rw [this, Int.add_mul_emod_self_left, Int.emod_eq_of_lt a0 am]
    · rw [Int.emod_emod_of_dvd _ ⟨m / (Int.gcd m n : Int), by rw [← lpe]; grind⟩]
      have : a + t * (wf m n).2.1 * m = b + n * (- (t * (wf m n).2.2)) := by grind
      rw [this, Int.add_mul_emod_self_left, Int.emod_eq_of_lt b0 bn]
  · rename_i dv
    walk_at "st"
    refine qn (fun y ⟨y1, y2⟩ => dv ?_) h' he
    have e1 := Int.mul_ediv_add_emod y m
    have e2 := Int.mul_ediv_add_emod y n
    obtain ⟨p, hp⟩ := Int.gcd_dvd_left (a := m) (b := n)
    obtain ⟨q, hq⟩ := Int.gcd_dvd_right (a := m) (b := n)
    refine Int.emod_eq_zero_of_dvd ⟨p * (y / m) - q * (y / n), ?_⟩
    rw [y1] at e1
    rw [y2] at e2
    have f1 : (Int.gcd m n : Int) * (p * (y / m)) = m * (y / m) := by conv => rhs; lhs; rw [hp]
                                                                      grind
    have f2 : (Int.gcd m n : Int) * (q * (y / n)) = n * (y / n) := by conv => rhs; lhs; rw [hq]
                                                                      grind
    rw [Int.mul_sub, f1, f2]
    omega
end Co.G
namespace Co.G
open PySem Co
local macro_rules | `(tactic| walk_at "st") => `(tactic| ((try simp only [↓wE_cpr, wS, wE, wEs, wEo, wT, wTg, wTgs, wIt, tgsLen, endF, List.set_cons_zero, List.set_cons_succ, List.getElem?_cons_zero, List.getElem?_cons_succ, List.length_cons, List.length_nil, Nat.reduceAdd, Nat.reduceLeDiff, Nat.reduceLT, seqOf_tup, seqOf_rol, true_and, and_true, decide_eq_true_eq, Bool.not_eq_true', Bool.not_true, Bool.not_false, decide_eq_false_iff_not, ite_not, ixN_z, ixN_pos, ixN_neg, Int.reduceLE, Int.reduceLT, Int.reduceNeg, Int.reduceAdd, Int.reduceToNat, Int.cast_ofNat_Int, ↓reduceIte, Option.bind_some, pv3, Bool.false_eq_true, Bool.true_eq_false, eq_self, isnS, Bool.not_eq_eq_eq_not, zipOk, zipL, List.zip_cons_cons, List.zip_nil_right, List.zip_nil_left, List.map_cons, List.map_nil, wipe, okOf, List.nil_append, List.cons_append, augS, hdS, hdsS, rdL_same, isTy, List.any_cons, List.any_nil, Bool.or_false, Bool.or_true, Bool.true_or, List.eraseIdx_cons_zero, decide_true, decide_false, Int.reduceEq, Option.some.injEq, bop_addi, bop_adds, bop_addt, bop_addl, bop_sub, bop_mul, bop_fdiv, bop_mod, bop_pow, neg_int, tru_non, tru_bl, tru_int, tru_str, tru_tup, tru_rol, tru_ref, eq_int, eq_bl, eq_str, eq_non, cop_eq, cop_ne, cop_in, cop_ni, cop_is, cop_isn, cop_lt, cop_le, cop_gt, cop_ge, blt_lens, blt_lent, blt_leno, blt_lenr, blt_abs, blt_int, blt_intb, blt_max2, blt_min2, blt_sum, blt_all, blt_any, blt_max1, blt_min1, blt_tupt, blt_tupo, blt_tupr, blt_lstt, blt_lsto, blt_lstr, blt_sorted, ix_tup, ix_rol, ix_ref, sl_tup, sl_rol, sl_ref, mth_ref, lstOk_ref, seqS_tup, seqS_rol, seqS_ref, intS_int, int2S_int, refOk_non, refOk_bl, refOk_int, refOk_str, refOk_tup, refOk_rol, isi_]); (repeat (rw [ss_nil_eq]; (try dsimp only))); rw [ss_cons_eq]; simp only [↓wE_cpr, wS, wE, wEs, wEo, wT, wTg, wTgs, wIt, tgsLen, endF, List.set_cons_zero, List.set_cons_succ, List.getElem?_cons_zero, List.getElem?_cons_succ, List.length_cons, List.length_nil, Nat.reduceAdd, Nat.reduceLeDiff, Nat.reduceLT, seqOf_tup, seqOf_rol, true_and, and_true, decide_eq_true_eq, Bool.not_eq_true', Bool.not_true, Bool.not_false, decide_eq_false_iff_not, ite_not, ixN_z, ixN_pos, ixN_neg, Int.reduceLE, Int.reduceLT, Int.reduceNeg, Int.reduceAdd, Int.reduceToNat, Int.cast_ofNat_Int, ↓reduceIte, Option.bind_some, pv3, Bool.false_eq_true, Bool.true_eq_false, eq_self, isnS, Bool.not_eq_eq_eq_not, zipOk, zipL, List.zip_cons_cons, List.zip_nil_right, List.zip_nil_left, List.map_cons, List.map_nil, wipe, okOf, List.nil_append, List.cons_append, augS, hdS, hdsS, rdL_same, isTy, List.any_cons, List.any_nil, Bool.or_false, Bool.or_true, Bool.true_or, List.eraseIdx_cons_zero, decide_true, decide_false, Int.reduceEq, Option.some.injEq, bop_addi, bop_adds, bop_addt, bop_addl, bop_sub, bop_mul, bop_fdiv, bop_mod, bop_pow, neg_int, tru_non, tru_bl, tru_int, tru_str, tru_tup, tru_rol, tru_ref, eq_int, eq_bl, eq_str, eq_non, cop_eq, cop_ne, cop_in, cop_ni, cop_is, cop_isn, cop_lt, cop_le, cop_gt, cop_ge, blt_lens, blt_lent, blt_leno, blt_lenr, blt_abs, blt_int, blt_intb, blt_max2, blt_min2, blt_sum, blt_all, blt_any, blt_max1, blt_min1, blt_tupt, blt_tupo, blt_tupr, blt_lstt, blt_lsto, blt_lstr, blt_sorted, ix_tup, ix_rol, ix_ref, sl_tup, sl_rol, sl_ref, mth_ref, lstOk_ref, seqS_tup, seqS_rol, seqS_ref, intS_int, int2S_int, refOk_non, refOk_bl, refOk_int, refOk_str, refOk_tup, refOk_rol, isi_]))
local macro_rules | `(tactic| walk_at "ev") => `(tactic| (try simp only [↓wE_cpr, wS, wE, wEs, wEo, wT, wTg, wTgs, wIt, tgsLen, endF, List.set_cons_zero, List.set_cons_succ, List.getElem?_cons_zero, List.getElem?_cons_succ, List.length_cons, List.length_nil, Nat.reduceAdd, Nat.reduceLeDiff, Nat.reduceLT, seqOf_tup, seqOf_rol, true_and, and_true, decide_eq_true_eq, Bool.not_eq_true', Bool.not_true, Bool.not_false, decide_eq_false_iff_not, ite_not, ixN_z, ixN_pos, ixN_neg, Int.reduceLE, Int.reduceLT, Int.reduceNeg, Int.reduceAdd, Int.reduceToNat, Int.cast_ofNat_Int, ↓reduceIte, Option.bind_some, pv3, Bool.false_eq_true, Bool.true_eq_false, eq_self, isnS, Bool.not_eq_eq_eq_not, zipOk, zipL, List.zip_cons_cons, List.zip_nil_right, List.zip_nil_left, List.map_cons, List.map_nil, wipe, okOf, List.nil_append, List.cons_append, augS, hdS, hdsS, rdL_same, isTy, List.any_cons, List.any_nil, Bool.or_false, Bool.or_true, Bool.true_or, List.eraseIdx_cons_zero, decide_true, decide_false, Int.reduceEq, Option.some.injEq, bop_addi, bop_adds, bop_addt, bop_addl, bop_sub, bop_mul, bop_fdiv, bop_mod, bop_pow, neg_int, tru_non, tru_bl, tru_int, tru_str, tru_tup, tru_rol, tru_ref, eq_int, eq_bl, eq_str, eq_non, cop_eq, cop_ne, cop_in, cop_ni, cop_is, cop_isn, cop_lt, cop_le, cop_gt, cop_ge, blt_lens, blt_lent, blt_leno, blt_lenr, blt_abs, blt_int, blt_intb, blt_max2, blt_min2, blt_sum, blt_all, blt_any, blt_max1, blt_min1, blt_tupt, blt_tupo, blt_tupr, blt_lstt, blt_lsto, blt_lstr, blt_sorted, ix_tup, ix_rol, ix_ref, sl_tup, sl_rol, sl_ref, mth_ref, lstOk_ref, seqS_tup, seqS_rol, seqS_ref, intS_int, int2S_int, refOk_non, refOk_bl, refOk_int, refOk_str, refOk_tup, refOk_rol, isi_]))
local macro_rules | `(tactic| walk_at "un") => `(tactic| (try simp only [cprW, cprL, wS, wE, wEs, wEo, wT, wTg, wTgs, wIt, tgsLen, endF, List.set_cons_zero, List.set_cons_succ, List.getElem?_cons_zero, List.getElem?_cons_succ, List.length_cons, List.length_nil, Nat.reduceAdd, Nat.reduceLeDiff, Nat.reduceLT, seqOf_tup, seqOf_rol, true_and, and_true, decide_eq_true_eq, Bool.not_eq_true', Bool.not_true, Bool.not_false, decide_eq_false_iff_not, ite_not, ixN_z, ixN_pos, ixN_neg, Int.reduceLE, Int.reduceLT, Int.reduceNeg, Int.reduceAdd, Int.reduceToNat, Int.cast_ofNat_Int, ↓reduceIte, Option.bind_some, pv3, Bool.false_eq_true, Bool.true_eq_false, eq_self, isnS, Bool.not_eq_eq_eq_not, zipOk, zipL, List.zip_cons_cons, List.zip_nil_right, List.zip_nil_left, List.map_cons, List.map_nil, wipe, okOf, List.nil_append, List.cons_append, augS, hdS, hdsS, rdL_same, isTy, List.any_cons, List.any_nil, Bool.or_false, Bool.or_true, Bool.true_or, List.eraseIdx_cons_zero, decide_true, decide_false, Int.reduceEq, Option.some.injEq, bop_addi, bop_adds, bop_addt, bop_addl, bop_sub, bop_mul, bop_fdiv, bop_mod, bop_pow, neg_int, tru_non, tru_bl, tru_int, tru_str, tru_tup, tru_rol, tru_ref, eq_int, eq_bl, eq_str, eq_non, cop_eq, cop_ne, cop_in, cop_ni, cop_is, cop_isn, cop_lt, cop_le, cop_gt, cop_ge, blt_lens, blt_lent, blt_leno, blt_lenr, blt_abs, blt_int, blt_intb, blt_max2, blt_min2, blt_sum, blt_all, blt_any, blt_max1, blt_min1, blt_tupt, blt_tupo, blt_tupr, blt_lstt, blt_lsto, blt_lstr, blt_sorted, ix_tup, ix_rol, ix_ref, sl_tup, sl_rol, sl_ref, mth_ref, lstOk_ref, seqS_tup, seqS_rol, seqS_ref, intS_int, int2S_int, refOk_non, refOk_bl, refOk_int, refOk_str, refOk_tup, refOk_rol, isi_]))
local macro_rules | `(tactic| walk_at "in") => `(tactic| (simp only [Fd.fn, startP, List.map_cons, List.map_nil, List.length_cons, List.length_nil, List.replicate, List.append_nil, Nat.sub_self, List.cons_append, List.nil_append, Nat.reduceSub, Nat.reduceAdd]))
local macro_rules | `(tactic| walk_at "nx") => `(tactic| (rw [ss_nil_eq]; (try dsimp only)))
variable {h : PH} {Q : QK} {X : XK} {k : Nat}
theorem sp_is_rest_tup (l : List PV) (hl : l.length ≠ 2) (q : Q (.bl false) h) : L (k + 2) I_is_rest [.tup l] h Q X := by
  refine Lv_call d_is_rest.fn rfl rfl ?_
  simp only [d_is_rest, b_is_rest]
  walk_at "in"
  walk_at "st"
  have : ¬ ((l.length : Int) = 2) := by omega
  simp only [this]
  walk_at "ev"
  walk_at "st"
  exact q
theorem sp_is_rest_no (v : PV) (hr : refOk v h) (hv : ∀ l, v ≠ .tup l) (q : Q (.bl false) h) : L (k + 2) I_is_rest [v] h Q X := by
  refine Lv_call d_is_rest.fn rfl rfl ?_
  simp only [d_is_rest, b_is_rest]
  walk_at "in"
  walk_at "st"
  refine ⟨hr, ?_⟩
  cases v <;> first | exact absurd rfl (hv _) | ((try walk_at "ev"); walk_at "st"; exact q)
/-- both rests are (2, 2), (0, 1): refused -/
theorem sp_together_no (a m : Int) (v : PV) (hv : refOk v h) (am : ¬ (0 ≤ a ∧ a < m)) (x : X (.own 1) h) : L (k + 3) I_together [.tup [.int a, .int m], v] h Q X := by
  refine Lv_call d_together.fn rfl rfl ?_
  simp only [d_together, b_together]
  walk_at "in"
  walk_at "st"
  refine sp_is_rest2 _ _ trivial trivial (fun a b ea eb _ _ => ?_) (fun c => ?_)
  · cases ea; cases eb
    (rw [decide_eq_false (by omega)])
    walk_at "ev"
    walk_at "st"
    exact x
  · walk_at "ev"
    walk_at "st"
    exact x
/-- numbers that have all rests, by their pairs -/
def HasAll (y : Int) (l : List (Int × Int)) : Prop := ∀ p ∈ l, y % p.2 = p.1
def lcmF (l : List (Int × Int)) : Int := l.foldl (fun M p => lcm2 M p.2) 1
def restV (p : Int × Int) : PV := .tup [.int p.1, .int p.2]
def foundV : Option (Int × Int) → PV | none => .non | some p => restV p
theorem lcmF_snoc (l : List (Int × Int)) (p : Int × Int) : lcmF (l ++ [p]) = lcm2 (lcmF l) p.2 := by unfold lcmF; rw [List.foldl_append]; rfl
structure FoundI (l : List (Int × Int)) (f : Option (Int × Int)) : Prop where
  no : f = none → ∀ y, ¬ HasAll y l
  has : ∀ p, f = some p → p.2 = lcmF l ∧ 0 ≤ p.1 ∧ p.1 < p.2 ∧ HasAll p.1 l ∧ ∀ y, HasAll y l → y % p.2 = p.1
theorem FoundI.none_snoc {l : List (Int × Int)} (i : FoundI l none) (p : Int × Int) : FoundI (l ++ [p]) none :=
  ⟨fun _ y hy => i.no rfl y fun q hq => hy q (List.mem_append_left _ hq), (fun _ e => nomatch e)⟩
theorem hasAll_emod {y M : Int} {l : List (Int × Int)} (hM : ∀ p ∈ l, p.2 ∣ M) (hy : HasAll y l) : HasAll (y % M) l := fun p hp => by rw [Int.emod_emod_of_dvd _ (hM p hp)]; exact hy p hp
theorem lcm2_dvd_r (m n : Int) : n ∣ lcm2 m n := ⟨m / (Int.gcd m n : Int), by unfold lcm2; rw [Int.mul_comm]⟩
theorem lcmF_dvd : ∀ (l : List (Int × Int)) (s : Int), (∀ p ∈ l, 0 < p.2) → 0 < s → s ∣ l.foldl (fun M p => lcm2 M p.2) s ∧ ∀ p ∈ l, p.2 ∣ l.foldl (fun M p => lcm2 M p.2) s
  | [], s, _, _ => ⟨Int.dvd_refl _, (fun _ h => nomatch h)⟩
  | q :: l, s, hp, hs => by
    have q0 := hp q (by simp)
    obtain ⟨h1, h2⟩ := lcmF_dvd l (lcm2 s q.2) (fun p hh => hp p (by simp [hh])) (lcm2_pos hs q0)
    obtain ⟨c, hc⟩ := lcm2_dvd_l s q.2 hs
    refine ⟨Int.dvd_trans ⟨c, hc⟩ h1, fun p hh => ?_⟩
    rcases List.mem_cons.1 hh with rfl | hh
    · exact Int.dvd_trans (lcm2_dvd_r s p.2) h1
    · exact h2 p hh
theorem sp_all_together (l : List (Int × Int)) (hl : ∀ p ∈ l, 0 ≤ p.1 ∧ p.1 < p.2 ∧ p.2 < 2 ^ 200) (hM : ∀ j, lcmF (l.take j) < 2 ^ 200) (q : ∀ f, FoundI l f → ∀ h', Ext h h' → Q (foundV f) h') : L (k + 4) I_all_together [.tup (l.map restV)] h Q X := by
  refine Lv_call d_all_together.fn rfl rfl ?_
  simp only [d_all_together, b_all_together]
  walk_at "in"
  walk_at "st"
  walk_at "nx"
  walk_at "st"
  walk_at "st"
  refine for_inv (α := (Option (Int × Int)) × (Option PV × PH)) (st := fun p => [some (.tup (l.map restV)), some (foundV p.1), p.2.1]) (hp := fun p => p.2.2)
    (I := fun i p => FoundI (l.take i) p.1 ∧ Ext h p.2.2) (some (0, 1), none, h) ⟨⟨(fun e => nomatch e), fun p e => by cases e; exact ⟨rfl, by decide, by decide, (fun _ h => nomatch h), fun y _ => by simp only; omega⟩⟩, Ext.refl h⟩ ?_ ?_
  · rintro N i v ⟨f, s, h1⟩ hv ⟨fi, he⟩ hN
    simp only at fi he ⊢
    rw [List.getElem?_map] at hv
    cases hi : l[i]? with
    | none => rw [hi] at hv; cases hv
    | some p =>
      rw [hi] at hv
      simp only [Option.map_some, Option.some.injEq] at hv
      subst hv
      have hil : i < l.length := (List.getElem?_eq_some_iff.1 hi).1
      have tk : l.take (i + 1) = l.take i ++ [p] := by
        rw [List.take_add_one, hi]; rfl
      have hp := hl p (List.mem_of_getElem? hi)
      refine ⟨rfl, ?_⟩
      cases f with
      | none =>
        simp only [foundV]
        walk_at "st"
        walk_at "nx"
        walk_at "nx"
        exact hN (none, some (restV p), h1) ⟨by rw [tk]; exact fi.none_snoc p, he⟩
      | some g =>
        obtain ⟨g2, g0, g1, ga, gu⟩ := fi.has g rfl
        have gM := hM i
        simp only [foundV, restV]
        walk_at "st"
        walk_at "st"
        have tp : ∀ q ∈ l.take i, 0 < q.2 := fun q hq => by have := hl q (List.mem_of_mem_take hq); omega
        have dv := (lcmF_dvd (l.take i) 1 tp (by decide)).2
        refine sp_together g.1 g.2 p.1 p.2 g0 g1 hp.1 hp.2.1 (by omega) hp.2.2 (fun no h' he' => ?_) (fun x x0 x1 x2 x3 h' he' => ?_)
        · walk_at "nx"
          walk_at "nx"
          refine hN (none, some (restV p), h') ⟨?_, he.trans he'⟩
          rw [tk]
          exact ⟨fun _ y hy => no y ⟨gu y fun q hq => hy q (List.mem_append_left _ hq), hy p (by simp)⟩, (fun _ e => nomatch e)⟩
        · walk_at "nx"
          walk_at "nx"
          refine hN (some (x, lcm2 g.2 p.2), some (restV p), h') ⟨?_, he.trans he'⟩
          rw [tk]
          refine ⟨fun e => (nomatch e), fun q e => ?_⟩
          cases e
          refine ⟨by rw [lcmF_snoc, g2], x0, x1, ?_, ?_⟩
          · intro q hq
            rcases List.mem_append.1 hq with hq | hq
            · have d := dv q hq
              have : x % q.2 = g.1 % q.2 := by
                rw [← x2, Int.emod_emod_of_dvd]
                rw [g2]; exact d
              simp only
              rw [this]
              exact ga q hq
            · have hq := List.mem_singleton.1 hq
              subst hq
              exact x3
          · intro y hy
            have y1 := gu y fun q hq => hy q (List.mem_append_left _ hq)
            have y2 := hy p (by simp)
            have lp : 0 < lcm2 g.2 p.2 := lcm2_pos (by omega) (by omega)
            obtain ⟨c, hc⟩ := lcm2_dvd_l g.2 p.2 (by omega)
            have gp : 0 < (Int.gcd g.2 p.2 : Int) := by
              have : 0 < Int.gcd g.2 p.2 := Int.gcd_pos_of_ne_zero_left _ (by omega)
              omega
            obtain ⟨M, hMa, hMb⟩ : ∃ M : Int, g.2 ≤ M ∧ p.2 ≤ M := by
              by_cases c : g.2 ≤ p.2
              · exact ⟨p.2, c, by omega⟩
              · exact ⟨g.2, by omega, by omega⟩
            obtain ⟨w1, w2, _, _⟩ := wf_spec (a := g.2) (b := p.2) (M := M) (by omega) (by omega) hMa hMb
            refine crt_uniq (m := g.2) (n := p.2) (lcm2_eq g.2 p.2) gp (by rw [← w2, w1]) (Int.emod_nonneg _ (by omega)) (Int.emod_lt_of_pos _ lp) x0 x1 ?_ ?_
            · rw [Int.emod_emod_of_dvd _ ⟨c, hc⟩, y1, x2]
            · rw [Int.emod_emod_of_dvd _ (lcm2_dvd_r _ _), y2, x3]
  · rintro ⟨f, s, h1⟩ ⟨fi, he⟩
    refine ⟨rfl, ?_⟩
    simp only [List.length_map, List.take_length] at fi he ⊢
    walk_at "st"
    exact q f fi h1 he
theorem sp_all_together_no (v : PV) (hr : refOk v h) (hv : ∀ l, v ≠ .tup l) (x : X (.own 1) h) : L (k + 4) I_all_together [v] h Q X := by
  refine Lv_call d_all_together.fn rfl rfl ?_
  simp only [d_all_together, b_all_together]
  walk_at "in"
  walk_at "st"
  refine ⟨hr, ?_⟩
  cases v <;> first | exact absurd rfl (hv _) | ((try walk_at "ev"); walk_at "st"; exact x)
structure FigI (b n : Int) (ds : List Int) (m : Int) : Prop where
  m0 : 0 ≤ m
  ds0 : ∀ d ∈ ds, 0 ≤ d ∧ d < b
  v : valD b ds + b ^ ds.length * m = n
  z : n = 0 → ds = []
  w : m * 2 ^ ds.length ≤ n
  l : m = 0 → ds.getLast? ≠ some 0
  len : ds.length ≤ 900
theorem sp_figures (n b : Int) (n0 : 0 ≤ n) (hn : n < 2 ^ 900) (b2 : 2 ≤ b) (hb : b < 2 ^ 200) (q : ∀ ds : List Int, FigI b n ds 0 → Q (.tup (ds.map .int)) h) : L (k + 2) I_figures [.int n, .int b] h Q X := by
  refine Lv_call d_figures.fn rfl rfl ?_
  simp only [d_figures, b_figures]
  walk_at "in"
  walk_at "st"
  refine sp_is_count _ trivial ?_
  simp only [isCnt, decide_eq_true n0]
  walk_at "ev"
  refine sp_is_count _ trivial ?_
  simp only [isCnt, decide_eq_true (show 0 ≤ b by omega)]
  walk_at "ev"
  rw [if_neg (by omega)]
  walk_at "nx"
  walk_at "st"
  refine ss_whl ?_
  refine whl_inv (α := List Int × Int) (st := fun p => [some (.int p.2), some (.int b), some (.tup (p.1.map .int))]) (hp := fun _ => h)
    (I := fun p => FigI b n p.1 p.2) (μ := fun p => p.2.toNat) ([], n) ⟨n0, (fun _ h => nomatch h), by simp [valD], fun _ => rfl, by simp, fun _ => by simp, by simp⟩ ?_
  rintro N ⟨ds, m⟩ fi hN
  simp only at fi ⊢
  have m0 := fi.m0
  walk_at "ev"
  split
  · rename_i mp
    walk_at "st"
    have len : ds.length < 900 := by
      have h1 : (1:Int) * 2 ^ ds.length ≤ m * 2 ^ ds.length := Int.mul_le_mul_of_nonneg_right (by omega) (Int.pow_nonneg (by decide))
      have h2 := fi.w
      have h3 : ((2 ^ ds.length : Nat) : Int) < ((2 ^ 900 : Nat) : Int) := by
        rw [Int.natCast_pow, Int.natCast_pow]
        simp only [Int.cast_ofNat_Int]
        omega
      exact (Nat.pow_lt_pow_iff_right (by decide)).1 (Int.ofNat_lt.1 h3)
    have r0 := Int.emod_nonneg m (show b ≠ 0 by omega)
    have r1 := Int.emod_lt_of_pos m (show 0 < b by omega)
    have dv := Int.mul_ediv_add_emod m b
    have q0 : 0 ≤ m / b := Int.ediv_nonneg m0 (by omega)
    have q1 : 2 * (m / b) ≤ b * (m / b) := Int.mul_le_mul_of_nonneg_right b2 q0
    refine ⟨by omega, by simp only [List.length_map]; omega, cdiv_s (by omega) (by omega), ?_⟩
    walk_at "nx"
    have := hN (ds ++ [m % b], m / b) ⟨q0, ?_, ?_, ?_, ?_, ?_, by simp only [List.length_append, List.length_singleton]; omega⟩ (by simp only; omega)
    · simpa using this
    · intro d hd
      rcases List.mem_append.1 hd with hd | hd
      · exact fi.ds0 d hd
      · rw [List.mem_singleton] at hd; omega
    · rw [valD_snoc, List.length_append, List.length_singleton, Int.pow_succ]
      have := fi.v
      grind
    · intro e
      have := fi.w
      have : m * 2 ^ ds.length > 0 := Int.mul_pos mp (Int.pow_pos (by decide))
      omega
    · rw [List.length_append, List.length_singleton, Int.pow_succ]
      have h1 : (2 * (m / b)) * 2 ^ ds.length ≤ m * 2 ^ ds.length := Int.mul_le_mul_of_nonneg_right (by omega) (Int.pow_nonneg (by decide))
      have := fi.w
      grind
    · intro e
      simp only at e
      have : m % b = m := by rw [e] at dv; omega
      simp only [List.getLast?_append, List.getLast?_singleton, Option.some_or]
      intro c
      rw [Option.some.injEq] at c
      omega
  · rename_i mp
    obtain rfl : m = 0 := by omega
    walk_at "st"
    exact q ds fi
theorem sp_figures_no (n b : Int) (n0 : 0 ≤ n) (b0 : 0 ≤ b) (b2 : b < 2) (x : X (.own 1) h) : L (k + 2) I_figures [.int n, .int b] h Q X := by
  refine Lv_call d_figures.fn rfl rfl ?_
  simp only [d_figures, b_figures]
  walk_at "in"
  walk_at "st"
  refine sp_is_count _ trivial ?_
  simp only [isCnt, decide_eq_true n0]
  walk_at "ev"
  refine sp_is_count _ trivial ?_
  simp only [isCnt, decide_eq_true b0]
  walk_at "ev"
  rw [if_pos b2]
  walk_at "st"
  exact x
end Co.G
namespace Co.G
open PySem Co
local macro_rules | `(tactic| walk_at "st") => `(tactic| ((try simp only [↓wE_cpr, wS, wE, wEs, wEo, wT, wTg, wTgs, wIt, tgsLen, endF, List.set_cons_zero, List.set_cons_succ, List.getElem?_cons_zero, List.getElem?_cons_succ, List.length_cons, List.length_nil, Nat.reduceAdd, Nat.reduceLeDiff, Nat.reduceLT, seqOf_tup, seqOf_rol, true_and, and_true, decide_eq_true_eq, Bool.not_eq_true', Bool.not_true, Bool.not_false, decide_eq_false_iff_not, ite_not, ixN_z, ixN_pos, ixN_neg, Int.reduceLE, Int.reduceLT, Int.reduceNeg, Int.reduceAdd, Int.reduceToNat, Int.cast_ofNat_Int, ↓reduceIte, Option.bind_some, pv3, Bool.false_eq_true, Bool.true_eq_false, eq_self, isnS, Bool.not_eq_eq_eq_not, zipOk, zipL, List.zip_cons_cons, List.zip_nil_right, List.zip_nil_left, List.map_cons, List.map_nil, wipe, okOf, List.nil_append, List.cons_append, augS, hdS, hdsS, rdL_same, isTy, List.any_cons, List.any_nil, Bool.or_false, Bool.or_true, Bool.true_or, List.eraseIdx_cons_zero, decide_true, decide_false, Int.reduceEq, Option.some.injEq, bop_addi, bop_adds, bop_addt, bop_addl, bop_sub, bop_mul, bop_fdiv, bop_mod, bop_pow, neg_int, tru_non, tru_bl, tru_int, tru_str, tru_tup, tru_rol, tru_ref, eq_int, eq_bl, eq_str, eq_non, cop_eq, cop_ne, cop_in, cop_ni, cop_is, cop_isn, cop_lt, cop_le, cop_gt, cop_ge, blt_lens, blt_lent, blt_leno, blt_lenr, blt_abs, blt_int, blt_intb, blt_max2, blt_min2, blt_sum, blt_all, blt_any, blt_max1, blt_min1, blt_tupt, blt_tupo, blt_tupr, blt_lstt, blt_lsto, blt_lstr, blt_sorted, ix_tup, ix_rol, ix_ref, sl_tup, sl_rol, sl_ref, mth_ref, lstOk_ref, seqS_tup, seqS_rol, seqS_ref, intS_int, int2S_int, refOk_non, refOk_bl, refOk_int, refOk_str, refOk_tup, refOk_rol, isi_]); (repeat (rw [ss_nil_eq]; (try dsimp only))); rw [ss_cons_eq]; simp only [↓wE_cpr, wS, wE, wEs, wEo, wT, wTg, wTgs, wIt, tgsLen, endF, List.set_cons_zero, List.set_cons_succ, List.getElem?_cons_zero, List.getElem?_cons_succ, List.length_cons, List.length_nil, Nat.reduceAdd, Nat.reduceLeDiff, Nat.reduceLT, seqOf_tup, seqOf_rol, true_and, and_true, decide_eq_true_eq, Bool.not_eq_true', Bool.not_true, Bool.not_false, decide_eq_false_iff_not, ite_not, ixN_z, ixN_pos, ixN_neg, Int.reduceLE, Int.reduceLT, Int.reduceNeg, Int.reduceAdd, Int.reduceToNat, Int.cast_ofNat_Int, ↓reduceIte, Option.bind_some, pv3, Bool.false_eq_true, Bool.true_eq_false, eq_self, isnS, Bool.not_eq_eq_eq_not, zipOk, zipL, List.zip_cons_cons, List.zip_nil_right, List.zip_nil_left, List.map_cons, List.map_nil, wipe, okOf, List.nil_append, List.cons_append, augS, hdS, hdsS, rdL_same, isTy, List.any_cons, List.any_nil, Bool.or_false, Bool.or_true, Bool.true_or, List.eraseIdx_cons_zero, decide_true, decide_false, Int.reduceEq, Option.some.injEq, bop_addi, bop_adds, bop_addt, bop_addl, bop_sub, bop_mul, bop_fdiv, bop_mod, bop_pow, neg_int, tru_non, tru_bl, tru_int, tru_str, tru_tup, tru_rol, tru_ref, eq_int, eq_bl, eq_str, eq_non, cop_eq, cop_ne, cop_in, cop_ni, cop_is, cop_isn, cop_lt, cop_le, cop_gt, cop_ge, blt_lens, blt_lent, blt_leno, blt_lenr, blt_abs, blt_int, blt_intb, blt_max2, blt_min2, blt_sum, blt_all, blt_any, blt_max1, blt_min1, blt_tupt, blt_tupo, blt_tupr, blt_lstt, blt_lsto, blt_lstr, blt_sorted, ix_tup, ix_rol, ix_ref, sl_tup, sl_rol, sl_ref, mth_ref, lstOk_ref, seqS_tup, seqS_rol, seqS_ref, intS_int, int2S_int, refOk_non, refOk_bl, refOk_int, refOk_str, refOk_tup, refOk_rol, isi_]))
local macro_rules | `(tactic| walk_at "ev") => `(tactic| (try simp only [↓wE_cpr, wS, wE, wEs, wEo, wT, wTg, wTgs, wIt, tgsLen, endF, List.set_cons_zero, List.set_cons_succ, List.getElem?_cons_zero, List.getElem?_cons_succ, List.length_cons, List.length_nil, Nat.reduceAdd, Nat.reduceLeDiff, Nat.reduceLT, seqOf_tup, seqOf_rol, true_and, and_true, decide_eq_true_eq, Bool.not_eq_true', Bool.not_true, Bool.not_false, decide_eq_false_iff_not, ite_not, ixN_z, ixN_pos, ixN_neg, Int.reduceLE, Int.reduceLT, Int.reduceNeg, Int.reduceAdd, Int.reduceToNat, Int.cast_ofNat_Int, ↓reduceIte, Option.bind_some, pv3, Bool.false_eq_true, Bool.true_eq_false, eq_self, isnS, Bool.not_eq_eq_eq_not, zipOk, zipL, List.zip_cons_cons, List.zip_nil_right, List.zip_nil_left, List.map_cons, List.map_nil, wipe, okOf, List.nil_append, List.cons_append, augS, hdS, hdsS, rdL_same, isTy, List.any_cons, List.any_nil, Bool.or_false, Bool.or_true, Bool.true_or, List.eraseIdx_cons_zero, decide_true, decide_false, Int.reduceEq, Option.some.injEq, bop_addi, bop_adds, bop_addt, bop_addl, bop_sub, bop_mul, bop_fdiv, bop_mod, bop_pow, neg_int, tru_non, tru_bl, tru_int, tru_str, tru_tup, tru_rol, tru_ref, eq_int, eq_bl, eq_str, eq_non, cop_eq, cop_ne, cop_in, cop_ni, cop_is, cop_isn, cop_lt, cop_le, cop_gt, cop_ge, blt_lens, blt_lent, blt_leno, blt_lenr, blt_abs, blt_int, blt_intb, blt_max2, blt_min2, blt_sum, blt_all, blt_any, blt_max1, blt_min1, blt_tupt, blt_tupo, blt_tupr, blt_lstt, blt_lsto, blt_lstr, blt_sorted, ix_tup, ix_rol, ix_ref, sl_tup, sl_rol, sl_ref, mth_ref, lstOk_ref, seqS_tup, seqS_rol, seqS_ref, intS_int, int2S_int, refOk_non, refOk_bl, refOk_int, refOk_str, refOk_tup, refOk_rol, isi_]))
local macro_rules | `(tactic| walk_at "un") => `(tactic| (try simp only [cprW, cprL, wS, wE, wEs, wEo, wT, wTg, wTgs, wIt, tgsLen, endF, List.set_cons_zero, List.set_cons_succ, List.getElem?_cons_zero, List.getElem?_cons_succ, List.length_cons, List.length_nil, Nat.reduceAdd, Nat.reduceLeDiff, Nat.reduceLT, seqOf_tup, seqOf_rol, true_and, and_true, decide_eq_true_eq, Bool.not_eq_true', Bool.not_true, Bool.not_false, decide_eq_false_iff_not, ite_not, ixN_z, ixN_pos, ixN_neg, Int.reduceLE, Int.reduceLT, Int.reduceNeg, Int.reduceAdd, Int.reduceToNat, Int.cast_ofNat_Int, ↓reduceIte, Option.bind_some, pv3, Bool.false_eq_true, Bool.true_eq_false, eq_self, isnS, Bool.not_eq_eq_eq_not, zipOk, zipL, List.zip_cons_cons, List.zip_nil_right, List.zip_nil_left, List.map_cons, List.map_nil, wipe, okOf, List.nil_append, List.cons_append, augS, hdS, hdsS, rdL_same, isTy, List.any_cons, List.any_nil, Bool.or_false, Bool.or_true, Bool.true_or, List.eraseIdx_cons_zero, decide_true, decide_false, Int.reduceEq, Option.some.injEq, bop_addi, bop_adds, bop_addt, bop_addl, bop_sub, bop_mul, bop_fdiv, bop_mod, bop_pow, neg_int, tru_non, tru_bl, tru_int, tru_str, tru_tup, tru_rol, tru_ref, eq_int, eq_bl, eq_str, eq_non, cop_eq, cop_ne, cop_in, cop_ni, cop_is, cop_isn, cop_lt, cop_le, cop_gt, cop_ge, blt_lens, blt_lent, blt_leno, blt_lenr, blt_abs, blt_int, blt_intb, blt_max2, blt_min2, blt_sum, blt_all, blt_any, blt_max1, blt_min1, blt_tupt, blt_tupo, blt_tupr, blt_lstt, blt_lsto, blt_lstr, blt_sorted, ix_tup, ix_rol, ix_ref, sl_tup, sl_rol, sl_ref, mth_ref, lstOk_ref, seqS_tup, seqS_rol, seqS_ref, intS_int, int2S_int, refOk_non, refOk_bl, refOk_int, refOk_str, refOk_tup, refOk_rol, isi_]))
local macro_rules | `(tactic| walk_at "in") => `(tactic| (simp only [Fd.fn, startP, List.map_cons, List.map_nil, List.length_cons, List.length_nil, List.replicate, List.append_nil, Nat.sub_self, List.cons_append, List.nil_append, Nat.reduceSub, Nat.reduceAdd]))
local macro_rules | `(tactic| walk_at "nx") => `(tactic| (rw [ss_nil_eq]; (try dsimp only)))
variable {h : PH} {Q : QK} {X : XK} {k : Nat}
theorem sp_tape (ns : List Int) (hn : ns.length ≤ 63) (q : ∀ a c h', h a = none → h c = none → Ext h h' → TapeAt a c h' → Q (.ref a) h') : L (k + 1) I__law_tape [.rol (ns.map PV.int)] h Q X := by
  refine Lv_call d__law_tape.fn rfl rfl ?_
  simp only [d__law_tape, b__law_tape]
  walk_at "in"
  walk_at "st"
  walk_at "st"
  refine for_inv (α := Int × Option PV) (st := fun p => [some (.rol (ns.map PV.int)), some (.int p.1), p.2]) (hp := fun _ => h) (I := fun _ p => 0 ≤ p.1 ∧ p.1 < 1000003) (7, none) ⟨by decide, by decide⟩ ?_ ?_
  · rintro N i v ⟨s, u⟩ hv ⟨s0, s1⟩ hN
    simp only at s0 s1 ⊢
    rw [List.getElem?_map] at hv
    cases hi : ns[i]? with
    | none => rw [hi] at hv; cases hv
    | some p =>
      rw [hi] at hv
      simp only [Option.map_some, Option.some.injEq] at hv
      subst hv
      refine ⟨rfl, ?_⟩
      walk_at "st"
      refine ⟨cmul_s (by omega) (by decide), ?_⟩
      walk_at "nx"
      exact hN (_, some (.int p)) ⟨Int.emod_nonneg _ (by decide), Int.emod_lt_of_pos _ (by decide)⟩
  · rintro ⟨s, u⟩ ⟨s0, s1⟩
    refine ⟨rfl, ?_⟩
    simp only
    walk_at "st"
    refine cpr_inv (fun h' => h' = h) (fun _ => true) (fun v => match v with | .int i => .int (i.natAbs : Int) | v => v) (by simp only [List.length_map]; omega) rfl (fun _ e => rfl) ?_ ?_
    · intro x hx h' e R S r s
      subst e
      obtain ⟨i, hi, rfl⟩ := List.mem_map.1 hx
      walk_at "ev"
      rw [abs_eq]
      exact r rfl _ rfl
    · rintro h' rfl
      intro c hc p hp
      have ne : p ≠ c := fun e => by subst e; rw [pupd_same] at hp; cases hp
      rw [pupd_ne ne] at hp
      refine q p c _ hp hc (fun a o e => ?_) ⟨ne, ns.map fun i => (i.natAbs : Int), s + 1, pupd_same, ?_, by omega, by omega⟩
      · rw [pupd_ne (ne_new e hp), pupd_ne (ne_new e hc)]; exact e
      · rw [pupd_ne (fun e => ne e.symm), pupd_same, filter_true _ (fun _ => rfl), List.map_map, List.map_map]; rfl
theorem sp_draw (a c : Nat) (m : Int) (h0 : 0 < m) (hm : m < 2 ^ 1000) (t : TapeAt a c h) (q : ∀ v h', 0 ≤ v → v < m → DrawR a c h h' → Q (.int v) h') : L (k + 1) I__law_draw [.ref a, .int m] h Q X := by
  refine Lv_call d__law_draw.fn rfl rfl ?_
  simp only [d__law_draw, b__law_draw]
  walk_at "in"
  obtain ⟨ne, xs, s, ha, hc, s0, s1⟩ := t
  walk_at "st"
  rw [rdL_of ha]
  walk_at "ev"
  refine ss_whl ?_
  refine whl_inv (α := List Int × PH) (st := fun p => [some (.ref a), some (.int m), some (.ref c), none]) (hp := fun p => p.2) (I := fun p => p.2 a = some (.lst [.ref c, .int s]) ∧ p.2 c = some (.lst (p.1.map .int)) ∧ ∀ b, b ≠ a → b ≠ c → p.2 b = h b) (μ := fun p => p.1.length) (xs, h) ⟨ha, hc, fun _ _ _ => rfl⟩ ?_
  rintro N ⟨ys, h1⟩ ⟨i1, i2, i3⟩ hN
  simp only at i1 i2 i3 ⊢
  walk_at "ev"
  rw [rdL_of i2]
  walk_at "ev"
  cases ys with
  | nil =>
    walk_at "ev"
    walk_at "st"
    rw [rdL_of i2]
    walk_at "ev"
    walk_at "nx"
    walk_at "st"
    rw [rdL_of i1]
    walk_at "ev"
    refine ⟨cmul_s (by omega) (by decide), ?_⟩
    simp only [setS, i1]
    walk_at "ev"
    walk_at "st"
    refine ⟨cdiv_s (by decide) (by decide), h0, ?_⟩
    refine q _ _ (Int.emod_nonneg _ (by omega)) (Int.emod_lt_of_pos _ h0) ⟨⟨ne, [], _, pupd_same, by rw [pupd_ne (Ne.symm ne)]; exact i2, Int.emod_nonneg _ (by decide), Int.emod_lt_of_pos _ (by decide)⟩, fun b b1 b2 => by rw [pupd_ne b1]; exact i3 b b1 b2⟩
  | cons y ys =>
    walk_at "ev"
    rw [if_pos (by omega)]
    split
    · rename_i y0
      walk_at "st"
      simp only [i2, mthL]
      walk_at "ev"
      refine ⟨by decide, ?_⟩
      walk_at "nx"
      exact hN (ys, pupd h1 c (.lst (ys.map .int))) ⟨(pupd_ne ne).trans i1, pupd_same, fun b b1 b2 => (pupd_ne b2).trans (i3 b b1 b2)⟩ (by simp)
    · rename_i y0
      walk_at "st"
      rw [rdL_of i2]
      walk_at "ev"
      rw [if_pos (by omega)]
      walk_at "st"
      rw [rdL_of i2]
      walk_at "ev"
      walk_at "st"
      refine ⟨cdiv_s h0 (by omega), ?_⟩
      simp only [setS, i2]
      walk_at "ev"
      walk_at "st"
      refine ⟨h0, ?_⟩
      refine q _ _ (Int.emod_nonneg _ (by omega)) (Int.emod_lt_of_pos _ h0) ⟨⟨ne, (y / m) :: ys, s, by rw [pupd_ne ne]; exact i1, by rw [pupd_same]; rfl, s0, s1⟩, fun b b1 b2 => by rw [pupd_ne b2]; exact i3 b b1 b2⟩
theorem sp_same_flat (x : PV) (f : flat x = true) (q0 : Q (.bl true) h) : L (k + 1) I__law_same [x, x] h Q X := by
  refine Lv_call d__law_same.fn rfl rfl ?_
  simp only [d__law_same, b__law_same]
  walk_at "in"
  cases x <;> first | cases f | skip
  · walk_at "st"; walk_at "st"; exact q0
  · walk_at "st"; walk_at "nx"; walk_at "st"; walk_at "st"; exact q0
  · walk_at "st"; walk_at "nx"; walk_at "st"; walk_at "nx"; walk_at "st"; walk_at "nx"; walk_at "st"; walk_at "nx"; walk_at "st"
    exact q0
  · walk_at "st"; walk_at "nx"; walk_at "st"; walk_at "nx"; walk_at "st"; walk_at "nx"; walk_at "st"; walk_at "st"
    exact q0
theorem same_items {n : Nat} {xs ys : List PV} {x y : PV} (yl : ys.length ≤ 16777216) (hx : ∀ h', Ext h h' → seqOf x h' = some xs) (hy : ∀ h', Ext h h' → seqOf y h' = some ys) (s : SmL (Sm h n) xs ys)
    (ih : ∀ {h : PH} {Q : QK} {X : XK} (x y : PV), Sm h n x y → (∀ h', Ext h h' → Q (.bl true) h') → L (k + n + 1) I__law_same [x, y] h Q X) {Q : List PV → PH → Prop} (q : ∀ h', Ext h h' → Q ((rgL 0 ys.length).map fun _ => .bl true) h') {h1 : PH} (e1 : Ext h h1) :
    cprW (L (k + n + 1)) (.nm 2) .yes (.call I__law_same (.cons (.ix (.v 0) (.v 2)) (.cons (.ix (.v 1) (.v 2)) .nil))) (fun _ => True) [some x, some y, none] Q (rgL 0 ys.length) h1 := by
  refine cpr_inv (fun h' => Ext h h') (fun _ => true) (fun _ => .bl true) (by rw [rgL_len]; exact yl) e1 (fun _ _ => trivial) ?_ ?_
  · intro v hv h' e' R S r s'
    obtain ⟨i, hi, rfl⟩ := rgL_mem hv
    have xl := s.len
    obtain ⟨u, w, hu, hw, huw⟩ := s.at xs ys i (by omega)
    have ex := hx h' e'
    have ey := hy h' e'
    have fin : L (k + n + 1) I__law_same [u, w] h' R fun _ _ => False := ih u w (huw.ext e') fun h2 e2 => r rfl h2 (e'.trans e2)
    have nx : x.isStr = false := by cases x <;> first | rfl | cases ex
    have ny : y.isStr = false := by cases y <;> first | rfl | cases ey
    simp only [wTg, wT, wE, wEs, List.set_cons_zero, List.set_cons_succ, List.getElem?_cons_zero, List.getElem?_cons_succ, ↓reduceIte]
    refine ixS_of nx ex (ixN_nat (by omega)) hu ?_
    refine ixS_of ny ey (ixN_nat hi) hw fin
  · intro h' e'
    rw [filter_true _ (fun _ => rfl)]
    exact q h' e'
theorem sp_same : ∀ (n : Nat) {h : PH} {Q : QK} {X : XK} (x y : PV), Sm h n x y → (∀ h', Ext h h' → Q (.bl true) h') → L (k + n + 1) I__law_same [x, y] h Q X := by
  intro n
  induction n with
  | zero =>
    intro h Q X x y s q
    have q0 := q h (Ext.refl h)
    cases x <;> cases y <;> first | exact False.elim s | (simp only [Sm] at s; subst s; exact sp_same_flat _ rfl q0) | exact sp_same_flat _ rfl q0
  | succ n ih =>
    intro h Q X x y s q
    have q0 := q h (Ext.refl h)
    cases x <;> cases y <;> first | exact False.elim s | (simp only [Sm] at s; subst s; exact sp_same_flat _ rfl q0) | exact sp_same_flat _ rfl q0 | skip
    · rename_i xs ys
      refine Lv_call d__law_same.fn rfl rfl ?_
      simp only [d__law_same, b__law_same]
      walk_at "in"
      have sl := s.2.len
      have s1 := s.1
      walk_at "st"; walk_at "nx"; walk_at "st"; walk_at "nx"; walk_at "st"
      walk_at "st"; walk_at "nx"; walk_at "st"
      rw [if_pos (by omega)]
      refine ⟨⟨by omega, by omega⟩, same_items (by omega) (fun _ _ => rfl) (fun _ _ => rfl) s.2 ih (fun h' e' p hp => ?_) (Ext.refl h)⟩
      walk_at "ev"
      simp only [blsOf_bl]
      have : (List.map (fun _ => true) (rgL 0 (ys.length : Int))).all id = true := by simp
      rw [this]
      exact q _ (e'.trans (Ext.new hp))
    · rename_i a b
      obtain ⟨xs, ys, ha, hb, s1, s2⟩ := s
      refine Lv_call d__law_same.fn rfl rfl ?_
      simp only [d__law_same, b__law_same]
      walk_at "in"
      have sl := s2.len
      have ra := refOk_of ha
      have rb := refOk_of hb
      walk_at "st"; walk_at "nx"; walk_at "st"
      refine ⟨rb, ?_⟩
      walk_at "nx"; walk_at "st"
      refine ⟨rb, ?_⟩
      walk_at "st"
      refine ⟨rb, ra, ?_⟩
      (try walk_at "ev")
      refine ⟨rb, ra, ?_⟩
      walk_at "nx"; walk_at "st"
      rw [rdL_of ha, rdL_of hb]
      walk_at "ev"
      rw [if_pos (by omega)]
      have ea : ∀ h', Ext h h' → seqOf (.ref a) h' = some xs := fun h' e => rdL_of (e _ _ ha)
      have eb : ∀ h', Ext h h' → seqOf (.ref b) h' = some ys := fun h' e => rdL_of (e _ _ hb)
      refine ⟨⟨by omega, by omega⟩, same_items (by omega) ea eb s2 ih (fun h' e' p hp => ?_) (Ext.refl h)⟩
      walk_at "ev"
      simp only [blsOf_bl]
      have : (List.map (fun _ => true) (rgL 0 (ys.length : Int))).all id = true := by simp
      rw [this]
      exact q _ (e'.trans (Ext.new hp))
theorem sp_common (a b : Int) (q : Q (.int (Int.gcd a b)) h) : L (k + 1) I__law_common [.int a, .int b] h Q X := by
  refine Lv_call d__law_common.fn rfl rfl ?_
  simp only [d__law_common, b__law_common]
  walk_at "in"
  walk_at "st"
  refine ss_whl ?_
  rw [abs_eq, abs_eq]
  refine whl_inv (α := Nat × Nat) (st := fun p => [some (.int p.1), some (.int p.2)]) (hp := fun _ => h) (I := fun p => Nat.gcd p.1 p.2 = Int.gcd a b) (μ := fun p => p.2) (a.natAbs, b.natAbs) rfl ?_
  intro N p hp hN
  walk_at "ev"
  split
  · rename_i e
    walk_at "st"
    have e2 : p.2 = 0 := by omega
    rw [e2, Nat.gcd_zero_right] at hp
    rw [hp]
    exact q
  · rename_i e
    walk_at "st"
    refine ⟨by omega, ?_⟩
    walk_at "nx"
    have := hN (p.2, p.1 % p.2) (by rw [gcd_step _ _ (by omega)]; exact hp) (Nat.mod_lt _ (by omega))
    simpa using this
/-- an answer that is refused -/
theorem sp_refused (kd f : Nat) (a b : PV) (hk : (kd = 0 ∧ f = I_undone) ∨ (kd = 1 ∧ f = I_together) ∨ (kd = 2 ∧ f = I_figures)) (p : ∀ Q' X', (∀ h', Ext h h' → X' (.own 1) h') → L k f [a, b] h Q' X') (q : ∀ h', Ext h h' → Q (.bl true) h') : L (k + 1) I__law_refused [.int kd, a, b] h Q X := by
  refine Lv_call d__law_refused.fn rfl rfl ?_
  simp only [d__law_refused, b__law_refused]
  walk_at "in"
  rcases hk with ⟨rfl, rfl⟩ | ⟨rfl, rfl⟩ | ⟨rfl, rfl⟩
  · walk_at "st"; walk_at "st"; walk_at "st"
    refine p _ _ fun h' e => ?_
    exact q h' e
  · walk_at "st"; walk_at "st"; walk_at "st"; walk_at "st"
    refine p _ _ fun h' e => ?_
    exact q h' e
  · walk_at "st"; walk_at "st"; walk_at "st"; walk_at "st"; walk_at "st"
    refine p _ _ fun h' e => ?_
    exact q h' e
theorem sp_refused3 (a b : PV) (p : ∀ Q' X', (∀ h', Ext h h' → X' (.own 1) h') → L k I_all_together [a] h Q' X') (q : ∀ h', Ext h h' → Q (.bl true) h') : L (k + 1) I__law_refused [.int 3, a, b] h Q X := by
  refine Lv_call d__law_refused.fn rfl rfl ?_
  simp only [d__law_refused, b__law_refused]
  walk_at "in"
  walk_at "st"; walk_at "st"; walk_at "st"; walk_at "st"; walk_at "st"
  refine p _ _ fun h' e => ?_
  exact q h' e
/-- the rows of the law's own division: l, r at the end -/
theorem sp_rows (a b : Int) (ha : 0 ≤ a) (hb : 0 ≤ b) (hM : a < 2 ^ 500) (hN : b < 1000000) (q : ∀ h', Ext h h' → Q (pv3 (wf a b)) h') : L (k + 1) I__law_rows [.int a, .int b] h Q X := by
  refine Lv_call d__law_rows.fn rfl rfl ?_
  simp only [d__law_rows, b__law_rows]
  walk_at "in"
  walk_at "st"
  intro p hp
  refine ss_whl ?_
  refine whl_inv (α := (I3 × I3) × (List PV × Option PV × PH)) (st := fun x => [some (.int a), some (.int b), some (.ref p), x.2.2.1, none, none]) (hp := fun x => x.2.2.2)
    (I := fun x => (∃ M, 0 ≤ M ∧ M < 2 ^ 500 ∧ WfI a b M x.1.1 x.1.2) ∧ Ext h x.2.2.2 ∧ (x.2.2.2 p = some (.lst (x.2.1 ++ [pv3 x.1.1, pv3 x.1.2])) ∧ (x.2.1.length : Int) + x.1.2.1 ≤ b) ∧ ∃ n : Nat, x.1.2.1 < (n : Int) ∧ wfG n x.1.1 x.1.2 = wf a b) (μ := fun x => x.1.2.1.toNat)
    (((a, 1, 0), (b, 0, 1)), ([], none, _)) ⟨?_, Ext.new hp, ⟨pupd_same, by simp⟩, b.toNat + 1, by simp only; omega, rfl⟩ ?_
  · by_cases c : a ≤ b
    · exact ⟨b, hb, by omega, WfI.start ha hb c (Int.le_refl b)⟩
    · exact ⟨a, ha, hM, WfI.start ha hb (Int.le_refl a) (by omega)⟩
  rintro N ⟨⟨l, r⟩, ⟨us, tm, h1⟩⟩ ⟨⟨M, hM0, hM1, i⟩, he, ⟨hx, hu⟩, n, hn, hw⟩ hN
  simp only at i he hn hw hx hu ⊢
  have len : (us ++ [pv3 l, pv3 r]).length = us.length + 2 := by simp
  have at1 : (us ++ [pv3 l, pv3 r])[us.length + 1]? = some (pv3 r) := by rw [List.getElem?_append_right (by omega)]; simp
  have at2 : (us ++ [pv3 l, pv3 r])[us.length]? = some (pv3 l) := by rw [List.getElem?_append_right (by omega)]; simp
  have ix1 : L2.ixN (us ++ [pv3 l, pv3 r]).length (-1) = some (us.length + 1) := by rw [len, ixN_neg (by decide) (by omega)]; congr 1; omega
  have ix2 : L2.ixN (us ++ [pv3 l, pv3 r]).length (-2) = some us.length := by rw [len, ixN_neg (by decide) (by omega)]; congr 1; omega
  walk_at "ev"
  simp only [rdL_of hx, ix1, at1, Option.bind_some]
  walk_at "ev"
  split
  · rename_i e
    walk_at "st"
    simp only [rdL_of hx, ix2, at2, Option.bind_some]
    have : wfG n l r = l := by cases n with
      | zero => rfl
      | succ n => unfold wfG; rw [if_pos e]
    rw [← hw, this] at q
    exact q h1 he
  · rename_i e
    have r0 : 0 < r.1 := by have := i.r0; omega
    have lM := i.lM
    have rM := i.rM
    have l0 := i.l0
    have d0 : l.1 / r.1 ≤ l.1 := Int.ediv_le_self _ l0
    have d1 : 0 ≤ l.1 / r.1 := Int.ediv_nonneg l0 (by omega)
    have b1 := i.b1
    have b2 := i.b2
    walk_at "st"
    simp only [rdL_of hx, ix2, at2, Option.bind_some]
    walk_at "ev"
    simp only [rdL_of hx, ix1, at1, Option.bind_some]
    walk_at "ev"
    refine ⟨cdiv_b r0 500 (by omega) (by decide), ?_⟩
    walk_at "st"
    simp only [hx, rdL_of hx, ix2, at2, ix1, at1, Option.bind_some]
    walk_at "un"
    refine ⟨cmul_b 500 500 (by decide) (by decide) (by omega) (by omega) (by decide), cmul_b 500 501 (by decide) (by decide) (by omega) (by omega) (by decide), cmul_b 500 501 (by decide) (by decide) (by omega) (by omega) (by decide), ?_⟩
    intro p2 hp2
    have np : p ≠ p2 := ne_new hx hp2
    walk_at "ev"
    simp only [pupd_ne np, hx, mthL]
    refine ⟨by simp only [List.length_append, List.length_cons, List.length_nil]; omega, ?_⟩
    walk_at "nx"
    have st := i.step e
    have lt : (wfS l r).1 < r.1 := by rw [wfS_fst]; exact Int.emod_lt_of_pos _ r0
    have := hN ((r, wfS l r), (us ++ [pv3 l], some (.int (l.1 / r.1)), pupd (pupd h1 p2 (.lst [.int (wfS l r).1, .int (wfS l r).2.1, .int (wfS l r).2.2])) p (.lst (us ++ [pv3 l, pv3 r] ++ [pv3 (wfS l r)])))) ⟨⟨M, hM0, hM1, st⟩, ?_, ⟨?_, ?_⟩, ?_⟩ (by have := st.r0; simp only; omega)
    · exact this
    · exact fun u o eu => (pupd_ne (ne_new eu hp)).trans ((pupd_ne (ne_new (he u o eu) hp2)).trans (he u o eu))
    · exact pupd_same.trans (by simp)
    · simp only [List.length_append, List.length_singleton]; omega
    · cases n with
      | zero => omega
      | succ n =>
        refine ⟨n, by simp only; omega, ?_⟩
        rw [← hw]
        conv => rhs; unfold wfG
        rw [if_neg e]
end Co.G
namespace Co.G
open PySem Co
local macro_rules | `(tactic| walk_at "st") => `(tactic| ((try simp only [↓wE_cpr, wS, wE, wEs, wEo, wT, wTg, wTgs, wIt, tgsLen, endF, List.set_cons_zero, List.set_cons_succ, List.getElem?_cons_zero, List.getElem?_cons_succ, List.length_cons, List.length_nil, Nat.reduceAdd, Nat.reduceLeDiff, Nat.reduceLT, seqOf_tup, seqOf_rol, true_and, and_true, decide_eq_true_eq, Bool.not_eq_true', Bool.not_true, Bool.not_false, decide_eq_false_iff_not, ite_not, ixN_z, ixN_pos, ixN_neg, Int.reduceLE, Int.reduceLT, Int.reduceNeg, Int.reduceAdd, Int.reduceToNat, Int.cast_ofNat_Int, ↓reduceIte, Option.bind_some, pv3, Bool.false_eq_true, Bool.true_eq_false, eq_self, isnS, Bool.not_eq_eq_eq_not, zipOk, zipL, List.zip_cons_cons, List.zip_nil_right, List.zip_nil_left, List.map_cons, List.map_nil, wipe, okOf, List.nil_append, List.cons_append, augS, hdS, hdsS, rdL_same, isTy, List.any_cons, List.any_nil, Bool.or_false, Bool.or_true, Bool.true_or, List.eraseIdx_cons_zero, decide_true, decide_false, Int.reduceEq, Option.some.injEq, bop_addi, bop_adds, bop_addt, bop_addl, bop_sub, bop_mul, bop_fdiv, bop_mod, bop_pow, neg_int, tru_non, tru_bl, tru_int, tru_str, tru_tup, tru_rol, tru_ref, eq_int, eq_bl, eq_str, eq_non, cop_eq, cop_ne, cop_in, cop_ni, cop_is, cop_isn, cop_lt, cop_le, cop_gt, cop_ge, blt_lens, blt_lent, blt_leno, blt_lenr, blt_abs, blt_int, blt_intb, blt_max2, blt_min2, blt_sum, blt_all, blt_any, blt_max1, blt_min1, blt_tupt, blt_tupo, blt_tupr, blt_lstt, blt_lsto, blt_lstr, blt_sorted, ix_tup, ix_rol, ix_ref, sl_tup, sl_rol, sl_ref, mth_ref, lstOk_ref, seqS_tup, seqS_rol, seqS_ref, intS_int, int2S_int, refOk_non, refOk_bl, refOk_int, refOk_str, refOk_tup, refOk_rol, isi_]); (repeat (rw [ss_nil_eq]; (try dsimp only))); rw [ss_cons_eq]; simp only [↓wE_cpr, wS, wE, wEs, wEo, wT, wTg, wTgs, wIt, tgsLen, endF, List.set_cons_zero, List.set_cons_succ, List.getElem?_cons_zero, List.getElem?_cons_succ, List.length_cons, List.length_nil, Nat.reduceAdd, Nat.reduceLeDiff, Nat.reduceLT, seqOf_tup, seqOf_rol, true_and, and_true, decide_eq_true_eq, Bool.not_eq_true', Bool.not_true, Bool.not_false, decide_eq_false_iff_not, ite_not, ixN_z, ixN_pos, ixN_neg, Int.reduceLE, Int.reduceLT, Int.reduceNeg, Int.reduceAdd, Int.reduceToNat, Int.cast_ofNat_Int, ↓reduceIte, Option.bind_some, pv3, Bool.false_eq_true, Bool.true_eq_false, eq_self, isnS, Bool.not_eq_eq_eq_not, zipOk, zipL, List.zip_cons_cons, List.zip_nil_right, List.zip_nil_left, List.map_cons, List.map_nil, wipe, okOf, List.nil_append, List.cons_append, augS, hdS, hdsS, rdL_same, isTy, List.any_cons, List.any_nil, Bool.or_false, Bool.or_true, Bool.true_or, List.eraseIdx_cons_zero, decide_true, decide_false, Int.reduceEq, Option.some.injEq, bop_addi, bop_adds, bop_addt, bop_addl, bop_sub, bop_mul, bop_fdiv, bop_mod, bop_pow, neg_int, tru_non, tru_bl, tru_int, tru_str, tru_tup, tru_rol, tru_ref, eq_int, eq_bl, eq_str, eq_non, cop_eq, cop_ne, cop_in, cop_ni, cop_is, cop_isn, cop_lt, cop_le, cop_gt, cop_ge, blt_lens, blt_lent, blt_leno, blt_lenr, blt_abs, blt_int, blt_intb, blt_max2, blt_min2, blt_sum, blt_all, blt_any, blt_max1, blt_min1, blt_tupt, blt_tupo, blt_tupr, blt_lstt, blt_lsto, blt_lstr, blt_sorted, ix_tup, ix_rol, ix_ref, sl_tup, sl_rol, sl_ref, mth_ref, lstOk_ref, seqS_tup, seqS_rol, seqS_ref, intS_int, int2S_int, refOk_non, refOk_bl, refOk_int, refOk_str, refOk_tup, refOk_rol, isi_]))
local macro_rules | `(tactic| walk_at "ev") => `(tactic| (try simp only [↓wE_cpr, wS, wE, wEs, wEo, wT, wTg, wTgs, wIt, tgsLen, endF, List.set_cons_zero, List.set_cons_succ, List.getElem?_cons_zero, List.getElem?_cons_succ, List.length_cons, List.length_nil, Nat.reduceAdd, Nat.reduceLeDiff, Nat.reduceLT, seqOf_tup, seqOf_rol, true_and, and_true, decide_eq_true_eq, Bool.not_eq_true', Bool.not_true, Bool.not_false, decide_eq_false_iff_not, ite_not, ixN_z, ixN_pos, ixN_neg, Int.reduceLE, Int.reduceLT, Int.reduceNeg, Int.reduceAdd, Int.reduceToNat, Int.cast_ofNat_Int, ↓reduceIte, Option.bind_some, pv3, Bool.false_eq_true, Bool.true_eq_false, eq_self, isnS, Bool.not_eq_eq_eq_not, zipOk, zipL, List.zip_cons_cons, List.zip_nil_right, List.zip_nil_left, List.map_cons, List.map_nil, wipe, okOf, List.nil_append, List.cons_append, augS, hdS, hdsS, rdL_same, isTy, List.any_cons, List.any_nil, Bool.or_false, Bool.or_true, Bool.true_or, List.eraseIdx_cons_zero, decide_true, decide_false, Int.reduceEq, Option.some.injEq, bop_addi, bop_adds, bop_addt, bop_addl, bop_sub, bop_mul, bop_fdiv, bop_mod, bop_pow, neg_int, tru_non, tru_bl, tru_int, tru_str, tru_tup, tru_rol, tru_ref, eq_int, eq_bl, eq_str, eq_non, cop_eq, cop_ne, cop_in, cop_ni, cop_is, cop_isn, cop_lt, cop_le, cop_gt, cop_ge, blt_lens, blt_lent, blt_leno, blt_lenr, blt_abs, blt_int, blt_intb, blt_max2, blt_min2, blt_sum, blt_all, blt_any, blt_max1, blt_min1, blt_tupt, blt_tupo, blt_tupr, blt_lstt, blt_lsto, blt_lstr, blt_sorted, ix_tup, ix_rol, ix_ref, sl_tup, sl_rol, sl_ref, mth_ref, lstOk_ref, seqS_tup, seqS_rol, seqS_ref, intS_int, int2S_int, refOk_non, refOk_bl, refOk_int, refOk_str, refOk_tup, refOk_rol, isi_]))
local macro_rules | `(tactic| walk_at "un") => `(tactic| (try simp only [cprW, cprL, wS, wE, wEs, wEo, wT, wTg, wTgs, wIt, tgsLen, endF, List.set_cons_zero, List.set_cons_succ, List.getElem?_cons_zero, List.getElem?_cons_succ, List.length_cons, List.length_nil, Nat.reduceAdd, Nat.reduceLeDiff, Nat.reduceLT, seqOf_tup, seqOf_rol, true_and, and_true, decide_eq_true_eq, Bool.not_eq_true', Bool.not_true, Bool.not_false, decide_eq_false_iff_not, ite_not, ixN_z, ixN_pos, ixN_neg, Int.reduceLE, Int.reduceLT, Int.reduceNeg, Int.reduceAdd, Int.reduceToNat, Int.cast_ofNat_Int, ↓reduceIte, Option.bind_some, pv3, Bool.false_eq_true, Bool.true_eq_false, eq_self, isnS, Bool.not_eq_eq_eq_not, zipOk, zipL, List.zip_cons_cons, List.zip_nil_right, List.zip_nil_left, List.map_cons, List.map_nil, wipe, okOf, List.nil_append, List.cons_append, augS, hdS, hdsS, rdL_same, isTy, List.any_cons, List.any_nil, Bool.or_false, Bool.or_true, Bool.true_or, List.eraseIdx_cons_zero, decide_true, decide_false, Int.reduceEq, Option.some.injEq, bop_addi, bop_adds, bop_addt, bop_addl, bop_sub, bop_mul, bop_fdiv, bop_mod, bop_pow, neg_int, tru_non, tru_bl, tru_int, tru_str, tru_tup, tru_rol, tru_ref, eq_int, eq_bl, eq_str, eq_non, cop_eq, cop_ne, cop_in, cop_ni, cop_is, cop_isn, cop_lt, cop_le, cop_gt, cop_ge, blt_lens, blt_lent, blt_leno, blt_lenr, blt_abs, blt_int, blt_intb, blt_max2, blt_min2, blt_sum, blt_all, blt_any, blt_max1, blt_min1, blt_tupt, blt_tupo, blt_tupr, blt_lstt, blt_lsto, blt_lstr, blt_sorted, ix_tup, ix_rol, ix_ref, sl_tup, sl_rol, sl_ref, mth_ref, lstOk_ref, seqS_tup, seqS_rol, seqS_ref, intS_int, int2S_int, refOk_non, refOk_bl, refOk_int, refOk_str, refOk_tup, refOk_rol, isi_]))
local macro_rules | `(tactic| walk_at "in") => `(tactic| (simp only [Fd.fn, startP, List.map_cons, List.map_nil, List.length_cons, List.length_nil, List.replicate, List.append_nil, Nat.sub_self, List.cons_append, List.nil_append, Nat.reduceSub, Nat.reduceAdd]))
local macro_rules | `(tactic| walk_at "nx") => `(tactic| (rw [ss_nil_eq]; (try dsimp only)))
abbrev b_law2 : Ss := (.cons (.asg (.nm 10) (.bin .add (.bin .mul (.bin .mul (.v 2) (.v 2)) (.k (.int 1000003))) (.v 3)))
  (.cons (.ife (.or (.e (.cmp .gt (.bin .pow (.call 8 (.cons (.v 10) .nil)) (.k (.int 2))) (.v 10))) (.or (.e (.cmp .le (.bin .pow (.bin .add (.call 8 (.cons (.v 10) .nil)) (.k (.int 1))) (.k (.int 2))) (.v 10))) (.not (.e (.call 15 (.cons (.lst (.cons (.call 8 (.cons (.k (.int 0)) .nil)) (.cons (.call 8 (.cons (.k (.int 1)) .nil)) (.cons (.call 8 (.cons (.k (.int 3)) .nil)) (.cons (.call 8 (.cons (.k (.int 4)) .nil)) .nil))))) (.cons (.lst (.cons (.k (.int 0)) (.cons (.k (.int 1)) (.cons (.k (.int 1)) (.cons (.k (.int 2)) .nil))))) .nil))))))) (.cons (.ret (.k (.bl false)))
  .nil) .nil)
  (.cons (.asg (.nm 11) (.bin .add (.k (.int 1)) (.call 14 (.cons (.v 1) (.cons (.k (.int 60)) .nil)))))
  (.cons (.asg (.tp (.cons (.nm 12) (.cons (.nm 13) .nil))) (.tup (.cons (.tup (.cons (.call 14 (.cons (.v 1) (.cons (.v 4) .nil))) (.cons (.v 4) .nil))) (.cons (.tup (.cons (.call 14 (.cons (.v 1) (.cons (.v 11) .nil))) (.cons (.v 11) .nil))) .nil))))
  (.cons (.asg (.nm 14) (.bin .mul (.bin .fdiv (.v 4) (.call 16 (.cons (.v 4) (.cons (.v 11) .nil)))) (.v 11)))
  (.cons (.asg (.nm 15) (.cpr (.rng1 (.v 14)) (.nm 23) (.and (.e (.cmp .eq (.bin .mod (.v 23) (.v 4)) (.ix (.v 12) (.k (.int 0))))) (.e (.cmp .eq (.bin .mod (.v 23) (.v 11)) (.ix (.v 13) (.k (.int 0)))))) (.v 23) [23]))
  (.cons (.ife (.not (.e (.call 15 (.cons (.call 10 (.cons (.v 12) (.cons (.v 13) .nil))) (.cons (.ite (.e (.cmp .ne (.v 15) (.lst .nil))) (.tup (.cons (.ix (.v 15) (.k (.int 0))) (.cons (.v 14) .nil))) (.k .non)) .nil))))) (.cons (.ret (.k (.bl false)))
  .nil) .nil)
  (.cons (.asg (.nm 16) (.tup (.cons (.call 14 (.cons (.v 1) (.cons (.k (.int 5)) .nil))) (.cons (.k (.int 5)) .nil))))
  (.cons (.asg (.nm 17) (.bin .mul (.bin .fdiv (.v 14) (.call 16 (.cons (.v 14) (.cons (.k (.int 5)) .nil)))) (.k (.int 5))))
  (.cons (.asg (.nm 18) (.cpr (.rng1 (.v 17)) (.nm 23) (.and (.e (.cmp .ne (.v 15) (.lst .nil))) (.and (.e (.cmp .eq (.bin .mod (.v 23) (.v 14)) (.ix (.v 15) (.k (.int 0))))) (.e (.cmp .eq (.bin .mod (.v 23) (.k (.int 5))) (.ix (.v 16) (.k (.int 0))))))) (.v 23) [23]))
  (.cons (.ife (.not (.e (.call 15 (.cons (.call 11 (.cons (.tup (.cons (.v 12) (.cons (.v 13) (.cons (.v 16) .nil)))) .nil)) (.cons (.ite (.e (.cmp .ne (.v 18) (.lst .nil))) (.tup (.cons (.ix (.v 18) (.k (.int 0))) (.cons (.v 17) .nil))) (.k .non)) .nil))))) (.cons (.ret (.k (.bl false)))
  .nil) .nil)
  (.cons (.asg (.nm 19) (.bin .add (.k (.int 2)) (.call 14 (.cons (.v 1) (.cons (.k (.int 9)) .nil)))))
  (.cons (.asg (.nm 20) (.call 12 (.cons (.v 10) (.cons (.v 19) .nil))))
  (.cons (.ife (.or (.e (.blt .any (.cons (.cpr (.seq (.v 20)) (.nm 22) .yes (.not (.chn .le .lt (.k (.int 0)) (.v 22) (.v 19))) [22]) .nil))) (.and (.e (.cmp .ne (.v 20) (.tup .nil))) (.e (.cmp .eq (.ix (.v 20) (.neg (.k (.int 1)))) (.k (.int 0)))))) (.cons (.ret (.k (.bl false)))
  .nil) .nil)
  (.cons (.asg (.nm 21) (.k (.int 0)))
  (.cons (.for (.rev (.v 20)) (.nm 22) (.cons (.asg (.nm 21) (.bin .add (.bin .mul (.v 21) (.v 19)) (.v 22)))
  .nil))
  (.cons (.ife (.or (.e (.cmp .ne (.v 21) (.v 10))) (.or (.not (.e (.call 15 (.cons (.call 12 (.cons (.k (.int 0)) (.cons (.v 19) .nil))) (.cons (.tup .nil) .nil))))) (.not (.e (.call 15 (.cons (.call 11 (.cons (.tup .nil) .nil)) (.cons (.tup (.cons (.k (.int 0)) (.cons (.k (.int 1)) .nil))) .nil))))))) (.cons (.ret (.k (.bl false)))
  .nil) .nil)
  (.cons (.ife (.not (.e (.call 15 (.cons (.lst (.cons (.call 9 (.cons (.tup (.cons (.k (.int 0)) (.cons (.k (.int 1)) .nil))) .nil)) (.cons (.call 9 (.cons (.tup (.cons (.k (.int 3)) (.cons (.k (.int 3)) .nil))) .nil)) (.cons (.call 9 (.cons (.tup (.cons (.k (.bl true)) (.cons (.k (.int 2)) .nil))) .nil)) (.cons (.call 9 (.cons (.lst (.cons (.k (.int 0)) (.cons (.k (.int 1)) .nil))) .nil)) (.cons (.call 0 (.cons (.neg (.k (.int 1))) .nil)) (.cons (.call 0 (.cons (.k (.bl true)) .nil)) .nil))))))) (.cons (.lst (.cons (.k (.bl true)) (.cons (.k (.bl false)) (.cons (.k (.bl false)) (.cons (.k (.bl false)) (.cons (.k (.bl false)) (.cons (.k (.bl false)) .nil))))))) .nil))))) (.cons (.ret (.k (.bl false)))
  .nil) .nil)
  (.cons (.ret (.blt .all (.cons (.lst (.cons (.call 17 (.cons (.k (.int 2)) (.cons (.k (.int 5)) (.cons (.k (.int 1)) .nil)))) (.cons (.call 17 (.cons (.k (.int 1)) (.cons (.tup (.cons (.k (.int 2)) (.cons (.k (.int 2)) .nil))) (.cons (.tup (.cons (.k (.int 0)) (.cons (.k (.int 1)) .nil))) .nil)))) (.cons (.call 17 (.cons (.k (.int 3)) (.cons (.lst (.cons (.tup (.cons (.k (.int 0)) (.cons (.k (.int 1)) .nil))) .nil)) (.cons (.k .non) .nil)))) (.cons (.call 17 (.cons (.k (.int 0)) (.cons (.k (.bl true)) (.cons (.k (.int 3)) .nil)))) (.cons (.call 17 (.cons (.k (.int 0)) (.cons (.k (.int 2)) (.cons (.k (.int 0)) .nil)))) .nil)))))) .nil)))
  .nil)))))))))))))))))))
abbrev b_law4 : Ss := (.cons (.asg (.nm 21) (.k (.int 0)))
  (.cons (.for (.rev (.v 20)) (.nm 22) (.cons (.asg (.nm 21) (.bin .add (.bin .mul (.v 21) (.v 19)) (.v 22)))
  .nil))
  (.cons (.ife (.or (.e (.cmp .ne (.v 21) (.v 10))) (.or (.not (.e (.call 15 (.cons (.call 12 (.cons (.k (.int 0)) (.cons (.v 19) .nil))) (.cons (.tup .nil) .nil))))) (.not (.e (.call 15 (.cons (.call 11 (.cons (.tup .nil) .nil)) (.cons (.tup (.cons (.k (.int 0)) (.cons (.k (.int 1)) .nil))) .nil))))))) (.cons (.ret (.k (.bl false)))
  .nil) .nil)
  (.cons (.ife (.not (.e (.call 15 (.cons (.lst (.cons (.call 9 (.cons (.tup (.cons (.k (.int 0)) (.cons (.k (.int 1)) .nil))) .nil)) (.cons (.call 9 (.cons (.tup (.cons (.k (.int 3)) (.cons (.k (.int 3)) .nil))) .nil)) (.cons (.call 9 (.cons (.tup (.cons (.k (.bl true)) (.cons (.k (.int 2)) .nil))) .nil)) (.cons (.call 9 (.cons (.lst (.cons (.k (.int 0)) (.cons (.k (.int 1)) .nil))) .nil)) (.cons (.call 0 (.cons (.neg (.k (.int 1))) .nil)) (.cons (.call 0 (.cons (.k (.bl true)) .nil)) .nil))))))) (.cons (.lst (.cons (.k (.bl true)) (.cons (.k (.bl false)) (.cons (.k (.bl false)) (.cons (.k (.bl false)) (.cons (.k (.bl false)) (.cons (.k (.bl false)) .nil))))))) .nil))))) (.cons (.ret (.k (.bl false)))
  .nil) .nil)
  (.cons (.ret (.blt .all (.cons (.lst (.cons (.call 17 (.cons (.k (.int 2)) (.cons (.k (.int 5)) (.cons (.k (.int 1)) .nil)))) (.cons (.call 17 (.cons (.k (.int 1)) (.cons (.tup (.cons (.k (.int 2)) (.cons (.k (.int 2)) .nil))) (.cons (.tup (.cons (.k (.int 0)) (.cons (.k (.int 1)) .nil))) .nil)))) (.cons (.call 17 (.cons (.k (.int 3)) (.cons (.lst (.cons (.tup (.cons (.k (.int 0)) (.cons (.k (.int 1)) .nil))) .nil)) (.cons (.k .non) .nil)))) (.cons (.call 17 (.cons (.k (.int 0)) (.cons (.k (.bl true)) (.cons (.k (.int 3)) .nil)))) (.cons (.call 17 (.cons (.k (.int 0)) (.cons (.k (.int 2)) (.cons (.k (.int 0)) .nil)))) .nil)))))) .nil)))
  .nil)))))
theorem law4 (a : Nat) (σ0 σ2 σ3 σ4 σ5 σ6 σ7 σ8 σ9 σ11 σ12 σ13 σ14 σ15 σ16 σ17 σ18 : Option PV) (great base : Int) (ds : List Int) (h : PH) (o0 : 0 ≤ great) (o1 : great < 2 ^ 60) (b2 : 2 ≤ base) (b3 : base ≤ 10) (fi : FigI base great ds 0) :
    wSs (subOf subT) (L 59) b_law4 (endF (fun v _ => v = .bl true) fun _ _ => False) [σ0, some (.ref a), σ2, σ3, σ4, σ5, σ6, σ7, σ8, σ9, some (.int great), σ11, σ12, σ13, σ14, σ15, σ16, σ17, σ18, some (.int base), some (.tup (ds.map .int)), none, none, none] h := by
  have dn : ∀ d ∈ ds, 0 ≤ d := fun d hd => (fi.ds0 d hd).1
  have vd : valD base ds = great := by have := fi.v; rwa [Int.mul_zero, Int.add_zero] at this
  walk_at "st"
  walk_at "st"
  refine for_inv (α := Int × Option PV) (st := fun x => [σ0, some (.ref a), σ2, σ3, σ4, σ5, σ6, σ7, σ8, σ9, some (.int great), σ11, σ12, σ13, σ14, σ15, σ16, σ17, σ18, some (.int base), some (.tup (ds.map .int)), some (.int x.1), x.2, none]) (hp := fun _ => h) (I := fun i x => x.1 = valD base (ds.drop (ds.length - i))) (0, none) (by simp [valD]) ?_ ?_
  · rintro N i v ⟨bk, u⟩ hv hb hN
    simp only at hb ⊢
    have il : i < ds.length := by
      have := (List.getElem?_eq_some_iff.1 hv).1
      simpa using this
    have ev : v = .int ds[ds.length - 1 - i] := by
      rw [List.getElem?_reverse (by simpa using il), List.getElem?_map, List.length_map, List.getElem?_eq_getElem (by omega)] at hv
      cases hv
      rfl
    subst ev
    refine ⟨rfl, ?_⟩
    have k0 : 0 ≤ bk := by rw [hb]; exact valD_nonneg (by omega) _ fun d hd => dn d (List.mem_of_mem_drop hd)
    have k1 : bk ≤ great := by rw [hb, ← vd]; exact valD_drop (by omega) _ _ dn
    walk_at "st"
    refine ⟨cmul_s (by omega) (by omega), ?_⟩
    walk_at "nx"
    refine hN (_, some _) ?_
    simp only
    have e : ds.length - i = ds.length - 1 - i + 1 := by omega
    rw [hb, e, show ds.length - (i + 1) = ds.length - 1 - i by omega]
    conv => rhs; rw [List.drop_eq_getElem_cons (by omega)]
    simp only [valD]
    grind
  · rintro ⟨bk, u⟩ hb
    simp only [List.length_reverse, List.length_map, Nat.sub_self, List.drop_zero] at hb ⊢
    refine ⟨rfl, ?_⟩
    rw [vd] at hb
    subst hb
    walk_at "st"
    refine sp_figures 0 base (by decide) (by decide) b2 (by omega) fun ds0 fi0 => ?_
    have : ds0 = [] := fi0.z rfl
    subst this
    walk_at "ev"
    refine sp_same 1 _ _ ⟨by simp, by simp [SmL]⟩ fun h1 e1 => ?_
    walk_at "ev"
    refine sp_all_together [] (by simp) (fun j => by simp [lcmF]) fun f ff h2 e2 => ?_
    have ef : foundV f = .tup [.int 0, .int 1] := by
      cases f with
      | none => exact absurd (fun _ h => nomatch h) (ff.no rfl 0)
      | some p =>
        obtain ⟨x1, x2, x3, _⟩ := ff.has p rfl
        have : p.2 = 1 := x1
        obtain ⟨p1, p2⟩ := p
        simp only at this x2 x3
        subst this
        obtain rfl : p1 = 0 := by omega
        rfl
    rw [ef]
    walk_at "ev"
    refine sp_same 1 _ _ ⟨by simp, by simp [SmL, Sm]⟩ fun h3 e3 => ?_
    walk_at "st"
    refine sp_is_rest 0 1 (by decide) (by decide) ?_
    refine sp_is_rest2 _ _ trivial trivial (fun i j ei ej _ _ => ?_) (fun no => absurd (by simp [isCnt]) no)
    cases ei; cases ej
    simp only [Int.lt_irrefl, decide_false]
    refine sp_is_rest2 _ _ trivial trivial (fun i j ei ej _ _ => by cases ei) (fun no => ?_)
    walk_at "ev"
    intro p1 f1
    refine sp_is_rest_no _ (refOk_of pupd_same) (fun _ e => by cases e) ?_
    walk_at "ev"
    refine sp_is_count _ trivial ?_
    refine sp_is_count _ trivial ?_
    walk_at "ev"
    intro p2 f2 p3 f3
    refine sp_same 1 _ _ ⟨_, _, (pupd_ne (ne_new pupd_same f3)).trans pupd_same, pupd_same, by simp, by simp [SmL, Sm, isCnt]⟩ fun h4 e4 => ?_
    walk_at "st"
    refine sp_refused 2 I_figures _ _ (Or.inr (Or.inr ⟨rfl, rfl⟩)) (fun Q' X' x => sp_figures_no 5 1 (by decide) (by decide) (by decide) (x _ (Ext.refl _))) fun h5 e5 => ?_
    walk_at "ev"
    refine sp_refused 1 I_together _ _ (Or.inr (Or.inl ⟨rfl, rfl⟩)) (fun Q' X' x => sp_together_no 2 2 _ trivial (by decide) (x _ (Ext.refl _))) fun h6 e6 => ?_
    walk_at "ev"
    intro p7 f7
    refine sp_refused3 _ _ (fun Q' X' x => sp_all_together_no _ (refOk_of pupd_same) (fun _ e => by cases e) (x _ (Ext.refl _))) fun h7 e7 => ?_
    walk_at "ev"
    refine sp_refused 0 I_undone _ _ (Or.inl ⟨rfl, rfl⟩) (fun Q' X' x => sp_undone_bl true 3 (x _ (Ext.refl _))) fun h8 e8 => ?_
    walk_at "ev"
    refine sp_refused 0 I_undone _ _ (Or.inl ⟨rfl, rfl⟩) (fun Q' X' x => sp_undone 2 0 (fun no => absurd no (by decide)) fun _ => x) fun h9 e9 => ?_
    walk_at "ev"
    intro p8 f8
    walk_at "ev"
    rfl
abbrev b_law3 : Ss := (.cons (.asg (.nm 19) (.bin .add (.k (.int 2)) (.call 14 (.cons (.v 1) (.cons (.k (.int 9)) .nil)))))
  (.cons (.asg (.nm 20) (.call 12 (.cons (.v 10) (.cons (.v 19) .nil))))
  (.cons (.ife (.or (.e (.blt .any (.cons (.cpr (.seq (.v 20)) (.nm 22) .yes (.not (.chn .le .lt (.k (.int 0)) (.v 22) (.v 19))) [22]) .nil))) (.and (.e (.cmp .ne (.v 20) (.tup .nil))) (.e (.cmp .eq (.ix (.v 20) (.neg (.k (.int 1)))) (.k (.int 0)))))) (.cons (.ret (.k (.bl false)))
  .nil) .nil)
  (.cons (.asg (.nm 21) (.k (.int 0)))
  (.cons (.for (.rev (.v 20)) (.nm 22) (.cons (.asg (.nm 21) (.bin .add (.bin .mul (.v 21) (.v 19)) (.v 22)))
  .nil))
  (.cons (.ife (.or (.e (.cmp .ne (.v 21) (.v 10))) (.or (.not (.e (.call 15 (.cons (.call 12 (.cons (.k (.int 0)) (.cons (.v 19) .nil))) (.cons (.tup .nil) .nil))))) (.not (.e (.call 15 (.cons (.call 11 (.cons (.tup .nil) .nil)) (.cons (.tup (.cons (.k (.int 0)) (.cons (.k (.int 1)) .nil))) .nil))))))) (.cons (.ret (.k (.bl false)))
  .nil) .nil)
  (.cons (.ife (.not (.e (.call 15 (.cons (.lst (.cons (.call 9 (.cons (.tup (.cons (.k (.int 0)) (.cons (.k (.int 1)) .nil))) .nil)) (.cons (.call 9 (.cons (.tup (.cons (.k (.int 3)) (.cons (.k (.int 3)) .nil))) .nil)) (.cons (.call 9 (.cons (.tup (.cons (.k (.bl true)) (.cons (.k (.int 2)) .nil))) .nil)) (.cons (.call 9 (.cons (.lst (.cons (.k (.int 0)) (.cons (.k (.int 1)) .nil))) .nil)) (.cons (.call 0 (.cons (.neg (.k (.int 1))) .nil)) (.cons (.call 0 (.cons (.k (.bl true)) .nil)) .nil))))))) (.cons (.lst (.cons (.k (.bl true)) (.cons (.k (.bl false)) (.cons (.k (.bl false)) (.cons (.k (.bl false)) (.cons (.k (.bl false)) (.cons (.k (.bl false)) .nil))))))) .nil))))) (.cons (.ret (.k (.bl false)))
  .nil) .nil)
  (.cons (.ret (.blt .all (.cons (.lst (.cons (.call 17 (.cons (.k (.int 2)) (.cons (.k (.int 5)) (.cons (.k (.int 1)) .nil)))) (.cons (.call 17 (.cons (.k (.int 1)) (.cons (.tup (.cons (.k (.int 2)) (.cons (.k (.int 2)) .nil))) (.cons (.tup (.cons (.k (.int 0)) (.cons (.k (.int 1)) .nil))) .nil)))) (.cons (.call 17 (.cons (.k (.int 3)) (.cons (.lst (.cons (.tup (.cons (.k (.int 0)) (.cons (.k (.int 1)) .nil))) .nil)) (.cons (.k .non) .nil)))) (.cons (.call 17 (.cons (.k (.int 0)) (.cons (.k (.bl true)) (.cons (.k (.int 3)) .nil)))) (.cons (.call 17 (.cons (.k (.int 0)) (.cons (.k (.int 2)) (.cons (.k (.int 0)) .nil)))) .nil)))))) .nil)))
  .nil))))))))
theorem law3 (a c : Nat) (σ0 σ2 σ3 σ4 σ5 σ6 σ7 σ8 σ9 σ11 σ12 σ13 σ14 σ15 σ16 σ17 σ18 : Option PV) (great : Int) (h : PH) (o0 : 0 ≤ great) (o1 : great < 2 ^ 60) (t : TapeAt a c h) :
    wSs (subOf subT) (L 59) b_law3 (endF (fun v _ => v = .bl true) fun _ _ => False) [σ0, some (.ref a), σ2, σ3, σ4, σ5, σ6, σ7, σ8, σ9, some (.int great), σ11, σ12, σ13, σ14, σ15, σ16, σ17, σ18, none, none, none, none, none] h := by
  walk_at "st"
  refine sp_draw a c 9 (by decide) (by decide) t fun bs h1 b0 b1 d1 => ?_
  walk_at "ev"
  generalize hb : 2 + bs = base
  have b2 : 2 ≤ base := by omega
  have b3 : base ≤ 10 := by omega
  walk_at "st"
  refine sp_figures great base o0 (by omega) b2 (by omega) fun ds fi => ?_
  have t1 := d1.t
  walk_at "st"
  refine cpr_int (fun h' => h' = h1) (fun _ => true) (fun d => .bl (!(decide (0 ≤ d) && decide (d < base)))) ?_ rfl (fun _ _ => rfl) ?_ ?_
  · have := fi.len
    omega
  · intro d hd h' eh R S r s
    have hd' := fi.ds0 d hd
    walk_at "ev"
    rw [decide_eq_true hd'.1]
    walk_at "ev"
    have := r rfl h' eh
    rw [decide_eq_true hd'.1, decide_eq_true hd'.2] at this
    rw [decide_eq_true hd'.2]
    exact this
  intro hh ehh
  rw [ehh]
  intro p f
  walk_at "ev"
  rw [filter_true _ (fun _ => rfl), blsOf_bl]
  have noany : (List.map (fun d => !(decide (0 ≤ d) && decide (d < base))) ds).any id = false := by
    rw [List.any_map, List.any_eq_false]
    intro d hd
    have hd' := fi.ds0 d hd
    simp [hd'.1, hd'.2]
  simp only [Option.bind_some]
  rw [noany]
  walk_at "ev"
  refine eqS_tnil ?_
  have t2 := t1.ext (Ext.new (o := .lst (List.map (fun d => PV.bl (!(decide (0 ≤ d) && decide (d < base)))) ds)) f)
  generalize pupd h1 p (.lst (List.map (fun d => PV.bl (!(decide (0 ≤ d) && decide (d < base)))) ds)) = h2 at t2 ⊢
  have cont : ∀ h3, Ext h2 h3 → wSs (subOf subT) (L 59) b_law4 (endF (fun v _ => v = .bl true) fun _ _ => False) [σ0, some (.ref a), σ2, σ3, σ4, σ5, σ6, σ7, σ8, σ9, some (.int great), σ11, σ12, σ13, σ14, σ15, σ16, σ17, σ18, some (.int base), some (.tup (ds.map .int)), none, none, none] h3 := fun h3 e3 => law4 a _ _ _ _ _ _ _ _ _ _ _ _ _ _ _ _ _ great base ds h3 o0 o1 b2 b3 fi
  cases hds : ds with
  | nil =>
    simp only [List.isEmpty_nil]
    walk_at "ev"
    walk_at "nx"
    rw [hds] at cont
    exact cont h2 (Ext.refl _)
  | cons d ds' =>
    rw [← hds]
    have ne : ds ≠ [] := by rw [hds]; simp
    have em : ds.isEmpty = false := by rw [hds]; rfl
    rw [em]
    walk_at "ev"
    have lp : 0 < ds.length := by rw [hds]; simp
    have ix : L2.ixN (List.map PV.int ds).length (-1) = some (ds.length - 1) := by
      rw [List.length_map, ixN_neg (by decide) (by omega)]
      congr 1
      omega
    have at1 : (List.map PV.int ds)[ds.length - 1]? = some (.int (ds.getLast ne)) := by
      rw [List.getElem?_map, ← List.getLast?_eq_getElem?, List.getLast?_eq_some_getLast ne]
      rfl
    have nz : ds.getLast ne ≠ 0 := fun e => by
      have := fi.l rfl
      rw [List.getLast?_eq_some_getLast ne, e] at this
      exact this rfl
    simp only [ix, at1, Option.bind_some]
    walk_at "ev"
    rw [if_neg nz]
    walk_at "nx"
    exact cont h2 (Ext.refl _)
abbrev b_law25 : Ss := (.cons (.asg (.nm 16) (.tup (.cons (.call 14 (.cons (.v 1) (.cons (.k (.int 5)) .nil))) (.cons (.k (.int 5)) .nil))))
  (.cons (.asg (.nm 17) (.bin .mul (.bin .fdiv (.v 14) (.call 16 (.cons (.v 14) (.cons (.k (.int 5)) .nil)))) (.k (.int 5))))
  (.cons (.asg (.nm 18) (.cpr (.rng1 (.v 17)) (.nm 23) (.and (.e (.cmp .ne (.v 15) (.lst .nil))) (.and (.e (.cmp .eq (.bin .mod (.v 23) (.v 14)) (.ix (.v 15) (.k (.int 0))))) (.e (.cmp .eq (.bin .mod (.v 23) (.k (.int 5))) (.ix (.v 16) (.k (.int 0))))))) (.v 23) [23]))
  (.cons (.ife (.not (.e (.call 15 (.cons (.call 11 (.cons (.tup (.cons (.v 12) (.cons (.v 13) (.cons (.v 16) .nil)))) .nil)) (.cons (.ite (.e (.cmp .ne (.v 18) (.lst .nil))) (.tup (.cons (.ix (.v 18) (.k (.int 0))) (.cons (.v 17) .nil))) (.k .non)) .nil))))) (.cons (.ret (.k (.bl false)))
  .nil) .nil)
  (.cons (.asg (.nm 19) (.bin .add (.k (.int 2)) (.call 14 (.cons (.v 1) (.cons (.k (.int 9)) .nil)))))
  (.cons (.asg (.nm 20) (.call 12 (.cons (.v 10) (.cons (.v 19) .nil))))
  (.cons (.ife (.or (.e (.blt .any (.cons (.cpr (.seq (.v 20)) (.nm 22) .yes (.not (.chn .le .lt (.k (.int 0)) (.v 22) (.v 19))) [22]) .nil))) (.and (.e (.cmp .ne (.v 20) (.tup .nil))) (.e (.cmp .eq (.ix (.v 20) (.neg (.k (.int 1)))) (.k (.int 0)))))) (.cons (.ret (.k (.bl false)))
  .nil) .nil)
  (.cons (.asg (.nm 21) (.k (.int 0)))
  (.cons (.for (.rev (.v 20)) (.nm 22) (.cons (.asg (.nm 21) (.bin .add (.bin .mul (.v 21) (.v 19)) (.v 22)))
  .nil))
  (.cons (.ife (.or (.e (.cmp .ne (.v 21) (.v 10))) (.or (.not (.e (.call 15 (.cons (.call 12 (.cons (.k (.int 0)) (.cons (.v 19) .nil))) (.cons (.tup .nil) .nil))))) (.not (.e (.call 15 (.cons (.call 11 (.cons (.tup .nil) .nil)) (.cons (.tup (.cons (.k (.int 0)) (.cons (.k (.int 1)) .nil))) .nil))))))) (.cons (.ret (.k (.bl false)))
  .nil) .nil)
  (.cons (.ife (.not (.e (.call 15 (.cons (.lst (.cons (.call 9 (.cons (.tup (.cons (.k (.int 0)) (.cons (.k (.int 1)) .nil))) .nil)) (.cons (.call 9 (.cons (.tup (.cons (.k (.int 3)) (.cons (.k (.int 3)) .nil))) .nil)) (.cons (.call 9 (.cons (.tup (.cons (.k (.bl true)) (.cons (.k (.int 2)) .nil))) .nil)) (.cons (.call 9 (.cons (.lst (.cons (.k (.int 0)) (.cons (.k (.int 1)) .nil))) .nil)) (.cons (.call 0 (.cons (.neg (.k (.int 1))) .nil)) (.cons (.call 0 (.cons (.k (.bl true)) .nil)) .nil))))))) (.cons (.lst (.cons (.k (.bl true)) (.cons (.k (.bl false)) (.cons (.k (.bl false)) (.cons (.k (.bl false)) (.cons (.k (.bl false)) (.cons (.k (.bl false)) .nil))))))) .nil))))) (.cons (.ret (.k (.bl false)))
  .nil) .nil)
  (.cons (.ret (.blt .all (.cons (.lst (.cons (.call 17 (.cons (.k (.int 2)) (.cons (.k (.int 5)) (.cons (.k (.int 1)) .nil)))) (.cons (.call 17 (.cons (.k (.int 1)) (.cons (.tup (.cons (.k (.int 2)) (.cons (.k (.int 2)) .nil))) (.cons (.tup (.cons (.k (.int 0)) (.cons (.k (.int 1)) .nil))) .nil)))) (.cons (.call 17 (.cons (.k (.int 3)) (.cons (.lst (.cons (.tup (.cons (.k (.int 0)) (.cons (.k (.int 1)) .nil))) .nil)) (.cons (.k .non) .nil)))) (.cons (.call 17 (.cons (.k (.int 0)) (.cons (.k (.bl true)) (.cons (.k (.int 3)) .nil)))) (.cons (.call 17 (.cons (.k (.int 0)) (.cons (.k (.int 2)) (.cons (.k (.int 0)) .nil)))) .nil)))))) .nil)))
  .nil))))))))))))
def inB (BI : List Int) (M th k : Int) : Bool := match BI with | [] => false | b :: _ => decide (k % M = b) && decide (k % 5 = th)
theorem lcm2_one (m : Int) : lcm2 1 m = m := by unfold lcm2; simp
theorem lcm2_le {m n : Int} (hm : 0 < m) (hn : 0 < n) (M : Int) (h : m ≤ M) : lcm2 m n ≤ M * n := by
  have gp : 0 < (Int.gcd m n : Int) := by
    have : 0 < Int.gcd m n := Int.gcd_pos_of_ne_zero_left _ (by omega)
    omega
  have q1 : m / (Int.gcd m n : Int) ≤ m := Int.ediv_le_self _ (by omega)
  exact Int.mul_le_mul_of_nonneg_right (by omega) (by omega)
theorem law25 (a c : Nat) (σ0 σ2 σ3 σ5 σ6 σ7 σ8 σ9 : Option PV) (sz0' : Option PV) (great mate fi se sz : Int) (p15 : Nat) (BI : List Int) (h5 : PH) (gr0 : 0 ≤ great) (gr1 : great < 2 ^ 60) (fi0 : 0 ≤ fi) (fi1 : fi < sz) (se0 : 0 ≤ se) (se1 : se < mate) (sz1 : sz ≤ 90) (mt1 : mate ≤ 60) (w1 : lcm2 sz mate ≤ 5400)
    (mem : ∀ k, k ∈ BI ↔ 0 ≤ k ∧ k < lcm2 sz mate ∧ k % sz = fi ∧ k % mate = se) (t5 : TapeAt a c h5) (g15 : h5 p15 = some (.lst (BI.map .int))) (pne : p15 ≠ a ∧ p15 ≠ c) :
    wSs (subOf subT) (L 59) b_law25 (endF (fun v _ => v = .bl true) fun _ _ => False) [σ0, some (.ref a), σ2, σ3, sz0', σ5, σ6, σ7, σ8, σ9, some (.int great), some (.int mate), some (.tup [.int fi, .int sz]), some (.tup [.int se, .int mate]), some (.int (lcm2 sz mate)), some (.ref p15), none, none, none, none, none, none, none, none] h5 := by
  have w0 : 0 < lcm2 sz mate := lcm2_pos (by omega) (by omega)
  have z0 : 0 < lcm2 (lcm2 sz mate) 5 := lcm2_pos w0 (by decide)
  have z1 : lcm2 (lcm2 sz mate) 5 ≤ 27000 := by have := lcm2_le (n := 5) w0 (by decide) 5400 w1; omega
  walk_at "st"
  refine sp_draw a c 5 (by decide) (by decide) t5 fun th h6 th0 th1 d6 => ?_
  have t6 := d6.t
  have g15' := (d6.fr p15 pne.1 pne.2).trans g15
  walk_at "st"
  refine sp_common _ _ ?_
  have gp : 0 < (Int.gcd (lcm2 sz mate) 5 : Int) := by
    have : 0 < Int.gcd (lcm2 sz mate) 5 := Int.gcd_pos_of_ne_zero_left _ (by omega)
    omega
  have gl : (Int.gcd (lcm2 sz mate) 5 : Int) ≤ lcm2 sz mate := Int.le_of_dvd (by omega) (Int.gcd_dvd_left _ _)
  have q1' : lcm2 sz mate / (Int.gcd (lcm2 sz mate) 5 : Int) ≤ lcm2 sz mate := Int.ediv_le_self _ (by omega)
  have q0' : 0 ≤ lcm2 sz mate / (Int.gcd (lcm2 sz mate) 5 : Int) := Int.ediv_nonneg (by omega) (by omega)
  walk_at "ev"
  refine ⟨cdiv_s gp (by omega), cmul_s (by omega) (by decide), ?_⟩
  have lpe : lcm2 sz mate / (Int.gcd (lcm2 sz mate) 5 : Int) * 5 = lcm2 (lcm2 sz mate) 5 := rfl
  rw [lpe]
  walk_at "st"
  refine ⟨⟨by omega, by omega⟩, ?_⟩
  rw [rgL_rgI]
  refine cpr_int (fun h' => Ext h6 h') (inB BI (lcm2 sz mate) th) .int (by rw [rgI_len]; omega) (Ext.refl _) (fun _ _ => trivial) ?_ ?_
  · intro k hk h' eh R S r s
    rw [rgI_mem] at hk
    walk_at "ev"
    intro p f
    have g := (pupd_ne (o := .lst []) (ne_new (eh _ _ g15') f)).trans (eh _ _ g15')
    refine eqS_nil (xs := BI) g pupd_same ?_
    have eh' := eh.trans (Ext.new (o := .lst []) f)
    cases BI with
    | nil =>
      simp only [List.isEmpty_nil]
      walk_at "ev"
      exact s rfl _ eh'
    | cons b BI =>
      simp only [List.isEmpty_cons]
      walk_at "ev"
      refine ⟨w0, ?_⟩
      rw [rdL_of g]
      walk_at "ev"
      split
      · rename_i e
        split
        · rename_i e2; exact r (by simp only [inB]; rw [decide_eq_true e, decide_eq_true e2]; rfl) _ eh'
        · rename_i e2; exact s (by simp only [inB]; rw [decide_eq_false e2, Bool.and_false]) _ eh'
      · rename_i e; exact s (by simp only [inB]; rw [decide_eq_false e, Bool.false_and]) _ eh'
  intro h7 e7
  intro p18 f18
  have g15'' := e7 _ _ g15'
  generalize hTI : (rgI (lcm2 (lcm2 sz mate) 5).toNat).filter (inB BI (lcm2 sz mate) th) = TI
  have e8 := Ext.new (o := .lst (List.map PV.int TI)) f18
  have g18 : pupd h7 p18 (.lst (List.map PV.int TI)) p18 = _ := pupd_same
  have t8 := (t6.ext e7).ext e8
  generalize pupd h7 p18 (.lst (List.map PV.int TI)) = h8 at e8 g18 t8 ⊢
  have memT : ∀ k, k ∈ TI ↔ (0 ≤ k ∧ k < lcm2 (lcm2 sz mate) 5) ∧ ∃ b B, BI = b :: B ∧ k % lcm2 sz mate = b ∧ k % 5 = th := fun k => by
    rw [← hTI, List.mem_filter, rgI_mem]
    constructor
    · rintro ⟨⟨k0, k1⟩, e⟩
      refine ⟨⟨k0, by omega⟩, ?_⟩
      cases BI with
      | nil => cases e
      | cons b B =>
        simp only [inB, Bool.and_eq_true, decide_eq_true_eq] at e
        exact ⟨b, B, rfl, e.1, e.2⟩
    · rintro ⟨⟨k0, k1⟩, b, B, rfl, e1, e2⟩
      refine ⟨⟨k0, by omega⟩, ?_⟩
      simp only [inB, Bool.and_eq_true, decide_eq_true_eq]
      exact ⟨e1, e2⟩
  have memT2 : ∀ k, k ∈ TI → HasAll k [(fi, sz), (se, mate), (th, 5)] := fun k hk => by
    obtain ⟨_, b, B, eB, k1, k2⟩ := (memT k).1 hk
    have hb := (mem b).1 (by rw [eB]; simp)
    obtain ⟨q, hq⟩ := lcm2_dvd_l sz mate (by omega)
    intro p hp
    simp only [List.mem_cons, List.not_mem_nil, or_false] at hp
    rcases hp with rfl | rfl | rfl
    · simp only; rw [← hb.2.2.1, ← k1, Int.emod_emod_of_dvd _ ⟨q, hq⟩]
    · simp only; rw [← hb.2.2.2, ← k1, Int.emod_emod_of_dvd _ (lcm2_dvd_r _ _)]
    · exact k2
  have memT3 : ∀ k, 0 ≤ k → k < lcm2 (lcm2 sz mate) 5 → HasAll k [(fi, sz), (se, mate), (th, 5)] → k ∈ TI := fun k k0 k1 hk => by
    refine (memT k).2 ⟨⟨k0, k1⟩, ?_⟩
    obtain ⟨q, hq⟩ := lcm2_dvd_l sz mate (by omega)
    have hk1 : k % sz = fi := hk (fi, sz) (by simp)
    have hk2 : k % mate = se := hk (se, mate) (by simp)
    have hk3 : k % 5 = th := hk (th, 5) (by simp)
    have inB := (mem (k % lcm2 sz mate)).2 ⟨Int.emod_nonneg _ (by omega), Int.emod_lt_of_pos _ w0, by rw [Int.emod_emod_of_dvd _ ⟨q, hq⟩, hk1], by rw [Int.emod_emod_of_dvd _ (lcm2_dvd_r _ _), hk2]⟩
    cases BI with
    | nil => cases inB
    | cons b B =>
      refine ⟨b, B, rfl, ?_, hk3⟩
      have hb := (mem b).1 (by simp)
      have gq : 0 < (Int.gcd sz mate : Int) := by
        have : 0 < Int.gcd sz mate := Int.gcd_pos_of_ne_zero_left _ (by omega)
        omega
      obtain ⟨v1, v2, _, _⟩ := wf_spec (a := sz) (b := mate) (M := 200) (by omega) (by omega) (by omega) (by omega)
      exact crt_uniq (lcm2_eq sz mate) gq (by rw [← v2, v1]) (Int.emod_nonneg _ (by omega)) (Int.emod_lt_of_pos _ w0) hb.1 hb.2.1 (by rw [Int.emod_emod_of_dvd _ ⟨q, hq⟩, hk1, hb.2.2.1]) (by rw [Int.emod_emod_of_dvd _ (lcm2_dvd_r _ _), hk2, hb.2.2.2])
  have cont : ∀ h9, Ext h8 h9 → wSs (subOf subT) (L 59) b_law3 (endF (fun v _ => v = .bl true) fun _ _ => False) [σ0, some (.ref a), σ2, σ3, sz0', σ5, σ6, σ7, σ8, σ9, some (.int great), some (.int mate), some (.tup [.int fi, .int sz]), some (.tup [.int se, .int mate]), some (.int (lcm2 sz mate)), some (.ref p15), some (.tup [.int th, .int 5]), some (.int (lcm2 (lcm2 sz mate) 5)), some (.ref p18), none, none, none, none, none] h9 := fun h9 e9 => law3 a c _ _ _ _ _ _ _ _ _ _ _ _ _ _ _ _ _ great h9 gr0 gr1 (t8.ext e9)
  walk_at "st"
  have lF : ∀ l : List (Int × Int), lcmF l = l.foldl (fun M p => lcm2 M p.2) 1 := fun _ => rfl
  refine sp_all_together [(fi, sz), (se, mate), (th, 5)] ?_ ?_ fun f ff h9 e9 => ?_
  · intro p hp
    simp only [List.mem_cons, List.not_mem_nil, or_false] at hp
    rcases hp with rfl | rfl | rfl <;> (simp only; omega)
  · intro j
    match j with
    | 0 => simp [lF]
    | 1 => simp only [lF, List.take_succ_cons, List.take_zero, List.foldl_cons, List.foldl_nil, lcm2_one]; omega
    | 2 => simp only [lF, List.take_succ_cons, List.take_zero, List.foldl_cons, List.foldl_nil, lcm2_one]; omega
    | j + 3 => simp only [lF, List.take_succ_cons, List.take_nil, List.foldl_cons, List.foldl_nil, lcm2_one]; omega
  walk_at "ev"
  intro p7 f7
  have g7 := (pupd_ne (o := .lst []) (ne_new (e9 _ _ g18) f7)).trans (e9 _ _ g18)
  refine eqS_nil (xs := TI) g7 pupd_same ?_
  cases TI with
  | nil =>
    simp only [List.isEmpty_nil]
    walk_at "ev"
    cases f with
    | none =>
      refine sp_same 0 _ _ trivial fun h10 e10 => ?_
      walk_at "ev"
      walk_at "nx"
      exact cont h10 ((e9.trans (Ext.new f7)).trans e10)
    | some p =>
      obtain ⟨p2, p0, p1, ph, pu⟩ := ff.has p rfl
      simp only [lF, List.foldl_cons, List.foldl_nil, lcm2_one] at p2
      exact absurd (memT3 p.1 p0 (by omega) ph) (by simp)
  | cons k TI =>
    have hk := memT2 k (by simp)
    have hk2 := ((memT k).1 (by simp)).1
    simp only [List.isEmpty_cons]
    walk_at "ev"
    rw [rdL_of g7]
    walk_at "ev"
    cases f with
    | none => exact absurd hk (ff.no rfl k)
    | some p =>
      obtain ⟨p2, p0, p1, ph, pu⟩ := ff.has p rfl
      simp only [lF, List.foldl_cons, List.foldl_nil, lcm2_one] at p2
      have := pu k hk
      rw [Int.emod_eq_of_lt hk2.1 (by omega)] at this
      obtain ⟨pp, pq⟩ := p
      simp only at this p2
      subst this p2
      refine sp_same 1 _ _ ⟨by simp, by simp [SmL, Sm]⟩ fun h10 e10 => ?_
      walk_at "ev"
      walk_at "nx"
      exact cont h10 ((e9.trans (Ext.new f7)).trans e10)
theorem pow2_eq (r : Int) : r ^ 2 = r * r := by rw [Int.pow_succ, Int.pow_succ, Int.pow_zero, Int.one_mul]
theorem law2 (ns : List Int) (a c : Nat) (one other sz count r g : Int) (u : Option PV) (p9 : Nat) (h : PH) (o0 : 0 ≤ one) (o1 : one < 3000) (p0 : 0 ≤ other) (p1 : other < 400) (sz0 : 0 < sz) (sz1 : sz ≤ 90) (t : TapeAt a c h) :
    wSs (subOf subT) (L 59) b_law2 (endF (fun v _ => v = .bl true) fun _ _ => False) [some (.rol (ns.map .int)), some (.ref a), some (.int one), some (.int other), some (.int sz), some (.int count), some (.int r), some (.int g), u, some (.ref p9), none, none, none, none, none, none, none, none, none, none, none, none, none, none] h := by
  walk_at "st"
  have one2 : 0 ≤ one * one ∧ one * one < 9000000 := by
    have h1 := Int.mul_le_mul_of_nonneg_left (show one ≤ 2999 by omega) o0
    have h2 := Int.mul_nonneg o0 o0
    omega
  refine ⟨cmul_s (by omega) (by omega), cmul_s (by omega) (by omega), ?_⟩
  have gr0 : 0 ≤ one * one * 1000003 + other := by omega
  have gr1 : one * one * 1000003 + other < 10 ^ 13 := by omega
  generalize one * one * 1000003 + other = great at gr0 gr1 ⊢
  have small : ∀ x : Int, 0 ≤ x → x * x ≤ great → x < 2 ^ 62 := fun x x0 xx => by
    by_cases e : x = 0
    · rw [e]; decide
    · have := Int.mul_le_mul_of_nonneg_left (show (1:Int) ≤ x by omega) x0
      omega
  walk_at "st"
  refine sp_root great gr0 (by omega) fun x x0 x1 x2 => ?_
  have xs := small x x0 x1
  walk_at "ev"
  refine ⟨⟨by decide, by decide, by omega⟩, ?_⟩
  rw [if_neg (by rw [pow2_eq]; omega)]
  refine sp_root great gr0 (by omega) fun y y0 y1 y2 => ?_
  have ys := small y y0 y1
  walk_at "ev"
  refine ⟨⟨by decide, by decide, by omega⟩, ?_⟩
  rw [if_neg (by rw [pow2_eq]; omega)]
  refine sp_root 0 (by decide) (by decide) fun z0 a0 b0 c0 => ?_
  refine sp_root 1 (by decide) (by decide) fun z1 a1 b1 c1 => ?_
  refine sp_root 3 (by decide) (by decide) fun z2 a2 b2 c2 => ?_
  refine sp_root 4 (by decide) (by decide) fun z3 a3 b3 c3 => ?_
  obtain rfl : z0 = 0 := sqrt_uniq a0 (by decide) b0 c0 (by decide) (by decide)
  obtain rfl : z1 = 1 := sqrt_uniq a1 (by decide) b1 c1 (by decide) (by decide)
  obtain rfl : z2 = 1 := sqrt_uniq a2 (by decide) b2 c2 (by decide) (by decide)
  obtain rfl : z3 = 2 := sqrt_uniq a3 (by decide) b3 c3 (by decide) (by decide)
  walk_at "ev"
  intro q1 f1
  intro q2 f2
  refine sp_same 1 _ _ ⟨_, _, (pupd_ne (ne_new pupd_same f2)).trans pupd_same, pupd_same, by simp, by simp [SmL, Sm]⟩ fun h1 e1 => ?_
  have t1 := ((t.ext (Ext.new f1)).ext (Ext.new f2)).ext e1
  walk_at "st"
  refine sp_draw a c 60 (by decide) (by decide) t1 fun mt h2 m0 m1 d2 => ?_
  walk_at "ev"
  generalize hmt : 1 + mt = mate
  have mt0 : 0 < mate := by omega
  have mt1 : mate ≤ 60 := by omega
  walk_at "st"
  refine sp_draw a c sz sz0 (by omega) d2.t fun fi h3 fi0 fi1 d3 => ?_
  walk_at "ev"
  refine sp_draw a c mate mt0 (by omega) d3.t fun se h4 se0 se1 d4 => ?_
  have t4 := d4.t
  walk_at "st"
  refine sp_common _ _ ?_
  have gp : 0 < (Int.gcd sz mate : Int) := by
    have : 0 < Int.gcd sz mate := Int.gcd_pos_of_ne_zero_left _ (by omega)
    omega
  have gl : (Int.gcd sz mate : Int) ≤ sz := Int.le_of_dvd (by omega) (Int.gcd_dvd_left sz mate)
  have q1' : sz / (Int.gcd sz mate : Int) ≤ sz := Int.ediv_le_self _ (by omega)
  have q0' : 0 ≤ sz / (Int.gcd sz mate : Int) := Int.ediv_nonneg (by omega) (by omega)
  walk_at "ev"
  refine ⟨cdiv_s gp (by omega), cmul_s (by omega) (by omega), ?_⟩
  have w0 : 0 < lcm2 sz mate := lcm2_pos sz0 mt0
  have w1 : lcm2 sz mate ≤ 5400 := by
    have h1 := Int.mul_le_mul_of_nonneg_right (show sz / (Int.gcd sz mate : Int) ≤ 90 by omega) (show 0 ≤ mate by omega)
    unfold lcm2
    omega
  have lpe : sz / (Int.gcd sz mate : Int) * mate = lcm2 sz mate := rfl
  rw [lpe]
  walk_at "st"
  refine ⟨⟨by omega, by omega⟩, ?_⟩
  rw [rgL_rgI]
  refine cpr_int (fun h' => h' = h4) (fun k => decide (k % sz = fi) && decide (k % mate = se)) .int (by rw [rgI_len]; omega) rfl (fun _ _ => trivial) ?_ ?_
  · intro k hk h' eh R S r s
    rw [eh]
    rw [rgI_mem] at hk
    walk_at "ev"
    refine ⟨sz0, ?_⟩
    split
    · rename_i e
      refine ⟨mt0, ?_⟩
      split
      · rename_i e2; exact r (by rw [decide_eq_true e, decide_eq_true e2]; rfl) _ rfl
      · rename_i e2; exact s (by rw [decide_eq_false e2, Bool.and_false]) _ rfl
    · rename_i e; exact s (by rw [decide_eq_false e, Bool.false_and]) _ rfl
  intro hh ehh
  rw [ehh]
  intro p15 f15
  have t5 := t4.ext (Ext.new (o := .lst (List.map PV.int ((rgI (lcm2 sz mate).toNat).filter fun k => decide (k % sz = fi) && decide (k % mate = se)))) f15)
  have g15 : pupd h4 p15 (.lst (List.map PV.int ((rgI (lcm2 sz mate).toNat).filter fun k => decide (k % sz = fi) && decide (k % mate = se)))) p15 = _ := pupd_same
  generalize pupd h4 p15 (.lst (List.map PV.int ((rgI (lcm2 sz mate).toNat).filter fun k => decide (k % sz = fi) && decide (k % mate = se)))) = h5 at t5 g15 ⊢
  have mem : ∀ k, k ∈ (rgI (lcm2 sz mate).toNat).filter (fun k => decide (k % sz = fi) && decide (k % mate = se)) ↔ 0 ≤ k ∧ k < lcm2 sz mate ∧ k % sz = fi ∧ k % mate = se := fun k => by
    rw [List.mem_filter, rgI_mem, Bool.and_eq_true, decide_eq_true_eq, decide_eq_true_eq]
    constructor
    · rintro ⟨⟨k0, k1⟩, e⟩; exact ⟨k0, by omega, e⟩
    · rintro ⟨k0, k1, e⟩; exact ⟨⟨k0, by omega⟩, e⟩
  generalize (rgI (lcm2 sz mate).toNat).filter (fun k => decide (k % sz = fi) && decide (k % mate = se)) = BI at mem g15
  have uniq : ∀ x y : Int, 0 ≤ x → x < lcm2 sz mate → 0 ≤ y → y < lcm2 sz mate → x % sz = y % sz → x % mate = y % mate → x = y := fun x y hx0 hx1 hy0 hy1 e1 e2 => by
    obtain ⟨v1, v2, _, _⟩ := wf_spec (a := sz) (b := mate) (M := 200) (by omega) (by omega) (by omega) (by omega)
    exact crt_uniq (lcm2_eq sz mate) gp (by rw [← v2, v1]) hx0 hx1 hy0 hy1 e1 e2
  have cont : ∀ h6, Ext h5 h6 → wSs (subOf subT) (L 59) b_law25 (endF (fun v _ => v = .bl true) fun _ _ => False) [some (.rol (ns.map .int)), some (.ref a), some (.int one), some (.int other), some (.int sz), some (.int count), some (.int r), some (.int g), u, some (.ref p9), some (.int great), some (.int mate), some (.tup [.int fi, .int sz]), some (.tup [.int se, .int mate]), some (.int (lcm2 sz mate)), some (.ref p15), none, none, none, none, none, none, none, none] h6 := fun h6 e6 => law25 a c _ _ _ _ _ _ _ _ _ great mate fi se sz p15 BI h6 gr0 (by omega) fi0 fi1 se0 se1 sz1 mt1 w1 mem (t5.ext e6) (e6 _ _ g15) (t4.ne_of f15)
  walk_at "st"
  refine sp_together fi sz se mate fi0 fi1 se0 se1 (by omega) (by omega) (fun no h6 e6 => ?_) (fun x x0 x1 x2 x3 h6 e6 => ?_)
  · walk_at "ev"
    intro p7 f7
    refine eqS_nil (xs := BI) ((pupd_ne (ne_new (e6 _ _ g15) f7)).trans (e6 _ _ g15)) pupd_same ?_
    cases BI with
    | cons b BI => exact absurd ⟨((mem b).1 (by simp)).2.2.1, ((mem b).1 (by simp)).2.2.2⟩ (no b)
    | nil =>
      simp only [List.isEmpty_nil]
      walk_at "ev"
      refine sp_same 0 _ _ trivial fun h8 e8 => ?_
      walk_at "ev"
      walk_at "nx"
      exact cont h8 ((e6.trans (Ext.new f7)).trans e8)
  · walk_at "ev"
    intro p7 f7
    have g7 := (pupd_ne (o := .lst []) (ne_new (e6 _ _ g15) f7)).trans (e6 _ _ g15)
    refine eqS_nil (xs := BI) g7 pupd_same ?_
    cases BI with
    | nil => exact absurd ((mem x).2 ⟨x0, x1, x2, x3⟩) (by simp)
    | cons b BI =>
      have hb := (mem b).1 (by simp)
      obtain rfl : b = x := uniq b x hb.1 hb.2.1 x0 x1 (by rw [hb.2.2.1, x2]) (by rw [hb.2.2.2, x3])
      simp only [List.isEmpty_cons]
      walk_at "ev"
      rw [rdL_of g7]
      walk_at "ev"
      refine sp_same 1 _ _ ⟨by simp, by simp [SmL, Sm]⟩ fun h8 e8 => ?_
      walk_at "ev"
      walk_at "nx"
      exact cont h8 ((e6.trans (Ext.new f7)).trans e8)
theorem law_true (ns : List Int) (hn : ns.length ≤ 63) : callN (subOf subT) fns 60 (19) [.rol (ns.map PV.int)] noH (fun v _ => v = .bl true) fun _ _ => False := by
  rw [← Lv_eq]
  refine Lv_call d_law.fn rfl rfl ?_
  simp only [d_law, b_law]
  walk_at "in"
  walk_at "st"
  refine sp_tape ns hn fun a c h1 fa fc _ t => ?_
  walk_at "st"
  refine sp_draw a c 3000 (by decide) (by decide) t fun one h2 o0 o1 d2 => ?_
  refine sp_draw a c 400 (by decide) (by decide) d2.t fun other h3 p0 p1 d3 => ?_
  refine sp_draw a c 90 (by decide) (by decide) d3.t fun size h4 s0 s1 d4 => ?_
  have t4 := d4.t
  walk_at "st"
  refine sp_divisor _ _ ?_
  refine sp_common _ _ ?_
  rw [Int.gcd_neg]
  refine sp_same 0 _ _ rfl fun h5 e5 => ?_
  walk_at "ev"
  refine sp_with_factors _ _ o0 p0 (by omega) (by omega) fun h6 e6 => ?_
  refine sp_rows _ _ o0 p0 (by omega) (by omega) fun h7 e7 => ?_
  refine sp_same 1 _ _ ⟨by simp, by simp [SmL, Sm]⟩ fun h8 e8 => ?_
  walk_at "ev"
  walk_at "nx"
  have t8 := (((t4.ext e5).ext e6).ext e7).ext e8
  walk_at "st"
  refine sp_draw a c 30 (by decide) (by decide) t8 fun count h9 c0 c1 d9 => ?_
  have t9 := d9.t
  walk_at "ev"
  refine ⟨by omega, ?_⟩
  walk_at "st"
  refine ⟨⟨by omega, by omega⟩, ?_⟩
  rw [rgL_rgI]
  have o7 : (other % 7).natAbs ≤ 2 ^ 3 := by omega
  refine for_inv (α := (Int × Int) × Option PV) (st := fun x => [some (.rol (ns.map .int)), some (.ref a), some (.int one), some (.int other), some (.int (1 + size)), some (.int count), some (.int x.1.1), some (.int x.1.2), x.2, none, none, none, none, none, none, none, none, none, none, none, none, none, none, none]) (hp := fun _ => h9)
    (I := fun i x => x.1.1 = one ^ i % (1 + size) ∧ x.1.2 = (other % 7) ^ i ∧ x.1.2.natAbs ≤ 2 ^ (3 * i)) ((1 % (1 + size), 1), none) ⟨by simp, by simp, by simp⟩ ?_ ?_
  · rintro N i v ⟨⟨r, g⟩, u⟩ hv ⟨hr, hg, hb⟩ hN
    simp only at hr hg hb ⊢
    have il : i < 30 := by
      have := (List.getElem?_eq_some_iff.1 hv).1
      rw [List.length_map, rgI_len] at this
      omega
    refine ⟨trivial, ?_⟩
    have r0 : 0 ≤ r := hr ▸ Int.emod_nonneg _ (by omega)
    have r1 : r < 1 + size := hr ▸ Int.emod_lt_of_pos _ (by omega)
    have g1 : g.natAbs < 2 ^ 100 := Nat.lt_of_le_of_lt hb (Nat.pow_lt_pow_right (by decide) (by omega))
    walk_at "st"
    refine ⟨cmul_s (by omega) (by omega), by omega, cmul_s (by omega) (by omega), ?_⟩
    walk_at "nx"
    refine hN ((_, _), some v) ⟨?_, ?_, ?_⟩
    · simp only
      rw [hr, mul_emod_l, Int.pow_succ]
    · simp only
      rw [hg, Int.pow_succ]
    · simp only
      rw [Int.natAbs_mul, show 3 * (i + 1) = 3 * i + 3 by omega, Nat.pow_add]
      exact Nat.mul_le_mul hb o7
  rintro ⟨⟨r, g⟩, u⟩ ⟨hr, hg, _⟩
  simp only [List.length_map, rgI_len] at hr hg ⊢
  refine ⟨trivial, ?_⟩
  walk_at "st"
  refine sp_power _ _ _ c0 (by omega) (by omega) ?_
  refine sp_same 0 _ _ hr.symm fun h10 e10 => ?_
  walk_at "ev"
  refine sp_raised _ _ 4 (by decide) c0 (by omega) (by omega) ?_
  refine sp_same 0 _ _ hg.symm fun h11 e11 => ?_
  walk_at "ev"
  have t11 := (t9.ext e10).ext e11
  walk_at "nx"
  generalize hsz : 1 + size = sz at *
  have sz0 : 0 < sz := by omega
  have sz1 : sz ≤ 90 := by omega
  -- the mates
  walk_at "st"
  refine ⟨⟨by omega, by omega⟩, ?_⟩
  rw [rgL_rgI]
  refine cpr_int (fun h' => h' = h11) (fun k => decide (k * one % sz = 1 % sz)) .int (by rw [rgI_len]; omega) rfl (fun _ _ => trivial) ?_ ?_
  · rintro k hk h' rfl R S r s
    rw [rgI_mem] at hk
    walk_at "ev"
    refine ⟨cmul_s (by omega) (by omega), sz0, sz0, ?_⟩
    walk_at "ev"
    split
    · rename_i e; exact r (decide_eq_true e) _ rfl
    · rename_i e; exact s (decide_eq_false e) _ rfl
  intro hh ehh
  rw [ehh]
  intro p9 f9
  have t12 := t11.ext (Ext.new (o := .lst (List.map PV.int ((rgI sz.toNat).filter fun k => decide (k * one % sz = 1 % sz)))) f9)
  have g9 : pupd h11 p9 (.lst (List.map PV.int ((rgI sz.toNat).filter fun k => decide (k * one % sz = 1 % sz)))) p9 = some (.lst (List.map PV.int ((rgI sz.toNat).filter fun k => decide (k * one % sz = 1 % sz)))) := pupd_same
  generalize pupd h11 p9 (.lst (List.map PV.int ((rgI sz.toNat).filter fun k => decide (k * one % sz = 1 % sz)))) = h12 at t12 g9 ⊢
  have mem : ∀ k, k ∈ (rgI sz.toNat).filter (fun k => decide (k * one % sz = 1 % sz)) ↔ 0 ≤ k ∧ k < sz ∧ k * one % sz = 1 % sz := fun k => by
    rw [List.mem_filter, rgI_mem, decide_eq_true_eq]
    constructor
    · rintro ⟨⟨k0, k1⟩, e⟩; exact ⟨k0, by omega, e⟩
    · rintro ⟨k0, k1, e⟩; exact ⟨⟨k0, by omega⟩, e⟩
  generalize (rgI sz.toNat).filter (fun k => decide (k * one % sz = 1 % sz)) = MI at mem g9
  have rest : ∀ h13, Ext h12 h13 → wSs (subOf subT) (L 59) b_law2 (endF (fun v _ => v = .bl true) fun _ _ => False) [some (.rol (ns.map .int)), some (.ref a), some (.int one), some (.int other), some (.int sz), some (.int count), some (.int r), some (.int g), u, some (.ref p9), none, none, none, none, none, none, none, none, none, none, none, none, none, none] h13 := fun h13 e13 => law2 ns a c one other sz count r g u p9 h13 o0 o1 p0 p1 sz0 sz1 (t12.ext e13)
  walk_at "st"
  intro p13 f13
  refine eqS_nil (xs := MI) ((pupd_ne (ne_new g9 f13)).trans g9) pupd_same ?_
  have e13 : Ext h12 (pupd h12 p13 (.lst [])) := Ext.new f13
  generalize pupd h12 p13 (.lst []) = h13 at e13 ⊢
  have g9' := e13 _ _ g9
  cases MI with
  | nil =>
    simp only [List.isEmpty_nil, ↓reduceIte]
    walk_at "st"
    refine sp_refused 0 I_undone _ _ (Or.inl ⟨rfl, rfl⟩) (fun Q' X' x => ?_) fun h14 e14 => ?_
    · refine sp_undone one sz (fun s1 s2 gg x x0 x1 e => ?_) (fun _ => x)
      exact absurd ((mem x).2 ⟨x0, x1, by rw [Int.mul_comm]; exact e⟩) (by simp)
    walk_at "ev"
    walk_at "nx"
    exact rest h14 (e13.trans e14)
  | cons m MI =>
    simp only [List.isEmpty_cons, Bool.false_eq_true, ↓reduceIte]
    have hm := (mem m).1 (by simp)
    have gg := inv_gcd (a := one) sz0 (by rw [Int.mul_comm]; exact hm.2.2)
    walk_at "st"
    refine sp_undone one sz (fun s1 s2 _ x x0 x1 e h14 e14 => ?_) (fun no => absurd ⟨by omega, by omega, gg⟩ no)
    have : x = m := inv_uniq x0 x1 hm.1 hm.2.1 e (by rw [Int.mul_comm]; exact hm.2.2)
    subst this
    have g9'' := e14 _ _ g9'
    walk_at "ev"
    rw [rdL_of g9'']
    walk_at "ev"
    refine sp_same 0 _ _ rfl fun h15 e15 => ?_
    walk_at "ev"
    walk_at "nx"
    exact rest h15 ((e13.trans e14).trans e15)
end Co.G
open PySem PySem.W
open PyProof.Rows
set_option maxRecDepth 99999 in
set_option maxHeartbeats 0 in
theorem PySem.Challenge.cw_spiralverses_k00_rests_and_common_diviso_holds : PySem.Challenge.rw_spiralverses_k00_rests_and_common_diviso.Holds := by
  w_on; o_law
  k_head
  (case hw => w_witness2)
  k_fill
  refine L2.walk_of (l := PySem.Challenge.rw_spiralverses_k00_rests_and_common_diviso) (n := 63) (k := 60) (x := "script") (CX := fun w => L2.CX PySem.Challenge.pw_spiralverses_k00_rests_and_common_diviso w) (sp := fun w => Co.spLaw _) rfl (by decide) rfl ⟨rfl, by decide, by decide⟩ (fun w h Y => PySem.W.kIn_of Y) ?F (fun w H a ns hl hO hS => Co.spLaw_of hl hO hS) (fun w H s e s' h => Co.noCX _ w H s e s' h)
  case F =>
    intro w mg fa h KX G hmg
    refine' Co.cut_def (x := "is_count") (st := Co.G.topS 5) KX G ?a1 ?l1 ?c1 ?k1 ?r1; (case a1 => k_is); (case l1 => k_is); (case c1 => k_is); (case k1 => k_is); intro D0
    refine' Co.cut_def (x := "check_count") (st := Co.G.topS 6) KX G ?a2 ?l2 ?c2 ?k2 ?r2; (case a2 => k_is); (case l2 => k_is); (case c2 => k_is); (case k2 => k_is); intro D1
    refine' Co.cut_def (x := "is_whole") (st := Co.G.topS 7) KX G ?a3 ?l3 ?c3 ?k3 ?r3; (case a3 => k_is); (case l3 => k_is); (case c3 => k_is); (case k3 => k_is); intro D2
    refine' Co.cut_def (x := "divisor") (st := Co.G.topS 8) KX G ?a4 ?l4 ?c4 ?k4 ?r4; (case a4 => k_is); (case l4 => k_is); (case c4 => k_is); (case k4 => k_is); intro D3
    refine' Co.cut_def (x := "with_factors") (st := Co.G.topS 9) KX G ?a5 ?l5 ?c5 ?k5 ?r5; (case a5 => k_is); (case l5 => k_is); (case c5 => k_is); (case k5 => k_is); intro D4
    refine' Co.cut_def (x := "power") (st := Co.G.topS 10) KX G ?a6 ?l6 ?c6 ?k6 ?r6; (case a6 => k_is); (case l6 => k_is); (case c6 => k_is); (case k6 => k_is); intro D5
    refine' Co.cut_def (x := "raised") (st := Co.G.topS 11) KX G ?a7 ?l7 ?c7 ?k7 ?r7; (case a7 => k_is); (case l7 => k_is); (case c7 => k_is); (case k7 => k_is); intro D6
    refine' Co.cut_def (x := "undone") (st := Co.G.topS 12) KX G ?a8 ?l8 ?c8 ?k8 ?r8; (case a8 => k_is); (case l8 => k_is); (case c8 => k_is); (case k8 => k_is); intro D7
    refine' Co.cut_def (x := "root") (st := Co.G.topS 13) KX G ?a9 ?l9 ?c9 ?k9 ?r9; (case a9 => k_is); (case l9 => k_is); (case c9 => k_is); (case k9 => k_is); intro D8
    refine' Co.cut_def (x := "is_rest") (st := Co.G.topS 14) KX G ?a10 ?l10 ?c10 ?k10 ?r10; (case a10 => k_is); (case l10 => k_is); (case c10 => k_is); (case k10 => k_is); intro D9
    refine' Co.cut_def (x := "together") (st := Co.G.topS 15) KX G ?a11 ?l11 ?c11 ?k11 ?r11; (case a11 => k_is); (case l11 => k_is); (case c11 => k_is); (case k11 => k_is); intro D10
    refine' Co.cut_def (x := "all_together") (st := Co.G.topS 16) KX G ?a12 ?l12 ?c12 ?k12 ?r12; (case a12 => k_is); (case l12 => k_is); (case c12 => k_is); (case k12 => k_is); intro D11
    refine' Co.cut_def (x := "figures") (st := Co.G.topS 17) KX G ?a13 ?l13 ?c13 ?k13 ?r13; (case a13 => k_is); (case l13 => k_is); (case c13 => k_is); (case k13 => k_is); intro D12
    refine' Co.cut_def (x := "_law_tape") (st := Co.G.topS 19) KX G ?a14 ?l14 ?c14 ?k14 ?r14; (case a14 => k_is); (case l14 => k_is); (case c14 => k_is); (case k14 => k_is); intro D13
    refine' Co.cut_def (x := "_law_draw") (st := Co.G.topS 20) KX G ?a15 ?l15 ?c15 ?k15 ?r15; (case a15 => k_is); (case l15 => k_is); (case c15 => k_is); (case k15 => k_is); intro D14
    refine' Co.cut_def (x := "_law_same") (st := Co.G.topS 21) KX G ?a16 ?l16 ?c16 ?k16 ?r16; (case a16 => k_is); (case l16 => k_is); (case c16 => k_is); (case k16 => k_is); intro D15
    refine' Co.cut_def (x := "_law_common") (st := Co.G.topS 22) KX G ?a17 ?l17 ?c17 ?k17 ?r17; (case a17 => k_is); (case l17 => k_is); (case c17 => k_is); (case k17 => k_is); intro D16
    refine' Co.cut_def (x := "_law_refused") (st := Co.G.topS 23) KX G ?a18 ?l18 ?c18 ?k18 ?r18; (case a18 => k_is); (case l18 => k_is); (case c18 => k_is); (case k18 => k_is); intro D17
    refine' Co.cut_def (x := "_law_rows") (st := Co.G.topS 24) KX G ?a19 ?l19 ?c19 ?k19 ?r19; (case a19 => k_is); (case l19 => k_is); (case c19 => k_is); (case k19 => k_is); intro D18
    refine' Co.cut_def (x := "law") (st := Co.G.topS 25) KX G ?a20 ?l20 ?c20 ?k20 ?r20; (case a20 => k_is); (case l20 => k_is); (case c20 => k_is); (case k20 => k_is); intro D19
    refine' Co.cut_exc (x := "VerseError") KX G ?a21 ?i21 ?k21 ?s21 ?t21 ?c21 ?r21; (case a21 => k_is); (case i21 => k_exc); (case k21 => k_is); (case s21 => k_is); (case t21 => k_is); (case c21 => k_is); intro X0
    refine' Co.cut_exc (x := "BadNumber") KX G ?a22 ?i22 ?k22 ?s22 ?t22 ?c22 ?r22; (case a22 => k_is); (case i22 => k_exc); (case k22 => k_is); (case s22 => k_is); (case t22 => k_is); (case c22 => k_is); intro X1
    refine' Co.cut_exm (b := true) KX X0 X0 ?e23 ?r23; (case e23 => k_is); intro M0_0
    refine' Co.cut_exm (b := false) KX X1 X0 ?e24 ?r24; (case e24 => k_is); intro M0_1
    refine' Co.cut_exm (b := true) KX X0 X1 ?e25 ?r25; (case e25 => k_is); intro M1_0
    refine' Co.cut_exm (b := true) KX X1 X1 ?e26 ?r26; (case e26 => k_is); intro M1_1
    refine' Co.cut_int (x := "MOST") (i := 1000000000000000000) KX G ?a27 ?r27; (case a27 => k_is); intro K0
    refine' Co.cut_blt (x := "abs") KX G ?a28 ?r28; (case a28 => k_is); intro B0
    refine' Co.cut_blt (x := "all") KX G ?a29 ?r29; (case a29 => k_is); intro B1
    refine' Co.cut_blt (x := "any") KX G ?a30 ?r30; (case a30 => k_is); intro B2
    refine' Co.cut_blt (x := "bool") KX G ?a31 ?r31; (case a31 => k_is); intro B3
    refine' Co.cut_blt (x := "int") KX G ?a32 ?r32; (case a32 => k_is); intro B4
    refine' Co.cut_blt (x := "isinstance") KX G ?a33 ?r33; (case a33 => k_is); intro B5
    refine' Co.cut_blt (x := "len") KX G ?a34 ?r34; (case a34 => k_is); intro B6
    refine' Co.cut_blt (x := "list") KX G ?a35 ?r35; (case a35 => k_is); intro B7
    refine' Co.cut_blt (x := "range") KX G ?a36 ?r36; (case a36 => k_is); intro B8
    refine' Co.cut_blt (x := "reversed") KX G ?a37 ?r37; (case a37 => k_is); intro B9
    refine' Co.cut_blt (x := "str") KX G ?a38 ?r38; (case a38 => k_is); intro B10
    refine' Co.cut_blt (x := "tuple") KX G ?a39 ?r39; (case a39 => k_is); intro B11
    refine' Co.cut_blt (x := "zip") KX G ?a40 ?r40; (case a40 => k_is); intro B12
    refine Co.law_top (t := Co.G.tb) (ld := [(Co.G.d_is_count, Co.G.topS 5), (Co.G.d_check_count, Co.G.topS 6), (Co.G.d_is_whole, Co.G.topS 7), (Co.G.d_divisor, Co.G.topS 8), (Co.G.d_with_factors, Co.G.topS 9), (Co.G.d_power, Co.G.topS 10), (Co.G.d_raised, Co.G.topS 11), (Co.G.d_undone, Co.G.topS 12), (Co.G.d_root, Co.G.topS 13), (Co.G.d_is_rest, Co.G.topS 14), (Co.G.d_together, Co.G.topS 15), (Co.G.d_all_together, Co.G.topS 16), (Co.G.d_figures, Co.G.topS 17), (Co.G.d__law_tape, Co.G.topS 19), (Co.G.d__law_draw, Co.G.topS 20), (Co.G.d__law_same, Co.G.topS 21), (Co.G.d__law_common, Co.G.topS 22), (Co.G.d__law_refused, Co.G.topS 23), (Co.G.d__law_rows, Co.G.topS 24), (Co.G.d_law, Co.G.topS 25)]) (lx := [("VerseError", _), ("BadNumber", _)]) (sT := Co.G.subT) (iL := 19) (dl := Co.G.d_law) KX hmg ⟨⟨D0, Co.G.s_is_count⟩, ⟨D1, Co.G.s_check_count⟩, ⟨D2, Co.G.s_is_whole⟩, ⟨D3, Co.G.s_divisor⟩, ⟨D4, Co.G.s_with_factors⟩, ⟨D5, Co.G.s_power⟩, ⟨D6, Co.G.s_raised⟩, ⟨D7, Co.G.s_undone⟩, ⟨D8, Co.G.s_root⟩, ⟨D9, Co.G.s_is_rest⟩, ⟨D10, Co.G.s_together⟩, ⟨D11, Co.G.s_all_together⟩, ⟨D12, Co.G.s_figures⟩, ⟨D13, Co.G.s__law_tape⟩, ⟨D14, Co.G.s__law_draw⟩, ⟨D15, Co.G.s__law_same⟩, ⟨D16, Co.G.s__law_common⟩, ⟨D17, Co.G.s__law_refused⟩, ⟨D18, Co.G.s__law_rows⟩, ⟨D19, Co.G.s_law⟩, trivial⟩ ⟨X0, X1, trivial⟩ ⟨K0, trivial⟩ ⟨B0, B1, B2, B3, B4, B5, B6, B7, B8, B9, B10, B11, B12, trivial⟩ rfl rfl rfl (by decide) (fun i j hi hj => ?m) rfl rfl D19 Co.G.s_law Co.G.law_true
    have hi2 : i < 2 := hi
    have hj2 : j < 2 := hj
    match i, j, hi2, hj2 with
    | 0, 0, _, _ => exact M0_0
    | 0, 1, _, _ => exact M0_1
    | 1, 0, _, _ => exact M1_0
    | 1, 1, _, _ => exact M1_1
    | i + 2, _, h, _ => exact absurd h (by omega)
    | 0, j + 2, _, h => exact absurd h (by omega)
    | 1, j + 2, _, h => exact absurd h (by omega)
