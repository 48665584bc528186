import PyProof.Rows.All
import Wide.All
import OpenK.AllK
import Wide.FinOn
import PySem.Challenge.RW_uf010029_05
set_option Elab.async false
set_option maxRecDepth 100000
set_option linter.unusedSimpArgs false
set_option linter.unusedVariables false
-- M1
namespace Mine
open PySem

/-! ## The small language: abstract values, stores, expressions, statements -/

inductive AV where
  | dat (d : PyData)
  | fresh (ds : List PyData)
  | cell (i : Nat)
  | exc (c : Nat)

inductive Flag where
  | live | locked | frozen

abbrev Store := List (Flag × List PyData)
abbrev Rho := Nat → Option AV
noncomputable def Rho.set (ρ : Rho) (i : Nat) (v : AV) : Rho := fun j => if j = i then some v else ρ j

inductive Ty where
  | int | bool | tuple | list | str

inductive Prim where
  | len | all | any | sum | tuple | list | int | max | join

inductive Tgt where
  | one (i : Nat)
  | many (is : List Nat)

inductive ItK where
  | seq | range1 | range2 | zip

inductive CE where
  | const (d : PyData)
  | var (i : Nat)
  | bin (op : Operator) (a b : CE)
  | neg (a : CE)
  | nott (a : CE)
  | bop (op : BoolOp) (es : List CE)
  | cmp (op : CmpOp) (a b : CE)
  | cmp2 (o1 o2 : CmpOp) (a b c : CE)
  | ite (c a b : CE)
  | idx (a i : CE)
  | slice (a lo hi : CE)
  | rev (a : CE)
  | tup (es : List CE)
  | lst (es : List CE)
  | call (f : Nat) (es : List CE)
  | prim (p : Prim) (es : List CE)
  | isin (e : CE) (t : Ty)
  | isexc (e : CE) (cs : List Nat)
  | pop (x : Nat)
  | pop0 (x : Nat)
  | comp (elt : CE) (t : Tgt) (k : ItK) (its : List CE) (ifs : List CE)

inductive CS where
  | assign (i : Nat) (e : CE)
  | newcell (i : Nat) (e : CE)
  | unpack (is : List Nat) (e : CE)
  | setItem (x : Nat) (i e : CE)
  | expr (e : CE)
  | append (x : Nat) (e : CE)
  | extend (x : Nat) (e : CE)
  | insert (x : Nat) (i e : CE)
  | ite (c : CE) (a b : List CS)
  | whil (c : CE) (body : List CS)
  | forr (t : Tgt) (k : ItK) (its : List CE) (body : List CS)
  | ret (e : CE)
  | raise (c : Nat)
  | tryy (body : List CS) (c x : Nat) (h : List CS)

inductive CR where
  | ret (v : AV)
  | exc (c : Nat)

inductive Fl where
  | next (ρ : Rho)
  | ret (v : AV)
  | exc (c : Nat)

/-! ## Reading and owning -/

noncomputable def rd (σ : Store) : AV → Option PyData
  | .dat d => some d
  | .fresh ds => some (.list ds)
  | .cell i => match σ[i]? with
    | some p => some (.list p.2)
    | none => none
  | .exc _ => none

noncomputable def settle : AV → AV
  | .fresh ds => .dat (.list ds)
  | v => v

noncomputable def own (σ : Store) : AV → Option (PyData × Store)
  | .dat d => some (d, σ)
  | .fresh ds => some (.list ds, σ)
  | .cell i => match σ[i]? with
    | some (.live, ds) => some (.list ds, σ.set i (.frozen, ds))
    | some (.frozen, ds) => some (.list ds, σ)
    | _ => none
  | .exc _ => none

noncomputable def ownAll : List AV → Store → Option (List PyData × Store)
  | [], σ => some ([], σ)
  | v :: vs, σ => match own σ v with
    | none => none
    | some (d, σ') => match ownAll vs σ' with
      | none => none
      | some (ds, σ'') => some (d :: ds, σ'')

/-! ## Primitive operations on data -/

noncomputable def lim : Nat := 16777216

noncomputable def mulOk (a b : Int) : Bool := decide (a.natAbs < 2 ^ 64) || decide (b.natAbs < 2 ^ 64) || (decide (a.natAbs < 2 ^ 30000) && decide (b.natAbs < 2 ^ 30000))

noncomputable def strRep (n : Nat) (x : Str) : Str := ⟨((List.replicate n x.cps.toList).flatten).toArray⟩

noncomputable def intOp (f : Int → Int → Option AV) : PyData → PyData → Option AV
  | .int a, .int b => f a b
  | _, _ => none
noncomputable def addD : PyData → PyData → Option AV
  | .int a, .int b => some (.dat (.int (a + b)))
  | .tuple xs, .tuple ys => if xs.length + ys.length ≤ lim then some (.dat (.tuple (xs ++ ys))) else none
  | .list xs, .list ys => if xs.length + ys.length ≤ lim then some (.fresh (xs ++ ys)) else none
  | .str x, .str y => none
  | _, _ => none
noncomputable def mulD : PyData → PyData → Option AV
  | .int a, .int b => if mulOk a b then some (.dat (.int (a * b))) else none
  | .tuple xs, .int n => none
  | .list xs, .int n => none
  | .str x, .int n => none
  | _, _ => none
noncomputable def binD (op : Operator) (a b : PyData) : Option AV := match op with
  | .Add => addD a b
  | .Sub => intOp (fun a b => some (.dat (.int (a - b)))) a b
  | .Mult => mulD a b
  | .FloorDiv => intOp (fun a b => if b ≠ 0 ∧ b.natAbs < 1073741824 then some (.dat (.int (a.fdiv b))) else none) a b
  | .Mod => intOp (fun a b => if b ≠ 0 then some (.dat (.int (a.fmod b))) else none) a b
  | .Pow => intOp (fun a b => if 0 ≤ b ∧ b ≤ 1000000 ∧ a.natAbs < 2 ^ 64 then some (.dat (.int (a ^ b.toNat))) else none) a b
  | _ => none

noncomputable def subAt (x y : List Nat) : Bool := match y with
  | [] => x.isEmpty
  | _ :: ys => (y.take x.length == x) || subAt x ys

noncomputable def intCmp (f : Int → Int → Bool) : PyData → PyData → Option Bool
  | .int a, .int b => some (f a b)
  | _, _ => none
noncomputable def noneD : PyData → Bool
  | .none => true
  | _ => false
noncomputable def inD : PyData → PyData → Option Bool
  | .str x, .str y => none
  | .str x, .tuple ys => if SeqAt.shaped (.tuple ys) && SeqAt.shaped (.str x) then some (ys.any fun y => PyData.eqv y (.str x)) else none
  | _, _ => none
noncomputable def cmpD (op : CmpOp) (a b : PyData) : Option Bool := match op with
  | .Eq => if SeqAt.shaped a && SeqAt.shaped b then some (PyData.eqv a b) else none
  | .NotEq => if SeqAt.shaped a && SeqAt.shaped b then some (!PyData.eqv a b) else none
  | .Lt => intCmp (fun a b => decide (a < b)) a b
  | .LtE => intCmp (fun a b => decide (a ≤ b)) a b
  | .Gt => intCmp (fun a b => decide (b < a)) a b
  | .GtE => intCmp (fun a b => decide (b ≤ a)) a b
  | .Is => if noneD b then some (noneD a) else none
  | .IsNot => if noneD b then some (!noneD a) else none
  | .In => inD a b
  | _ => none

noncomputable def idxD : PyData → PyData → Option PyData
  | .tuple xs, .int i => if 0 ≤ i ∧ i.toNat < 4611686018427387904 then xs[i.toNat]? else none
  | .list xs, .int i => if 0 ≤ i ∧ i.toNat < 4611686018427387904 then xs[i.toNat]? else none
  | .str x, .int i => none
  | _, _ => none

/-- a slice's part: none, or an int that is not below nought -/
noncomputable def partD : PyData → Option (Option Nat)
  | .none => some none
  | .int i => if 0 ≤ i ∧ i.toNat < 4611686018427387904 then some (some i.toNat) else none
  | _ => none

noncomputable def cutL (xs : List PyData) (lo hi : Option Nat) : List PyData :=
  (xs.take (hi.getD xs.length)).drop (lo.getD 0)

noncomputable def sliceD : PyData → PyData → PyData → Option AV
  | .tuple xs, lo, hi => match partD lo, partD hi with
    | some l, some h => if xs.length ≤ lim then some (.dat (.tuple (cutL xs l h))) else none
    | _, _ => none
  | .list xs, lo, hi => match partD lo, partD hi with
    | some l, some h => if xs.length ≤ lim then some (.fresh (cutL xs l h)) else none
    | _, _ => none
  | _, _, _ => none

noncomputable def revD : PyData → Option AV
  | .tuple xs => if xs.length ≤ lim then some (.dat (.tuple xs.reverse)) else none
  | _ => none

noncomputable def seqD : PyData → Option (List PyData)
  | .tuple xs => some xs
  | .list xs => some xs
  | _ => none

noncomputable def boolsD : List PyData → Option (List Bool)
  | [] => some []
  | .bool b :: r => match boolsD r with
    | some bs => some (b :: bs)
    | none => none
  | _ => none

noncomputable def intsD : List PyData → Option (List Int)
  | [] => some []
  | .int b :: r => match intsD r with
    | some bs => some (b :: bs)
    | none => none
  | _ => none

noncomputable def strsD : List PyData → Option (List Str)
  | [] => some []
  | .str b :: r => match strsD r with
    | some bs => some (b :: bs)
    | none => none
  | _ => none

noncomputable def joinStr (xs : List Str) : Str := ⟨(xs.map fun x => x.cps.toList).flatten.toArray⟩

noncomputable def primD : Prim → List PyData → Option AV
  | .len, [d] => match d with
    | .tuple xs => if xs.length ≤ lim then some (.dat (.int xs.length)) else none
    | .list xs => if xs.length ≤ lim then some (.dat (.int xs.length)) else none
    | .str x => if x.length ≤ lim then some (.dat (.int x.length)) else none
    | _ => none
  | .all, [d] => match d with
    | .list xs => (match boolsD xs with | some bs => some (.dat (.bool (bs.all id))) | none => none)
    | _ => none
  | .any, [d] => match d with
    | .list xs => (match boolsD xs with | some bs => some (.dat (.bool (bs.any id))) | none => none)
    | _ => none
  | .sum, [d] => match d with
    | .list xs => (match intsD xs with | some is => some (.dat (.int is.sum)) | none => none)
    | _ => none
  | .tuple, [d] => (match seqD d with | some xs => if xs.length ≤ lim then some (.dat (.tuple xs)) else none | none => none)
  | .list, [d] => (match seqD d with | some xs => if xs.length ≤ lim then some (.fresh xs) else none | none => none)
  | .int, [d] => match d with
    | .bool b => some (.dat (.int (if b then 1 else 0)))
    | _ => none
  | .max, [.int a, .int b] => some (.dat (.int (if b > a then b else a)))
  | .join, [.str x, .list ys] => none
  | _, _ => none

noncomputable def isinD : Ty → PyData → Bool
  | .int, .int _ => true
  | .int, .bool _ => true
  | .bool, .bool _ => true
  | .tuple, .tuple _ => true
  | .list, .list _ => true
  | .str, .str _ => true
  | _, _ => false

/-- the bool that an abstract value is -/
noncomputable def boolA : AV → Option Bool
  | .dat (.bool b) => some b
  | _ => none

noncomputable def rangeL (a b : Int) : List PyData := (List.range (b - a).toNat).map fun (k : Nat) => .int (a + (k : Int))

noncomputable def itemsD : ItK → List PyData → Option (List PyData)
  | .seq, [d] => seqD d
  | .range1, [.int b] => if b.toNat < 1048576 then some (rangeL 0 b) else none
  | .range2, [.int a, .int b] => if (b - a).toNat < 1048576 then some (rangeL a b) else none
  | .zip, [x, y] => match seqD x, seqD y with
    | some xs, some ys => some ((xs.zip ys).map fun p => .tuple [p.1, p.2])
    | _, _ => none
  | _, _ => none

/-- the cells that an iteration reads and that are live: locked while it lasts -/
noncomputable def liveOf (σ : Store) : List AV → List Nat
  | [] => []
  | .cell i :: r => (match σ[i]? with | some (.live, _) => [i] | _ => []) ++ liveOf σ r
  | _ :: r => liveOf σ r
noncomputable def flagAll (f : Flag) : List Nat → Store → Store
  | [], σ => σ
  | i :: r, σ => flagAll f r (match σ[i]? with | some p => σ.set i (f, p.2) | none => σ)

noncomputable def rdAll (σ : Store) : List AV → Option (List PyData)
  | [] => some []
  | v :: vs => match rd σ v with
    | none => none
    | some d => match rdAll σ vs with
      | none => none
      | some ds => some (d :: ds)

noncomputable def bindMany : List Nat → List PyData → Rho → Option Rho
  | [], [], ρ => some ρ
  | i :: is, d :: ds, ρ => bindMany is ds (ρ.set i (.dat d))
  | _, _, _ => none

noncomputable def bindT : Tgt → PyData → Rho → Option Rho
  | .one i, d, ρ => some (ρ.set i (.dat d))
  | .many is, .tuple ds, ρ => bindMany is ds ρ
  | .many _, _, _ => none

/-! ## Evaluation -/

noncomputable def compGo (elt : Rho → Store → Option (AV × Store)) (tests : Rho → Store → Option (Bool × Store)) (t : Tgt) (ρ : Rho) : List PyData → Store → Option (List PyData × Store)
  | [], σ => some ([], σ)
  | d :: ds, σ => match bindT t d ρ with
    | none => none
    | some ρ' => match tests ρ' σ with
      | none => none
      | some (false, σ₁) => compGo elt tests t ρ ds σ₁
      | some (true, σ₁) => match elt ρ' σ₁ with
        | none => none
        | some (v, σ₂) => match own σ₂ (settle v) with
          | none => none
          | some (x, σ₃) => match compGo elt tests t ρ ds σ₃ with
            | none => none
            | some (xs, σ₄) => some (x :: xs, σ₄)

abbrev Phi := Nat → List AV → Store → Option (CR × Store)

noncomputable def excSub (c d : Nat) : Bool := c == d || d == 0 || d == 99

mutual
noncomputable def evE (Φ : Phi) : CE → Rho → Store → Option (AV × Store)
  | .const d, _, σ => some (.dat d, σ)
  | .var i, ρ, σ => match ρ i with
    | some v => some (v, σ)
    | none => none
  | .bin op a b, ρ, σ => match evE Φ a ρ σ with
    | none => none
    | some (x, σ₁) => match evE Φ b ρ σ₁ with
      | none => none
      | some (y, σ₂) => match rd σ₂ x, rd σ₂ y with
        | some dx, some dy => (match binD op dx dy with | some r => some (r, σ₂) | none => none)
        | _, _ => none
  | .neg a, ρ, σ => match evE Φ a ρ σ with
    | some (.dat (.int i), σ₁) => some (.dat (.int (-i)), σ₁)
    | _ => none
  | .nott a, ρ, σ => match evE Φ a ρ σ with
    | some (v, σ₁) => (match boolA v with | some b => some (.dat (.bool (!b)), σ₁) | none => none)
    | none => none
  | .bop op es, ρ, σ => match evB Φ op es ρ σ with
    | some (b, σ₁) => some (.dat (.bool b), σ₁)
    | none => none
  | .cmp op a b, ρ, σ => match evE Φ a ρ σ with
    | none => none
    | some (x, σ₁) => match evE Φ b ρ σ₁ with
      | none => none
      | some (y, σ₂) => match rd σ₂ x, rd σ₂ y with
        | some dx, some dy => (match cmpD op dx dy with | some r => some (.dat (.bool r), σ₂) | none => none)
        | _, _ => none
  | .cmp2 o1 o2 a b c, ρ, σ => match evE Φ a ρ σ with
    | none => none
    | some (x, σ₁) => match evE Φ b ρ σ₁ with
      | none => none
      | some (y, σ₂) => match rd σ₂ x, rd σ₂ y with
        | some dx, some dy => (match cmpD o1 dx dy with
          | some false => some (.dat (.bool false), σ₂)
          | some true => (match evE Φ c ρ σ₂ with
            | none => none
            | some (z, σ₃) => match rd σ₃ y, rd σ₃ z with
              | some dy', some dz => (match cmpD o2 dy' dz with | some r => some (.dat (.bool r), σ₃) | none => none)
              | _, _ => none)
          | none => none)
        | _, _ => none
  | .ite c a b, ρ, σ => match evE Φ c ρ σ with
    | some (v, σ₁) => (match boolA v with
      | some true => evE Φ a ρ σ₁
      | some false => evE Φ b ρ σ₁
      | none => none)
    | none => none
  | .idx a i, ρ, σ => match evE Φ a ρ σ with
    | none => none
    | some (x, σ₁) => match evE Φ i ρ σ₁ with
      | none => none
      | some (y, σ₂) => match rd σ₂ x, rd σ₂ y with
        | some dx, some dy => (match idxD dx dy with | some r => some (.dat r, σ₂) | none => none)
        | _, _ => none
  | .slice a lo hi, ρ, σ => none
  | .rev a, ρ, σ => none
  | .tup es, ρ, σ => match evEs Φ es ρ σ with
    | none => none
    | some (vs, σ₁) => match ownAll vs σ₁ with
      | some (ds, σ₂) => some (.dat (.tuple ds), σ₂)
      | none => none
  | .lst es, ρ, σ => match evEs Φ es ρ σ with
    | none => none
    | some (vs, σ₁) => match ownAll vs σ₁ with
      | some (ds, σ₂) => some (.fresh ds, σ₂)
      | none => none
  | .call f es, ρ, σ => match evEs Φ es ρ σ with
    | none => none
    | some (vs, σ₁) => match Φ f vs σ₁ with
      | some (.ret v, σ₂) => some (v, σ₂)
      | _ => none
  | .prim p es, ρ, σ => match evEs Φ es ρ σ with
    | none => none
    | some (vs, σ₁) => match rdAll σ₁ vs with
      | some ds => (match primD p ds with | some r => some (r, σ₁) | none => none)
      | none => none
  | .isin e t, ρ, σ => match evE Φ e ρ σ with
    | none => none
    | some (x, σ₁) => match rd σ₁ x with
      | some d => some (.dat (.bool (isinD t d)), σ₁)
      | none => none
  | .isexc e cs, ρ, σ => none
  | .pop x, ρ, σ => none
  | .pop0 x, ρ, σ => none
  | .comp elt t k its ifs, ρ, σ => match evEs Φ its ρ σ with
    | none => none
    | some (vs, σ₁) => match rdAll σ₁ vs with
      | none => none
      | some ds => match itemsD k ds with
        | none => none
        | some xs => if xs.length ≤ lim then (match compGo (fun ρ' σ' => evE Φ elt ρ' σ') (fun ρ' σ' => evB Φ .And ifs ρ' σ') t ρ xs (flagAll .locked (liveOf σ₁ vs) σ₁) with
          | none => none
          | some (ys, σ₂) => some (.fresh ys, flagAll .live (liveOf σ₁ vs) σ₂)) else none
/-- a bool operation, all its parts bools -/
noncomputable def evB (Φ : Phi) : BoolOp → List CE → Rho → Store → Option (Bool × Store)
  | op, [], _, σ => some (op == .And, σ)
  | op, e :: es, ρ, σ => match evE Φ e ρ σ with
    | none => none
    | some (v, σ₁) => match boolA v with
      | none => none
      | some b => if b == (op == .And) then evB Φ op es ρ σ₁ else some (b, σ₁)
noncomputable def evEs (Φ : Phi) : List CE → Rho → Store → Option (List AV × Store)
  | [], _, σ => some ([], σ)
  | e :: es, ρ, σ => match evE Φ e ρ σ with
    | none => none
    | some (v, σ₁) => match evEs Φ es ρ σ₁ with
      | none => none
      | some (vs, σ₂) => some (settle v :: vs, σ₂)
end

noncomputable def forGo (t : Tgt) (body : Rho → Store → Option (Fl × Store)) : List PyData → Rho → Store → Option (Fl × Store)
  | [], ρ, σ => some (.next ρ, σ)
  | d :: ds, ρ, σ => match bindT t d ρ with
    | none => none
    | some ρ₁ => match body ρ₁ σ with
      | some (.next ρ₂, σ₂) => forGo t body ds ρ₂ σ₂
      | r => r

noncomputable def whileGo (test : Rho → Store → Option (AV × Store)) (body : Rho → Store → Option (Fl × Store)) : Nat → Rho → Store → Option (Fl × Store)
  | 0, _, _ => none
  | n + 1, ρ, σ => match test ρ σ with
    | none => none
    | some (v, σ₁) => match boolA v with
      | none => none
      | some false => some (.next ρ, σ₁)
      | some true => match body ρ σ₁ with
        | some (.next ρ₂, σ₂) => whileGo test body n ρ₂ σ₂
        | r => r

mutual
noncomputable def evS (N : Nat) (Φ : Phi) : CS → Rho → Store → Option (Fl × Store)
  | .assign i e, ρ, σ => match evE Φ e ρ σ with
    | some (v, σ₁) => some (.next (ρ.set i (settle v)), σ₁)
    | none => none
  | .newcell i e, ρ, σ => match evE Φ e ρ σ with
    | some (.fresh ds, σ₁) => some (.next (ρ.set i (.cell σ₁.length)), σ₁ ++ [(.live, ds)])
    | some (v, σ₁) => some (.next (ρ.set i v), σ₁)
    | none => none
  | .unpack is e, ρ, σ => match evE Φ e ρ σ with
    | some (.dat (.tuple ds), σ₁) => (match bindMany is ds ρ with | some ρ' => some (.next ρ', σ₁) | none => none)
    | _ => none
  | .setItem x i e, ρ, σ => match evE Φ e ρ σ with
    | none => none
    | some (v, σ₁) => match own σ₁ (settle v) with
      | none => none
      | some (d, σ₂) => match evE Φ i ρ σ₂ with
        | some (.dat (.int k), σ₃) => (match ρ x with
          | some (.cell c) => (match σ₃[c]? with
            | some (.live, ds) => if 0 ≤ k ∧ k.toNat < 4611686018427387904 ∧ k.toNat < ds.length then some (.next ρ, σ₃.set c (.live, ds.set k.toNat d)) else none
            | _ => none)
          | _ => none)
        | _ => none
  | .expr e, ρ, σ => match e with
    | .call f es => (match evEs Φ es ρ σ with
      | none => none
      | some (vs, σ₁) => match Φ f vs σ₁ with
        | some (.ret _, σ₂) => some (.next ρ, σ₂)
        | some (.exc c, σ₂) => some (.exc c, σ₂)
        | none => none)
    | _ => none
  | .append x e, ρ, σ => match ρ x with
    | some (.cell c) => (match evE Φ e ρ σ with
      | none => none
      | some (v, σ₁) => match own σ₁ (settle v) with
        | none => none
        | some (d, σ₂) => match σ₂[c]? with
          | some (.live, ds) => if ds.length < lim then some (.next ρ, σ₂.set c (.live, ds ++ [d])) else none
          | _ => none)
    | _ => none
  | .extend x e, ρ, σ => match ρ x with
    | some (.cell c) => (match evE Φ e ρ σ with
      | none => none
      | some (v, σ₁) => match rd σ₁ (settle v) with
        | some (.list es) => (match σ₁[c]? with
          | some (.live, ds) => if ds.length + es.length ≤ lim then some (.next ρ, σ₁.set c (.live, ds ++ es)) else none
          | _ => none)
        | _ => none)
    | _ => none
  | .insert x i e, ρ, σ => match ρ x with
    | some (.cell c) => (match evE Φ i ρ σ with
      | some (.dat (.int k), σ₁) => (match evE Φ e ρ σ₁ with
        | none => none
        | some (v, σ₂) => match own σ₂ (settle v) with
          | none => none
          | some (d, σ₃) => match σ₃[c]? with
            | some (.live, ds) => if 0 ≤ k ∧ k.toNat ≤ ds.length ∧ ds.length < lim then some (.next ρ, σ₃.set c (.live, ds.take k.toNat ++ d :: ds.drop k.toNat)) else none
            | _ => none)
      | _ => none)
    | _ => none
  | .ite c a b, ρ, σ => match evE Φ c ρ σ with
    | some (v, σ₁) => (match boolA v with
      | some true => evSs N Φ a ρ σ₁
      | some false => evSs N Φ b ρ σ₁
      | none => none)
    | none => none
  | .whil c body, ρ, σ => whileGo (fun ρ' σ' => evE Φ c ρ' σ') (fun ρ' σ' => evSs N Φ body ρ' σ') N ρ σ
  | .forr t k its body, ρ, σ => match evEs Φ its ρ σ with
    | none => none
    | some (vs, σ₁) => match rdAll σ₁ vs with
      | none => none
      | some ds => match itemsD k ds with
        | none => none
        | some xs => match forGo t (fun ρ' σ' => evSs N Φ body ρ' σ') xs ρ (flagAll .locked (liveOf σ₁ vs) σ₁) with
          | none => none
          | some (f, σ₂) => some (f, flagAll .live (liveOf σ₁ vs) σ₂)
  | .ret e, ρ, σ => match evE Φ e ρ σ with
    | some (v, σ₁) => some (.ret v, σ₁)
    | none => none
  | .raise c, _, σ => some (.exc c, σ)
  | .tryy body c x h, ρ, σ => match evSs N Φ body ρ σ with
    | some (.exc d, σ₁) => if excSub d c then evSs N Φ h (ρ.set x (.exc d)) σ₁ else none
    | r => r
noncomputable def evSs (N : Nat) (Φ : Phi) : List CS → Rho → Store → Option (Fl × Store)
  | [], ρ, σ => some (.next ρ, σ)
  | c :: cs, ρ, σ => match evS N Φ c ρ σ with
    | some (.next ρ₁, σ₁) => evSs N Φ cs ρ₁ σ₁
    | r => r
end

/-- what a call hands back: a cell of its own is a fresh list -/
noncomputable def leave (n : Nat) (σ : Store) : AV → Option AV
  | .cell i => if i < n then some (.cell i) else match σ[i]? with
    | some (.live, ds) => some (.fresh ds)
    | some (.frozen, ds) => some (.dat (.list ds))
    | _ => none
  | .exc _ => none
  | v => some v

noncomputable def bindArgsR : List Nat → List AV → Rho → Option Rho
  | [], [], ρ => some ρ
  | i :: is, v :: vs, ρ => bindArgsR is vs (ρ.set i v)
  | _, _, _ => none

noncomputable def runF (N : Nat) (Φ : Phi) (params : List Nat) (body : List CS) (args : List AV) (σ : Store) : Option (CR × Store) :=
  match bindArgsR params args (fun _ => none) with
  | none => none
  | some ρ => match evSs N Φ body ρ σ with
    | none => none
    | some (.next _, σ₁) => some (.ret (.dat .none), σ₁.take σ.length)
    | some (.ret v, σ₁) => (match leave σ.length σ₁ v with | some r => some (.ret r, σ₁.take σ.length) | none => none)
    | some (.exc c, σ₁) => some (.exc c, σ₁.take σ.length)

/-- the functions of a text, by ranks -/
noncomputable def tabAt (tab : List (List Nat × List CS)) (N : Nat) : Nat → Phi
  | 0 => fun _ _ _ => none
  | k + 1 => fun f args σ => match tab[f]? with
    | some (is, cs) => runF N (tabAt tab N k) is cs args σ
    | none => none

end Mine

-- M2
namespace Mine
open PySem

/-! ## How the heap bears data -/

abbrev tupO (vs : List Value) (n : Nat) : Obj := { cls := .type "tuple", data := .seq vs.toArray n }
abbrev lstO (vs : List Value) (n : Nat) : Obj := { cls := .type "list", data := .seq vs.toArray n }

mutual
inductive Rd (h : Heap) (S : Addr → Prop) : Value → PyData → Prop
  | none : Rd h S .none .none
  | bool (b : Bool) : Rd h S (.bool b) (.bool b)
  | int (i : Int) (t : Tok) : Rd h S (.int i t) (.int i)
  | str (x : Str) (t : Tok) : Rd h S (.str x t) (.str x)
  | tuple {a : Addr} {vs : List Value} {n : Nat} {ds : List PyData} : S a → h.get? a = some (tupO vs n) → RdL h S vs ds → Rd h S (.ref a) (.tuple ds)
  | list {a : Addr} {vs : List Value} {n : Nat} {ds : List PyData} : S a → h.get? a = some (lstO vs n) → RdL h S vs ds → Rd h S (.ref a) (.list ds)
inductive RdL (h : Heap) (S : Addr → Prop) : List Value → List PyData → Prop
  | nil : RdL h S [] []
  | cons {v : Value} {vs : List Value} {d : PyData} {ds : List PyData} : Rd h S v d → RdL h S vs ds → RdL h S (v :: vs) (d :: ds)
end

mutual
theorem Rd.mono {h h' : Heap} {S S' : Addr → Prop} (hk : ∀ a o, S a → h.get? a = some o → h'.get? a = some o) (hs : ∀ a, S a → S' a) : ∀ {v : Value} {d : PyData}, Rd h S v d → Rd h' S' v d
  | _, _, .none => .none
  | _, _, .bool b => .bool b
  | _, _, .int i t => .int i t
  | _, _, .str x t => .str x t
  | _, _, .tuple a e r => .tuple (hs _ a) (hk _ _ a e) (RdL.mono hk hs r)
  | _, _, .list a e r => .list (hs _ a) (hk _ _ a e) (RdL.mono hk hs r)
theorem RdL.mono {h h' : Heap} {S S' : Addr → Prop} (hk : ∀ a o, S a → h.get? a = some o → h'.get? a = some o) (hs : ∀ a, S a → S' a) : ∀ {vs : List Value} {ds : List PyData}, RdL h S vs ds → RdL h' S' vs ds
  | _, _, .nil => .nil
  | _, _, .cons x r => .cons (Rd.mono hk hs x) (RdL.mono hk hs r)
end

mutual
theorem Rd.reads {h : Heap} {S : Addr → Prop} : ∀ {v : Value} {d : PyData}, Rd h S v d → ∃ as, Reads h v d as
  | _, _, .none => ⟨_, .none⟩
  | _, _, .bool b => ⟨_, .bool b⟩
  | _, _, .int i t => ⟨_, .int i t⟩
  | _, _, .str x t => ⟨_, .str x t⟩
  | _, _, .tuple _ e r => let ⟨as, q⟩ := RdL.reads r; ⟨as, .tuple e rfl rfl (by simpa using q)⟩
  | _, _, .list _ e r => let ⟨as, q⟩ := RdL.reads r; ⟨_, .list e rfl rfl (by simpa using q)⟩
theorem RdL.reads {h : Heap} {S : Addr → Prop} : ∀ {vs : List Value} {ds : List PyData}, RdL h S vs ds → ∃ as, ReadsAll h vs ds as
  | _, _, .nil => ⟨_, .nil⟩
  | _, _, .cons x r => let ⟨as, q⟩ := Rd.reads x; let ⟨bs, p⟩ := RdL.reads r; ⟨_, .cons q p⟩
end

theorem RdL.length {h : Heap} {S : Addr → Prop} {vs : List Value} {ds : List PyData} (r : RdL h S vs ds) : vs.length = ds.length := by
  induction vs generalizing ds with
  | nil => cases r; rfl
  | cons v vs ih => cases r with | cons _ r => simp [ih r]
theorem RdL.append {h : Heap} {S : Addr → Prop} {vs ws : List Value} {ds es : List PyData} (r : RdL h S vs ds) (q : RdL h S ws es) : RdL h S (vs ++ ws) (ds ++ es) := by
  induction vs generalizing ds with
  | nil => cases r; exact q
  | cons v vs ih => cases r with | cons x r => exact .cons x (ih r)
theorem RdL.get {h : Heap} {S : Addr → Prop} {vs : List Value} {ds : List PyData} (r : RdL h S vs ds) {k : Nat} {d : PyData} (hk : ds[k]? = some d) : ∃ v, vs[k]? = some v ∧ Rd h S v d := by
  induction vs generalizing ds k with
  | nil => cases r; simp at hk
  | cons v vs ih =>
    cases r with
    | cons x r =>
      cases k with
      | zero => simp at hk; subst hk; exact ⟨v, rfl, x⟩
      | succ k => simp at hk; simpa using ih r hk
theorem RdL.getV {h : Heap} {S : Addr → Prop} {vs : List Value} {ds : List PyData} (r : RdL h S vs ds) {k : Nat} {v : Value} (hk : vs[k]? = some v) : ∃ d, ds[k]? = some d ∧ Rd h S v d := by
  induction vs generalizing ds k with
  | nil => simp at hk
  | cons v vs ih =>
    cases r with
    | cons x r =>
      cases k with
      | zero => simp at hk; subst hk; exact ⟨_, rfl, x⟩
      | succ k => simp at hk; simpa using ih r hk
theorem RdL.take {h : Heap} {S : Addr → Prop} {vs : List Value} {ds : List PyData} (r : RdL h S vs ds) (n : Nat) : RdL h S (vs.take n) (ds.take n) := by
  induction vs generalizing ds n with
  | nil => cases r; simpa using RdL.nil
  | cons v vs ih =>
    cases r with
    | cons x r => cases n with
      | zero => exact .nil
      | succ n => exact .cons x (ih r n)
theorem RdL.drop {h : Heap} {S : Addr → Prop} {vs : List Value} {ds : List PyData} (r : RdL h S vs ds) (n : Nat) : RdL h S (vs.drop n) (ds.drop n) := by
  induction vs generalizing ds n with
  | nil => cases r; simpa using RdL.nil
  | cons v vs ih =>
    cases r with
    | cons x r => cases n with
      | zero => exact .cons x r
      | succ n => exact ih r n
theorem RdL.one {h : Heap} {S : Addr → Prop} {v : Value} {d : PyData} (x : Rd h S v d) : RdL h S [v] [d] := .cons x .nil
theorem RdL.reverse {h : Heap} {S : Addr → Prop} {vs : List Value} {ds : List PyData} (r : RdL h S vs ds) : RdL h S vs.reverse ds.reverse := by
  induction vs generalizing ds with
  | nil => cases r; exact .nil
  | cons v vs ih => cases r with | cons x r => simpa using (ih r).append (.one x)
theorem RdL.replicate {h : Heap} {S : Addr → Prop} {vs : List Value} {ds : List PyData} (r : RdL h S vs ds) (n : Nat) : RdL h S (List.replicate n vs).flatten (List.replicate n ds).flatten := by
  induction n with
  | zero => exact .nil
  | succ n ih => simpa [List.replicate_succ] using r.append ih
theorem RdL.set {h : Heap} {S : Addr → Prop} {vs : List Value} {ds : List PyData} (r : RdL h S vs ds) {v : Value} {d : PyData} (x : Rd h S v d) (k : Nat) : RdL h S (vs.set k v) (ds.set k d) := by
  induction vs generalizing ds k with
  | nil => cases r; simpa using RdL.nil
  | cons w vs ih =>
    cases r with
    | cons y r => cases k with
      | zero => exact .cons x r
      | succ k => exact .cons y (ih r k)

/-- read at the top: a list there may be a cell or new -/
inductive Rt (h : Heap) (S : Addr → Prop) : Value → PyData → Prop
  | dat {v : Value} {d : PyData} : Rd h S v d → Rt h S v d
  | lst {a : Addr} {vs : List Value} {n : Nat} {ds : List PyData} : h.get? a = some (lstO vs n) → RdL h S vs ds → Rt h S (.ref a) (.list ds)

theorem Rt.reads {h : Heap} {S : Addr → Prop} {v : Value} {d : PyData} (r : Rt h S v d) : ∃ as, Reads h v d as := by
  cases r with
  | dat r => exact r.reads
  | lst e r => obtain ⟨as, q⟩ := r.reads; exact ⟨_, .list e rfl rfl (by simpa using q)⟩
theorem Rt.lstD {h : Heap} {S : Addr → Prop} {v : Value} {ds : List PyData} (r : Rt h S v (.list ds)) : ∃ a vs n, v = .ref a ∧ h.get? a = some (lstO vs n) ∧ RdL h S vs ds := by
  cases r with
  | dat r => cases r with | list _ e q => exact ⟨_, _, _, rfl, e, q⟩
  | lst e q => exact ⟨_, _, _, rfl, e, q⟩
theorem Rt.tupD {h : Heap} {S : Addr → Prop} {v : Value} {ds : List PyData} (r : Rt h S v (.tuple ds)) : ∃ a vs n, v = .ref a ∧ S a ∧ h.get? a = some (tupO vs n) ∧ RdL h S vs ds := by
  cases r with
  | dat r => cases r with | tuple s e q => exact ⟨_, _, _, rfl, s, e, q⟩
theorem Rt.intD {h : Heap} {S : Addr → Prop} {v : Value} {i : Int} (r : Rt h S v (.int i)) : ∃ t, v = .int i t := by
  cases r with
  | dat r => cases r with | int i t => exact ⟨t, rfl⟩
theorem Rt.strD {h : Heap} {S : Addr → Prop} {v : Value} {x : Str} (r : Rt h S v (.str x)) : ∃ t, v = .str x t := by
  cases r with
  | dat r => cases r with | str i t => exact ⟨t, rfl⟩
theorem Rt.boolD {h : Heap} {S : Addr → Prop} {v : Value} {x : Bool} (r : Rt h S v (.bool x)) : v = .bool x := by
  cases r with
  | dat r => cases r with | bool i => rfl
theorem Rt.noneD {h : Heap} {S : Addr → Prop} {v : Value} (r : Rt h S v .none) : v = .none := by
  cases r with
  | dat r => cases r with | none => rfl

/-- an object that is no namespace and no cell -/
noncomputable def Plainly (o : Obj) : Prop := (∀ es n, o.data ≠ .dict es n) ∧ ∀ v, o.data ≠ .cell v
theorem lst_plain (vs : List Value) (n : Nat) : Plainly (lstO vs n) := by constructor <;> (intros; intro q; cases q)
theorem tup_plain (vs : List Value) (n : Nat) : Plainly (tupO vs n) := by constructor <;> (intros; intro q; cases q)

/-! ## The store's cells, the invariant -/

noncomputable def Live (μ : List Addr) (σ : Store) (a : Addr) : Prop := ∃ (i : Nat) (ds : List PyData), μ[i]? = some a ∧ σ[i]? = some (Flag.live, ds)

structure Inv (base : Heap) (S : Addr → Prop) (μ : List Addr) (σ : Store) (h : Heap) : Prop where
  keepB : ∀ b o, base.get? b = some o → h.get? b = some o
  len : μ.length = σ.length
  cells : ∀ (i : Nat) (a : Addr) (f : Flag) (ds : List PyData), μ[i]? = some a → σ[i]? = some (f, ds) → ∃ vs n, h.get? a = some (lstO vs n) ∧ RdL h S vs ds ∧ (f = Flag.frozen → S a) ∧ (f ≠ Flag.frozen → ¬ S a)
  nodup : ∀ (i j : Nat) (a : Addr), μ[i]? = some a → μ[j]? = some a → i = j
  new : ∀ a ∈ μ, base.get? a = none
  inS : ∀ a, S a → ∃ o, h.get? a = some o ∧ Plainly o

noncomputable def Keep (W : Addr → Prop) (h h' : Heap) : Prop := ∀ b o, ¬ W b → h.get? b = some o → h'.get? b = some o

structure Ev (base : Heap) (μ : List Addr) (S S' : Addr → Prop) (σ σ' : Store) (h h' : Heap) : Prop where
  sub : ∀ a, S a → S' a
  new : ∀ a, S' a → S a ∨ h.get? a = none ∨ Live μ σ a
  inv : Inv base S' μ σ' h'
  keep : Keep (Live μ σ) h h'
  live : ∀ a, Live μ σ' a → Live μ σ a

theorem Inv.cell {base : Heap} {S : Addr → Prop} {μ : List Addr} {σ : Store} {h : Heap} (I : Inv base S μ σ h) {i : Nat} {f : Flag} {ds : List PyData} (e : σ[i]? = some (f, ds)) : ∃ a, μ[i]? = some a := by
  have : i < μ.length := by
    rw [I.len]
    rcases Nat.lt_or_ge i σ.length with q | q
    · exact q
    · rw [List.getElem?_eq_none q] at e; cases e
  exact ⟨_, List.getElem?_eq_getElem this⟩
theorem Inv.cellS {base : Heap} {S : Addr → Prop} {μ : List Addr} {σ : Store} {h : Heap} (I : Inv base S μ σ h) {i : Nat} {a : Addr} (e : μ[i]? = some a) : ∃ f ds, σ[i]? = some (f, ds) := by
  have : i < σ.length := by
    rw [← I.len]
    rcases Nat.lt_or_ge i μ.length with q | q
    · exact q
    · rw [List.getElem?_eq_none q] at e; cases e
  exact ⟨_, _, List.getElem?_eq_getElem this⟩
theorem Live.obj {base : Heap} {S : Addr → Prop} {μ : List Addr} {σ : Store} {h : Heap} {a : Addr} (I : Inv base S μ σ h) (l : Live μ σ a) : ∃ vs n, h.get? a = some (lstO vs n) := by
  obtain ⟨i, ds, e1, e2⟩ := l
  obtain ⟨vs, n, e, _⟩ := I.cells i a _ ds e1 e2
  exact ⟨vs, n, e⟩
theorem Live.notS {base : Heap} {S : Addr → Prop} {μ : List Addr} {σ : Store} {h : Heap} {a : Addr} (I : Inv base S μ σ h) (l : Live μ σ a) : ¬ S a := by
  obtain ⟨i, ds, e1, e2⟩ := l
  obtain ⟨vs, n, e, _, _, q⟩ := I.cells i a _ ds e1 e2
  exact q (by intro x; cases x)
theorem Inv.mem {base : Heap} {S : Addr → Prop} {μ : List Addr} {σ : Store} {h : Heap} (I : Inv base S μ σ h) {a : Addr} (m : a ∈ μ) : ∃ vs n, h.get? a = some (lstO vs n) := by
  obtain ⟨i, hi, rfl⟩ := List.getElem_of_mem m
  obtain ⟨f, ds, e⟩ := I.cellS (List.getElem?_eq_getElem hi)
  obtain ⟨vs, n, e, _⟩ := I.cells i _ f ds (List.getElem?_eq_getElem hi) e
  exact ⟨vs, n, e⟩
/-- what S holds is kept -/
theorem Ev.keepS {base : Heap} {μ : List Addr} {S S' : Addr → Prop} {σ σ' : Store} {h h' : Heap} (I : Inv base S μ σ h) (x : Ev base μ S S' σ σ' h h') : ∀ a o, S a → h.get? a = some o → h'.get? a = some o :=
  fun a o hs e => x.keep a o (fun l => l.notS I hs) e
theorem Ev.refl {base : Heap} {μ : List Addr} {S : Addr → Prop} {σ : Store} {h : Heap} (I : Inv base S μ σ h) : Ev base μ S S σ σ h h :=
  ⟨fun _ x => x, fun _ x => .inl x, I, fun _ _ _ e => e, fun _ x => x⟩
/-- what is allocated stays so -/
theorem Ev.stays {base : Heap} {μ : List Addr} {S S' : Addr → Prop} {σ σ' : Store} {h h' : Heap} (x : Ev base μ S S' σ σ' h h') {a : Addr} {o : Obj} (e : h.get? a = some o) : ∃ o', h'.get? a = some o' := by
  by_cases l : Live μ σ a
  · obtain ⟨i, ds, e1, _⟩ := l
    obtain ⟨vs, n, q⟩ := x.inv.mem (List.mem_of_getElem? e1)
    exact ⟨_, q⟩
  · exact ⟨o, x.keep a o l e⟩
theorem Ev.gone {base : Heap} {μ : List Addr} {S S' : Addr → Prop} {σ σ' : Store} {h h' : Heap} (x : Ev base μ S S' σ σ' h h') {a : Addr} (e : h'.get? a = none) : h.get? a = none := by
  cases q : h.get? a with
  | none => rfl
  | some o => obtain ⟨o', q'⟩ := x.stays q; rw [q'] at e; cases e
theorem Ev.trans {base : Heap} {μ : List Addr} {S S' S'' : Addr → Prop} {σ σ' σ'' : Store} {h h' h'' : Heap} (x : Ev base μ S S' σ σ' h h') (y : Ev base μ S' S'' σ' σ'' h' h'') : Ev base μ S S'' σ σ'' h h'' where
  sub := fun a s => y.sub a (x.sub a s)
  new := fun a s => by
    rcases y.new a s with q | q | q
    · exact x.new a q
    · exact .inr (.inl (x.gone q))
    · exact .inr (.inr (x.live a q))
  inv := y.inv
  keep := fun b o hb e => y.keep b o (fun l => hb (x.live b l)) (x.keep b o hb e)
  live := fun a l => x.live a (y.live a l)

/-! ## What an expression hands back -/

/-- the classes of the text's own exceptions -/
abbrev ExcCls := Nat → Addr

inductive RdA (ec : ExcCls) (h : Heap) (S : Addr → Prop) (μ : List Addr) : Value → AV → Prop
  | dat {v : Value} {d : PyData} : Rd h S v d → RdA ec h S μ v (.dat d)
  | cell {i : Nat} {a : Addr} : μ[i]? = some a → RdA ec h S μ (.ref a) (.cell i)
  | exc {a : Addr} {o : Obj} {c : Nat} : S a → h.get? a = some o → o.cls = .ref (ec c) → RdA ec h S μ (.ref a) (.exc c)

/-- a result; h₀: the heap ahead -/
inductive RdR (ec : ExcCls) (h₀ h : Heap) (S : Addr → Prop) (μ : List Addr) : Value → AV → Prop
  | old {v : Value} {av : AV} : RdA ec h S μ v av → RdR ec h₀ h S μ v av
  | fresh {a : Addr} {vs : List Value} {n : Nat} {ds : List PyData} : h.get? a = some (lstO vs n) → RdL h S vs ds → ¬ S a → h₀.get? a = none → RdR ec h₀ h S μ (.ref a) (.fresh ds)

inductive RdAs (ec : ExcCls) (h : Heap) (S : Addr → Prop) (μ : List Addr) : List Value → List AV → Prop
  | nil : RdAs ec h S μ [] []
  | cons {v : Value} {vs : List Value} {av : AV} {avs : List AV} : RdA ec h S μ v av → RdAs ec h S μ vs avs → RdAs ec h S μ (v :: vs) (av :: avs)

section
variable {ec : ExcCls} {base : Heap} {μ : List Addr} {S S' : Addr → Prop} {σ σ' : Store} {h h' h₀ : Heap}

theorem RdA.mono {μ' : List Addr} (hk : ∀ a o, S a → h.get? a = some o → h'.get? a = some o) (hs : ∀ a, S a → S' a) (hm : ∀ (i : Nat) (a : Addr), μ[i]? = some a → μ'[i]? = some a) {v : Value} {av : AV} (r : RdA ec h S μ v av) : RdA ec h' S' μ' v av := by
  cases r with
  | dat r => exact .dat (r.mono hk hs)
  | cell e => exact .cell (hm _ _ e)
  | exc s e q => exact .exc (hs _ s) (hk _ _ s e) q
theorem RdA.ev (I : Inv base S μ σ h) (x : Ev base μ S S' σ σ' h h') {v : Value} {av : AV} (r : RdA ec h S μ v av) : RdA ec h' S' μ v av := r.mono (x.keepS I) x.sub fun _ _ q => q
theorem RdAs.ev (I : Inv base S μ σ h) (x : Ev base μ S S' σ σ' h h') {vs : List Value} {avs : List AV} (r : RdAs ec h S μ vs avs) : RdAs ec h' S' μ vs avs := by
  induction vs generalizing avs with
  | nil => cases r; exact .nil
  | cons v vs ih => cases r with | cons a r => exact .cons (a.ev I x) (ih r)
theorem RdA.rt (I : Inv base S μ σ h) {v : Value} {av : AV} {d : PyData} (r : RdA ec h S μ v av) (e : rd σ av = some d) : Rt h S v d := by
  cases r with
  | dat r => cases e; exact .dat r
  | @cell i a hi =>
    simp only [rd] at e
    obtain ⟨f, ds, q⟩ := I.cellS hi
    rw [q] at e; cases e
    obtain ⟨vs, n, e1, e2, _⟩ := I.cells i a f ds hi q
    exact .lst e1 e2
  | exc _ _ _ => cases e
end

end Mine

-- M3
namespace Mine
open PySem

/-! ## The primitive operations -/

structure Step (S S' : Addr → Prop) (h h' : Heap) : Prop where
  grow : ∀ b o, h.get? b = some o → h'.get? b = some o
  sub : ∀ a, S a → S' a
  new : ∀ a, S' a → S a ∨ h.get? a = none
  inS : ∀ a, S' a → S a ∨ ∃ o, h'.get? a = some o ∧ Plainly o

theorem Step.refl {S : Addr → Prop} {h : Heap} : Step S S h h := ⟨fun _ _ e => e, fun _ x => x, fun _ x => .inl x, fun _ x => .inl x⟩
theorem Step.grown {S : Addr → Prop} {h h' : Heap} (g : ∀ b o, h.get? b = some o → h'.get? b = some o) : Step S S h h' := ⟨g, fun _ x => x, fun _ x => .inl x, fun _ x => .inl x⟩
theorem Step.add {S : Addr → Prop} {h h' : Heap} (g : ∀ b o, h.get? b = some o → h'.get? b = some o) {a : Addr} {o : Obj} (n : h.get? a = none) (e : h'.get? a = some o) (pl : Plainly o) : Step S (fun b => S b ∨ b = a) h h' :=
  ⟨g, fun _ x => .inl x, fun b x => x.elim .inl fun q => .inr (q ▸ n), fun b x => x.elim .inl fun q => .inr ⟨o, q ▸ e, pl⟩⟩
theorem Step.ev {base : Heap} {μ : List Addr} {S S' : Addr → Prop} {σ : Store} {h h' : Heap} (I : Inv base S μ σ h) (x : Step S S' h h') : Ev base μ S S' σ σ h h' where
  sub := x.sub
  new := fun a s => (x.new a s).elim .inl fun q => .inr (.inl q)
  inv := {
    keepB := fun b o e => x.grow b o (I.keepB b o e)
    len := I.len
    cells := fun i a f ds e1 e2 => by
      obtain ⟨vs, n, e, r, q1, q2⟩ := I.cells i a f ds e1 e2
      refine ⟨vs, n, x.grow _ _ e, r.mono (fun b o _ => x.grow b o) x.sub, fun hf => x.sub _ (q1 hf), fun hf s => ?_⟩
      rcases x.new a s with s | s
      · exact q2 hf s
      · rw [e] at s; cases s
    nodup := I.nodup
    new := I.new
    inS := fun a s => (x.inS a s).elim (fun s => let ⟨o, e, q⟩ := I.inS a s; ⟨o, x.grow _ _ e, q⟩) id }
  keep := fun b o _ e => x.grow b o e
  live := fun _ l => l
theorem Step.trans {S S' S'' : Addr → Prop} {h h' h'' : Heap} (x : Step S S' h h') (y : Step S' S'' h' h'') : Step S S'' h h'' where
  grow := fun b o e => y.grow b o (x.grow b o e)
  sub := fun a s => y.sub a (x.sub a s)
  new := fun a s => (y.new a s).elim (x.new a) fun q => .inr (by
    cases e : h.get? a with
    | none => rfl
    | some o => rw [x.grow _ _ e] at q; cases q)
  inS := fun a s => (y.inS a s).elim (fun s => (x.inS a s).elim .inl fun ⟨o, e, q⟩ => .inr ⟨o, y.grow _ _ e, q⟩) .inr

/-- what is asked behind a primitive -/
noncomputable def PPost (ec : ExcCls) (s : Shared) (S : Addr → Prop) (μ : List Addr) (r : AV) (Q : Value → Shared → Prop) : Prop :=
  ∀ v h' tk S', Step S S' s.heap h' → RdR ec s.heap h' S' μ v r → Q v { s with heap := h', toks := tk }

section
variable {ec : ExcCls} {μ : List Addr} {S : Addr → Prop} {s : Shared} {r : AV} {Q : Value → Shared → Prop}

theorem PPost.same (p : PPost ec s S μ r Q) {v : Value} (x : RdA ec s.heap S μ v r) (tk : Nat) : Q v { s with toks := tk } := p v s.heap tk S Step.refl (.old x)
theorem PPost.dat {d : PyData} (p : PPost ec s S μ (.dat d) Q) {v : Value} (x : Rd s.heap S v d) (tk : Nat) : Q v { s with toks := tk } := p.same (.dat x) tk
theorem PPost.tup {ds : List PyData} (p : PPost ec s S μ (.dat (.tuple ds)) Q) {h' : Heap} {a : Addr} {vs : List Value} {n : Nat} (g : ∀ b o, s.heap.get? b = some o → h'.get? b = some o) (hn : s.heap.get? a = none)
    (e : h'.get? a = some (tupO vs n)) (x : RdL s.heap S vs ds) (tk : Nat) : Q (.ref a) { s with heap := h', toks := tk } :=
  p _ h' tk _ (Step.add g hn e (tup_plain _ _)) (.old (.dat (.tuple (.inr rfl) e (x.mono (fun b o _ => g b o) fun _ => .inl))))
theorem PPost.lst {ds : List PyData} (p : PPost ec s S μ (.fresh ds) Q) (hS : ∀ a, S a → ∃ o, s.heap.get? a = some o) {h' : Heap} {a : Addr} {vs : List Value} {n : Nat} (g : ∀ b o, s.heap.get? b = some o → h'.get? b = some o) (hn : s.heap.get? a = none)
    (e : h'.get? a = some (lstO vs n)) (x : RdL s.heap S vs ds) (tk : Nat) : Q (.ref a) { s with heap := h', toks := tk } :=
  p _ h' tk _ (Step.grown g) (.fresh e (x.mono (fun b o _ => g b o) fun _ q => q) (fun q => by obtain ⟨o, q⟩ := hS _ q; rw [hn] at q; cases q) hn)
end

theorem fresh_none (h : Heap) : h.get? h.objs.size = none := by
  cases e : h.get? h.objs.size with
  | none => rfl
  | some o => exact absurd (Heap.lt_size e) (Nat.lt_irrefl _)
theorem push_grow (h : Heap) (o : Obj) : ∀ b o', h.get? b = some o' → (h.push o).get? b = some o' := fun _ _ e => Heap.get?_push_of_some o e

theorem lim_eq : lim = sizeLine := by decide

section
variable {ec : ExcCls} {μ : List Addr} {S : Addr → Prop} {prog : Program} {w : World} {A : Around} {E : Value → Shared → Prop} {s : Shared} {Q : Value → Shared → Prop}

theorem intBits_of_lt {a : Int} {k : Nat} (h : a.natAbs < 2 ^ k) : Builtin.Int.intBits a ≤ k := by
  unfold Builtin.Int.intBits
  split
  · exact Nat.zero_le _
  · rename_i h0
    have : a.natAbs ≠ 0 := by simpa using h0
    have := (Nat.log2_lt this).mpr h
    omega
theorem mulOk_ok {a b : Int} (h : mulOk a b = true) : IntMulOk a b := by
  unfold mulOk at h
  simp only [Bool.or_eq_true, decide_eq_true_eq, Bool.and_eq_true] at h
  rcases h with (h | h) | h
  · exact .of_left (intBits_of_lt h)
  · exact .of_right (intBits_of_lt h)
  · exact .of_bits (Nat.le_trans (intBits_of_lt h.1) (by decide)) (Nat.le_trans (intBits_of_lt h.2) (by decide))

theorem tup_add {l b : Addr} {xs ys : List Value} {n m : Nat} {ds es : List PyData} (s1 : S l) (e1 : s.heap.get? l = some (tupO xs n)) (r1 : RdL s.heap S xs ds) (s2 : S b) (e2 : s.heap.get? b = some (tupO ys m)) (r2 : RdL s.heap S ys es)
    (hz : ds.length + es.length ≤ lim) (p : PPost ec s S μ (.dat (.tuple (ds ++ es))) Q) : wpAny (model prog w) A (binaryOp .Add (.ref l) (.ref b)) Q E s := by
  by_cases h1 : xs = []
  · subst h1
    cases r1
    refine concat_meets ⟨_, e1, rfl⟩ ⟨_, e2, rfl⟩ noFill_tuple_add seq_tuple_add F.slot_tuple_add F.entry_tuple_add (F.args_tuple_add_2 _ _) (AutoSeq1.tuple___add___tuple_tuple_0 l _ n b _ m rfl) ⟨e1, e2, ?_⟩
    exact p.dat (.tuple s2 e2 r2) s.toks
  · by_cases h2 : ys = []
    · subst h2
      cases r2
      refine concat_meets ⟨_, e1, rfl⟩ ⟨_, e2, rfl⟩ noFill_tuple_add seq_tuple_add F.slot_tuple_add F.entry_tuple_add (F.args_tuple_add_2 _ _) (AutoSeq1.tuple___add___tuple_tuple_1 l _ n b _ m (by simpa using h1) rfl) ⟨e1, e2, ?_⟩
      exact p.dat (.tuple s1 e1 (by simpa using r1)) s.toks
    · refine P.add_tuple e1 e2 (by simpa using h1) (by simpa using h2) ?_ (by rw [← lim_eq]; simpa [r1.length, r2.length] using hz)
      exact p.tup (push_grow _ _) (fresh_none _) (vs := xs ++ ys) (n := 0) (by simpa using Heap.get?_push_size s.heap (o := tupO (xs ++ ys) 0) rfl) (r1.append r2) s.toks


theorem intOp_ok {f : Int → Int → Option AV} {dx dy : PyData} {r : AV} (e : intOp f dx dy = some r) : ∃ a b, dx = .int a ∧ dy = .int b ∧ f a b = some r := by
  unfold intOp at e
  split at e
  · exact ⟨_, _, rfl, rfl, e⟩
  · cases e
theorem add_ok (hS : ∀ a, S a → ∃ o, s.heap.get? a = some o) {dx dy : PyData} {r : AV} {x y : Value} (e : addD dx dy = some r) (rx : Rt s.heap S x dx) (ry : Rt s.heap S y dy) (p : PPost ec s S μ r Q) :
    wpAny (model prog w) A (binaryOp .Add x y) Q E s := by
  unfold addD at e
  split at e
  · cases e; obtain ⟨t, rfl⟩ := rx.intD; obtain ⟨u, rfl⟩ := ry.intD
    exact P.add_int (p.dat (.int _ _) _)
  · split at e
    · rename_i hz
      cases e
      obtain ⟨a, vs, n, rfl, s1, e1, r1⟩ := rx.tupD
      obtain ⟨b, ws, m, rfl, s2, e2, r2⟩ := ry.tupD
      exact tup_add s1 e1 r1 s2 e2 r2 hz p
    · cases e
  · split at e
    · rename_i hz
      cases e
      obtain ⟨a, vs, n, rfl, e1, r1⟩ := rx.lstD
      obtain ⟨b, ws, m, rfl, e2, r2⟩ := ry.lstD
      refine P.add_list e1 e2 ?_ (by rw [← lim_eq]; simpa [r1.length, r2.length] using hz)
      exact p.lst hS (push_grow _ _) (fresh_none _) (vs := vs ++ ws) (n := 0) (by simpa using Heap.get?_push_size s.heap (o := lstO (vs ++ ws) 0) rfl) (r1.append r2) s.toks
    · cases e
  · cases e
  · cases e
theorem mul_ok (hS : ∀ a, S a → ∃ o, s.heap.get? a = some o) {dx dy : PyData} {r : AV} {x y : Value} (e : mulD dx dy = some r) (rx : Rt s.heap S x dx) (ry : Rt s.heap S y dy) (p : PPost ec s S μ r Q) :
    wpAny (model prog w) A (binaryOp .Mult x y) Q E s := by
  unfold mulD at e
  split at e
  · split at e
    · rename_i hm
      cases e; obtain ⟨t, rfl⟩ := rx.intD; obtain ⟨u, rfl⟩ := ry.intD
      exact P.mul_int (p.dat (.int _ _) _) (mulOk_ok hm)
    · cases e
  · cases e
  · cases e
  · cases e
  · cases e
theorem bin_ok (hS : ∀ a, S a → ∃ o, s.heap.get? a = some o) {op : Operator} {dx dy : PyData} {r : AV} {x y : Value} (e : binD op dx dy = some r) (rx : Rt s.heap S x dx) (ry : Rt s.heap S y dy) (p : PPost ec s S μ r Q) :
    wpAny (model prog w) A (binaryOp op x y) Q E s := by
  cases op <;> first | (cases e; done) | skip
  case Add => exact add_ok hS e rx ry p
  case Sub =>
    obtain ⟨a, b, rfl, rfl, e'⟩ := intOp_ok e
    cases e'; obtain ⟨t, rfl⟩ := rx.intD; obtain ⟨u, rfl⟩ := ry.intD
    exact P.sub_int (p.dat (.int _ _) _)
  case Mult => exact mul_ok hS e rx ry p
  case FloorDiv =>
    obtain ⟨a, b, rfl, rfl, e'⟩ := intOp_ok e
    split at e'
    · rename_i hb
      cases e'; obtain ⟨t, rfl⟩ := rx.intD; obtain ⟨u, rfl⟩ := ry.intD
      exact PyProof.Rows.floordiv_int hb.1 (p.dat (.int _ _) _) (.inl (PyProof.noPylong_small hb.2))
    · cases e'
  case Mod =>
    obtain ⟨a, b, rfl, rfl, e'⟩ := intOp_ok e
    split at e'
    · rename_i hb
      cases e'; obtain ⟨t, rfl⟩ := rx.intD; obtain ⟨u, rfl⟩ := ry.intD
      exact PyProof.Rows.mod_int hb (p.dat (.int _ _) _)
    · cases e'
  case Pow =>
    obtain ⟨a, b, rfl, rfl, e'⟩ := intOp_ok e
    split at e'
    · rename_i hb
      cases e'; obtain ⟨t, rfl⟩ := rx.intD; obtain ⟨u, rfl⟩ := ry.intD
      exact PyProof.Rows.pow_int_small hb.1 hb.2.1 hb.2.2 (p.dat (.int _ _) _)
    · cases e'

theorem intCmp_ok {f : Int → Int → Bool} {dx dy : PyData} {r : Bool} (e : intCmp f dx dy = some r) : ∃ a b, dx = .int a ∧ dy = .int b ∧ f a b = r := by
  unfold intCmp at e
  split at e
  · cases e; exact ⟨_, _, rfl, rfl, rfl⟩
  · cases e
theorem noneD_ok {d : PyData} (e : noneD d = true) : d = .none := by
  cases d <;> first | rfl | cases e
theorem in_ok {dx dy : PyData} {b : Bool} {x y : Value} (hu : A.units + 200 < cLine) (e : inD dx dy = some b) (rx : Rt s.heap S x dx) (ry : Rt s.heap S y dy) (p : ∀ tk, Q (.bool b) { s with toks := tk }) :
    wpAny (model prog w) A (compareOp .In x y) Q E s := by
  obtain ⟨as, qx⟩ := rx.reads
  obtain ⟨bs, qy⟩ := ry.reads
  unfold inD at e
  split at e
  · cases e
  · split at e
    · rename_i hs
      rw [Bool.and_eq_true] at hs
      cases e
      have h1 := SeqAt.canLay_of_shaped hs.1
      have h2 := SeqAt.depth_of_shaped hs.1
      refine SeqAt.in_tuple_reads qy qx h1 (SeqAt.canLay_of_shaped hs.2) ?_ (p s.toks)
      simp only [PyData.depth, Nat.min_zero]; omega
    · cases e
  · cases e
theorem cmp_ok {op : CmpOp} {dx dy : PyData} {b : Bool} {x y : Value} (hu : A.units + 200 < cLine) (e : cmpD op dx dy = some b) (rx : Rt s.heap S x dx) (ry : Rt s.heap S y dy) (p : ∀ tk, Q (.bool b) { s with toks := tk }) :
    wpAny (model prog w) A (compareOp op x y) Q E s := by
  obtain ⟨as, qx⟩ := rx.reads
  obtain ⟨bs, qy⟩ := ry.reads
  cases op <;> first | (cases e; done) | skip
  case Eq =>
    simp only [cmpD] at e
    split at e
    · rename_i hs
      rw [Bool.and_eq_true] at hs
      cases e
      exact SeqAt.compareEq_shaped qx qy hs.1 hs.2 (by omega) (p s.toks)
    · cases e
  case NotEq =>
    simp only [cmpD] at e
    split at e
    · rename_i hs
      rw [Bool.and_eq_true] at hs
      cases e
      exact SeqAt.compareNe_shaped qx qy hs.1 hs.2 (by omega) (p s.toks)
    · cases e
  case Lt =>
    obtain ⟨a, b, rfl, rfl, rfl⟩ := intCmp_ok e; obtain ⟨t, rfl⟩ := rx.intD; obtain ⟨u, rfl⟩ := ry.intD
    exact P.lt_int (p s.toks)
  case LtE =>
    obtain ⟨a, b, rfl, rfl, rfl⟩ := intCmp_ok e; obtain ⟨t, rfl⟩ := rx.intD; obtain ⟨u, rfl⟩ := ry.intD
    exact P.le_int (p s.toks)
  case Gt =>
    obtain ⟨a, b, rfl, rfl, rfl⟩ := intCmp_ok e; obtain ⟨t, rfl⟩ := rx.intD; obtain ⟨u, rfl⟩ := ry.intD
    exact P.gt_int (p s.toks)
  case GtE =>
    obtain ⟨a, b, rfl, rfl, rfl⟩ := intCmp_ok e; obtain ⟨t, rfl⟩ := rx.intD; obtain ⟨u, rfl⟩ := ry.intD
    exact P.ge_int (p s.toks)
  case Is =>
    simp only [cmpD] at e
    split at e
    · rename_i hn
      cases noneD_ok hn
      obtain rfl := ry.noneD
      refine is_none ?_
      cases e
      cases rx with
      | dat r => cases r <;> exact p s.toks
      | lst _ _ => exact p s.toks
    · cases e
  case IsNot =>
    simp only [cmpD] at e
    split at e
    · rename_i hn
      cases noneD_ok hn
      obtain rfl := ry.noneD
      refine isNot_none ?_
      cases e
      cases rx with
      | dat r => cases r <;> exact p s.toks
      | lst _ _ => exact p s.toks
    · cases e
  case In => exact in_ok hu e rx ry p

theorem idx_ok {dx dy d : PyData} {x y : Value} (e : idxD dx dy = some d) (rx : Rt s.heap S x dx) (ry : Rt s.heap S y dy) (p : ∀ v tk, Rd s.heap S v d → Q v { s with toks := tk }) :
    wpAny (model prog w) A (getItem x y) Q E s := by
  unfold idxD at e
  split at e
  · split at e
    · rename_i hb
      obtain ⟨a, vs, n, rfl, s1, e1, r1⟩ := rx.tupD
      obtain ⟨u, rfl⟩ := ry.intD
      obtain ⟨v, hv, rv⟩ := r1.get e
      have hlt : (_ : Int).toNat < vs.length := (List.getElem?_eq_some_iff.mp hv).1
      exact P.getItem_tuple e1 (by omega) (by omega) (seqIndex_of hb.1 (by simp; omega)) (by simpa using hv) (p v s.toks rv)
    · cases e
  · split at e
    · rename_i hb
      obtain ⟨a, vs, n, rfl, e1, r1⟩ := rx.lstD
      obtain ⟨u, rfl⟩ := ry.intD
      obtain ⟨v, hv, rv⟩ := r1.get e
      exact wpAny_getItem_list ⟨_, e1, rfl, n, rfl⟩ hb.1 (by omega) (by simpa using hv) (p v s.toks rv)
    · cases e
  · cases e
  · cases e


theorem isin_ok {ty : Ty} {d : PyData} {x : Value} {T : String} (hT : T = (match ty with | .int => "int" | .bool => "bool" | .tuple => "tuple" | .list => "list" | .str => "str")) (hd : ∀ kvs, d ≠ .dict kvs) (rx : Rt s.heap S x d) (p : ∀ tk, Q (.bool (isinD ty d)) { s with toks := tk }) :
    wpAny (model prog w) A (call (.builtin "isinstance") [x, .type T]) Q E s := by
  subst hT
  cases d with
  | none =>
    obtain rfl := rx.noneD
    cases ty
    · exact IsiPair.NoneType_int (p _)
    · exact IsiPair.NoneType_bool (p _)
    · exact IsiPair.NoneType_tuple (p _)
    · exact IsiPair.NoneType_list (p _)
    · exact IsiPair.NoneType_str (p _)
  | bool b =>
    obtain rfl := rx.boolD
    cases ty
    · exact IsiPair.bool_int (p s.toks)
    · exact IsiPair.bool_bool (p s.toks)
    · exact IsiPair.bool_tuple (p _)
    · exact IsiPair.bool_list (p _)
    · exact IsiPair.bool_str (p _)
  | int b =>
    obtain ⟨t, rfl⟩ := rx.intD
    cases ty
    · exact IsiPair.int_int (p s.toks)
    · exact IsiPair.int_bool (p _)
    · exact IsiPair.int_tuple (p _)
    · exact IsiPair.int_list (p _)
    · exact IsiPair.int_str (p _)
  | str b =>
    obtain ⟨t, rfl⟩ := rx.strD
    cases ty
    · exact IsiPair.str_int (p _)
    · exact IsiPair.str_bool (p _)
    · exact IsiPair.str_tuple (p _)
    · exact IsiPair.str_list (p _)
    · exact IsiPair.str_str (p s.toks)
  | list ds =>
    obtain ⟨a, vs, n, rfl, e, _⟩ := rx.lstD
    cases ty
    · exact IsiPair.list_int e rfl (p _)
    · exact IsiPair.list_bool e rfl (p _)
    · exact IsiPair.list_tuple e rfl (p _)
    · exact IsiPair.list_list e rfl (p s.toks)
    · exact IsiPair.list_str e rfl (p _)
  | tuple ds =>
    obtain ⟨a, vs, n, rfl, _, e, _⟩ := rx.tupD
    cases ty
    · exact IsiPair.tuple_int e rfl (p _)
    · exact IsiPair.tuple_bool e rfl (p _)
    · exact IsiPair.tuple_tuple e rfl (p s.toks)
    · exact IsiPair.tuple_list e rfl (p _)
    · exact IsiPair.tuple_str e rfl (p _)
  | dict kvs => exact absurd rfl (hd kvs)

theorem boolsD_ok : ∀ {ds : List PyData} {bs : List Bool} {h : Heap} {vs : List Value}, boolsD ds = some bs → RdL h S vs ds → vs = bs.map .bool
  | [], bs, h, vs, e, r => by cases e; cases r; rfl
  | d :: ds, bs, h, vs, e, r => by
    cases r with
    | cons x r =>
      cases d with
      | bool b =>
        simp only [boolsD] at e
        cases q : boolsD ds with
        | none => rw [q] at e; cases e
        | some cs => rw [q] at e; cases e; cases x; rw [boolsD_ok q r]; rfl
      | _ => cases e
theorem intsD_ok : ∀ {ds : List PyData} {bs : List Int} {h : Heap} {vs : List Value}, intsD ds = some bs → RdL h S vs ds → ∃ ts : List (Int × Tok), vs = ts.map (fun q => .int q.1 q.2) ∧ bs = ts.map (·.1)
  | [], bs, h, vs, e, r => by cases e; cases r; exact ⟨[], rfl, rfl⟩
  | d :: ds, bs, h, vs, e, r => by
    cases r with
    | cons x r =>
      cases d with
      | int b =>
        simp only [intsD] at e
        cases q : intsD ds with
        | none => rw [q] at e; cases e
        | some cs =>
          rw [q] at e; cases e
          cases x with
          | int i t =>
            obtain ⟨ts, e1, e2⟩ := intsD_ok q r
            exact ⟨(b, t) :: ts, by rw [e1]; rfl, by rw [e2]; rfl⟩
      | _ => cases e

/-- a list's iterator, new -/
theorem iter_lst {l : Addr} {vs : List Value} {n : Nat} {Q : Value → Shared → Prop} (e : s.heap.get? l = some (lstO vs n))
    (h : ∀ s₂ : Shared, s₂ = { s with heap := s.heap.push { cls := .type "list_iterator", data := .fields #[.ref l, .int 0 0] } } →
      (s₂.heap.IsListIter s.heap.objs.size l 0 ∧ s₂.heap.IsList l vs.toArray) → (∀ b ∈ [s.heap.objs.size, l], b < s₂.heap.objs.size) → l ≠ s.heap.objs.size → Q (.ref s.heap.objs.size) s₂) :
    wpAny (model prog w) A (pyIter (.ref l)) Q E s := by
  have hl : s.heap.IsList l vs.toArray := ⟨_, e, rfl, n, rfl⟩
  have hlt : l < s.heap.objs.size := Heap.lt_size e
  refine wpAny_pyIter_list hl (h _ rfl ⟨⟨_, Heap.get?_push_size _ rfl, rfl, rfl⟩, hl.push _⟩ (fun b hb => ?_) (Nat.ne_of_lt hlt))
  show b < (s.heap.push _).objs.size
  rw [Heap.size_push]
  simp only [List.mem_cons, List.not_mem_nil, or_false] at hb
  rcases hb with rfl | rfl
  · exact Nat.lt_succ_self _
  · exact Nat.lt_succ_of_lt hlt
theorem kept_iter {l : Addr} {h' : Heap} {o : Obj} (hk : ∀ b o', b ∉ [s.heap.objs.size] → (s.heap.push o).get? b = some o' → h'.get? b = some o') : ∀ b o', s.heap.get? b = some o' → h'.get? b = some o' := fun b o' e => by
  refine hk b o' (fun hm => ?_) (Heap.get?_push_of_some _ e)
  simp only [List.mem_cons, List.not_mem_nil, or_false] at hm
  subst hm
  rw [fresh_none] at e; cases e

theorem truth_bools (bs : List Bool) : TruthOf prog w A (fun i v => ((bs.map Value.bool).toArray)[i]? = some v) (fun i => (bs[i]?).getD true) := by
  intro i v s Q E hv hq
  have : ∃ b, bs[i]? = some b ∧ v = .bool b := by
    simp only [List.getElem?_toArray, List.getElem?_map] at hv
    cases q : bs[i]? with
    | none => rw [q] at hv; cases hv
    | some b => rw [q] at hv; exact ⟨b, rfl, (Option.some.inj hv).symm⟩
  obtain ⟨b, e, rfl⟩ := this
  refine wpAny_truthy_bool ?_
  simpa only [e, Option.getD_some] using hq

theorem all_range_bools (bs : List Bool) : (List.range bs.length).all (fun i => (bs[i]?).getD true) = bs.all id := by
  rw [Bool.eq_iff_iff]
  simp only [List.all_eq_true, List.mem_range, id]
  constructor
  · intro h b hb
    obtain ⟨i, hi, rfl⟩ := List.getElem_of_mem hb
    simpa [List.getElem?_eq_getElem hi] using h i hi
  · intro h i hi
    rw [List.getElem?_eq_getElem hi]
    exact h _ (List.getElem_mem hi)
theorem any_range_bools (bs : List Bool) : (List.range bs.length).any (fun i => (bs[i]?).getD true) = bs.any id := by
  rw [Bool.eq_iff_iff]
  simp only [List.any_eq_true, List.mem_range, id]
  constructor
  · rintro ⟨i, hi, h⟩
    rw [List.getElem?_eq_getElem hi] at h
    exact ⟨_, List.getElem_mem hi, h⟩
  · rintro ⟨b, hb, h⟩
    obtain ⟨i, hi, rfl⟩ := List.getElem_of_mem hb
    exact ⟨i, hi, by simpa [List.getElem?_eq_getElem hi] using h⟩

theorem all_ok (hh : A.handled = none) {ds : List PyData} {bs : List Bool} {x : Value} (e : boolsD ds = some bs) (rx : Rt s.heap S x (.list ds)) (p : PPost ec s S μ (.dat (.bool (bs.all id))) Q) : wpAny (model prog w) A (call (.builtin "all") [x]) Q E s := by
  obtain ⟨a, vs, n, rfl, e1, r1⟩ := rx.lstD
  obtain rfl := boolsD_ok e r1
  refine call_all_walk (iter_lst e1 fun s₂ es st _ hne => ?_)
  subst es
  refine ⟨_, _, _, _, _, _, _, rfl, Walks.list (A := A.in1) hh _ a hne _, st, truth_bools bs, fun h' tk hk => ?_⟩
  rw [show (bs.map Value.bool).toArray.size = bs.length by simp, all_range_bools]
  exact p _ h' tk S (.grown (kept_iter (l := a) hk)) (.old (.dat (.bool _)))
theorem any_ok (hh : A.handled = none) {ds : List PyData} {bs : List Bool} {x : Value} (e : boolsD ds = some bs) (rx : Rt s.heap S x (.list ds)) (p : PPost ec s S μ (.dat (.bool (bs.any id))) Q) : wpAny (model prog w) A (call (.builtin "any") [x]) Q E s := by
  obtain ⟨a, vs, n, rfl, e1, r1⟩ := rx.lstD
  obtain rfl := boolsD_ok e r1
  refine call_any_walk (iter_lst e1 fun s₂ es st _ hne => ?_)
  subst es
  refine ⟨_, _, _, _, _, _, _, rfl, Walks.list (A := A.in1) hh _ a hne _, st, truth_bools bs, fun h' tk hk => ?_⟩
  rw [show (bs.map Value.bool).toArray.size = bs.length by simp, any_range_bools]
  exact p _ h' tk S (.grown (kept_iter (l := a) hk)) (.old (.dat (.bool _)))
theorem sum_ok (hh : A.handled = none) {ds : List PyData} {is : List Int} {x : Value} (e : intsD ds = some is) (rx : Rt s.heap S x (.list ds)) (p : PPost ec s S μ (.dat (.int is.sum)) Q) : wpAny (model prog w) A (call (.builtin "sum") [x]) Q E s := by
  obtain ⟨a, vs, n, rfl, e1, r1⟩ := rx.lstD
  obtain ⟨ts, rfl, rfl⟩ := intsD_ok e r1
  have hl : s.heap.IsList a (intItems ts.toArray) := ⟨_, e1, rfl, n, by simp [intItems]⟩
  refine sum_intListG hh hl fun h' tk t' hk => ?_
  rw [preSum_eq, List.take_of_length_le (by simp)]
  exact p _ h' tk S (.grown hk) (.old (.dat (.int _ _)))

theorem tuple_ok {ds : List PyData} {d : PyData} {x : Value} (e : seqD d = some ds) (hz : ds.length ≤ lim) (rx : Rt s.heap S x d) (p : PPost ec s S μ (.dat (.tuple ds)) Q) : wpAny (model prog w) A (call (.type "tuple") [x]) Q E s := by
  cases d with
  | tuple xs =>
    cases e
    obtain ⟨a, vs, n, rfl, s1, e1, r1⟩ := rx.tupD
    exact call_tuple_same ⟨_, e1, rfl, n, rfl⟩ (p.dat (.tuple s1 e1 r1) s.toks)
  | list xs =>
    cases e
    obtain ⟨a, vs, n, rfl, e1, r1⟩ := rx.lstD
    refine call_tuple_list ⟨_, e1, rfl, n, rfl⟩ (fun h' hk => ?_) (by rw [← lim_eq]; simpa [r1.length] using hz)
    refine p.tup (fun b o q => Heap.get?_push_of_some _ (hk b o q)) ?_ (Heap.get?_push_size h' (o := tupO vs 0) rfl) r1 s.toks
    cases q : s.heap.get? h'.objs.size with
    | none => rfl
    | some o => have := hk _ _ q; rw [fresh_none] at this; cases this
  | _ => cases e
theorem list_ok (hS : ∀ a, S a → ∃ o, s.heap.get? a = some o) {ds : List PyData} {d : PyData} {x : Value} (e : seqD d = some ds) (hz : ds.length ≤ lim) (rx : Rt s.heap S x d) (p : PPost ec s S μ (.fresh ds) Q) : wpAny (model prog w) A (call (.type "list") [x]) Q E s := by
  cases d with
  | tuple xs =>
    cases e
    obtain ⟨a, vs, n, rfl, s1, e1, r1⟩ := rx.tupD
    exact call_list_seq a (.inr rfl) e1 rfl rfl (fun h' c' hk hq => p.lst hS hk (fresh_none _) hq r1 s.toks) (by rw [← lim_eq]; simpa [r1.length] using hz)
  | list xs =>
    cases e
    obtain ⟨a, vs, n, rfl, e1, r1⟩ := rx.lstD
    exact call_list_seq a (.inl rfl) e1 rfl rfl (fun h' c' hk hq => p.lst hS hk (fresh_none _) hq r1 s.toks) (by rw [← lim_eq]; simpa [r1.length] using hz)
  | _ => cases e

inductive RtL (h : Heap) (S : Addr → Prop) : List Value → List PyData → Prop
  | nil : RtL h S [] []
  | cons {v : Value} {vs : List Value} {d : PyData} {ds : List PyData} : Rt h S v d → RtL h S vs ds → RtL h S (v :: vs) (d :: ds)

noncomputable def primF : Prim → Value
  | .len => .builtin "len"
  | .all => .builtin "all"
  | .any => .builtin "any"
  | .sum => .builtin "sum"
  | .tuple => .type "tuple"
  | .list => .type "list"
  | .int => .type "int"
  | .max => .builtin "max"
  | .join => .none

theorem prim_ok (hh : A.handled = none) (hS : ∀ a, S a → ∃ o, s.heap.get? a = some o) {q : Prim} {ds : List PyData} {r : AV} {vs : List Value} (hq : q ≠ .join) (e : primD q ds = some r) (rx : RtL s.heap S vs ds) (p : PPost ec s S μ r Q) :
    wpAny (model prog w) A (call (primF q) vs) Q E s := by
  have hlim : ∀ {k : Nat}, k ≤ lim → ((k : Nat) : Int) < 2 ^ 63 := fun {k} h => by unfold lim at h; omega
  cases q with
  | join => exact absurd rfl hq
  | len =>
    cases rx with
    | nil => cases e
    | cons x rx => cases rx with
      | cons _ _ => cases e
      | nil =>
        simp only [primD] at e
        split at e
        · split at e
          · rename_i hz
            cases e
            obtain ⟨a, us, n, rfl, s1, e1, r1⟩ := x.tupD
            have := hlim hz
            refine P.len_tuple e1 (by simp [r1.length]; omega) ?_
            simp only [List.size_toArray, r1.length]
            exact p.dat (.int _ _) _
          · cases e
        · split at e
          · rename_i hz
            cases e
            obtain ⟨a, us, n, rfl, e1, r1⟩ := x.lstD
            have := hlim hz
            refine Calls.call_len_list ⟨_, e1, rfl, n, rfl⟩ (by simp [r1.length]; omega) ?_
            simp only [List.size_toArray, r1.length]
            exact p.dat (.int _ _) _
          · cases e
        · split at e
          · rename_i hz
            cases e
            obtain ⟨t, rfl⟩ := x.strD
            have := hlim hz
            exact PyProof.Rows.len_str (by omega) (p.dat (.int _ _) _)
          · cases e
        · cases e
  | all =>
    cases rx with
    | nil => cases e
    | cons x rx => cases rx with
      | cons _ _ => cases e
      | nil =>
        simp only [primD] at e
        split at e
        · split at e
          · rename_i hb
            cases e
            exact all_ok hh hb x p
          · cases e
        · cases e
  | any =>
    cases rx with
    | nil => cases e
    | cons x rx => cases rx with
      | cons _ _ => cases e
      | nil =>
        simp only [primD] at e
        split at e
        · split at e
          · rename_i hb
            cases e
            exact any_ok hh hb x p
          · cases e
        · cases e
  | sum =>
    cases rx with
    | nil => cases e
    | cons x rx => cases rx with
      | cons _ _ => cases e
      | nil =>
        simp only [primD] at e
        split at e
        · split at e
          · rename_i hb
            cases e
            exact sum_ok hh hb x p
          · cases e
        · cases e
  | tuple =>
    cases rx with
    | nil => cases e
    | cons x rx => cases rx with
      | cons _ _ => cases e
      | nil =>
        simp only [primD] at e
        split at e
        · rename_i hb
          split at e
          · rename_i hz
            cases e
            exact tuple_ok hb hz x p
          · cases e
        · cases e
  | list =>
    cases rx with
    | nil => cases e
    | cons x rx => cases rx with
      | cons _ _ => cases e
      | nil =>
        simp only [primD] at e
        split at e
        · rename_i hb
          split at e
          · rename_i hz
            cases e
            exact list_ok hS hb hz x p
          · cases e
        · cases e
  | int =>
    cases rx with
    | nil => cases e
    | cons x rx => cases rx with
      | cons _ _ => cases e
      | nil =>
        simp only [primD] at e
        split at e
        · cases e
          obtain rfl := x.boolD
          exact call_int_bool (p.dat (.int _ _) _)
        · cases e
  | max =>
    have : ∃ a b, ds = [.int a, .int b] ∧ r = .dat (.int (if b > a then b else a)) := by
      unfold primD at e
      split at e
      all_goals first
        | (rename_i hx; cases hx; done)
        | (cases e; done)
        | exact ⟨_, _, rfl, (Option.some.inj e).symm⟩
    obtain ⟨a, b, rfl, rfl⟩ := this
    cases rx with
    | cons x rx => cases rx with
      | cons y rx => cases rx with
        | nil =>
          obtain ⟨t, rfl⟩ := x.intD
          obtain ⟨u, rfl⟩ := y.intD
          refine max_two_ints hh fun h' tk hk => ?_
          split
          · rename_i hc; have := p (.int b u) h' tk S (.grown hk) (.old (by rw [if_pos hc]; exact .dat (.int _ u))); exact this
          · rename_i hc; have := p (.int a t) h' tk S (.grown hk) (.old (by rw [if_neg hc]; exact .dat (.int _ t))); exact this
end
end Mine

-- M4
namespace Mine
open PySem

/-! ## Sources that a loop goes along -/

structure Mv (wr S S' : Addr → Prop) (h h' : Heap) : Prop where
  keep : ∀ b o, ¬ wr b → h.get? b = some o → h'.get? b = some o
  sub : ∀ a, S a → S' a
  new : ∀ a, S' a → S a ∨ h.get? a = none
  inS : ∀ a, S' a → S a ∨ ∃ o, h'.get? a = some o ∧ Plainly o

theorem Mv.same {wr S : Addr → Prop} {h h' : Heap} (k : ∀ b o, ¬ wr b → h.get? b = some o → h'.get? b = some o) : Mv wr S S h h' := ⟨k, fun _ x => x, fun _ x => .inl x, fun _ x => .inl x⟩

noncomputable def isTupT : Expr → Bool
  | .Tuple .. => true
  | _ => false
noncomputable def isNameT : Expr → Bool
  | .Name .. => true
  | _ => false

structure Src (prog : Program) (w : World) (A : Around) (I : Addr) (fp wr : Addr → Prop) (xs : List PyData) (T : Expr → Prop) (St : Nat → Heap → Prop) (Mid : Nat → Value → Heap → Prop) (Ok : (Addr → Prop) → Heap → Prop) : Prop where
  sub : ∀ b, wr b → fp b
  frame : ∀ i h h', St i h → (∀ b o, fp b → h.get? b = some o → h'.get? b = some o) → St i h'
  alloc : ∀ i h b, St i h → fp b → ∃ o, h.get? b = some o ∧ Plainly o
  mono : ∀ (S S' : Addr → Prop) (h h' : Heap), Ok S h → (∀ a, S a → S' a) → (∀ a o, S a → h.get? a = some o → h'.get? a = some o) → Ok S' h'
  next : ∀ (i : Nat) (d : PyData) (S : Addr → Prop) (s : Shared) (Q : Option Value → Shared → Prop) (E : Value → Shared → Prop), xs[i]? = some d → St i s.heap → Ok S s.heap → (∀ a, S a → ¬ wr a) →
    (∀ v h' tk S', Mv wr S S' s.heap h' → Rd h' S' v d → Mid i v h' → Q (some v) { s with heap := h', toks := tk }) → wpAny (model prog w) A (pyNext (.ref I)) Q E s
  go : ∀ (i : Nat) (v : Value) (t : Expr) (s : Shared) (Q : Unit → Shared → Prop) (E : Value → Shared → Prop), T t → Mid i v s.heap →
    (∀ h', (∀ b o, ¬ wr b → s.heap.get? b = some o → h'.get? b = some o) → St (i + 1) h' → Q () { s with heap := h' }) → wpAny (model prog w) A (letOwnedTupleGo t (.ref I) v) Q E s
  done : ∀ (S : Addr → Prop) (s : Shared) (Q : Option Value → Shared → Prop) (E : Value → Shared → Prop), St xs.length s.heap → Ok S s.heap →
    (∀ h' tk, (∀ b o, ¬ wr b → s.heap.get? b = some o → h'.get? b = some o) → Q none { s with heap := h', toks := tk }) → wpAny (model prog w) A (pyNext (.ref I)) Q E s
  self : ∀ (i : Nat) (s : Shared) (Q : Value → Shared → Prop) (E : Value → Shared → Prop), St i s.heap → Q (.ref I) s → wpAny (model prog w) A (pyIter (.ref I)) Q E s

theorem go_name {prog : Program} {w : World} {A : Around} {E : Value → Shared → Prop} {s : Shared} {t : Expr} {it v : Value} {Q : Unit → Shared → Prop} (ht : isNameT t = true) (h : Q () s) : wpAny (model prog w) A (letOwnedTupleGo t it v) Q E s := by
  cases t <;> first | (cases ht; done) | exact wpAny_pure h

/-- unpacking what is no owned tuple -/
theorem go_plain {prog : Program} {w : World} {A : Around} {E : Value → Shared → Prop} {s : Shared} {t : Expr} {I : Addr} {o : Obj} {n : String} {v : Value} {Q : Unit → Shared → Prop} (ht : isNameT t = true ∨ isTupT t = true) (ho : s.heap.get? I = some o) (hc : o.cls = .type n)
    (hn : (["enumerate", "zip", "dict_itemiterator", "dict_reverseitemiterator", "odict_iterator", "itertools.zip_longest", "itertools.pairwise"].contains n) = false) (h : Q () s) :
    wpAny (model prog w) A (letOwnedTupleGo t (.ref I) v) Q E s := by
  rcases ht with ht | ht
  · exact go_name ht h
  · cases t <;> first | (cases ht; done) | skip
    unfold letOwnedTupleGo
    cases v <;> first | exact wpAny_pure h | skip
    refine wpAny_bind (wpAny_load ho ?_)
    rw [hc]
    cases o.data <;> first | exact wpAny_pure h | skip
    dsimp only
    rw [hn, Bool.false_and, if_neg Bool.false_ne_true]
    exact wpAny_pure h

section
variable {prog : Program} {w : World} {A : Around}

theorem Src.list (hh : A.handled = none) (I l : Addr) (hne : l ≠ I) (vs : List Value) (n : Nat) (xs : List PyData) :
    Src prog w A I (fun b => b = I ∨ b = l) (fun b => b = I) xs (fun t => isNameT t = true ∨ isTupT t = true)
      (fun i h => h.IsListIter I l i ∧ h.get? l = some (lstO vs n)) (fun i _ h => h.IsListIter I l (i + 1) ∧ h.get? l = some (lstO vs n)) (fun S h => RdL h S vs xs) where
  sub := fun _ hb => .inl hb
  frame := fun i h h' st hk => ⟨st.1.at fun o e => hk I o (.inl rfl) e, hk l _ (.inr rfl) st.2⟩
  alloc := fun i h b st hb => by
    rcases hb with rfl | rfl
    · obtain ⟨o, e, _, hd⟩ := st.1
      exact ⟨o, e, by constructor <;> (intros; rw [hd]; intro q; cases q)⟩
    · exact ⟨_, st.2, by constructor <;> (intros; intro q; cases q)⟩
  mono := fun S S' h h' r hs hk => r.mono hk hs
  next := fun i d S s Q E hd st r hw hQ => by
    obtain ⟨v, hv, rv⟩ := RdL.get r hd
    refine wpAny_pyNext_list_item st.1 ⟨_, st.2, rfl, n, rfl⟩ (x := v) (by simpa using hv) fun h' hit hs => ?_
    refine hQ v h' s.toks S (.same fun b o hb e => hs.extBut b o hb e) (rv.mono (fun a o ha e => hs.extBut a o (fun q => hw a ha q) e) fun _ q => q) ⟨hit, hs.extBut _ _ hne st.2⟩
  go := fun i v t s Q E ht hm hQ => by
    obtain ⟨o, ho, hc, _⟩ := id hm.1
    exact go_plain ht ho hc (by decide) (hQ s.heap (fun _ _ _ e => e) hm)
  done := fun S s Q E st r hQ =>
    wpAny_pyNext_list_end hh st.1 ⟨_, st.2, rfl, n, rfl⟩ (by simp [RdL.length r]) fun h' he => hQ h' s.toks fun b o hb e => he b o hb e
  self := fun i s Q E st hQ => wpAny_pyIter_listiter st.1 hQ

theorem Src.tuple (hh : A.handled = none) (I l : Addr) (hne : l ≠ I) (vs : List Value) (n : Nat) (xs : List PyData) :
    Src prog w A I (fun b => b = I ∨ b = l) (fun b => b = I) xs (fun t => isNameT t = true ∨ isTupT t = true)
      (fun i h => h.IsTupleIter I l i ∧ h.get? l = some (tupO vs n)) (fun i _ h => h.IsTupleIter I l (i + 1) ∧ h.get? l = some (tupO vs n)) (fun S h => RdL h S vs xs) where
  sub := fun _ hb => .inl hb
  frame := fun i h h' st hk => ⟨st.1.at fun o e => hk I o (.inl rfl) e, hk l _ (.inr rfl) st.2⟩
  alloc := fun i h b st hb => by
    rcases hb with rfl | rfl
    · obtain ⟨o, e, _, hd⟩ := st.1
      exact ⟨o, e, by constructor <;> (intros; rw [hd]; intro q; cases q)⟩
    · exact ⟨_, st.2, by constructor <;> (intros; intro q; cases q)⟩
  mono := fun S S' h h' r hs hk => r.mono hk hs
  next := fun i d S s Q E hd st r hw hQ => by
    obtain ⟨v, hv, rv⟩ := RdL.get r hd
    refine wpAny_pyNext_tuple_item st.1 ⟨_, st.2, rfl, n, rfl⟩ (x := v) (by simpa using hv) fun h' hit hs => ?_
    refine hQ v h' s.toks S (.same fun b o hb e => hs.extBut b o hb e) (rv.mono (fun a o ha e => hs.extBut a o (fun q => hw a ha q) e) fun _ q => q) ⟨hit, hs.extBut _ _ hne st.2⟩
  go := fun i v t s Q E ht hm hQ => by
    obtain ⟨o, ho, hc, _⟩ := id hm.1
    exact go_plain ht ho hc (by decide) (hQ s.heap (fun _ _ _ e => e) hm)
  done := fun S s Q E st r hQ =>
    wpAny_pyNext_tuple_end hh st.1 ⟨_, st.2, rfl, n, rfl⟩ (by simp [RdL.length r]) fun h' he => hQ h' s.toks fun b o hb e => he b o hb e
  self := fun i s Q E st hQ => wpAny_pyIter_tupleiter st.1 hQ

theorem rangeL_get {a b : Int} {i : Nat} {d : PyData} (h : (rangeL a b)[i]? = some d) : i < (b - a).toNat ∧ d = .int (a + i) := by
  unfold rangeL at h
  rw [List.getElem?_map] at h
  cases q : (List.range (b - a).toNat)[i]? with
  | none => rw [q] at h; cases h
  | some k =>
    rw [q] at h
    obtain ⟨h1, h2⟩ := List.getElem?_eq_some_iff.mp q
    simp at h1 h2
    subst h2
    exact ⟨by omega, (Option.some.inj h).symm⟩
theorem rangeL_len (a b : Int) : (rangeL a b).length = (b - a).toNat := by simp [rangeL]

theorem Src.range (hh : A.handled = none) (I : Addr) (a b : Int) :
    Src prog w A I (fun c => c = I) (fun c => c = I) (rangeL a b) (fun t => isNameT t = true)
      (fun i h => IsRangeIter h I (a + (i : Nat) * 1) ((((b - a).toNat : Nat) : Int) - (i : Nat)) 1) (fun i _ h => IsRangeIter h I (a + ((i + 1 : Nat) : Int) * 1) ((((b - a).toNat : Nat) : Int) - ((i + 1 : Nat) : Int)) 1) (fun _ _ => True) where
  sub := fun _ hb => hb
  frame := fun i h h' st hk => hk I _ rfl st
  alloc := fun i h c st hc => by
    subst hc
    exact ⟨_, st, by constructor <;> (intros; intro q; cases q)⟩
  mono := fun _ _ _ _ _ _ _ => trivial
  next := fun i d S s Q E hd st r hw hQ => by
    obtain ⟨hi, rfl⟩ := rangeL_get hd
    refine wpAny_pyNext_range_item st (by omega) fun h' hit hs => ?_
    rw [Int.mul_one] at *
    refine hQ _ h' _ S (.same fun b o hb e => hs.extBut b o hb e) (.int _ _) ?_
    have e1 : a + ((i + 1 : Nat) : Int) = a + (i : Int) + 1 := by omega
    have e2 : (((b - a).toNat : Nat) : Int) - ((i + 1 : Nat) : Int) = (((b - a).toNat : Nat) : Int) - (i : Int) - 1 := by omega
    rw [e1, e2]; exact hit
  go := fun i v t s Q E ht hm hQ => go_name ht (hQ s.heap (fun _ _ _ e => e) hm)
  done := fun S s Q E st r hQ => wpAny_pyNext_range_end hh st (by rw [rangeL_len]; omega) fun h' he => hQ h' s.toks fun b o hb e => he b o hb e
  self := fun i s Q E st hQ => wpAny_pyIter_rangeiter st hQ
end

/-! ### zip of two sequences, each a list or a tuple -/

noncomputable def itAt (k : Bool) (h : Heap) (it l : Addr) (i : Nat) : Prop := if k then h.IsListIter it l i else h.IsTupleIter it l i
noncomputable def seqO (k : Bool) (vs : List Value) (n : Nat) : Obj := if k then lstO vs n else tupO vs n

theorem itAt.ext {k : Bool} {h h' : Heap} {it l b : Addr} {i : Nat} (x : itAt k h it l i) (hs : Heap.ExtBut b h h') (hne : it ≠ b) : itAt k h' it l i := by
  cases k
  · exact Heap.IsTupleIter.extBut x hs hne
  · exact Heap.IsListIter.extBut x hs hne
theorem itAt.at {k : Bool} {h h' : Heap} {it l : Addr} {i : Nat} (x : itAt k h it l i) (hs : ∀ o, h.get? it = some o → h'.get? it = some o) : itAt k h' it l i := by
  cases k
  · exact Heap.IsTupleIter.at x hs
  · exact Heap.IsListIter.at x hs
theorem itAt.obj {k : Bool} {h : Heap} {it l : Addr} {i : Nat} (x : itAt k h it l i) : ∃ o, h.get? it = some o ∧ Plainly o := by
  cases k <;> (obtain ⟨o, e, _, hd⟩ := x; exact ⟨o, e, by constructor <;> (intros; rw [hd]; intro q; cases q)⟩)


section
variable {prog : Program} {w : World} {A : Around} {E : Value → Shared → Prop} {s : Shared}

theorem nextOf_item {k : Bool} {it l : Addr} {i n : Nat} {vs : List Value} {x : Value} {Q : Value → Shared → Prop} (hit : itAt k s.heap it l i) (hl : s.heap.get? l = some (seqO k vs n)) (hx : vs[i]? = some x)
    (hQ : ∀ h', itAt k h' it l (i + 1) → Heap.SameBut it s.heap h' → Q x { s with heap := h' }) : wpAny (model prog w) A (Builtin.SmallTypes.nextOf (.ref it)) Q E s := by
  cases k with
  | true => exact wpAny_nextOf_list_item hit ⟨_, hl, rfl, n, rfl⟩ (by simpa using hx) hQ
  | false =>
    obtain ⟨o, ho, hc, hd⟩ := id hit
    have hty : s.TypeIs (.ref it) "tuple_iterator" := ⟨o, ho, hc⟩
    unfold Builtin.SmallTypes.nextOf
    refine wpAny_bind (wpAny_callSpecial?_slot (name := Str.ofString "__next__") hty F.slot_tuple_iterator_next
      (wpAny_call_entry F.slot_tuple_iterator_next hty F.entry_tuple_iterator_next ?_ (F.args_tuple_iterator_next_1 _)))
    show wpAny _ _ (field (.ref it) 0 >>= _) _ _ s
    refine wpAny_bind (wpAny_field ho hd (x := .ref l) rfl ?_)
    show wpAny _ _ (if (Value.ref l == Value.none) = true then _ else _) _ _ s
    rw [if_neg (show ¬ ((Value.ref l == Value.none) = true) from Bool.false_ne_true)]
    show wpAny _ _ (field (.ref it) 1 >>= _) _ _ s
    refine wpAny_bind (wpAny_field ho hd (x := .int i 0) rfl ?_)
    show wpAny _ _ (seqItems? (.ref l) >>= _) _ _ s
    refine wpAny_bind (wpAny_seqItems hl rfl ?_)
    simp only [Int.toNat_natCast, List.getElem?_toArray, hx]
    refine wpAny_bind (wpAny_setField ho hd (by simp) (wpAny_pure ⟨x, rfl, wpAny_pure (hQ _ ?_ (Heap.SameBut.update ..))⟩))
    exact ⟨_, Heap.get?_update_self _ ho (Obj.isFreed_of_fields (Obj.data_mapFields hd _)), (Obj.cls_mapFields ..).trans hc, by
      rw [Obj.data_mapFields hd]; simp [rawInt]⟩

theorem nextOf_end {k : Bool} {it l : Addr} {i n : Nat} {vs : List Value} {Q : Value → Shared → Prop} (hh : A.handled = none) (hit : itAt k s.heap it l i) (hl : s.heap.get? l = some (seqO k vs n)) (hx : vs[i]? = none)
    (hE : ∀ h' e, Heap.ExtBut it s.heap h' → (∃ o, h'.get? e = some o ∧ o.cls = .type "StopIteration") → E (.ref e) { s with heap := h' }) : wpAny (model prog w) A (Builtin.SmallTypes.nextOf (.ref it)) Q E s := by
  cases k with
  | true => exact wpAny_nextOf_list_end hh hit ⟨_, hl, rfl, n, rfl⟩ (by simpa using hx) hE
  | false =>
    obtain ⟨o, ho, hc, hd⟩ := id hit
    have hty : s.TypeIs (.ref it) "tuple_iterator" := ⟨o, ho, hc⟩
    unfold Builtin.SmallTypes.nextOf
    refine wpAny_bind (wpAny_callSpecial?_slot (name := Str.ofString "__next__") hty F.slot_tuple_iterator_next
      (wpAny_call_entry F.slot_tuple_iterator_next hty F.entry_tuple_iterator_next ?_ (F.args_tuple_iterator_next_1 _)))
    show wpAny _ _ (field (.ref it) 0 >>= _) _ _ s
    refine wpAny_bind (wpAny_field ho hd (x := .ref l) rfl ?_)
    show wpAny _ _ (if (Value.ref l == Value.none) = true then _ else _) _ _ s
    rw [if_neg (show ¬ ((Value.ref l == Value.none) = true) from Bool.false_ne_true)]
    show wpAny _ _ (field (.ref it) 1 >>= _) _ _ s
    refine wpAny_bind (wpAny_field ho hd (x := .int i 0) rfl ?_)
    show wpAny _ _ (seqItems? (.ref l) >>= _) _ _ s
    refine wpAny_bind (wpAny_seqItems hl rfl ?_)
    simp only [Int.toNat_natCast, List.getElem?_toArray, hx]
    refine wpAny_bind (wpAny_rule (wpAny_bind (wpAny_setField ho hd (by simp) ?_)))
    show wpAny _ _ (newExc (.type "StopIteration") [] >>= _) _ _ _
    refine wpAny_bind ?_
    simp only [newExc, newTuple]
    refine wpAny_bind (wpAny_newObj_type ?_ (by size_fits))
    refine wpAny_bind (m := firstArgMember _ _) (wpAny_of_eq (a := Value.none) (by first | rfl | (simp only [firstArgMember]; rfl)) ?_)
    refine wpAny_newObj_type ?_ (by size_fits)
    simp only [raiseNew]
    refine wpAny_bind (wpAny_handled ?_)
    first | rw [show A.in1.handled = none from hh] | rw [hh]
    refine wpAny_bind (wpAny_pure (wpAny_throw ?_))
    exact hE _ _ (((Heap.SameBut.update ..).extBut.push _).push _) ⟨_, Heap.get?_push_size _ rfl, rfl⟩

structure ZA (z TI TO i1 i2 l1 l2 : Addr) : Prop where
  TIz : TI ≠ z
  TOz : TO ≠ z
  i1z : i1 ≠ z
  i2z : i2 ≠ z
  TITO : TI ≠ TO
  TIi1 : TI ≠ i1
  TIi2 : TI ≠ i2
  TOi1 : TO ≠ i1
  TOi2 : TO ≠ i2
  i12 : i1 ≠ i2
  l1z : l1 ≠ z
  l1TO : l1 ≠ TO
  l1i1 : l1 ≠ i1
  l1i2 : l1 ≠ i2
  l2z : l2 ≠ z
  l2TO : l2 ≠ TO
  l2i1 : l2 ≠ i1
  l2i2 : l2 ≠ i2

theorem zip_item {k1 k2 : Bool} {z TI TO i1 i2 l1 l2 : Addr} {j n1 n2 : Nat} {xs ys : List Value} {x y a b : Value} {Q : Value → Shared → Prop} (D : ZA z TI TO i1 i2 l1 l2)
    (hz : IsZip s.heap z TI TO .none) (hTI : IsPair s.heap TI (.ref i1) (.ref i2)) (hTO : IsPair s.heap TO a b)
    (h1 : itAt k1 s.heap i1 l1 j) (h2 : itAt k2 s.heap i2 l2 j) (hl1 : s.heap.get? l1 = some (seqO k1 xs n1)) (hl2 : s.heap.get? l2 = some (seqO k2 ys n2)) (hx : xs[j]? = some x) (hy : ys[j]? = some y)
    (hQ : ∀ h', IsZip h' z TI TO (rawInt s.heap.objs.size) → IsPair h' TO x y → itAt k1 h' i1 l1 (j + 1) → itAt k2 h' i2 l2 (j + 1) → IsPair h' s.heap.objs.size x y → h'.objs.size = s.heap.objs.size + 1 →
      (∀ c o, c ≠ z → c ≠ TO → c ≠ i1 → c ≠ i2 → s.heap.get? c = some o → h'.get? c = some o) → Q (.ref s.heap.objs.size) { s with heap := h' }) :
    wpAny (model prog w) A (Builtin.«zip.__next__» ⟨[.ref z], []⟩) (fun fin s' => ∃ v, fin = .done (.ret v) ∧ Q v s') E s := by
  show wpAny _ _ (field (.ref z) 2 >>= _) _ _ _
  refine wpAny_bind (wpAny_field hz rfl (x := .bool false) rfl ?_)
  show wpAny _ _ (field (.ref z) 3 >>= _) _ _ _
  refine wpAny_bind (wpAny_field hz rfl (x := .ref TI) rfl ?_)
  refine wpAny_bind (wpAny_seqItems hTI rfl ?_)
  show wpAny _ _ (Builtin.SmallTypes.ownedTupleIsFree (.ref z) >>= _) _ _ _
  refine wpAny_bind ?_
  unfold Builtin.SmallTypes.ownedTupleIsFree
  refine wpAny_bind (wpAny_field hz rfl (x := .none) rfl (wpAny_pure ?_))
  simp only [if_true]
  refine wpAny_bind (wpAny_rule ?_)
  refine wpAny_bind (wpAny_field hz rfl (x := .ref TO) rfl ?_)
  refine wpAny_bind (wpAny_setField_rec hz (by simp) fun g₁ hz₁ hs₁ => ?_)
  replace hz₁ : IsZip g₁ z TI TO .ellipsis := hz₁
  refine wpAny_bind ?_
  simp only [List.zipIdx_cons, List.zipIdx_nil, List.forIn_cons, List.forIn_nil]
  refine wpAny_bind (wpAny_bind (wpAny_onRaise ?_))
  show wpAny _ _ (Builtin.SmallTypes.nextOf (.ref i1) >>= _) _ _ _
  refine wpAny_bind (nextOf_item (h1.ext hs₁.extBut D.i1z) (hs₁.extBut _ _ D.l1z hl1) hx fun g₂ h1₂ hs₂ => wpAny_pure ?_)
  have hTO₂ : IsPair g₂ TO a b := hs₂.extBut _ _ D.TOi1 (hs₁.extBut _ _ D.TOz hTO)
  refine wpAny_bind (wpAny_seqItems hTO₂ rfl ?_)
  refine wpAny_bind (wpAny_updateSeq_pair hTO₂ fun g₃ hTO₃ hs₃ => ?_)
  replace hTO₃ : IsPair g₃ TO x b := hTO₃
  refine wpAny_bind (wpAny_letGo (wpAny_pure ?_))
  refine wpAny_bind (wpAny_bind (wpAny_onRaise ?_))
  show wpAny _ _ (Builtin.SmallTypes.nextOf (.ref i2) >>= _) _ _ _
  refine wpAny_bind (nextOf_item (((h2.ext hs₁.extBut D.i2z).ext hs₂.extBut D.i12.symm).ext hs₃.extBut D.TOi2.symm)
    (hs₃.extBut _ _ D.l2TO (hs₂.extBut _ _ D.l2i1 (hs₁.extBut _ _ D.l2z hl2))) hy fun g₄ h2₄ hs₄ => wpAny_pure ?_)
  have hTO₄ : IsPair g₄ TO x b := hs₄.extBut _ _ D.TOi2 hTO₃
  refine wpAny_bind (wpAny_seqItems hTO₄ rfl ?_)
  refine wpAny_bind (wpAny_updateSeq_pair hTO₄ fun g₅ hTO₅ hs₅ => ?_)
  replace hTO₅ : IsPair g₅ TO x y := hTO₅
  refine wpAny_bind (wpAny_letGo (wpAny_pure (wpAny_pure ?_)))
  refine wpAny_bind (wpAny_seqItems hTO₅ rfl ?_)
  refine wpAny_bind (wpAny_newTuple ?_)
  have hsz : g₅.objs.size = s.heap.objs.size := by rw [hs₅.1, hs₄.1, hs₃.1, hs₂.1, hs₁.1]
  have hz₅ : IsZip g₅ z TI TO .ellipsis := hs₅.extBut _ _ D.TOz.symm (hs₄.extBut _ _ D.i2z.symm (hs₃.extBut _ _ D.TOz.symm (hs₂.extBut _ _ D.i1z.symm hz₁)))
  have hk₅ : ∀ c o, c ≠ z → c ≠ TO → c ≠ i1 → c ≠ i2 → s.heap.get? c = some o → g₅.get? c = some o := fun c o c1 c2 c3 c4 e =>
    hs₅.extBut _ _ c2 (hs₄.extBut _ _ c4 (hs₃.extBut _ _ c2 (hs₂.extBut _ _ c3 (hs₁.extBut _ _ c1 e))))
  have h1₅ : itAt k1 g₅ i1 l1 (j + 1) := ((h1₂.ext hs₃.extBut D.TOi1.symm).ext hs₄.extBut D.i12).ext hs₅.extBut D.TOi1.symm
  have h2₅ : itAt k2 g₅ i2 l2 (j + 1) := h2₄.ext hs₅.extBut D.TOi2.symm
  have hzlt : z < g₅.objs.size := Heap.lt_size hz₅
  show wpAny _ _ (Builtin.SmallTypes.ownedTupleHandOut (.ref z) (.ref g₅.objs.size) >>= _) _ _ _
  refine wpAny_bind ?_
  unfold Builtin.SmallTypes.ownedTupleHandOut
  have hz₆ : IsZip (g₅.push { cls := .type "tuple", data := .seq #[x, y] }) z TI TO .ellipsis := Heap.get?_push_of_some _ hz₅
  refine wpAny_bind (wpAny_setField_rec hz₆ (by simp) fun g₇ hz₇ hs₇ => ?_)
  replace hz₇ : IsZip g₇ z TI TO (rawInt g₅.objs.size) := hz₇
  refine wpAny_setField_rec hz₇ (by simp) fun g₈ hz₈ hs₈ => ?_
  replace hz₈ : IsZip g₈ z TI TO (rawInt g₅.objs.size) := hz₈
  have up : ∀ c o, c ≠ z → g₅.get? c = some o → g₈.get? c = some o := fun c o c1 e => hs₈.extBut _ _ c1 (hs₇.extBut _ _ c1 (Heap.get?_push_of_some _ e))
  have hT₈ : IsPair g₈ g₅.objs.size x y := hs₈.extBut _ _ (Nat.ne_of_gt hzlt) (hs₇.extBut _ _ (Nat.ne_of_gt hzlt) (Heap.get?_push_size _ rfl))
  have hz8 : g₈.objs.size = g₅.objs.size + 1 := by rw [hs₈.1, hs₇.1, Heap.size_push]
  rw [hsz] at hz₈ hT₈ hz8
  refine wpAny_pure ⟨_, rfl, ?_⟩
  show Q (.ref g₅.objs.size) _
  rw [hsz]
  exact hQ g₈ hz₈ (up _ _ D.TOz hTO₅) (h1₅.at fun o e => up _ o D.i1z e) (h2₅.at fun o e => up _ o D.i2z e) hT₈ hz8 fun c o c1 c2 c3 c4 e => up c o c1 (hk₅ c o c1 c2 c3 c4 e)

theorem zip_end {k1 k2 : Bool} {z TI TO i1 i2 l1 l2 : Addr} {j n1 n2 : Nat} {xs ys : List Value} {a b : Value} {Q : Fin → Shared → Prop} (hh : A.handled = none) (D : ZA z TI TO i1 i2 l1 l2)
    (hz : IsZip s.heap z TI TO .none) (hTI : IsPair s.heap TI (.ref i1) (.ref i2)) (hTO : IsPair s.heap TO a b)
    (h1 : itAt k1 s.heap i1 l1 j) (h2 : itAt k2 s.heap i2 l2 j) (hl1 : s.heap.get? l1 = some (seqO k1 xs n1)) (hl2 : s.heap.get? l2 = some (seqO k2 ys n2)) (hend : xs[j]? = none ∨ ys[j]? = none)
    (hE : ∀ h' e, (∀ c o, c ≠ z → c ≠ TO → c ≠ i1 → c ≠ i2 → s.heap.get? c = some o → h'.get? c = some o) → (∃ o, h'.get? e = some o ∧ o.cls = .type "StopIteration") → E (.ref e) { s with heap := h' }) :
    wpAny (model prog w) A (Builtin.«zip.__next__» ⟨[.ref z], []⟩) Q E s := by
  show wpAny _ _ (field (.ref z) 2 >>= _) _ _ _
  refine wpAny_bind (wpAny_field hz rfl (x := .bool false) rfl ?_)
  show wpAny _ _ (field (.ref z) 3 >>= _) _ _ _
  refine wpAny_bind (wpAny_field hz rfl (x := .ref TI) rfl ?_)
  refine wpAny_bind (wpAny_seqItems hTI rfl ?_)
  show wpAny _ _ (Builtin.SmallTypes.ownedTupleIsFree (.ref z) >>= _) _ _ _
  refine wpAny_bind ?_
  unfold Builtin.SmallTypes.ownedTupleIsFree
  refine wpAny_bind (wpAny_field hz rfl (x := .none) rfl (wpAny_pure ?_))
  simp only [if_true]
  refine wpAny_bind (wpAny_rule ?_)
  refine wpAny_bind (wpAny_field hz rfl (x := .ref TO) rfl ?_)
  refine wpAny_bind (wpAny_setField_rec hz (by simp) fun g₁ hz₁ hs₁ => ?_)
  replace hz₁ : IsZip g₁ z TI TO .ellipsis := hz₁
  refine wpAny_bind ?_
  simp only [List.zipIdx_cons, List.zipIdx_nil, List.forIn_cons, List.forIn_nil]
  refine wpAny_bind (wpAny_bind (wpAny_onRaise ?_))
  show wpAny _ _ (Builtin.SmallTypes.nextOf (.ref i1) >>= _) _ _ _
  cases hx : xs[j]? with
  | none =>
    refine wpAny_bind (nextOf_end hh (h1.ext hs₁.extBut D.i1z) (hs₁.extBut _ _ D.l1z hl1) hx fun g₂ e hs₂ he => ?_)
    obtain ⟨oe, hoe, hce⟩ := he
    have hz₂ : IsZip g₂ z TI TO .ellipsis := hs₂ _ _ D.i1z.symm hz₁
    have hez : e ≠ z := fun x => by subst x; rw [hz₂] at hoe; cases hoe; simp at hce
    refine wpAny_setField_rec hz₂ (by simp) fun g₃ _ hs₃ => hE g₃ e (fun c o c1 _ c3 _ x => hs₃.extBut _ _ c1 (hs₂ _ _ c3 (hs₁.extBut _ _ c1 x))) ⟨oe, hs₃.extBut _ _ hez hoe, hce⟩
  | some x =>
    have hy : ys[j]? = none := by rcases hend with h | h; rw [hx] at h; cases h; exact h
    refine wpAny_bind (nextOf_item (h1.ext hs₁.extBut D.i1z) (hs₁.extBut _ _ D.l1z hl1) hx fun g₂ h1₂ hs₂ => wpAny_pure ?_)
    have hTO₂ : IsPair g₂ TO a b := hs₂.extBut _ _ D.TOi1 (hs₁.extBut _ _ D.TOz hTO)
    refine wpAny_bind (wpAny_seqItems hTO₂ rfl ?_)
    refine wpAny_bind (wpAny_updateSeq_pair hTO₂ fun g₃ hTO₃ hs₃ => ?_)
    refine wpAny_bind (wpAny_letGo (wpAny_pure ?_))
    refine wpAny_bind (wpAny_bind (wpAny_onRaise ?_))
    show wpAny _ _ (Builtin.SmallTypes.nextOf (.ref i2) >>= _) _ _ _
    refine wpAny_bind (nextOf_end hh (((h2.ext hs₁.extBut D.i2z).ext hs₂.extBut D.i12.symm).ext hs₃.extBut D.TOi2.symm)
      (hs₃.extBut _ _ D.l2TO (hs₂.extBut _ _ D.l2i1 (hs₁.extBut _ _ D.l2z hl2))) hy fun g₄ e hs₄ he => ?_)
    obtain ⟨oe, hoe, hce⟩ := he
    have hz₄ : IsZip g₄ z TI TO .ellipsis := hs₄ _ _ D.i2z.symm (hs₃.extBut _ _ D.TOz.symm (hs₂.extBut _ _ D.i1z.symm hz₁))
    have hez : e ≠ z := fun x => by subst x; rw [hz₄] at hoe; cases hoe; simp at hce
    refine wpAny_setField_rec hz₄ (by simp) fun g₅ _ hs₅ => hE g₅ e (fun c o c1 c2 c3 c4 x => hs₅.extBut _ _ c1 (hs₄ _ _ c4 (hs₃.extBut _ _ c2 (hs₂.extBut _ _ c3 (hs₁.extBut _ _ c1 x))))) ⟨oe, hs₅.extBut _ _ hez hoe, hce⟩
end
end Mine

-- M5
namespace Mine
open PySem

abbrev iterO (k : Bool) (l : Addr) : Obj := { cls := .type (cond k "list_iterator" "tuple_iterator"), data := .fields #[.ref l, .int 0 0] }

section
variable {prog : Program} {w : World} {A : Around} {E : Value → Shared → Prop} {s : Shared}

theorem pyIter_k {k : Bool} {l : Addr} {vs : List Value} {n : Nat} {Q : Value → Shared → Prop} (hl : s.heap.get? l = some (seqO k vs n))
    (hQ : Q (.ref s.heap.objs.size) { s with heap := s.heap.push (iterO k l) }) : wpAny (model prog w) A (pyIter (.ref l)) Q E s := by
  cases k with
  | true => exact wpAny_pyIter_list ⟨_, hl, rfl, n, rfl⟩ hQ
  | false => exact wpAny_pyIter_tuple ⟨_, hl, rfl, n, rfl⟩ hQ

theorem itAt_new {k : Bool} {l : Addr} {h : Heap} {a : Addr} (e : h.get? a = some (iterO k l)) : itAt k h a l 0 := by
  cases k <;> exact ⟨_, e, rfl, rfl⟩

abbrev zH1 (k1 : Bool) (h : Heap) (l1 : Addr) : Heap := h.push (iterO k1 l1)
abbrev zH2 (k1 k2 : Bool) (h : Heap) (l1 l2 : Addr) : Heap := (zH1 k1 h l1).push (iterO k2 l2)
abbrev zH3 (k1 k2 : Bool) (h : Heap) (l1 l2 : Addr) : Heap := (zH2 k1 k2 h l1 l2).push { cls := .type "tuple", data := .seq #[.ref h.objs.size, .ref (zH1 k1 h l1).objs.size] }
abbrev zH4 (k1 k2 : Bool) (h : Heap) (l1 l2 : Addr) : Heap := (zH3 k1 k2 h l1 l2).push { cls := .type "tuple", data := .seq #[.none, .none] }
abbrev zH5 (k1 k2 : Bool) (h : Heap) (l1 l2 : Addr) : Heap := (zH4 k1 k2 h l1 l2).push { cls := .type "zip", data := .fields #[.none, .bool false, .bool false, .ref (zH2 k1 k2 h l1 l2).objs.size, .ref (zH3 k1 k2 h l1 l2).objs.size] }

theorem meets_zipK (k1 k2 : Bool) (l1 l2 : Addr) (xs ys : List Value) (n1 n2 : Nat) :
    Meets (Builtin.«zip.__new__» ⟨[.type "zip", .ref l1, .ref l2], []⟩) (fun _ R s => s.heap.get? l1 = some (seqO k1 xs n1) ∧ s.heap.get? l2 = some (seqO k2 ys n2) ∧
      R (.ok (.ret (.ref (zH4 k1 k2 s.heap l1 l2).objs.size))) { s with heap := zH5 k1 k2 s.heap l1 l2 }) :=
  .of_wp fun prog w A R s h => by
    obtain ⟨hp, g, d, tk, os⟩ := s; obtain ⟨hl1, hl2, h⟩ := h
    have hsub := sub_zip
    have hL1 : Heap.get? (Shared.heap ⟨hp, g, d, tk, os⟩) l1 = some (seqO k1 xs n1) := hl1
    have hL2 : Heap.get? (Shared.heap ⟨hp.push (iterO k1 l1), g, d, tk, os⟩) l2 = some (seqO k2 ys n2) := Heap.get?_push_of_some _ hl2
    wp_walk using pyIter_k hL1, pyIter_k hL2
    exact ⟨_, rfl, h⟩

theorem call_zipK {k1 k2 : Bool} {l1 l2 : Addr} {xs ys : List Value} {n1 n2 : Nat} {Q : Value → Shared → Prop} (hl1 : s.heap.get? l1 = some (seqO k1 xs n1)) (hl2 : s.heap.get? l2 = some (seqO k2 ys n2))
    (h : ∀ h', IsZip h' (s.heap.objs.size + 4) (s.heap.objs.size + 2) (s.heap.objs.size + 3) .none → IsPair h' (s.heap.objs.size + 2) (.ref s.heap.objs.size) (.ref (s.heap.objs.size + 1)) →
      IsPair h' (s.heap.objs.size + 3) .none .none → itAt k1 h' s.heap.objs.size l1 0 → itAt k2 h' (s.heap.objs.size + 1) l2 0 → h'.objs.size = s.heap.objs.size + 5 →
      (∀ c o, s.heap.get? c = some o → h'.get? c = some o) → Q (.ref (s.heap.objs.size + 4)) { s with heap := h' }) :
    wpAny (model prog w) A (call (.type "zip") [.ref l1, .ref l2]) Q E s := by
  refine callType_new F.called_zip (by decide) (F.typeCall_zip_2 _ _) (F.newCall_zip_2 _ _) (fun obj => F.args_object_init_3 obj _ _) F.entry_zip_new
    (meets_zipK k1 k2 l1 l2 xs ys n1 n2) ⟨hl1, hl2, ?_⟩
  have z1 : (zH1 k1 s.heap l1).objs.size = s.heap.objs.size + 1 := Heap.size_push ..
  have z2 : (zH2 k1 k2 s.heap l1 l2).objs.size = s.heap.objs.size + 2 := by rw [Heap.size_push, z1]
  have z3 : (zH3 k1 k2 s.heap l1 l2).objs.size = s.heap.objs.size + 3 := by rw [Heap.size_push, z2]
  have z4 : (zH4 k1 k2 s.heap l1 l2).objs.size = s.heap.objs.size + 4 := by rw [Heap.size_push, z3]
  have z5 : (zH5 k1 k2 s.heap l1 l2).objs.size = s.heap.objs.size + 5 := by rw [Heap.size_push, z4]
  have g5 : (zH5 k1 k2 s.heap l1 l2).get? (zH4 k1 k2 s.heap l1 l2).objs.size = some _ := Heap.get?_push_size _ rfl
  have g4 : (zH5 k1 k2 s.heap l1 l2).get? (zH3 k1 k2 s.heap l1 l2).objs.size = some _ := Heap.get?_push_of_some _ (Heap.get?_push_size _ rfl)
  have g3 : (zH5 k1 k2 s.heap l1 l2).get? (zH2 k1 k2 s.heap l1 l2).objs.size = some _ := Heap.get?_push_of_some _ (Heap.get?_push_of_some _ (Heap.get?_push_size _ rfl))
  have g2 : (zH5 k1 k2 s.heap l1 l2).get? (zH1 k1 s.heap l1).objs.size = some (iterO k2 l2) := Heap.get?_push_of_some _ (Heap.get?_push_of_some _ (Heap.get?_push_of_some _ (Heap.get?_push_size _ rfl)))
  have g1 : (zH5 k1 k2 s.heap l1 l2).get? s.heap.objs.size = some (iterO k1 l1) := Heap.get?_push_of_some _ (Heap.get?_push_of_some _ (Heap.get?_push_of_some _ (Heap.get?_push_of_some _ (Heap.get?_push_size _ rfl))))
  show _ ∧ _
  rw [z2, z3, z4] at g5
  rw [z1, z2] at g3
  rw [z3] at g4
  rw [z1] at g2
  rw [z4]
  exact ⟨⟨_, g5, rfl⟩, h _ g5 g3 g4 (itAt_new g1) (itAt_new g2) z5 fun c o x =>
    Heap.get?_push_of_some _ (Heap.get?_push_of_some _ (Heap.get?_push_of_some _ (Heap.get?_push_of_some _ (Heap.get?_push_of_some _ x))))⟩

theorem zipD_get {xs ys : List PyData} {i : Nat} {d : PyData} (h : ((xs.zip ys).map fun p => PyData.tuple [p.1, p.2])[i]? = some d) : ∃ x y, xs[i]? = some x ∧ ys[i]? = some y ∧ d = .tuple [x, y] := by
  rw [List.getElem?_map] at h
  cases q : (xs.zip ys)[i]? with
  | none => rw [q] at h; cases h
  | some p =>
    rw [q] at h
    obtain ⟨q1, q2⟩ := List.getElem?_zip_eq_some.mp q
    exact ⟨p.1, p.2, q1, q2, (Option.some.inj h).symm⟩

theorem seqO_plain (k : Bool) (vs : List Value) (n : Nat) : Plainly (seqO k vs n) := by
  cases k <;> (constructor <;> (intros; intro q; cases q))

theorem Src.zip (hh : A.handled = none) {k1 k2 : Bool} (z TI TO i1 i2 l1 l2 : Addr) (D : ZA z TI TO i1 i2 l1 l2) (us vs : List Value) (n1 n2 : Nat) (xs ys : List PyData) :
    Src prog w A z (fun b => b = z ∨ b = TI ∨ b = TO ∨ b = i1 ∨ b = i2 ∨ b = l1 ∨ b = l2) (fun b => b = z ∨ b = TO ∨ b = i1 ∨ b = i2) ((xs.zip ys).map fun p => PyData.tuple [p.1, p.2]) (fun t => isTupT t = true)
      (fun i h => IsZip h z TI TO .none ∧ IsPair h TI (.ref i1) (.ref i2) ∧ (∃ a b, IsPair h TO a b) ∧ itAt k1 h i1 l1 i ∧ itAt k2 h i2 l2 i ∧ h.get? l1 = some (seqO k1 us n1) ∧ h.get? l2 = some (seqO k2 vs n2))
      (fun i v h => ∃ T, v = .ref T ∧ IsZip h z TI TO (rawInt T) ∧ IsPair h TI (.ref i1) (.ref i2) ∧ (∃ a b, IsPair h TO a b) ∧ itAt k1 h i1 l1 (i + 1) ∧ itAt k2 h i2 l2 (i + 1) ∧ h.get? l1 = some (seqO k1 us n1) ∧ h.get? l2 = some (seqO k2 vs n2))
      (fun S h => RdL h S us xs ∧ RdL h S vs ys) where
  sub := fun b hb => by rcases hb with rfl | rfl | rfl | rfl <;> simp
  frame := fun i h h' st hk => by
    obtain ⟨hz, hTI, ⟨a, b, hTO⟩, h1, h2, hl1, hl2⟩ := st
    exact ⟨hk z _ (by simp) hz, hk TI _ (by simp) hTI, ⟨a, b, hk TO _ (by simp) hTO⟩, h1.at fun o e => hk i1 o (by simp) e, h2.at fun o e => hk i2 o (by simp) e, hk l1 _ (by simp) hl1, hk l2 _ (by simp) hl2⟩
  alloc := fun i h b st hb => by
    obtain ⟨hz, hTI, ⟨a, c, hTO⟩, h1, h2, hl1, hl2⟩ := st
    rcases hb with rfl | rfl | rfl | rfl | rfl | rfl | rfl
    · exact ⟨_, hz, by constructor <;> (intros; intro q; cases q)⟩
    · exact ⟨_, hTI, by constructor <;> (intros; intro q; cases q)⟩
    · exact ⟨_, hTO, by constructor <;> (intros; intro q; cases q)⟩
    · exact h1.obj
    · exact h2.obj
    · exact ⟨_, hl1, seqO_plain _ _ _⟩
    · exact ⟨_, hl2, seqO_plain _ _ _⟩
  mono := fun S S' h h' r hs hk => ⟨r.1.mono hk hs, r.2.mono hk hs⟩
  next := fun i d S s Q E hd st r hw hQ => by
    obtain ⟨hz, hTI, ⟨a, b, hTO⟩, h1, h2, hl1, hl2⟩ := st
    obtain ⟨x, y, hx, hy, rfl⟩ := zipD_get hd
    obtain ⟨u, hu, ru⟩ := r.1.get hx
    obtain ⟨v, hv, rv⟩ := r.2.get hy
    have hT : s.TypeIs (.ref z) "zip" := ⟨_, hz, rfl⟩
    unfold pyNext
    refine wpAny_bind (wpAny_attempt (wpAny_callSpecial?_slot (name := Str.ofString "__next__") hT F.slot_zip_next (wpAny_call_entry F.slot_zip_next hT F.entry_zip_next
      (zip_item D hz hTI hTO h1 h2 hl1 hl2 hu hv fun h' a1 a2 a3 a4 a5 a6 a7 => wpAny_pure ?_) (F.args_zip_next_1 _))))
    have keep : ∀ c o, ¬ (c = z ∨ c = TO ∨ c = i1 ∨ c = i2) → s.heap.get? c = some o → h'.get? c = some o := fun c o hc e => a7 c o (fun q => hc (.inl q)) (fun q => hc (.inr (.inl q))) (fun q => hc (.inr (.inr (.inl q)))) (fun q => hc (.inr (.inr (.inr q)))) e
    have kS : ∀ c o, S c → s.heap.get? c = some o → h'.get? c = some o := fun c o hc e => keep c o (hw c hc) e
    refine hQ _ h' s.toks (fun c => S c ∨ c = s.heap.objs.size) ⟨keep, fun _ q => .inl q, fun c hc => hc.elim .inl fun q => .inr (q ▸ fresh_none _), fun c hc => hc.elim .inl fun q => .inr ⟨_, q ▸ a5, tup_plain [u, v] 0⟩⟩ ?_ ?_
    · exact .tuple (vs := [u, v]) (n := 0) (.inr rfl) a5 (.cons (ru.mono kS fun _ => .inl) (.cons (rv.mono kS fun _ => .inl) .nil))
    · exact ⟨_, rfl, a1, a7 _ _ D.TIz D.TITO D.TIi1 D.TIi2 hTI, ⟨_, _, a2⟩, a3, a4, a7 _ _ D.l1z D.l1TO D.l1i1 D.l1i2 hl1, a7 _ _ D.l2z D.l2TO D.l2i1 D.l2i2 hl2⟩
  go := fun i v t s Q E ht hm hQ => by
    obtain ⟨T, rfl, hz, hTI, ⟨a, b, hTO⟩, h1, h2, hl1, hl2⟩ := hm
    cases t <;> first | (cases ht; done) | skip
    refine wpAny_letOwnedTupleGo_zip hz fun h' hz' hs' => hQ h' (fun c o hc e => hs'.extBut _ _ (fun q => hc (.inl q)) e) ⟨hz', hs'.extBut _ _ D.TIz hTI, ⟨a, b, hs'.extBut _ _ D.TOz hTO⟩, h1.ext hs'.extBut D.i1z, h2.ext hs'.extBut D.i2z,
      hs'.extBut _ _ D.l1z hl1, hs'.extBut _ _ D.l2z hl2⟩
  done := fun S s Q E st r hQ => by
    obtain ⟨hz, hTI, ⟨a, b, hTO⟩, h1, h2, hl1, hl2⟩ := st
    have hT : s.TypeIs (.ref z) "zip" := ⟨_, hz, rfl⟩
    unfold pyNext
    have hend : us[((xs.zip ys).map fun p => PyData.tuple [p.1, p.2]).length]? = none ∨ vs[((xs.zip ys).map fun p => PyData.tuple [p.1, p.2]).length]? = none := by
      simp only [List.length_map, List.length_zip]
      have := r.1.length
      have := r.2.length
      rcases Nat.le_total xs.length ys.length with q | q
      · exact .inl (List.getElem?_eq_none (by omega))
      · exact .inr (List.getElem?_eq_none (by omega))
    refine wpAny_bind (wpAny_attempt (wpAny_callSpecial?_slot (name := Str.ofString "__next__") hT F.slot_zip_next
      (wpAny_call_entry F.slot_zip_next hT F.entry_zip_next (zip_end hh D hz hTI hTO h1 h2 hl1 hl2 hend fun h' e hk he => ?_) (F.args_zip_next_1 _))))
    obtain ⟨o, ho, hc⟩ := he
    refine wpAny_bind (wpAny_isInstance (T := "StopIteration") (b := true) ⟨o, ho, hc⟩ isSubtype_stop ?_)
    exact wpAny_pure (hQ _ s.toks fun c o hc e => hk c o (fun q => hc (.inl q)) (fun q => hc (.inr (.inl q))) (fun q => hc (.inr (.inr (.inl q)))) (fun q => hc (.inr (.inr (.inr q)))) e)
  self := fun i s Q E st hQ => wpAny_pyIter_zip st.1 hQ
end
end Mine

-- M6
namespace Mine
open PySem PySem.Calls

/-! ## Names and frames -/

noncomputable def slotL : List Str → Nat → Str → Option Nat
  | [], _, _ => none
  | y :: ys, k, x => if x == y then some k else slotL ys (k + 1) x
theorem slotL_get : ∀ {V : List Str} {k i : Nat} {x : Str}, slotL V k x = some i → k ≤ i ∧ V[i - k]? = some x
  | [], _, _, _, h => by cases h
  | y :: ys, k, i, x, h => by
    unfold slotL at h
    split at h
    · rename_i q
      cases h
      exact ⟨Nat.le_refl _, by simp [beq_iff_eq.mp q]⟩
    · obtain ⟨h1, h2⟩ := slotL_get h
      refine ⟨by omega, ?_⟩
      have : i - k = (i - (k + 1)) + 1 := by omega
      rw [this]; simpa using h2
theorem slot_inj {V : List Str} {i : Nat} {x y : Str} (h1 : slotL V 0 x = some i) (h2 : slotL V 0 y = some i) : x = y := by
  have a := (slotL_get h1).2
  have b := (slotL_get h2).2
  rw [a] at b
  exact Option.some.inj b

abbrev Sc := List (Str × NameKind)
noncomputable def isVar (sc : Sc) (x : Str) : Bool := match sc.lookup x with
  | some .local => true
  | some .cell => true
  | some .free => true
  | _ => false
noncomputable def isGlob (sc : Sc) (x : Str) : Bool := match sc.lookup x with
  | some .globalImplicit => true
  | _ => false
noncomputable def okName (x : Str) : Bool := !(x == ("__debug__" : Str)) && !(x == ("__classdict__" : Str))

noncomputable def Glb (base : Heap) (x : Str) (v : Value) : Prop :=
  ∃ mg, base.Ns mainGlobals mg ∧ (mg x = some v ∨ (mg x = none ∧ ∃ mb, base.Ns builtinsNs mb ∧ mb x = some v))

noncomputable def Own (env : Env) (a : Addr) : Prop := a = env.locals ∨ ∃ x, env.cells.lookup x = some a

structure FrOk (base : Heap) (ec : ExcCls) (V : List Str) (S : Addr → Prop) (μ : List Addr) (env : Env) (ρ : Rho) (h : Heap) : Prop where
  kind : env.scope.kind = .function
  glob : env.globals = mainGlobals
  blt : env.builtins = builtinsNs
  ns : ∃ m, h.Ns env.locals m ∧ ∀ x i av, slotL V 0 x = some i → ρ i = some av → env.kindOf x = some .local → ∃ v, m x = some v ∧ RdA ec h S μ v av
  cell : ∀ x c, env.cells.lookup x = some c → ∃ vo, h.IsCell c vo
  val : ∀ x c i av, env.cells.lookup x = some c → slotL V 0 x = some i → ρ i = some av → (env.kindOf x = some .cell ∨ env.kindOf x = some .free) → ∃ v, h.IsCell c (some v) ∧ RdA ec h S μ v av
  has : ∀ x, env.kindOf x = some .cell ∨ env.kindOf x = some .free → ∃ c, env.cells.lookup x = some c
  apart : ∀ x y c, env.cells.lookup x = some c → env.cells.lookup y = some c → x = y
  newL : base.get? env.locals = none
  newC : ∀ x c, env.cells.lookup x = some c → base.get? c = none

section
variable {base : Heap} {ec : ExcCls} {V : List Str} {S S' : Addr → Prop} {μ : List Addr} {σ σ' : Store} {env : Env} {ρ ρ' : Rho} {h h' : Heap}

theorem IsCell.inj {c : Addr} {v u : Option Value} (x : h.IsCell c v) (y : h.IsCell c u) : v = u := by
  obtain ⟨o, e, d⟩ := x
  obtain ⟨o', e', d'⟩ := y
  rw [e] at e'; cases e'
  rw [d] at d'; exact Data.cell.inj d'

theorem Own.notList (F : FrOk base ec V S μ env ρ h) {a : Addr} (o : Own env a) {b : Obj} (e : h.get? a = some b) : ¬ Plainly b := by
  rintro ⟨p1, p2⟩
  rcases o with rfl | ⟨x, hx⟩
  · obtain ⟨m, ⟨o, es, ep, e', d, _⟩, _⟩ := F.ns
    rw [e] at e'; cases e'
    exact p1 es ep d
  · obtain ⟨vo, o, e', d⟩ := F.cell x a hx
    rw [e] at e'; cases e'
    exact p2 vo d
theorem Own.notLive (I : Inv base S μ σ h) (F : FrOk base ec V S μ env ρ h) {a : Addr} (o : Own env a) : ¬ Live μ σ a := fun l => by
  obtain ⟨vs, n, e⟩ := l.obj I
  exact o.notList F e (lst_plain vs n)
theorem Own.notMu (I : Inv base S μ σ h) (F : FrOk base ec V S μ env ρ h) {a : Addr} (o : Own env a) : a ∉ μ := fun l => by
  obtain ⟨vs, n, e⟩ := I.mem l
  exact o.notList F e (lst_plain vs n)

/-- kept where the frame and what its values name are kept -/
theorem FrOk.mono {μ' : List Addr} (F : FrOk base ec V S μ env ρ h) (hO : ∀ a o, Own env a → h.get? a = some o → h'.get? a = some o) (hR : ∀ v av, RdA ec h S μ v av → RdA ec h' S' μ' v av) : FrOk base ec V S' μ' env ρ h' where
  kind := F.kind
  glob := F.glob
  blt := F.blt
  ns := by
    obtain ⟨m, hn, hv⟩ := F.ns
    refine ⟨m, hn.at' fun o e => hO _ o (.inl rfl) e, fun x i av h1 h2 h3 => ?_⟩
    obtain ⟨v, e, r⟩ := hv x i av h1 h2 h3
    exact ⟨v, e, hR v av r⟩
  cell := fun x c hc => by
    obtain ⟨vo, o, e, d⟩ := F.cell x c hc
    exact ⟨vo, o, hO c o (.inr ⟨x, hc⟩) e, d⟩
  val := fun x c i av h0 h1 h2 h3 => by
    obtain ⟨v, ⟨o, e, d⟩, r⟩ := F.val x c i av h0 h1 h2 h3
    exact ⟨v, ⟨o, hO c o (.inr ⟨x, h0⟩) e, d⟩, hR v av r⟩
  has := F.has
  apart := F.apart
  newL := F.newL
  newC := F.newC
theorem FrOk.ev (I : Inv base S μ σ h) (F : FrOk base ec V S μ env ρ h) (x : Ev base μ S S' σ σ' h h') : FrOk base ec V S' μ env ρ h' :=
  F.mono (fun a o ha e => x.keep a o (ha.notLive I F) e) fun _ _ r => r.ev I x
theorem FrOk.weaken (F : FrOk base ec V S μ env ρ h) (hw : ∀ i av, ρ' i = some av → ρ i = some av) : FrOk base ec V S μ env ρ' h where
  kind := F.kind
  glob := F.glob
  blt := F.blt
  ns := let ⟨m, hn, hv⟩ := F.ns; ⟨m, hn, fun x i av h1 h2 h3 => hv x i av h1 (hw i av h2) h3⟩
  cell := F.cell
  val := fun x c i av h0 h1 h2 h3 => F.val x c i av h0 h1 (hw i av h2) h3
  has := F.has
  apart := F.apart
  newL := F.newL
  newC := F.newC
end

section
variable {base : Heap} {ec : ExcCls} {V : List Str} {S S' : Addr → Prop} {μ : List Addr} {σ σ' : Store} {env : Env} {ρ ρ' : Rho} {M : Model} {A : Around} {E : Value → Shared → Prop} {s : Shared}

theorem eval_var {x : Str} {pos : Pos} {i : Nat} {av : AV} {Q : Value → Shared → Prop} (F : FrOk base ec V S μ env ρ s.heap) (hv : isVar env.scope.names x = true) (ho : okName x = true) (hx : slotL V 0 x = some i) (hi : ρ i = some av)
    (h : ∀ v, RdA ec s.heap S μ v av → Q v s) : wpAny M A (eval (.Name x pos) env) Q E s := by
  unfold okName at ho
  rw [Bool.and_eq_true, Bool.not_eq_true', Bool.not_eq_true'] at ho
  refine wpAny_Name ?_ ho.1
  unfold isVar at hv
  have hk : ∀ k, env.scope.names.lookup x = some k → env.kindOf x = some k := fun _ e => e
  split at hv
  · rename_i q
    obtain ⟨m, hn, hm⟩ := F.ns
    obtain ⟨v, e, r⟩ := hm x i av hx hi (hk _ q)
    exact wpAny_loadName_local F.kind (hk _ q) hn e (h v r)
  · rename_i q
    obtain ⟨c, hc⟩ := F.has x (.inl (hk _ q))
    obtain ⟨v, e, r⟩ := F.val x c i av hc hx hi (.inl (hk _ q))
    exact wpAny_loadName_cell F.kind (hk _ q) hc e (h v r)
  · rename_i q
    obtain ⟨c, hc⟩ := F.has x (.inr (hk _ q))
    obtain ⟨v, e, r⟩ := F.val x c i av hc hx hi (.inr (hk _ q))
    exact wpAny_loadName_free F.kind (hk _ q) hc e (h v r) ho.2
  · cases hv

theorem eval_glob {x : Str} {pos : Pos} {v : Value} {Q : Value → Shared → Prop} (F : FrOk base ec V S μ env ρ s.heap) (hb : ∀ b o, base.get? b = some o → s.heap.get? b = some o) (hv : isGlob env.scope.names x = true) (ho : okName x = true) (g : Glb base x v)
    (h : Q v s) : wpAny M A (eval (.Name x pos) env) Q E s := by
  unfold okName at ho
  rw [Bool.and_eq_true, Bool.not_eq_true', Bool.not_eq_true'] at ho
  have hk : env.kindOf x = some .globalImplicit := by
    unfold isGlob at hv
    split at hv
    · rename_i q; exact q
    · cases hv
  refine Name_function_global F.kind hk ?_ ho.1
  obtain ⟨mg, hn, hm⟩ := g
  have hn' : s.heap.Ns env.globals mg := by rw [F.glob]; exact hn.keeps hb
  rcases hm with hm | ⟨hm, mb, hnb, hmb⟩
  · exact loadGlobal_global hn' hm h
  · exact loadGlobal_builtin hn' hm (by rw [F.blt]; exact hnb.keeps hb) hmb h

/-- storing a name of the frame's own -/
theorem store_var {x : Str} {v : Value} {i : Nat} {av : AV} {Q : Unit → Shared → Prop} (I : Inv base S μ σ s.heap) (F : FrOk base ec V S μ env ρ s.heap) (hx : slotL V 0 x = some i)
    (hk : env.kindOf x = some .local ∨ env.kindOf x = some .cell) (r : RdA ec s.heap S μ v av)
    (h : ∀ h' tk c, Own env c → (env.kindOf x = some .local → c = env.locals) → Inv base S μ σ h' → FrOk base ec V S μ env (ρ.set i av) h' → (∀ b o, b ≠ c → s.heap.get? b = some o → h'.get? b = some o) → (∀ b o, s.heap.get? b = some o → ∃ o', h'.get? b = some o') → Q () { s with heap := h', toks := tk }) :
    wpAny M A (bindName env x v) Q E s := by
  refine wpAny_bindName ?_
  have other : ∀ y j aw, slotL V 0 y = some j → (ρ.set i av) j = some aw → y ≠ x → ρ j = some aw := fun y j aw hy hj hne => by
    unfold Rho.set at hj
    split at hj
    · rename_i q; subst q; exact absurd (slot_inj hy hx) hne
    · exact hj
  have same : ∀ aw, (ρ.set i av) i = some aw → aw = av := fun aw hj => by simp [Rho.set] at hj; exact hj.symm
  -- what a change at one of the frame's own addresses leaves
  have rest : ∀ a h', Own env a → Heap.SameBut a s.heap h' → (∃ o', h'.get? a = some o') → (∀ b o, b ≠ a → s.heap.get? b = some o → h'.get? b = some o) ∧ (∀ u aw, RdA ec s.heap S μ u aw → RdA ec h' S μ u aw) ∧ Inv base S μ σ h' ∧ (∀ b o, s.heap.get? b = some o → ∃ o', h'.get? b = some o') := by
    intro a h' ha hs hal
    have pl : ∀ b o, s.heap.get? b = some o → Plainly o → h'.get? b = some o := fun b o e p => hs.extBut b o (fun q => ha.notList F (q ▸ e) p) e
    have kS : ∀ b o, S b → s.heap.get? b = some o → h'.get? b = some o := fun b o hb e => by
      obtain ⟨o', e', p⟩ := I.inS b hb
      rw [e] at e'; cases e'
      exact pl b o e p
    have hna : base.get? a = none := by
      rcases ha with rfl | ⟨y, hy⟩
      · exact F.newL
      · exact F.newC y a hy
    refine ⟨fun b o hb e => hs.extBut b o hb e, fun u aw q => q.mono kS (fun _ x => x) fun _ _ x => x, ?_, ?_⟩
    · refine ⟨fun b o e => hs.extBut b o (fun q => by subst q; rw [hna] at e; cases e) (I.keepB b o e), I.len, fun j b f ds e1 e2 => ?_, I.nodup, I.new, fun b hb => ?_⟩
      · obtain ⟨vs, n, e, q, w1, w2⟩ := I.cells j b f ds e1 e2
        exact ⟨vs, n, pl b _ e (lst_plain vs n), q.mono kS fun _ x => x, w1, w2⟩
      · obtain ⟨o, e, p⟩ := I.inS b hb
        exact ⟨o, pl b o e p, p⟩
    · intro b o e
      by_cases q : b = a
      · subst q; exact hal
      · exact ⟨o, hs.extBut b o q e⟩
  rcases hk with hk | hk
  · obtain ⟨m, hn, hm⟩ := F.ns
    refine wpAny_storeName_local hk hn (fun h' hn' hs => ?_) (by rw [F.kind]; rfl)
    have hO : Own env env.locals := .inl rfl
    obtain ⟨k1, k2, k3, k4⟩ := rest _ h' hO hs (by obtain ⟨o, _, _, e, _⟩ := hn'; exact ⟨o, e⟩)
    have hcl : ∀ y c, env.cells.lookup y = some c → c ≠ env.locals := fun y c hy q => by
      obtain ⟨vo, o, e, d⟩ := F.cell y c hy
      obtain ⟨o', es, ep, e', d', _⟩ := hn
      rw [q, e'] at e; cases e
      rw [d] at d'; cases d'
    refine h h' _ _ hO (fun _ => rfl) k3 ⟨F.kind, F.glob, F.blt, ⟨_, hn', fun y j aw hy hj hky => ?_⟩, fun y c hy => ?_, fun y c j aw h0 hy hj hky => ?_, F.has, F.apart, F.newL, F.newC⟩ k1 k4
    · by_cases q : y = x
      · subst q
        rw [hx] at hy; cases hy
        rw [same aw hj]
        exact ⟨v, by simp, k2 _ _ r⟩
      · obtain ⟨u, e, ru⟩ := hm y j aw hy (other y j aw hy hj q) hky
        exact ⟨u, by simp [q, e], k2 _ _ ru⟩
    · obtain ⟨vo, e⟩ := F.cell y c hy
      exact ⟨vo, e.sameBut hs (hcl y c hy)⟩
    · have q : y ≠ x := by
        rintro rfl
        rw [hk] at hky
        rcases hky with q | q <;> cases q
      obtain ⟨u, e, ru⟩ := F.val y c j aw h0 hy (other y j aw hy hj q) hky
      exact ⟨u, e.sameBut hs (hcl y c h0), k2 _ _ ru⟩
  · obtain ⟨c, hc⟩ := F.has x (.inl hk)
    obtain ⟨vo, hv⟩ := F.cell x c hc
    refine wpAny_storeName_cell F.kind hk hc hv fun h' hv' hs => ?_
    have hO : Own env c := .inr ⟨x, hc⟩
    obtain ⟨k1, k2, k3, k4⟩ := rest _ h' hO hs (by obtain ⟨o, e, _⟩ := hv'; exact ⟨o, e⟩)
    obtain ⟨m, hn, hm⟩ := F.ns
    have hcl : env.locals ≠ c := fun q => by
      obtain ⟨o, e, d⟩ := hv
      obtain ⟨o', es, ep, e', d', _⟩ := hn
      rw [q, e] at e'; cases e'
      rw [d] at d'; cases d'
    refine h h' _ _ hO (fun q => by rw [hk] at q; cases q) k3 ⟨F.kind, F.glob, F.blt, ⟨m, hn.sameBut hs hcl, fun y j aw hy hj hky => ?_⟩, fun y d hy => ?_, fun y d j aw h0 hy hj hky => ?_, F.has, F.apart, F.newL, F.newC⟩ k1 k4
    · have q : y ≠ x := by
        rintro rfl
        rw [hk] at hky; cases hky
      obtain ⟨u, e, ru⟩ := hm y j aw hy (other y j aw hy hj q) hky
      exact ⟨u, e, k2 _ _ ru⟩
    · by_cases q : d = c
      · subst q; exact ⟨_, hv'⟩
      · obtain ⟨uo, e⟩ := F.cell y d hy
        exact ⟨uo, e.sameBut hs q⟩
    · by_cases q : y = x
      · subst q
        rw [hc] at h0; cases h0
        rw [hx] at hy; cases hy
        rw [same aw hj]
        exact ⟨v, hv', k2 _ _ r⟩
      · obtain ⟨u, e, ru⟩ := F.val y d j aw h0 hy (other y j aw hy hj q) hky
        refine ⟨u, e.sameBut hs fun w => q ?_, k2 _ _ ru⟩
        subst w
        exact F.apart _ _ _ h0 hc
end
end Mine

-- M7
namespace Mine
open PySem PySem.Calls

/-! ## From the text's syntax to the small language -/

structure Cfg where
  V : List Str
  fns : List (Str × Addr)
  excs : List (Str × Nat)
  consts : List (Str × PyData)
  cells : List Str

noncomputable def constD : Const → Option PyData
  | .none => some .none
  | .bool b => some (.bool b)
  | .int i => some (.int i)
  | .str x => some (.str x)
  | _ => none

noncomputable def primOf (f : Str) : Option Prim :=
  if f == ("len" : Str) then some .len else if f == ("all" : Str) then some .all else if f == ("any" : Str) then some .any else if f == ("sum" : Str) then some .sum
  else if f == ("tuple" : Str) then some .tuple else if f == ("list" : Str) then some .list else if f == ("int" : Str) then some .int else if f == ("max" : Str) then some .max else none
noncomputable def tyOf (f : Str) : Option Ty :=
  if f == ("int" : Str) then some .int else if f == ("bool" : Str) then some .bool else if f == ("tuple" : Str) then some .tuple else if f == ("list" : Str) then some .list else if f == ("str" : Str) then some .str else none
noncomputable def tyName : Ty → String
  | .int => "int" | .bool => "bool" | .tuple => "tuple" | .list => "list" | .str => "str"

noncomputable def isOwnN (sc : Sc) (x : Str) : Bool := match sc.lookup x with
  | some .local => true
  | some .cell => true
  | _ => false

noncomputable def trL (f : Expr → Option CE) : List Expr → Option (List CE)
  | [] => some []
  | e :: es => match f e with
    | none => none
    | some c => match trL f es with
      | none => none
      | some cs => some (c :: cs)

noncomputable def varOf (G : Cfg) (sc : Sc) (x : Str) : Option Nat := if isVar sc x && okName x then slotL G.V 0 x else none
noncomputable def ownOf (G : Cfg) (sc : Sc) (x : Str) : Option Nat := if isOwnN sc x && okName x then slotL G.V 0 x else none
noncomputable def ownsOf (G : Cfg) (sc : Sc) : List Expr → Option (List Nat)
  | [] => some []
  | .Name x _ :: r => (match ownOf G sc x with
    | none => none
    | some i => match ownsOf G sc r with
      | none => none
      | some is => some (i :: is))
  | _ => none

noncomputable def trT (G : Cfg) (sc : Sc) : Expr → Option Tgt
  | .Name x _ => (match ownOf G sc x with | some i => some (.one i) | none => none)
  | .Tuple es _ _ => (match ownsOf G sc es with | some is => some (.many is) | none => none)
  | _ => none

noncomputable def noSlice : Expr → Bool
  | .Slice .. => false
  | _ => true
noncomputable def noSet : Expr → Bool
  | .Set .. => false
  | _ => true
noncomputable def noStar : Expr → Bool
  | .Starred .. => false
  | _ => true

noncomputable def tgtFits : ItK → Tgt → Bool
  | .zip, .many _ => true
  | .zip, .one _ => false
  | .range1, .one _ => true
  | .range2, .one _ => true
  | .range1, .many _ => false
  | .range2, .many _ => false
  | .seq, _ => true

/-- what a loop goes along -/
noncomputable def trI (sc : Sc) (f : Expr → Option CE) : Expr → Option (ItK × List CE)
  | .Call (.Name g p) args [] pos =>
    if isGlob sc g && okName g && (g == ("range" : Str)) then (match args with
      | [a] => (match f a with | some c => if noStar a then some (.range1, [c]) else none | none => none)
      | [a, b] => (match f a, f b with | some c, some d => if noStar a && noStar b then some (.range2, [c, d]) else none | _, _ => none)
      | _ => none)
    else if isGlob sc g && okName g && (g == ("zip" : Str)) then (match args with
      | [a, b] => (match f a, f b with | some c, some d => if noStar a && noStar b then some (.zip, [c, d]) else none | _, _ => none)
      | _ => none)
    else (match f (.Call (.Name g p) args [] pos) with | some c => some (.seq, [c]) | none => none)
  | e => if noSet e then (match f e with | some c => some (.seq, [c]) | none => none) else none

noncomputable def kindIs (k : Option NameKind) (j : NameKind) : Bool := match k, j with
  | some .local, .local => true
  | some .cell, .cell => true
  | some .free, .free => true
  | _, _ => false

/-- a comprehension's block is of the plain kind -/
noncomputable def scopeFits (sc : Sc) (scope : Scope) : Bool :=
  (match scope.kind with | .function => true | _ => false) &&
  scope.names.all fun p => match p.2 with
    | .cell => false
    | .local => kindIs (scope.names.lookup p.1) .local
    | .free => kindIs (sc.lookup p.1) .cell || kindIs (sc.lookup p.1) .free
    | _ => true

noncomputable def localT (sc : Sc) : Expr → Bool
  | .Name x _ => kindIs (sc.lookup x) .local
  | .Tuple es _ _ => es.all fun e => match e with | .Name x _ => kindIs (sc.lookup x) .local | _ => false
  | _ => false

noncomputable def Tgt.has : Tgt → Nat → Bool
  | .one i, j => i == j
  | .many is, j => is.contains j
/-- the block's own names are the target's, as far as they are followed -/
noncomputable def locsIn (G : Cfg) (scope : Scope) (tg : Tgt) : Bool := scope.names.all fun p => match p.2 with
  | .local => (match slotL G.V 0 p.1 with | none => true | some i => tg.has i)
  | _ => true

noncomputable def unE : UnaryOp → CE → Option CE
  | .USub, a => some (.neg a)
  | .Not, a => some (.nott a)
  | _, _ => none
noncomputable def trCmp (f : Expr → Option CE) (a : CE) : List CmpOp → List Expr → Option CE
  | [op], [r] => (match f r with | some b => if noSet r then some (.cmp op a b) else none | none => none)
  | [o1, o2], [m, r] => (match f m, f r with | some b, some c => if noSet m && noSet r then some (.cmp2 o1 o2 a b c) else none | _, _ => none)
  | _, _ => none
noncomputable def optE (f : Expr → Option CE) : Option Expr → Option CE
  | some x => f x
  | none => some (.const .none)
noncomputable def isRevE : Expr → Bool
  | .UnaryOp .USub (.Constant (.int 1) _ _) _ => true
  | _ => false
noncomputable def trSl (f : Expr → Option CE) (a : CE) (lo hi st : Option Expr) : Option CE := match st with
  | none => (match optE f lo, optE f hi with | some l, some u => some (.slice a l u) | _, _ => none)
  | some e => if lo.isNone && hi.isNone && isRevE e then some (.rev a) else none
noncomputable def trSub (f : Expr → Option CE) (a : CE) (i : Expr) : Option CE := match i with
  | .Slice lo hi st _ => trSl f a lo hi st
  | i => (match f i with | some b => some (.idx a b) | none => none)
noncomputable def excName (G : Cfg) (sc : Sc) : Expr → Option Nat
  | .Name y _ => if isGlob sc y && okName y then G.excs.lookup y else none
  | _ => none
noncomputable def trIsi (G : Cfg) (sc : Sc) (a : CE) : Expr → Option CE
  | .Name t _ => if isGlob sc t && okName t then (match tyOf t with
      | some ty => some (.isin a ty)
      | none => (match G.excs.lookup t with | some c => some (.isexc a [c]) | none => none)) else none
  | .Tuple ts _ _ => (match ts.mapM (excName G sc) with
      | some cs => if ts.length ≤ 1000 then some (.isexc a cs) else none
      | none => none)
  | _ => none
noncomputable def trCallN (G : Cfg) (sc : Sc) (f : Expr → Option CE) (g : Str) (args : List Expr) : Option CE :=
  if isGlob sc g && okName g && args.all noStar && !args.isEmpty then
    (match slotL (G.fns.map (·.1)) 0 g with
    | some k => (match trL f args with | some cs => some (.call k cs) | none => none)
    | none => if g == ("isinstance" : Str) then (match args with
        | [x, t] => (match f x with | some a => trIsi G sc a t | none => none)
        | _ => none)
      else (match primOf g with
        | some p => (match trL f args with | some cs => some (.prim p cs) | none => none)
        | none => none)) else none
noncomputable def isZeroE : Expr → Bool
  | .Constant (.int 0) _ _ => true
  | _ => false
noncomputable def strOf : Expr → Option Str
  | .Constant (.str x) _ _ => some x
  | _ => none
noncomputable def nameOf : Expr → Option Str
  | .Name x _ => some x
  | _ => none
noncomputable def trCallA (G : Cfg) (sc : Sc) (f : Expr → Option CE) (o : Expr) (m : Str) (args : List Expr) : Option CE :=
  if m == ("pop" : Str) then (match nameOf o with
    | some x => (match varOf G sc x with
      | some i => (match args with
        | [] => some (.pop i)
        | [z] => if isZeroE z then some (.pop0 i) else none
        | _ => none)
      | none => none)
    | none => none)
  else if m == ("join" : Str) then (match strOf o, args with
    | some x, [a] => if noStar a then (match f a with | some c => some (.prim .join [.const (.str x), c]) | none => none) else none
    | _, _ => none)
  else none
noncomputable def trComp (G : Cfg) (sc : Sc) (f : Sc → Expr → Option CE) (elt : Expr) (g : Comprehension) (scope : Scope) : Option CE := match g with
  | ⟨t, it, ifs, 0⟩ => if scopeFits sc scope && localT scope.names t then
        (match trT G scope.names t, trI sc (f sc) it, f scope.names elt, trL (f scope.names) ifs with
        | some tg, some (k, its), some ce, some cs => if tgtFits k tg && locsIn G scope tg then some (.comp ce tg k its cs) else none
        | _, _, _, _ => none) else none
  | _ => none

noncomputable def trE (G : Cfg) : Nat → Sc → Expr → Option CE
  | 0, _, _ => none
  | n + 1, sc, e => match e with
    | .Constant c _ _ => (match constD c with | some d => some (.const d) | none => none)
    | .Name x _ => if isVar sc x then (match varOf G sc x with | some i => some (.var i) | none => none)
      else if isGlob sc x && okName x then (match G.consts.lookup x with | some d => some (.const d) | none => none) else none
    | .BinOp l op r _ => (match trE G n sc l, trE G n sc r with | some a, some b => some (.bin op a b) | _, _ => none)
    | .UnaryOp op x _ => (match trE G n sc x with | some a => unE op a | none => none)
    | .BoolOp op vs _ => if vs.isEmpty then none else (match trL (trE G n sc) vs with | some cs => some (.bop op cs) | none => none)
    | .Compare l ops rs _ => (match trE G n sc l with | some a => trCmp (trE G n sc) a ops rs | none => none)
    | .IfExp t a b _ => (match trE G n sc t, trE G n sc a, trE G n sc b with | some x, some y, some z => some (.ite x y z) | _, _, _ => none)
    | .Subscript v i _ => (match trE G n sc v with | some a => trSub (trE G n sc) a i | none => none)
    | .Tuple es _ _ => if es.length ≤ 1000 && es.all noStar then (match trL (trE G n sc) es with | some cs => some (.tup cs) | none => none) else none
    | .List es _ => if es.length ≤ 1000 && es.all noStar then (match trL (trE G n sc) es with | some cs => some (.lst cs) | none => none) else none
    | .Call g args kws _ => if kws.isEmpty then (match g with
      | .Name g _ => trCallN G sc (trE G n sc) g args
      | .Attribute o m _ => trCallA G sc (trE G n sc) o m args
      | _ => none) else none
    | .ListComp elt gens scope _ => (match gens with | [g] => trComp G sc (trE G n) elt g scope | _ => none)
    | _ => none

end Mine

-- M8
namespace Mine
open PySem PySem.Calls

/-! ## Owning -/
section
variable {base : Heap} {ec : ExcCls} {S S' S'' : Addr → Prop} {μ : List Addr} {σ σ' σ'' : Store} {h h' h'' : Heap}

theorem Ev.add (I : Inv base S μ σ h) (x : Ev base μ S S' σ σ' h h') {a : Addr} {o : Obj} (hn : h.get? a = none) (e : h'.get? a = some o) (p : Plainly o) : Ev base μ S (fun b => S' b ∨ b = a) σ σ' h h' where
  sub := fun b s => .inl (x.sub b s)
  new := fun b s => s.elim (x.new b) fun q => .inr (.inl (q ▸ hn))
  inv := {
    keepB := x.inv.keepB
    len := x.inv.len
    cells := fun i b f ds e1 e2 => by
      obtain ⟨vs, n, e', r, q1, q2⟩ := x.inv.cells i b f ds e1 e2
      refine ⟨vs, n, e', r.mono (fun _ _ _ q => q) fun _ => .inl, fun hf => .inl (q1 hf), fun hf s => ?_⟩
      rcases s with s | s
      · exact q2 hf s
      · subst s
        obtain ⟨_, _, q⟩ := I.mem (List.mem_of_getElem? e1)
        rw [hn] at q; cases q
    nodup := x.inv.nodup
    new := x.inv.new
    inS := fun b s => s.elim (x.inv.inS b) fun q => ⟨o, q ▸ e, p⟩ }
  keep := x.keep
  live := x.live

theorem settle_step (I : Inv base S μ σ h) (x : Ev base μ S S' σ σ' h h') {v : Value} {av : AV} (r : RdR ec h h' S' μ v av) : ∃ S'', Ev base μ S S'' σ σ' h h' ∧ RdA ec h' S'' μ v (settle av) := by
  cases r with
  | old r =>
    refine ⟨S', x, ?_⟩
    cases r with
    | dat r => exact .dat r
    | cell e => exact .cell e
    | exc s e q => exact .exc s e q
  | @fresh a vs n ds e r hs hn =>
    exact ⟨_, x.add I hn e (lst_plain _ _), .dat (.list (.inr rfl) e (r.mono (fun _ _ _ q => q) fun _ => .inl))⟩

theorem rd_settle (σ : Store) (av : AV) : rd σ (settle av) = rd σ av := by cases av <;> rfl

theorem set_get (σ : Store) (i j : Nat) (p : Flag × List PyData) : (σ.set i p)[j]? = if i = j then (if j < σ.length then some p else none) else σ[j]? := by
  rw [List.getElem?_set]
  split
  · rename_i q; subst q; rfl
  · rfl
theorem set_at {σ : Store} {i : Nat} {q p : Flag × List PyData} (e : σ[i]? = some q) : (σ.set i p)[i]? = some p := by
  have : i < σ.length := (List.getElem?_eq_some_iff.mp e).1
  simp [this]
theorem set_ne {σ : Store} {i j : Nat} {p : Flag × List PyData} (h : i ≠ j) : (σ.set i p)[j]? = σ[j]? := by rw [List.getElem?_set, if_neg h]

theorem own_step (x : Ev base μ S S' σ σ' h h') {v : Value} {av : AV} {d : PyData} (hf : ∀ ds, av ≠ .fresh ds) (r : RdA ec h' S' μ v av) (e : own σ' av = some (d, σ'')) : ∃ S'', Ev base μ S S'' σ σ'' h h' ∧ Rd h' S'' v d ∧ ∀ a, S' a → S'' a := by
  cases r with
  | dat r => cases e; exact ⟨S', x, r, fun _ q => q⟩
  | exc _ _ _ => cases e
  | @cell i a hi =>
    simp only [own] at e
    obtain ⟨f, ds, q⟩ := x.inv.cellS hi
    rw [q] at e
    cases f with
    | locked => cases e
    | frozen =>
      cases e
      obtain ⟨vs, n, e1, e2, e3, _⟩ := x.inv.cells i a _ ds hi q
      exact ⟨S', x, .list (e3 rfl) e1 e2, fun _ q => q⟩
    | live =>
      cases e
      obtain ⟨vs, n, e1, e2, _, e3⟩ := x.inv.cells i a _ ds hi q
      refine ⟨fun b => S' b ∨ b = a, ?_, .list (.inr rfl) e1 (e2.mono (fun _ _ _ q => q) fun _ => .inl), fun _ => .inl⟩
      exact {
        sub := fun b s => .inl (x.sub b s)
        new := fun b s => s.elim (x.new b) fun w => .inr (.inr (x.live b ⟨i, ds, w ▸ hi, q⟩))
        inv := {
          keepB := x.inv.keepB
          len := by rw [List.length_set]; exact x.inv.len
          cells := fun j b f' es h1 h2 => by
            by_cases w : i = j
            · subst w
              rw [set_at q] at h2; cases h2
              rw [hi] at h1; cases h1
              exact ⟨vs, n, e1, e2.mono (fun _ _ _ q => q) fun _ => .inl, fun _ => .inr rfl, fun w => absurd rfl w⟩
            · rw [set_ne w] at h2
              obtain ⟨us, m, k1, k2, k3, k4⟩ := x.inv.cells j b f' es h1 h2
              refine ⟨us, m, k1, k2.mono (fun _ _ _ q => q) fun _ => .inl, fun z => .inl (k3 z), fun z s => s.elim (k4 z) fun y => ?_⟩
              subst y
              exact w (x.inv.nodup i j _ hi h1)
          nodup := x.inv.nodup
          new := x.inv.new
          inS := fun b s => s.elim (x.inv.inS b) fun w => ⟨_, w ▸ e1, lst_plain _ _⟩ }
        keep := x.keep
        live := fun b l => by
          obtain ⟨j, es, h1, h2⟩ := l
          by_cases w : i = j
          · subst w; rw [set_at q] at h2; cases h2
          · rw [set_ne w] at h2; exact x.live b ⟨j, es, h1, h2⟩ }
theorem settle_notFresh (av : AV) : ∀ ds, settle av ≠ .fresh ds := by cases av <;> (intro ds q; cases q)

theorem Rd.sub {v : Value} {d : PyData} (r : Rd h S v d) (hs : ∀ a, S a → S' a) : Rd h S' v d := r.mono (fun _ _ _ q => q) hs
theorem RdL.sub {v : List Value} {d : List PyData} (r : RdL h S v d) (hs : ∀ a, S a → S' a) : RdL h S' v d := r.mono (fun _ _ _ q => q) hs
theorem RdA.sub {v : Value} {d : AV} (r : RdA ec h S μ v d) (hs : ∀ a, S a → S' a) : RdA ec h S' μ v d := r.mono (fun _ _ _ q => q) hs fun _ _ q => q

theorem RdAs.sub {vs : List Value} {ds : List AV} (r : RdAs ec h S μ vs ds) (hs : ∀ a, S a → S' a) : RdAs ec h S' μ vs ds := by
  induction vs generalizing ds with
  | nil => cases r; exact .nil
  | cons v vs ih => cases r with | cons a r => exact .cons (a.sub hs) (ih r)
theorem ownAll_step (x : Ev base μ S S' σ σ' h h') {vs : List Value} {avs : List AV} {ds : List PyData} (hf : ∀ av ∈ avs, ∀ ds, av ≠ .fresh ds) (r : RdAs ec h' S' μ vs avs) (e : ownAll avs σ' = some (ds, σ'')) : ∃ S'', Ev base μ S S'' σ σ'' h h' ∧ RdL h' S'' vs ds ∧ ∀ a, S' a → S'' a := by
  induction avs generalizing vs ds σ' S' with
  | nil => cases r; cases e; exact ⟨S', x, .nil, fun _ q => q⟩
  | cons av avs ih =>
    cases r with
    | cons ra r =>
      simp only [ownAll] at e
      cases q : own σ' av with
      | none => rw [q] at e; cases e
      | some p =>
        obtain ⟨d, σ₁⟩ := p
        rw [q] at e
        dsimp only at e
        cases q2 : ownAll avs σ₁ with
        | none => rw [q2] at e; cases e
        | some p2 =>
          obtain ⟨ds', σ₂⟩ := p2
          rw [q2] at e
          cases e
          obtain ⟨S₁, x₁, rd₁, sub₁⟩ := own_step x (hf av (.head _)) ra q
          obtain ⟨S₂, x₂, rd₂, sub₂⟩ := ih x₁ (fun b hb => hf b (.tail _ hb)) (r.sub sub₁) q2
          exact ⟨S₂, x₂, .cons (rd₁.sub sub₂) rd₂, fun a s => sub₂ a (sub₁ a s)⟩
theorem RdR.back {v : Value} {av : AV} (x : Ev base μ S S' σ σ' h h') (r : RdR ec h' h'' S'' μ v av) : RdR ec h h'' S'' μ v av := by
  cases r with
  | old r => exact .old r
  | fresh e r s n => exact .fresh e r s (x.gone n)
end

/-! ## What is to be shown of an expression -/

structure AOk (n : Nat) (A : Around) : Prop where
  hd : A.handled = none
  dp : A.depth + n < recursionLimit
  un : A.units + 8 * n + 400 < cLine

noncomputable def ScOk (env : Env) (sc : Sc) : Prop := ∀ x, env.scope.names.lookup x = sc.lookup x ∨ (sc.lookup x = some .free ∧ env.scope.names.lookup x = some .cell)
theorem ScOk.var {env : Env} {sc : Sc} (h : ScOk env sc) (x : Str) : isVar env.scope.names x = isVar sc x := by
  unfold isVar
  rcases h x with q | ⟨q1, q2⟩
  · rw [q]
  · rw [q1, q2]
theorem ScOk.gl {env : Env} {sc : Sc} (h : ScOk env sc) (x : Str) : isGlob env.scope.names x = isGlob sc x := by
  unfold isGlob
  rcases h x with q | ⟨q1, q2⟩
  · rw [q]
  · rw [q1, q2]

noncomputable def Post (ec : ExcCls) (base : Heap) (μ : List Addr) (S : Addr → Prop) (σ σ' : Store) (s : Shared) (av : AV) (Q : Value → Shared → Prop) : Prop :=
  ∀ v h' tk S', Ev base μ S S' σ σ' s.heap h' → RdR ec s.heap h' S' μ v av → Q v { s with heap := h', toks := tk }

theorem post_prim {ec : ExcCls} {base : Heap} {μ : List Addr} {S S₂ : Addr → Prop} {σ σ₂ : Store} {s : Shared} {h₂ : Heap} {tk : Nat} {av : AV} {Q : Value → Shared → Prop} (x : Ev base μ S S₂ σ σ₂ s.heap h₂) (P : Post ec base μ S σ σ₂ s av Q) :
    PPost ec { s with heap := h₂, toks := tk } S₂ μ av Q := fun v h' tk' S' st r => P v h' tk' S' (x.trans (st.ev x.inv)) (r.back x)

/-- the text's own defs, and the names of the built-ins -/
noncomputable def bltL : List (Str × Value) := [("len", .builtin "len"), ("all", .builtin "all"), ("any", .builtin "any"), ("sum", .builtin "sum"), ("tuple", .type "tuple"), ("list", .type "list"), ("int", .type "int"), ("max", .builtin "max"),
  ("isinstance", .builtin "isinstance"), ("bool", .type "bool"), ("str", .type "str"), ("range", .type "range"), ("zip", .type "zip")]

structure Wd (base : Heap) (ec : ExcCls) (G : Cfg) : Prop where
  fn : ∀ (k : Nat) f a, G.fns[k]? = some (f, a) → Glb base f (.ref a) ∧ ∃ o fd, base.get? a = some o ∧ o.data = .func fd
  blt : ∀ f v, (f, v) ∈ bltL → Glb base f v
  cst : ∀ x d, G.consts.lookup x = some d → ∃ v, Glb base x v ∧ ∀ h S, Rd h S v d
  exc : ∀ x c, G.excs.lookup x = some c → Glb base x (.ref (ec c))

noncomputable def FnOk (prog : Program) (w : World) (base : Heap) (ec : ExcCls) (n : Nat) (a : Addr) (g : List AV → Store → Option (CR × Store)) : Prop :=
  ∀ (A : Around) (S : Addr → Prop) (μ : List Addr) (σ σ' : Store) (s : Shared) (vals : List Value) (args : List AV) (r : AV) (Q : Value → Shared → Prop) (E : Value → Shared → Prop),
    AOk n A → Inv base S μ σ s.heap → RdAs ec s.heap S μ vals args → g args σ = some (.ret r, σ') → Post ec base μ S σ σ' s r Q → wpAny (model prog w) A (call (.ref a) vals) Q E s

noncomputable def PhiOk (prog : Program) (w : World) (base : Heap) (ec : ExcCls) (G : Cfg) (n : Nat) (Φ : Phi) : Prop := ∀ (k : Nat) f a, G.fns[k]? = some (f, a) → FnOk prog w base ec n a (Φ k)

section
variable (prog : Program) (w : World) (base : Heap) (ec : ExcCls) (G : Cfg) (n : Nat) (Φ : Phi)

noncomputable def SE (sc : Sc) (e : Expr) (c : CE) : Prop :=
  ∀ (A : Around) (env : Env) (ρ : Rho) (σ σ' : Store) (av : AV) (S : Addr → Prop) (μ : List Addr) (s : Shared) (Q : Value → Shared → Prop) (E : Value → Shared → Prop),
    AOk n A → ScOk env sc → Inv base S μ σ s.heap → FrOk base ec G.V S μ env ρ s.heap → evE Φ c ρ σ = some (av, σ') → Post ec base μ S σ σ' s av Q → wpAny (model prog w) A (eval e env) Q E s

noncomputable def ST (sc : Sc) (e : Expr) (c : CE) : Prop :=
  ∀ (A : Around) (env : Env) (ρ : Rho) (σ σ' : Store) (av : AV) (b : Bool) (S : Addr → Prop) (μ : List Addr) (s : Shared) (Q : Bool → Shared → Prop) (E : Value → Shared → Prop),
    AOk n A → ScOk env sc → Inv base S μ σ s.heap → FrOk base ec G.V S μ env ρ s.heap → evE Φ c ρ σ = some (av, σ') → boolA av = some b →
    (∀ h' tk S', Ev base μ S S' σ σ' s.heap h' → Q b { s with heap := h', toks := tk }) → wpAny (model prog w) A (isTrue e env (eval e env)) Q E s

inductive SEs (sc : Sc) : List Expr → List CE → Prop
  | nil : SEs sc [] []
  | cons {e : Expr} {es : List Expr} {c : CE} {cs : List CE} : noStar e = true → SE prog w base ec G n Φ sc e c → SEs sc es cs → SEs sc (e :: es) (c :: cs)
end

section
variable {prog : Program} {w : World} {base : Heap} {ec : ExcCls} {G : Cfg} {n : Nat} {Φ : Phi} {sc : Sc} {A : Around} {env : Env} {ρ : Rho} {σ σ' σ₁ σ₂ : Store} {S : Addr → Prop} {μ : List Addr} {s : Shared} {E : Value → Shared → Prop}

theorem seq1 {e : Expr} {c : CE} {x : AV} {R : Value → Shared → Prop} (H : SE prog w base ec G n Φ sc e c) (hA : AOk n A) (hs : ScOk env sc) (I : Inv base S μ σ s.heap) (F : FrOk base ec G.V S μ env ρ s.heap) (q : evE Φ c ρ σ = some (x, σ₁))
    (h : ∀ v h' tk S', Ev base μ S S' σ σ₁ s.heap h' → RdA ec h' S' μ v (settle x) → FrOk base ec G.V S' μ env ρ h' → R v { s with heap := h', toks := tk }) : wpAny (model prog w) A (eval e env) R E s :=
  H A env ρ σ σ₁ x S μ s R E hA hs I F q fun v h' tk S' x r => by
    obtain ⟨S'', x', r'⟩ := settle_step I x r
    exact h v h' tk S'' x' r' (F.ev I x')

theorem seq2 {e₁ e₂ : Expr} {c₁ c₂ : CE} {x y : AV} {R : Value → Value → Shared → Prop} (H₁ : SE prog w base ec G n Φ sc e₁ c₁) (H₂ : SE prog w base ec G n Φ sc e₂ c₂) (hA : AOk n A) (hs : ScOk env sc) (I : Inv base S μ σ s.heap) (F : FrOk base ec G.V S μ env ρ s.heap)
    (q₁ : evE Φ c₁ ρ σ = some (x, σ₁)) (q₂ : evE Φ c₂ ρ σ₁ = some (y, σ₂))
    (h : ∀ v u h' tk S', Ev base μ S S' σ σ₂ s.heap h' → RdA ec h' S' μ v (settle x) → RdA ec h' S' μ u (settle y) → FrOk base ec G.V S' μ env ρ h' → R v u { s with heap := h', toks := tk }) :
    wpAny (model prog w) A (eval e₁ env) (fun v s₁ => wpAny (model prog w) A (eval e₂ env) (R v) E s₁) E s :=
  seq1 H₁ hA hs I F q₁ fun v h₁ tk₁ S₁ x₁ r₁ F₁ =>
    seq1 (s := { s with heap := h₁, toks := tk₁ }) H₂ hA hs x₁.inv F₁ q₂ fun u h₂ tk₂ S₂ x₂ r₂ F₂ => h v u h₂ tk₂ S₂ (x₁.trans x₂) (r₁.ev x₁.inv x₂) r₂ F₂

theorem rtOf {v : Value} {av : AV} {d : PyData} {h : Heap} (I : Inv base S μ σ h) (r : RdA ec h S μ v (settle av)) (e : rd σ av = some d) : Rt h S v d := r.rt I (by rw [rd_settle]; exact e)

theorem inSome {h : Heap} (I : Inv base S μ σ h) : ∀ a, S a → ∃ o, h.get? a = some o := fun a s => let ⟨o, e, _⟩ := I.inS a s; ⟨o, e⟩

theorem se_const {d : PyData} {cc : Const} {k : Nat} {pos : Pos} (hc : constD cc = some d) : SE prog w base ec G n Φ sc (.Constant cc k pos) (.const d) := by
  intro A env ρ σ σ' av S μ s Q E hA hs I F q P
  simp only [evE] at q
  cases q
  have fin : ∀ v tk, Rd s.heap S v d → Q v { s with toks := tk } := fun v tk r => P v s.heap tk S (.refl I) (.old (.dat r))
  cases cc <;> first | (cases hc; done) | skip
  · cases hc; exact wpAny_Constant_none (fin _ s.toks .none)
  · cases hc; exact wpAny_Constant_bool (fin _ s.toks (.bool _))
  · cases hc; exact wpAny_Constant_int (fin _ _ (.int _ _))
  · cases hc; exact PySem.wpAny_Constant_str (fin _ _ (.str _ _))

theorem se_var {x : Str} {pos : Pos} {i : Nat} (hx : varOf G sc x = some i) : SE prog w base ec G n Φ sc (.Name x pos) (.var i) := by
  intro A env ρ σ σ' av S μ s Q E hA hs I F q P
  unfold varOf at hx
  split at hx
  · rename_i hv
    rw [Bool.and_eq_true] at hv
    simp only [evE] at q
    cases hi : ρ i with
    | none => rw [hi] at q; cases q
    | some v =>
      rw [hi] at q
      cases q
      exact eval_var F ((hs.var x).trans hv.1) hv.2 hx hi fun v r => P v s.heap s.toks S (.refl I) (.old r)
  · cases hx

theorem se_cst (W : Wd base ec G) {x : Str} {pos : Pos} {d : PyData} (hg : isGlob sc x = true) (ho : okName x = true) (hx : G.consts.lookup x = some d) : SE prog w base ec G n Φ sc (.Name x pos) (.const d) := by
  intro A env ρ σ σ' av S μ s Q E hA hs I F q P
  simp only [evE] at q
  cases q
  obtain ⟨v, g, r⟩ := W.cst x d hx
  exact eval_glob F I.keepB ((hs.gl x).trans hg) ho g (P v s.heap s.toks S (.refl I) (.old (.dat (r _ _))))

theorem se_bin {l r : Expr} {op : Operator} {pos : Pos} {a b : CE} (H₁ : SE prog w base ec G n Φ sc l a) (H₂ : SE prog w base ec G n Φ sc r b) : SE prog w base ec G n Φ sc (.BinOp l op r pos) (.bin op a b) := by
  intro A env ρ σ σ' av S μ s Q E hA hs I F q P
  simp only [evE] at q
  split at q
  · cases q
  · rename_i x σ₁ q₁
    split at q
    · cases q
    · rename_i y σ₂ q₂
      split at q
      · rename_i dx dy e₁ e₂
        split at q
        · rename_i rr e₃
          cases q
          refine wpAny_BinOp (seq2 H₁ H₂ hA hs I F q₁ q₂ fun v u h' tk S' x r₁ r₂ F' => ?_)
          exact bin_ok (inSome x.inv) e₃ (rtOf x.inv r₁ e₁) (rtOf x.inv r₂ e₂) (post_prim x P)
        · cases q
      · cases q

theorem se_neg {e : Expr} {pos : Pos} {a : CE} (H : SE prog w base ec G n Φ sc e a) : SE prog w base ec G n Φ sc (.UnaryOp .USub e pos) (.neg a) := by
  intro A env ρ σ σ' av S μ s Q E hA hs I F q P
  simp only [evE] at q
  split at q
  · rename_i i σ₁ q₁
    cases q
    refine wpAny_UnaryOp (seq1 H hA hs I F q₁ fun v h' tk S' x r F' => ?_)
    obtain ⟨t, rfl⟩ := (rtOf (d := .int i) x.inv r rfl).intD
    exact PySem.P.neg_int ((post_prim x P).dat (.int _ _) _)
  · cases q
end
end Mine

-- M9
namespace Mine
open PySem PySem.Calls PyProof.Rows

section
variable {prog : Program} {w : World} {base : Heap} {ec : ExcCls} {G : Cfg} {n : Nat} {Φ : Phi} {sc : Sc}

theorem boolA_eq {av : AV} {b : Bool} (h : boolA av = some b) : av = .dat (.bool b) := by
  unfold boolA at h
  split at h
  · cases h; rfl
  · cases h
theorem st_of_se {e : Expr} {c : CE} (he : ∀ env whole, isTrue e env whole = (do let v ← whole; standAt e.pos; holding [v] (truthy v))) (H : SE prog w base ec G n Φ sc e c) : ST prog w base ec G n Φ sc e c := by
  intro A env ρ σ σ' av b S μ s Q E hA hs I F q hb P
  obtain rfl := boolA_eq hb
  refine wpAny_isTrue_value (H A env ρ σ σ' _ S μ s _ E hA hs I F q fun v h' tk S' x r => ?_) (he env _)
  cases r with
  | old r => cases r with
    | dat r => cases r; exact wpAny_truthy_bool (P h' tk S' x)

theorem se_not {e : Expr} {pos : Pos} {a : CE} (H : SE prog w base ec G n Φ sc e a) : SE prog w base ec G n Φ sc (.UnaryOp .Not e pos) (.nott a) := by
  intro A env ρ σ σ' av S μ s Q E hA hs I F q P
  simp only [evE] at q
  split at q
  · rename_i v σ₁ q₁
    split at q
    · rename_i b hb
      cases q
      obtain rfl := boolA_eq hb
      refine wpAny_UnaryOp (seq1 H hA hs I F q₁ fun v h' tk S' x r F' => ?_)
      obtain rfl := (rtOf (d := .bool b) x.inv r rfl).boolD
      exact not_value (wpAny_truthy_bool (P _ h' tk S' x (.old (.dat (.bool _)))))
    · cases q
  · cases q
theorem st_not {e : Expr} {pos : Pos} {a : CE} (H : ST prog w base ec G n Φ sc e a) : ST prog w base ec G n Φ sc (.UnaryOp .Not e pos) (.nott a) := by
  intro A env ρ σ σ' av b S μ s Q E hA hs I F q hb P
  simp only [evE] at q
  split at q
  · rename_i v σ₁ q₁
    split at q
    · rename_i c hc
      cases q
      cases hb
      exact wpAny_isTrue_Not (H A env ρ σ _ v c S μ s _ E hA hs I F q₁ hc P)
    · cases q
  · cases q

noncomputable def SB (prog : Program) (w : World) (base : Heap) (ec : ExcCls) (G : Cfg) (n : Nat) (Φ : Phi) (sc : Sc) (e : Expr) (c : CE) : Prop := SE prog w base ec G n Φ sc e c ∧ ST prog w base ec G n Φ sc e c
inductive SBs (prog : Program) (w : World) (base : Heap) (ec : ExcCls) (G : Cfg) (n : Nat) (Φ : Phi) (sc : Sc) : List Expr → List CE → Prop
  | nil : SBs prog w base ec G n Φ sc [] []
  | cons {e : Expr} {es : List Expr} {c : CE} {cs : List CE} : SB prog w base ec G n Φ sc e c → SBs prog w base ec G n Φ sc es cs → SBs prog w base ec G n Φ sc (e :: es) (c :: cs)

theorem bop_ok {op : BoolOp} {pos : Pos} : ∀ {es : List Expr} {cs : List CE} (A : Around) (env : Env) (ρ : Rho) (σ σ' : Store) (b : Bool) (S : Addr → Prop) (μ : List Addr) (s : Shared) (Q : Value → Shared → Prop) (E : Value → Shared → Prop),
    SBs prog w base ec G n Φ sc es cs → es ≠ [] → AOk n A → ScOk env sc → Inv base S μ σ s.heap → FrOk base ec G.V S μ env ρ s.heap → evB Φ op cs ρ σ = some (b, σ') → Post ec base μ S σ σ' s (.dat (.bool b)) Q →
    wpAny (model prog w) A (boolOp pos op (evalEach es env)) Q E s := by
  intro es
  induction es with
  | nil => intros; contradiction
  | cons e es ih =>
    intro cs A env ρ σ σ' b S μ s Q E hS _ hA hs I F q P
    cases hS with
    | @cons _ _ c cs' H hS =>
    simp only [evB] at q
    split at q
    · cases q
    · rename_i v σ₁ q₁
      split at q
      · cases q
      · rename_i b₁ hb
        obtain rfl := boolA_eq hb
        cases es with
        | nil =>
          cases hS
          show wpAny _ A (eval e env) Q E s
          have : b = b₁ ∧ σ' = σ₁ := by
            split at q
            · rename_i w; simp only [evB] at q; cases q; exact ⟨(beq_iff_eq.mp w).symm, rfl⟩
            · cases q; exact ⟨rfl, rfl⟩
          obtain ⟨rfl, rfl⟩ := this
          exact H.1 A env ρ σ _ _ S μ s Q E hA hs I F q₁ P
        | cons e₂ es₂ =>
          show wpAny _ A (do
            let v ← eval e env
            standAt pos
            let t ← holding [v] (truthy v)
            match op, t with
            | .And, false | .Or, true => pure v
            | _, _ => boolOp pos op (evalEach (e₂ :: es₂) env)) Q E s
          refine wpAny_bind (seq1 H.1 hA hs I F q₁ fun v h' tk S' x r F' => ?_)
          obtain rfl := (rtOf (d := .bool b₁) x.inv r rfl).boolD
          refine wpAny_bind (wpAny_standAt (wpAny_bind (wpAny_holding (wpAny_truthy_bool ?_))))
          have stop : (b₁ == (op == BoolOp.And)) = false → wpAny (model prog w) A (pure (Value.bool b₁)) Q E { s with heap := h', toks := tk } := fun w => by
            rw [if_neg (by rw [w]; exact Bool.false_ne_true)] at q
            cases q
            exact wpAny_pure (P _ h' tk S' x (.old (.dat (.bool _))))
          have goOn : (b₁ == (op == BoolOp.And)) = true → wpAny (model prog w) A (boolOp pos op (evalEach (e₂ :: es₂) env)) Q E { s with heap := h', toks := tk } := fun w => by
            rw [if_pos w] at q
            exact ih A env ρ σ₁ σ' b S' μ { s with heap := h', toks := tk } Q E hS (by simp) hA hs x.inv F' q fun v h'' tk' S'' x' r' => P v h'' tk' S'' (x.trans x') (r'.back x)
          cases op <;> cases b₁
          · exact stop rfl
          · exact goOn rfl
          · exact goOn rfl
          · exact stop rfl

theorem se_bop {op : BoolOp} {es : List Expr} {cs : List CE} {pos : Pos} (hne : es ≠ []) (hS : SBs prog w base ec G n Φ sc es cs) : SE prog w base ec G n Φ sc (.BoolOp op es pos) (.bop op cs) := by
  intro A env ρ σ σ' av S μ s Q E hA hs I F q P
  simp only [evE] at q
  split at q
  · rename_i b σ₁ q₁
    cases q
    show wpAny _ A (boolOp pos op (evalEach es env)) Q E s
    exact bop_ok A env ρ σ _ b S μ s Q E hS hne hA hs I F q₁ P
  · cases q

/-- the tests of a comprehension, the parts of a bool operation that is asked -/
theorem allTrue_ok {op : BoolOp} : ∀ {es : List Expr} {cs : List CE} (A : Around) (env : Env) (ρ : Rho) (σ σ' : Store) (b : Bool) (S : Addr → Prop) (μ : List Addr) (s : Shared) (Q : Bool → Shared → Prop) (E : Value → Shared → Prop),
    SBs prog w base ec G n Φ sc es cs → AOk n A → ScOk env sc → Inv base S μ σ s.heap → FrOk base ec G.V S μ env ρ s.heap → evB Φ op cs ρ σ = some (b, σ') → (∀ h' tk S', Ev base μ S S' σ σ' s.heap h' → Q b { s with heap := h', toks := tk }) →
    wpAny (model prog w) A (allTrue op es env) Q E s := by
  intro es
  induction es with
  | nil =>
    intro cs A env ρ σ σ' b S μ s Q E hS hA hs I F q P
    cases hS
    simp only [evB] at q
    cases q
    have := P s.heap s.toks S (.refl I)
    exact wpAny_pure this
  | cons e es ih =>
    intro cs A env ρ σ σ' b S μ s Q E hS hA hs I F q P
    cases hS with
    | @cons _ _ c cs' H hS =>
    simp only [evB] at q
    split at q
    · cases q
    · rename_i v σ₁ q₁
      split at q
      · cases q
      · rename_i b₁ hb
        show wpAny _ A (do match op, ← isTrue e env (eval e env) with | .And, false => pure false | .Or, true => pure true | _, _ => allTrue op es env) Q E s
        refine wpAny_bind (H.2 A env ρ σ σ₁ v b₁ S μ s _ E hA hs I F q₁ hb fun h' tk S' x => ?_)
        have stop : (b₁ == (op == BoolOp.And)) = false → Q b₁ { s with heap := h', toks := tk } := fun w => by
          rw [if_neg (by rw [w]; exact Bool.false_ne_true)] at q
          cases q
          exact P h' tk S' x
        have goOn : (b₁ == (op == BoolOp.And)) = true → wpAny (model prog w) A (allTrue op es env) Q E { s with heap := h', toks := tk } := fun w => by
          rw [if_pos w] at q
          exact ih A env ρ σ₁ σ' b S' μ { s with heap := h', toks := tk } Q E hS hA hs x.inv (F.ev I x) q fun h'' tk' S'' x' => P h'' tk' S'' (x.trans x')
        cases op <;> cases b₁
        · exact wpAny_pure (stop rfl)
        · exact goOn rfl
        · exact goOn rfl
        · exact wpAny_pure (stop rfl)
theorem st_bop {op : BoolOp} {es : List Expr} {cs : List CE} {pos : Pos} (hS : SBs prog w base ec G n Φ sc es cs) : ST prog w base ec G n Φ sc (.BoolOp op es pos) (.bop op cs) := by
  intro A env ρ σ σ' av b S μ s Q E hA hs I F q hb P
  simp only [evE] at q
  split at q
  · rename_i b' σ₁ q₁
    cases q
    cases hb
    exact wpAny_isTrue_BoolOp (allTrue_ok A env ρ σ _ _ S μ s Q E hS hA hs I F q₁ P)
  · cases q

theorem noSet_marks {op : CmpOp} {e : Expr} (h : noSet e = true) : behindInMarks op e = false := by
  cases e <;> first | rfl | cases h

/-- one comparison, read off -/
theorem cmp_evs {op : CmpOp} {a b : CE} {ρ : Rho} {σ σ' : Store} {av : AV} (q : evE Φ (.cmp op a b) ρ σ = some (av, σ')) :
    ∃ x σ₁ y dx dy r, evE Φ a ρ σ = some (x, σ₁) ∧ evE Φ b ρ σ₁ = some (y, σ') ∧ rd σ' x = some dx ∧ rd σ' y = some dy ∧ cmpD op dx dy = some r ∧ av = .dat (.bool r) := by
  simp only [evE] at q
  split at q
  · cases q
  · rename_i x σ₁ q₁
    split at q
    · cases q
    · rename_i y σ₂ q₂
      split at q
      · rename_i dx dy e₁ e₂
        split at q
        · rename_i rr e₃
          cases q
          exact ⟨x, σ₁, y, dx, dy, rr, q₁, q₂, e₁, e₂, e₃, rfl⟩
        · cases q
      · cases q
theorem AOk.un2 {A : Around} (h : AOk n A) : A.units + 200 < cLine := by have := h.un; omega

theorem se_cmp {l r : Expr} {op : CmpOp} {pos : Pos} {a b : CE} (hn : noSet r = true) (H₁ : SE prog w base ec G n Φ sc l a) (H₂ : SE prog w base ec G n Φ sc r b) : SE prog w base ec G n Φ sc (.Compare l [op] [r] pos) (.cmp op a b) := by
  intro A env ρ σ σ' av S μ s Q E hA hs I F q P
  obtain ⟨x, σ₁, y, dx, dy, rr, q₁, q₂, e₁, e₂, e₃, rfl⟩ := cmp_evs q
  refine wpAny_Compare1 (seq2 H₁ H₂ hA hs I F q₁ q₂ fun v u h' tk S' x r₁ r₂ F' => ?_) (noSet_marks hn)
  exact cmp_ok hA.un2 e₃ (rtOf x.inv r₁ e₁) (rtOf x.inv r₂ e₂) fun tk' => P _ h' tk' S' x (.old (.dat (.bool _)))
theorem st_cmp {l r : Expr} {op : CmpOp} {pos : Pos} {a b : CE} (hn : noSet r = true) (H₁ : SE prog w base ec G n Φ sc l a) (H₂ : SE prog w base ec G n Φ sc r b) : ST prog w base ec G n Φ sc (.Compare l [op] [r] pos) (.cmp op a b) := by
  intro A env ρ σ σ' av bb S μ s Q E hA hs I F q hb P
  obtain ⟨x, σ₁, y, dx, dy, rr, q₁, q₂, e₁, e₂, e₃, rfl⟩ := cmp_evs q
  cases hb
  refine wpAny_isTrue_Compare1 (seq2 H₁ H₂ hA hs I F q₁ q₂ fun v u h' tk S' x r₁ r₂ F' => ?_) (noSet_marks hn)
  exact cmp_ok hA.un2 e₃ (rtOf x.inv r₁ e₁) (rtOf x.inv r₂ e₂) fun tk' => wpAny_truthy_bool (P h' tk' S' x)
end
end Mine

-- M10
namespace Mine
open PySem PySem.Calls PyProof.Rows

section
variable {prog : Program} {w : World} {base : Heap} {ec : ExcCls} {G : Cfg} {n : Nat} {Φ : Phi} {sc : Sc}

theorem cmp2_evs {o1 o2 : CmpOp} {a b c : CE} {ρ : Rho} {σ σ' : Store} {av : AV} (q : evE Φ (.cmp2 o1 o2 a b c) ρ σ = some (av, σ')) :
    ∃ x σ₁ y σ₂ dx dy, evE Φ a ρ σ = some (x, σ₁) ∧ evE Φ b ρ σ₁ = some (y, σ₂) ∧ rd σ₂ x = some dx ∧ rd σ₂ y = some dy ∧
      ((cmpD o1 dx dy = some false ∧ av = .dat (.bool false) ∧ σ' = σ₂) ∨ (cmpD o1 dx dy = some true ∧ ∃ z dy' dz r, evE Φ c ρ σ₂ = some (z, σ') ∧ rd σ' y = some dy' ∧ rd σ' z = some dz ∧ cmpD o2 dy' dz = some r ∧ av = .dat (.bool r))) := by
  simp only [evE] at q
  split at q
  · cases q
  · rename_i x σ₁ q₁
    split at q
    · cases q
    · rename_i y σ₂ q₂
      split at q
      · rename_i dx dy e₁ e₂
        refine ⟨x, σ₁, y, σ₂, dx, dy, q₁, q₂, e₁, e₂, ?_⟩
        split at q
        · rename_i e₃; cases q; exact .inl ⟨e₃, rfl, rfl⟩
        · rename_i e₃
          split at q
          · cases q
          · rename_i z σ₃ q₃
            split at q
            · rename_i dy' dz e₄ e₅
              split at q
              · rename_i r e₆
                cases q
                exact .inr ⟨e₃, z, dy', dz, r, q₃, e₄, e₅, e₆, rfl⟩
              · cases q
            · cases q
        · cases q
      · cases q

theorem last_marks {o1 o2 : CmpOp} {m r : Expr} (h : noSet r = true) : lastMarks [o1, o2] [m, r] = false := noSet_marks h

theorem se_cmp2 {l m r : Expr} {o1 o2 : CmpOp} {pos : Pos} {a b c : CE} (hn : noSet r = true) (H₁ : SE prog w base ec G n Φ sc l a) (H₂ : SE prog w base ec G n Φ sc m b) (H₃ : SE prog w base ec G n Φ sc r c) : SE prog w base ec G n Φ sc (.Compare l [o1, o2] [m, r] pos) (.cmp2 o1 o2 a b c) := by
  intro A env ρ σ σ' av S μ s Q E hA hs I F q P
  obtain ⟨x, σ₁, y, σ₂, dx, dy, q₁, q₂, e₁, e₂, h⟩ := cmp2_evs q
  refine Compare_chain (seq1 H₁ hA hs I F q₁ fun v h₁ tk₁ S₁ x₁ r₁ F₁ => ?_) (last_marks hn)
  refine chain_link (seq1 (s := { s with heap := h₁, toks := tk₁ }) H₂ hA hs x₁.inv F₁ q₂ fun u h₂ tk₂ S₂ x₂ r₂ F₂ => ?_)
  have r₁' := r₁.ev x₁.inv x₂
  rcases h with ⟨e₃, rfl, rfl⟩ | ⟨e₃, z, dy', dz, rr, q₃, e₄, e₅, e₆, rfl⟩
  · refine cmp_ok hA.un2 e₃ (rtOf x₂.inv r₁' e₁) (rtOf x₂.inv r₂ e₂) fun tk' => wpAny_truthy_bool ?_
    exact P _ h₂ tk' S₂ (x₁.trans x₂) (.old (.dat (.bool _)))
  · refine cmp_ok hA.un2 e₃ (rtOf x₂.inv r₁' e₁) (rtOf x₂.inv r₂ e₂) fun tk' => wpAny_truthy_bool ?_
    rw [if_pos rfl]
    refine chain_last (seq1 (s := { s with heap := h₂, toks := tk' }) H₃ hA hs x₂.inv F₂ q₃ fun t h₃ tk₃ S₃ x₃ r₃ F₃ => ?_)
    exact cmp_ok hA.un2 e₆ (rtOf x₃.inv (r₂.ev x₂.inv x₃) e₄) (rtOf x₃.inv r₃ e₅) fun tk'' => P _ h₃ tk'' S₃ ((x₁.trans x₂).trans x₃) (.old (.dat (.bool _)))
theorem st_cmp2 {l m r : Expr} {o1 o2 : CmpOp} {pos : Pos} {a b c : CE} (hn : noSet r = true) (H₁ : SE prog w base ec G n Φ sc l a) (H₂ : SE prog w base ec G n Φ sc m b) (H₃ : SE prog w base ec G n Φ sc r c) : ST prog w base ec G n Φ sc (.Compare l [o1, o2] [m, r] pos) (.cmp2 o1 o2 a b c) := by
  intro A env ρ σ σ' av bb S μ s Q E hA hs I F q hb P
  obtain ⟨x, σ₁, y, σ₂, dx, dy, q₁, q₂, e₁, e₂, h⟩ := cmp2_evs q
  refine isTrue_chain (seq1 H₁ hA hs I F q₁ fun v h₁ tk₁ S₁ x₁ r₁ F₁ => ?_) (last_marks hn)
  refine test_link (seq1 (s := { s with heap := h₁, toks := tk₁ }) H₂ hA hs x₁.inv F₁ q₂ fun u h₂ tk₂ S₂ x₂ r₂ F₂ => ?_)
  have r₁' := r₁.ev x₁.inv x₂
  rcases h with ⟨e₃, rfl, rfl⟩ | ⟨e₃, z, dy', dz, rr, q₃, e₄, e₅, e₆, rfl⟩
  · cases hb
    refine cmp_ok hA.un2 e₃ (rtOf x₂.inv r₁' e₁) (rtOf x₂.inv r₂ e₂) fun tk' => wpAny_truthy_bool ?_
    exact P h₂ tk' S₂ (x₁.trans x₂)
  · cases hb
    refine cmp_ok hA.un2 e₃ (rtOf x₂.inv r₁' e₁) (rtOf x₂.inv r₂ e₂) fun tk' => wpAny_truthy_bool ?_
    rw [if_pos rfl]
    refine test_last (seq1 (s := { s with heap := h₂, toks := tk' }) H₃ hA hs x₂.inv F₂ q₃ fun t h₃ tk₃ S₃ x₃ r₃ F₃ => ?_)
    exact cmp_ok hA.un2 e₆ (rtOf x₃.inv (r₂.ev x₂.inv x₃) e₄) (rtOf x₃.inv r₃ e₅) fun tk'' => wpAny_truthy_bool (P h₃ tk'' S₃ ((x₁.trans x₂).trans x₃))

theorem Post.past {ec : ExcCls} {base : Heap} {μ : List Addr} {S S₁ : Addr → Prop} {σ σ₁ σ' : Store} {s : Shared} {h₁ : Heap} {tk : Nat} {av : AV} {Q : Value → Shared → Prop} (x : Ev base μ S S₁ σ σ₁ s.heap h₁) (P : Post ec base μ S σ σ' s av Q) :
    Post ec base μ S₁ σ₁ σ' { s with heap := h₁, toks := tk } av Q := fun v h' tk' S' x' r => P v h' tk' S' (x.trans x') (r.back x)

theorem ite_evs {a b c : CE} {ρ : Rho} {σ σ' : Store} {av : AV} (q : evE Φ (.ite a b c) ρ σ = some (av, σ')) :
    ∃ v σ₁ t, evE Φ a ρ σ = some (v, σ₁) ∧ boolA v = some t ∧ (if t then evE Φ b ρ σ₁ else evE Φ c ρ σ₁) = some (av, σ') := by
  simp only [evE] at q
  split at q
  · rename_i v σ₁ q₁
    split at q
    · rename_i e; exact ⟨v, σ₁, true, q₁, e, q⟩
    · rename_i e; exact ⟨v, σ₁, false, q₁, e, q⟩
    · cases q
  · cases q
theorem se_ite {t a b : Expr} {pos : Pos} {x y z : CE} (H₁ : ST prog w base ec G n Φ sc t x) (H₂ : SE prog w base ec G n Φ sc a y) (H₃ : SE prog w base ec G n Φ sc b z) : SE prog w base ec G n Φ sc (.IfExp t a b pos) (.ite x y z) := by
  intro A env ρ σ σ' av S μ s Q E hA hs I F q P
  obtain ⟨v, σ₁, c, q₁, hb, q₂⟩ := ite_evs q
  refine wpAny_IfExp (H₁ A env ρ σ σ₁ v c S μ s _ E hA hs I F q₁ hb fun h' tk S' x => ?_)
  cases c
  · exact H₃ A env ρ σ₁ σ' av S' μ { s with heap := h', toks := tk } Q E hA hs x.inv (F.ev I x) q₂ (P.past x)
  · exact H₂ A env ρ σ₁ σ' av S' μ { s with heap := h', toks := tk } Q E hA hs x.inv (F.ev I x) q₂ (P.past x)
theorem st_ite {t a b : Expr} {pos : Pos} {x y z : CE} (H₁ : ST prog w base ec G n Φ sc t x) (H₂ : ST prog w base ec G n Φ sc a y) (H₃ : ST prog w base ec G n Φ sc b z) : ST prog w base ec G n Φ sc (.IfExp t a b pos) (.ite x y z) := by
  intro A env ρ σ σ' av bb S μ s Q E hA hs I F q hb P
  obtain ⟨v, σ₁, c, q₁, hc, q₂⟩ := ite_evs q
  rw [arm_isTrue_IfExp]
  refine wpAny_bind (H₁ A env ρ σ σ₁ v c S μ s _ E hA hs I F q₁ hc fun h' tk S' x => ?_)
  cases c
  · exact H₃ A env ρ σ₁ σ' av bb S' μ { s with heap := h', toks := tk } Q E hA hs x.inv (F.ev I x) q₂ hb fun h'' tk' S'' x' => P h'' tk' S'' (x.trans x')
  · exact H₂ A env ρ σ₁ σ' av bb S' μ { s with heap := h', toks := tk } Q E hA hs x.inv (F.ev I x) q₂ hb fun h'' tk' S'' x' => P h'' tk' S'' (x.trans x')

theorem noSlice_sub {i : Expr} {o k : Value} (h : noSlice i = true) : subscripted i false o k = operate [o, k] (getItem o k) := by
  cases i <;> first | rfl | cases h

theorem se_idx {v i : Expr} {pos : Pos} {a b : CE} (hn : noSlice i = true) (H₁ : SE prog w base ec G n Φ sc v a) (H₂ : SE prog w base ec G n Φ sc i b) : SE prog w base ec G n Φ sc (.Subscript v i pos) (.idx a b) := by
  intro A env ρ σ σ' av S μ s Q E hA hs I F q P
  simp only [evE] at q
  split at q
  · cases q
  · rename_i x σ₁ q₁
    split at q
    · cases q
    · rename_i y σ₂ q₂
      split at q
      · rename_i dx dy e₁ e₂
        split at q
        · rename_i rr e₃
          cases q
          refine Subscript_ (seq2 H₁ H₂ hA hs I F q₁ q₂ fun u k h' tk S' x r₁ r₂ F' => ?_)
          have t₁ := rtOf x.inv r₁ e₁
          have t₂ := rtOf x.inv r₂ e₂
          have g : wpAny (model prog w) A (getItem u k) Q E { s with heap := h', toks := tk } := idx_ok e₃ t₁ t₂ fun u' tk' ru => P _ h' tk' S' x (.old (.dat ru))
          unfold idxD at e₃
          split at e₃
          · obtain ⟨a, vs, m, rfl, _, e, _⟩ := t₁.tupD
            exact tail_any ⟨_, e, rfl⟩ PySem.F.slot_tuple_getitem.lookup g (noSlice_sub hn)
          · obtain ⟨a, vs, m, rfl, e, _⟩ := t₁.lstD
            exact tail_any ⟨_, e, rfl⟩ slot_list_getitem.lookup g (noSlice_sub hn)
          · obtain ⟨t, rfl⟩ := t₁.strD
            exact tail_any (T := "str") (by rfl) PySem.F.slot_str_getitem.lookup g (noSlice_sub hn)
          · cases e₃
        · cases q
      · cases q

/-! ### several expressions -/

theorem starEach_no {e : Expr} {es : List Expr} {env : Env} (h : noStar e = true) : starEach (e :: es) env = (false, eval e env) :: starEach es env := by
  cases e <;> first | rfl | cases h

theorem es_ok {pos : Pos} : ∀ {es : List Expr} {cs : List CE} {A : Around} {env : Env} {ρ : Rho} {σ σ' : Store} {avs : List AV} {S : Addr → Prop} {μ : List Addr} {s : Shared} {R : List Value → Shared → Prop} {E : Value → Shared → Prop},
    SEs prog w base ec G n Φ sc es cs → AOk n A → ScOk env sc → Inv base S μ σ s.heap → FrOk base ec G.V S μ env ρ s.heap → evEs Φ cs ρ σ = some (avs, σ') →
    (∀ vs h' tk S', Ev base μ S S' σ σ' s.heap h' → RdAs ec h' S' μ vs avs → FrOk base ec G.V S' μ env ρ h' → (∀ av ∈ avs, ∀ ds, av ≠ .fresh ds) → vs.length = es.length → R vs { s with heap := h', toks := tk }) →
    wpAny (model prog w) A (spliced (backTo pos (starEach es env))) R E s := by
  intro es
  induction es with
  | nil =>
    intro cs A env ρ σ σ' avs S μ s R E hS hA hs I F q P
    cases hS
    simp only [evEs] at q
    cases q
    exact wpAny_items_nil (P [] s.heap s.toks S (.refl I) .nil F (fun _ h => nomatch h) rfl)
  | cons e es ih =>
    intro cs A env ρ σ σ' avs S μ s R E hS hA hs I F q P
    cases hS with
    | @cons _ _ c cs' hn H hS =>
    simp only [evEs] at q
    split at q
    · cases q
    · rename_i x σ₁ q₁
      split at q
      · cases q
      · rename_i xs σ₂ q₂
        cases q
        refine wpAny_items_cons (seq1 H hA hs I F q₁ fun v h₁ tk₁ S₁ x₁ r₁ F₁ => ?_) (starEach_no hn)
        refine ih (s := { s with heap := h₁, toks := tk₁ }) hS hA hs x₁.inv F₁ q₂ fun vs h₂ tk₂ S₂ x₂ r₂ F₂ hf hl => ?_
        refine P (v :: vs) h₂ tk₂ S₂ (x₁.trans x₂) (.cons (r₁.ev x₁.inv x₂) r₂) F₂ (fun av hav => ?_) (by simp [hl])
        rcases hav with _ | ⟨_, hav⟩
        · exact settle_notFresh x
        · exact hf av hav

theorem se_tup {es : List Expr} {cs : List CE} {k : Nat} {pos : Pos} (hz : es.length ≤ 1000) (hS : SEs prog w base ec G n Φ sc es cs) : SE prog w base ec G n Φ sc (.Tuple es k pos) (.tup cs) := by
  intro A env ρ σ σ' av S μ s Q E hA hs I F q P
  simp only [evE] at q
  split at q
  · cases q
  · rename_i avs σ₁ q₁
    split at q
    · rename_i ds σ₂ q₂
      cases q
      refine wpAny_Tuple (es_ok hS hA hs I F q₁ fun vs h' tk S' x r F' hf hl => ?_)
      obtain ⟨S₂, x₂, rl, _⟩ := ownAll_step x hf r q₂
      refine ⟨by rw [hl, ← lim_eq]; unfold lim; omega, ?_⟩
      exact (post_prim (tk := tk) x₂ P).tup (push_grow _ _) (fresh_none _) (Heap.get?_push_size h' (o := tupO vs 0) rfl) rl tk
    · cases q
theorem se_lst {es : List Expr} {cs : List CE} {pos : Pos} (hz : es.length ≤ 1000) (hS : SEs prog w base ec G n Φ sc es cs) : SE prog w base ec G n Φ sc (.List es pos) (.lst cs) := by
  intro A env ρ σ σ' av S μ s Q E hA hs I F q P
  simp only [evE] at q
  split at q
  · cases q
  · rename_i avs σ₁ q₁
    split at q
    · rename_i ds σ₂ q₂
      cases q
      refine wpAny_List (es_ok hS hA hs I F q₁ fun vs h' tk S' x r F' hf hl => ?_)
      obtain ⟨S₂, x₂, rl, _⟩ := ownAll_step x hf r q₂
      refine ⟨by rw [hl, ← lim_eq]; unfold lim; omega, ?_⟩
      exact (post_prim (tk := tk) x₂ P).lst (inSome x₂.inv) (push_grow _ _) (fresh_none _) (Heap.get?_push_size h' (o := lstO vs 0) rfl) rl tk
    · cases q

theorem SEs.plain {es : List Expr} {cs : List CE} (hS : SEs prog w base ec G n Φ sc es cs) (pos : Pos) (env : Env) : (backTo pos (starEach es env)).any (·.1) = false := by
  induction hS with
  | nil => rfl
  | cons hn _ _ ih =>
    rw [starEach_no hn]
    show (false || _) = false
    rw [Bool.false_or]; exact ih

/-- a call of a built-in of the text's names -/
theorem callB_ok {f : Value} (hf : (∃ id, f = .builtin id) ∨ ∃ T, f = .type T) {es : List Expr} {cs : List CE} {pos : Pos} (hne : es ≠ []) (hS : SEs prog w base ec G n Φ sc es cs) {A : Around} {env : Env} {ρ : Rho} {σ σ' : Store} {avs : List AV} {S : Addr → Prop} {μ : List Addr} {s : Shared} {Q : Value → Shared → Prop} {E : Value → Shared → Prop}
    (hA : AOk n A) (hs : ScOk env sc) (I : Inv base S μ σ s.heap) (F : FrOk base ec G.V S μ env ρ s.heap) (q : evEs Φ cs ρ σ = some (avs, σ'))
    (P : ∀ vs h' tk S', Ev base μ S S' σ σ' s.heap h' → RdAs ec h' S' μ vs avs → wpAny (model prog w) A (call f vs) Q E { s with heap := h', toks := tk }) :
    wpAny (model prog w) A (callWith pos f [] (backTo pos (starEach es env)) (backToKw pos (keywordEach [] env))) Q E s := by
  cases hS with
  | nil => exact absurd rfl hne
  | @cons e es' c cs' hn H hS =>
    have full := SEs.cons hn H hS
    have ev : wpAny (model prog w) A (spliced (backTo pos (starEach (e :: es') env))) (fun vs s₁ => wpAny (model prog w) A (call f vs) Q E s₁) E s := es_ok full hA hs I F q fun vs h' tk S' x r F' hf hl => P vs h' tk S' x r
    rcases hf with ⟨id, rfl⟩ | ⟨T, rfl⟩
    · exact PyProof.Rows.callWith_builtin1 ev (starEach_no hn) (hS.plain pos env)
    · exact PyProof.Rows.callWith_type1 ev (starEach_no hn) (hS.plain pos env)

theorem RdAs.rtL {h : Heap} {S : Addr → Prop} {μ : List Addr} {σ : Store} (I : Inv base S μ σ h) : ∀ {vs : List Value} {avs : List AV} {ds : List PyData}, RdAs ec h S μ vs avs → rdAll σ avs = some ds → RtL h S vs ds := by
  intro vs
  induction vs with
  | nil => intro avs ds r e; cases r; cases e; exact .nil
  | cons v vs ih =>
    intro avs ds r e
    cases r with
    | @cons _ _ av avs' ra r =>
      simp only [rdAll] at e
      split at e
      · cases e
      · rename_i d q
        split at e
        · cases e
        · rename_i ds' q'
          cases e
          exact .cons (ra.rt I q) (ih r q')

theorem slotL_lt {V : List Str} {i : Nat} {x : Str} (h : slotL V 0 x = some i) : V[i]? = some x := by simpa using (slotL_get h).2

theorem se_prim (W : Wd base ec G) {g : Str} {p pos : Pos} {es : List Expr} {cs : List CE} {q : Prim} (hg : isGlob sc g = true) (ho : okName g = true) (hq : primOf g = some q) (hne : es ≠ []) (hS : SEs prog w base ec G n Φ sc es cs) :
    SE prog w base ec G n Φ sc (.Call (.Name g p) es [] pos) (.prim q cs) := by
  intro A env ρ σ σ' av S μ s Q E hA hs I F ev P
  simp only [evE] at ev
  split at ev
  · cases ev
  · rename_i avs σ₁ q₁
    split at ev
    · rename_i ds q₂
      split at ev
      · rename_i r q₃
        cases ev
        have hf : Glb base g (primF q) ∧ q ≠ .join ∧ ((∃ id, primF q = .builtin id) ∨ ∃ T, primF q = .type T) := by
          unfold primOf at hq
          (repeat' split at hq)
          all_goals first
            | (cases hq; done)
            | (rename_i e; cases hq; rw [beq_iff_eq] at e; subst e; exact ⟨W.blt _ _ (by first | exact List.mem_of_getElem? (i := 0) rfl | exact List.mem_of_getElem? (i := 1) rfl | exact List.mem_of_getElem? (i := 2) rfl | exact List.mem_of_getElem? (i := 3) rfl | exact List.mem_of_getElem? (i := 4) rfl | exact List.mem_of_getElem? (i := 5) rfl | exact List.mem_of_getElem? (i := 6) rfl | exact List.mem_of_getElem? (i := 7) rfl), (by intro x; cases x), (by first | exact .inl ⟨_, rfl⟩ | exact .inr ⟨_, rfl⟩)⟩)
        refine wpAny_Call_Name_kw (eval_glob F I.keepB ((hs.gl g).trans hg) ho hf.1 ?_)
        refine callB_ok hf.2.2 hne hS hA hs I F q₁ fun vs h' tk S' x r => ?_
        exact prim_ok hA.hd (inSome x.inv) hf.2.1 q₃ (r.rtL x.inv q₂) (post_prim x P)
      · cases ev
    · cases ev

theorem Rt.noDict {h : Heap} {S : Addr → Prop} {v : Value} {d : PyData} (r : Rt h S v d) : ∀ kvs, d ≠ .dict kvs := by
  intro kvs e
  subst e
  cases r with
  | dat r => cases r

theorem se_call (W : Wd base ec G) (HP : PhiOk prog w base ec G n Φ) {g : Str} {p pos : Pos} {es : List Expr} {cs : List CE} {k : Nat} (hg : isGlob sc g = true) (ho : okName g = true) (hk : slotL (G.fns.map (·.1)) 0 g = some k) (hne : es ≠ []) (hS : SEs prog w base ec G n Φ sc es cs) :
    SE prog w base ec G n Φ sc (.Call (.Name g p) es [] pos) (.call k cs) := by
  intro A env ρ σ σ' av S μ s Q E hA hs I F ev P
  simp only [evE] at ev
  split at ev
  · cases ev
  · rename_i avs σ₁ q₁
    split at ev
    · rename_i v σ₂ q₂
      cases ev
      have e := slotL_lt hk
      rw [List.getElem?_map] at e
      cases q : G.fns[k]? with
      | none => rw [q] at e; cases e
      | some fa =>
        obtain ⟨f, a⟩ := fa
        rw [q] at e
        obtain rfl : f = g := Option.some.inj e
        obtain ⟨hgl, o, fd, ho', hd⟩ := W.fn k f a q
        refine wpAny_Call_Name_kw (eval_glob F I.keepB ((hs.gl f).trans hg) ho hgl ?_)
        cases hS with
        | nil => exact absurd rfl hne
        | @cons e es' c cs' hn H hS =>
          have full := SEs.cons hn H hS
          refine PyProof.Rows.callWith_def hd (es_ok full hA hs I F q₁ fun vs h' tk S' x r F' hf hl => ⟨x.inv.keepB _ _ ho', ?_⟩) (starEach_no hn)
          exact HP k f a q A S' μ σ₁ _ { s with heap := h', toks := tk } vs avs _ Q E hA x.inv r q₂ (P.past x)
    · cases ev

theorem se_isin (W : Wd base ec G) {g t : Str} {p p' pos : Pos} {x : Expr} {a : CE} {ty : Ty} (hn : noStar x = true) (hg : isGlob sc g = true) (ho : okName g = true) (hgi : (g == ("isinstance" : Str)) = true) (ht : isGlob sc t = true) (ht' : okName t = true) (hty : tyOf t = some ty) (H : SE prog w base ec G n Φ sc x a) :
    SE prog w base ec G n Φ sc (.Call (.Name g p) [x, .Name t p'] [] pos) (.isin a ty) := by
  intro A env ρ σ σ' av S μ s Q E hA hs I F ev P
  simp only [evE] at ev
  split at ev
  · cases ev
  · rename_i y σ₁ q₁
    split at ev
    · rename_i d q₂
      cases ev
      rw [beq_iff_eq] at hgi
      subst hgi
      have hT : Glb base t (.type (tyName ty)) := by
        unfold tyOf at hty
        (repeat' split at hty)
        all_goals first
          | (cases hty; done)
          | (rename_i e; cases hty; rw [beq_iff_eq] at e; subst e; exact W.blt _ _ (by first | exact List.mem_of_getElem? (i := 4) rfl | exact List.mem_of_getElem? (i := 5) rfl | exact List.mem_of_getElem? (i := 6) rfl | exact List.mem_of_getElem? (i := 9) rfl | exact List.mem_of_getElem? (i := 10) rfl))
      refine wpAny_Call_Name_kw (eval_glob F I.keepB ((hs.gl _).trans hg) ho (W.blt _ (.builtin "isinstance") (by unfold bltL; simp)) ?_)
      refine PyProof.Rows.callWith_builtin1 ?_ (starEach_no hn) rfl
      refine wpAny_items_cons (seq1 H hA hs I F q₁ fun v h' tk S' x r F' => ?_) (starEach_no hn)
      refine wpAny_items_cons (eval_glob (s := { s with heap := h', toks := tk }) F' x.inv.keepB ((hs.gl t).trans ht) ht' hT ?_) rfl
      refine wpAny_items_nil ?_
      have t := rtOf x.inv r q₂
      exact isin_ok (by cases ty <;> rfl) t.noDict t fun tk' => P _ h' tk' S' x (.old (.dat (.bool _)))
    · cases ev
end
end Mine

-- M11
namespace Mine
open PySem PySem.Calls PyProof.Rows

/-! ## What a run of turns or of statements changes -/

structure Evo (base : Heap) (X : Addr → Prop) (μ μ' : List Addr) (S S' : Addr → Prop) (σ σ' : Store) (h h' : Heap) : Prop where
  ext : ∃ ν, μ' = μ ++ ν ∧ ∀ a ∈ ν, h.get? a = none
  sub : ∀ a, S a → S' a
  new : ∀ a, S' a → S a ∨ h.get? a = none ∨ Live μ σ a
  inv : Inv base S' μ' σ' h'
  keep : ∀ b o, ¬ X b → ¬ Live μ σ b → h.get? b = some o → h'.get? b = some o
  live : ∀ a, Live μ' σ' a → Live μ σ a ∨ h.get? a = none
  stay : ∀ b o, h.get? b = some o → ∃ o', h'.get? b = some o'

section
variable {base : Heap} {X Y : Addr → Prop} {μ μ' μ'' : List Addr} {S S' S'' : Addr → Prop} {σ σ' σ'' : Store} {h h' h'' : Heap} {ec : ExcCls} {V : List Str} {env : Env} {ρ : Rho}

theorem Evo.refl (I : Inv base S μ σ h) : Evo base X μ μ S S σ σ h h :=
  ⟨⟨[], by simp, fun _ q => nomatch q⟩, fun _ q => q, fun _ q => .inl q, I, fun _ _ _ _ e => e, fun _ q => .inl q, fun _ o e => ⟨o, e⟩⟩
theorem Evo.of (x : Ev base μ S S' σ σ' h h') : Evo base X μ μ S S' σ σ' h h' :=
  ⟨⟨[], by simp, fun _ q => nomatch q⟩, x.sub, x.new, x.inv, fun b o _ hl e => x.keep b o hl e, fun a l => .inl (x.live a l), fun _ _ e => x.stays e⟩
theorem Evo.gone (x : Evo base X μ μ' S S' σ σ' h h') {a : Addr} (e : h'.get? a = none) : h.get? a = none := by
  cases q : h.get? a with
  | none => rfl
  | some o => obtain ⟨o', q'⟩ := x.stay a o q; rw [q'] at e; cases e
theorem Evo.trans (x : Evo base X μ μ' S S' σ σ' h h') (y : Evo base Y μ' μ'' S' S'' σ' σ'' h' h'') (hY : ∀ a o, Y a → h.get? a = some o → X a) : Evo base X μ μ'' S S'' σ σ'' h h'' where
  ext := by
    obtain ⟨ν, rfl, n1⟩ := x.ext
    obtain ⟨ν', rfl, n2⟩ := y.ext
    refine ⟨ν ++ ν', by simp, fun a ha => ?_⟩
    rcases List.mem_append.mp ha with q | q
    · exact n1 a q
    · exact x.gone (n2 a q)
  sub := fun a s => y.sub a (x.sub a s)
  new := fun a s => by
    rcases y.new a s with q | q | q
    · exact x.new a q
    · exact .inr (.inl (x.gone q))
    · rcases x.live a q with q | q
      · exact .inr (.inr q)
      · exact .inr (.inl q)
  inv := y.inv
  keep := fun b o hb hl e => y.keep b o (fun q => hb (hY b o q e)) (fun l => (x.live b l).elim hl fun q => by rw [q] at e; cases e) (x.keep b o hb hl e)
  live := fun a l => by
    rcases y.live a l with q | q
    · exact x.live a q
    · exact .inr (x.gone q)
  stay := fun b o e => let ⟨o', e'⟩ := x.stay b o e; y.stay b o' e'
theorem Evo.wide (x : Evo base X μ μ' S S' σ σ' h h') (hY : ∀ a o, X a → h.get? a = some o → Y a) : Evo base Y μ μ' S S' σ σ' h h' :=
  ⟨x.ext, x.sub, x.new, x.inv, fun b o hb hl e => x.keep b o (fun q => hb (hY b o q e)) hl e, x.live, x.stay⟩
theorem Evo.toEv (I : Inv base S μ σ h) (x : Evo base X μ μ S S' σ σ' h h') (hX : ∀ a, X a → h.get? a = none) : Ev base μ S S' σ σ' h h' where
  sub := x.sub
  new := x.new
  inv := x.inv
  keep := fun b o hl e => x.keep b o (fun q => by rw [hX b q] at e; cases e) hl e
  live := fun a l => by
    rcases x.live a l with q | q
    · exact q
    · obtain ⟨i, ds, e1, _⟩ := l
      obtain ⟨vs, n, e⟩ := I.mem (List.mem_of_getElem? e1)
      rw [q] at e; cases e
theorem Evo.mu (x : Evo base X μ μ' S S' σ σ' h h') : ∀ (i : Nat) (a : Addr), μ[i]? = some a → μ'[i]? = some a := by
  obtain ⟨ν, rfl, _⟩ := x.ext
  intro i a e
  rw [List.getElem?_append_left (List.getElem?_eq_some_iff.mp e).1]; exact e
theorem Evo.keepS (I : Inv base S μ σ h) (x : Evo base X μ μ' S S' σ σ' h h') (hX : ∀ a, X a → ¬ S a) : ∀ a o, S a → h.get? a = some o → h'.get? a = some o :=
  fun a o hs e => x.keep a o (fun q => hX a q hs) (fun l => l.notS I hs) e
theorem RdA.evo (I : Inv base S μ σ h) (x : Evo base X μ μ' S S' σ σ' h h') (hX : ∀ a, X a → ¬ S a) {v : Value} {av : AV} (r : RdA ec h S μ v av) : RdA ec h' S' μ' v av := r.mono (x.keepS I hX) x.sub x.mu

theorem Inv.mv {wr : Addr → Prop} (I : Inv base S μ σ h) (m : Mv wr S S' h h') (hS : ∀ a, wr a → ¬ S a) (hM : ∀ a, wr a → a ∉ μ) (hB : ∀ a, wr a → base.get? a = none) : Inv base S' μ σ h' where
  keepB := fun b o e => m.keep b o (fun q => by rw [hB b q] at e; cases e) (I.keepB b o e)
  len := I.len
  cells := fun i a f ds e1 e2 => by
    obtain ⟨vs, n, e, r, q1, q2⟩ := I.cells i a f ds e1 e2
    refine ⟨vs, n, m.keep a _ (fun q => hM a q (List.mem_of_getElem? e1)) e, r.mono (fun b o hb e => m.keep b o (fun q => hS b q hb) e) m.sub, fun z => m.sub a (q1 z), fun z s => ?_⟩
    rcases m.new a s with q | q
    · exact q2 z q
    · rw [q] at e; cases e
  nodup := I.nodup
  new := I.new
  inS := fun a s => by
    rcases m.inS a s with q | q
    · obtain ⟨o, e, p⟩ := I.inS a q
      exact ⟨o, m.keep a o (fun z => hS a z q) e, p⟩
    · exact q

theorem Evo.poke {wr : Addr → Prop} (x : Evo base X μ μ' S S' σ σ' h h') (m : Mv wr S' S'' h' h'') (hX : ∀ a o, wr a → h.get? a = some o → X a) (hS : ∀ a, wr a → ¬ S' a) (hM : ∀ a, wr a → a ∉ μ') (hB : ∀ a, wr a → base.get? a = none)
    (al : ∀ a o, wr a → h.get? a = some o → ∃ o', h''.get? a = some o') : Evo base X μ μ' S S'' σ σ' h h'' where
  ext := x.ext
  sub := fun a s => m.sub a (x.sub a s)
  new := fun a s => by
    rcases m.new a s with q | q
    · exact x.new a q
    · exact .inr (.inl (x.gone q))
  inv := x.inv.mv m hS hM hB
  keep := fun b o hb hl e => m.keep b o (fun q => hb (hX b o q e)) (x.keep b o hb hl e)
  live := x.live
  stay := fun b o e => by
    by_cases q : wr b
    · exact al b o q e
    · obtain ⟨o', e'⟩ := x.stay b o e
      exact ⟨o', m.keep b o' q e'⟩

theorem Own.notS {a : Addr} (I : Inv base S μ σ h) (F : FrOk base ec V S μ env ρ h) (o : Own env a) : ¬ S a := fun s => by
  obtain ⟨b, e, p⟩ := I.inS a s
  exact o.notList F e p
theorem Own.new {a : Addr} (F : FrOk base ec V S μ env ρ h) (o : Own env a) : base.get? a = none := by
  rcases o with rfl | ⟨x, hx⟩
  · exact F.newL
  · exact F.newC x a hx
theorem Own.has {a : Addr} (F : FrOk base ec V S μ env ρ h) (o : Own env a) : ∃ b, h.get? a = some b := by
  rcases o with rfl | ⟨x, hx⟩
  · obtain ⟨m, ⟨o, _, _, e, _⟩, _⟩ := F.ns; exact ⟨o, e⟩
  · obtain ⟨vo, o, e, _⟩ := F.cell x a hx; exact ⟨o, e⟩
/-- a frame that a change leaves alone -/
theorem FrOk.evo (I : Inv base S μ σ h) (F : FrOk base ec V S μ env ρ h) (x : Evo base X μ μ' S S' σ σ' h h') (hX : ∀ a, X a → ¬ S a) (hO : ∀ a, Own env a → ¬ X a) : FrOk base ec V S' μ' env ρ h' :=
  F.mono (fun a o ha e => x.keep a o (hO a ha) (ha.notLive I F) e) fun _ _ r => r.evo I x hX
theorem FrOk.mv {wr : Addr → Prop} (F : FrOk base ec V S μ env ρ h) (m : Mv wr S S' h h') (hS : ∀ a, wr a → ¬ S a) (hO : ∀ a, Own env a → ¬ wr a) : FrOk base ec V S' μ env ρ h' :=
  F.mono (fun a o ha e => m.keep a o (hO a ha) e) fun _ _ r => r.mono (fun b o hb e => m.keep b o (fun q => hS b q hb) e) m.sub fun _ _ q => q
end

/-! ## The state of a loop -/

structure Lp (base : Heap) (X : Addr → Prop) (μ : List Addr) (S : Addr → Prop) (σ : Store) (h : Heap) (fp wr : Addr → Prop) (St : Nat → Heap → Prop) (Ok : (Addr → Prop) → Heap → Prop) (i : Nat) (μ' : List Addr) (S' : Addr → Prop) (σ' : Store) (h' : Heap) : Prop where
  ev : Evo base X μ μ' S S' σ σ' h h'
  st : St i h'
  ok : Ok S' h'
  nw : ∀ a, S' a → ¬ wr a
  nl : ∀ b, fp b → ¬ Live μ' σ' b
  nm : ∀ b, wr b → b ∉ μ'
  wn : ∀ b, wr b → h.get? b = none
  wb : ∀ b, wr b → base.get? b = none

section
variable {prog : Program} {w : World} {A : Around} {I : Addr} {xs : List PyData} {T : Expr → Prop} {Mid : Nat → Value → Heap → Prop}
variable {base : Heap} {X Y : Addr → Prop} {μ μ' μ'' : List Addr} {S S' S'' : Addr → Prop} {σ σ' σ'' : Store} {h h' h'' : Heap} {fp wr : Addr → Prop} {St : Nat → Heap → Prop} {Ok : (Addr → Prop) → Heap → Prop} {i : Nat}

theorem Lp.step (Z : Src prog w A I fp wr xs T St Mid Ok) (L : Lp base X μ S σ h fp wr St Ok i μ' S' σ' h') (y : Evo base Y μ' μ'' S' S'' σ' σ'' h' h'') (hY : ∀ a o, Y a → h.get? a = some o → X a) (hf : ∀ a, Y a → ¬ fp a) (hS : ∀ a, Y a → ¬ S' a) : Lp base X μ S σ h fp wr St Ok i μ'' S'' σ'' h'' where
  ev := L.ev.trans y hY
  st := Z.frame i _ _ L.st fun b o hb e => y.keep b o (fun q => hf b q hb) (L.nl b hb) e
  ok := Z.mono _ _ _ _ L.ok y.sub (y.keepS L.ev.inv hS)
  nw := fun a s q => by
    rcases y.new a s with z | z | z
    · exact L.nw a z q
    · obtain ⟨o, e, _⟩ := Z.alloc i _ a L.st (Z.sub a q)
      rw [e] at z; cases z
    · exact L.nl a (Z.sub a q) z
  nl := fun b hb l => by
    rcases y.live b l with z | z
    · exact L.nl b hb z
    · obtain ⟨o, e, _⟩ := Z.alloc i _ b L.st hb
      rw [e] at z; cases z
  nm := fun b hb q => by
    obtain ⟨ν, rfl, n1⟩ := y.ext
    rcases List.mem_append.mp q with z | z
    · exact L.nm b hb z
    · obtain ⟨o, e, _⟩ := Z.alloc i _ b L.st (Z.sub b hb)
      rw [n1 b z] at e; cases e
  wn := L.wn
  wb := L.wb

/-- a change at an address of the loop's owner -/
theorem Lp.poke (Z : Src prog w A I fp wr xs T St Mid Ok) (L : Lp base X μ S σ h fp wr St Ok i μ' S' σ' h') {P : Addr → Prop} (hk : ∀ b o, ¬ P b → h'.get? b = some o → h''.get? b = some o) (hX : ∀ a o, P a → h.get? a = some o → X a) (hS : ∀ a, P a → ¬ S' a) (hM : ∀ a, P a → a ∉ μ')
    (hB : ∀ a, P a → base.get? a = none) (hf : ∀ a, P a → ¬ fp a) (al : ∀ a o, P a → h'.get? a = some o → ∃ o', h''.get? a = some o') : Lp base X μ S σ h fp wr St Ok i μ' S' σ' h'' where
  ev := L.ev.poke (Mv.same hk) hX hS hM hB fun a o hp e => let ⟨o', e'⟩ := L.ev.stay a o e; al a o' hp e'
  st := Z.frame i _ _ L.st fun b o hb e => hk b o (fun q => hf b q hb) e
  ok := Z.mono _ _ _ _ L.ok (fun _ q => q) fun a o hs e => hk a o (fun q => hS a q hs) e
  nw := L.nw
  nl := L.nl
  nm := L.nm
  wn := L.wn
  wb := L.wb

/-- the turn's item -/
theorem Lp.next (Z : Src prog w A I fp wr xs T St Mid Ok) {s : Shared} (L : Lp base X μ S σ h fp wr St Ok i μ' S' σ' s.heap) {d : PyData} (hd : xs[i]? = some d) {t : Expr} (ht : T t) {E : Value → Shared → Prop} {Q : Option Value → Shared → Prop}
    (hQ : ∀ v h₂ tk S₂, (∀ E' Q', (∀ h₃, Mv wr S' S₂ s.heap h₃ → Lp base X μ S σ h fp wr St Ok (i + 1) μ' S₂ σ' h₃ → Rd h₃ S₂ v d → Q' () { s with heap := h₃, toks := tk }) → wpAny (model prog w) A (letOwnedTupleGo t (.ref I) v) Q' E' { s with heap := h₂, toks := tk }) → Q (some v) { s with heap := h₂, toks := tk }) :
    wpAny (model prog w) A (pyNext (.ref I)) Q E s := by
  refine Z.next i d S' s Q E hd L.st L.ok L.nw fun v h₂ tk S₂ m r hm => ?_
  refine hQ v h₂ tk S₂ fun E' Q' hQ' => ?_
  refine Z.go i v t { s with heap := h₂, toks := tk } Q' E' ht hm fun h₃ k₃ st₃ => ?_
  have wS : ∀ a, S₂ a → ¬ wr a := fun a s₂ q => by
    rcases m.new a s₂ with z | z
    · exact L.nw a z q
    · obtain ⟨o, e, _⟩ := Z.alloc i _ a L.st (Z.sub a q)
      rw [e] at z; cases z
  have kS : ∀ a o, S₂ a → h₂.get? a = some o → h₃.get? a = some o := fun a o hs e => k₃ a o (wS a hs) e
  have m' : Mv wr S' S₂ s.heap h₃ := ⟨fun b o hb e => k₃ b o hb (m.keep b o hb e), m.sub, m.new, fun a hs => (m.inS a hs).imp id fun ⟨o, e, p⟩ => ⟨o, kS a o hs e, p⟩⟩
  refine hQ' h₃ m' ?_ (r.mono kS fun _ q => q)
  exact {
    ev := L.ev.poke m' (fun a o hw e => by rw [L.wn a hw] at e; cases e) (fun a hw hs => L.nw a hs hw) L.nm L.wb fun a o hw _ => let ⟨o', e', _⟩ := Z.alloc (i + 1) _ a st₃ (Z.sub a hw); ⟨o', e'⟩
    st := st₃
    ok := Z.mono _ _ _ _ L.ok m.sub fun a o hs e => m'.keep a o (L.nw a hs) e
    nw := wS
    nl := L.nl
    nm := L.nm
    wn := L.wn
    wb := L.wb }
/-- the source's end -/
theorem Lp.done (Z : Src prog w A I fp wr xs T St Mid Ok) {s : Shared} (L : Lp base X μ S σ h fp wr St Ok xs.length μ' S' σ' s.heap) {E : Value → Shared → Prop} {Q : Option Value → Shared → Prop}
    (hQ : ∀ h₂ tk, Mv wr S' S' s.heap h₂ → Evo base X μ μ' S S' σ σ' h h₂ → Q none { s with heap := h₂, toks := tk }) : wpAny (model prog w) A (pyNext (.ref I)) Q E s :=
  Z.done S' s Q E L.st L.ok fun h₂ tk k => hQ h₂ tk (Mv.same k) (L.ev.poke (Mv.same k) (fun a o hw e => by rw [L.wn a hw] at e; cases e) (fun a hw hs => L.nw a hs hw) L.nm L.wb fun a o hw e => by rw [L.wn a hw] at e; cases e)
end

/-! ## Binding a target -/

noncomputable def OwnL (lc : Bool) (env : Env) (b : Addr) : Prop := Own env b ∧ (lc = true → b = env.locals)
noncomputable def locE (env : Env) : Expr → Prop
  | .Name x _ => env.kindOf x = some .local
  | .Tuple es _ _ => ∀ x p, Expr.Name x p ∈ es → env.kindOf x = some .local
  | _ => True

section
variable {prog : Program} {w : World} {base : Heap} {ec : ExcCls} {G : Cfg} {n : Nat} {sc : Sc} {A : Around} {env : Env} {ρ ρ' : Rho} {σ : Store} {S : Addr → Prop} {μ : List Addr} {s : Shared} {E : Value → Shared → Prop} {lc : Bool}

theorem own_kind (hs : ScOk env sc) {x : Str} {i : Nat} (h : ownOf G sc x = some i) : slotL G.V 0 x = some i ∧ (env.kindOf x = some .local ∨ env.kindOf x = some .cell) := by
  unfold ownOf at h
  split at h
  · rename_i q
    rw [Bool.and_eq_true] at q
    refine ⟨h, ?_⟩
    have q1 := q.1
    unfold isOwnN at q1
    have e : env.kindOf x = sc.lookup x := by
      rcases hs x with e | ⟨e, _⟩
      · exact e
      · rw [e] at q1; cases q1
    split at q1
    · rename_i e'; exact .inl (e.trans e')
    · rename_i e'; exact .inr (e.trans e')
    · cases q1
  · cases h

theorem name_ok (hs : ScOk env sc) {x : Str} {i : Nat} {p : Pos} {v : Value} {d : AV} (hx : ownOf G sc x = some i) (hl : lc = true → env.kindOf x = some .local) (I : Inv base S μ σ s.heap) (F : FrOk base ec G.V S μ env ρ s.heap) (r : RdA ec s.heap S μ v d) {Q : Unit → Shared → Prop}
    (h : ∀ h' tk, Inv base S μ σ h' → FrOk base ec G.V S μ env (ρ.set i d) h' → (∀ b o, ¬ OwnL lc env b → s.heap.get? b = some o → h'.get? b = some o) → (∀ b o, s.heap.get? b = some o → ∃ o', h'.get? b = some o') → Q () { s with heap := h', toks := tk }) :
    wpAny (model prog w) A (assign (.Name x p) env v) Q E s := by
  obtain ⟨h1, h2⟩ := own_kind hs hx
  rw [PySem.assign_Name]
  refine wpAny_bind (wpAny_standAt (store_var I F h1 h2 r fun h' tk c hc hcl I' F' hk st => ?_))
  exact h h' tk I' F' (fun b o hb e => hk b o (fun q => hb (q ▸ ⟨hc, fun z => hcl (hl z)⟩)) e) st

theorem names_ok (hs : ScOk env sc) : ∀ {es : List Expr} {is : List Nat} {vs : List Value} {ds : List PyData} {ρ ρ' : Rho} {s : Shared} {Q : Unit → Shared → Prop}, ownsOf G sc es = some is → (lc = true → ∀ x p, Expr.Name x p ∈ es → env.kindOf x = some .local) → Inv base S μ σ s.heap →
    FrOk base ec G.V S μ env ρ s.heap → RdL s.heap S vs ds → bindMany is ds ρ = some ρ' →
    (∀ h' tk, Inv base S μ σ h' → FrOk base ec G.V S μ env ρ' h' → (∀ b o, ¬ OwnL lc env b → s.heap.get? b = some o → h'.get? b = some o) → (∀ b o, s.heap.get? b = some o → ∃ o', h'.get? b = some o') → Q () { s with heap := h', toks := tk }) →
    wpAny (model prog w) A (assignInOrder ((assignEach es env).map (·.2)) vs) Q E s := by
  intro es
  induction es with
  | nil =>
    intro is vs ds ρ ρ' s Q ht hl I F r hb h
    cases ht
    cases ds with
    | cons d ds => cases hb
    | nil =>
      cases hb
      cases r
      exact wpAny_pure (h s.heap s.toks I F (fun _ _ _ e => e) fun _ o e => ⟨o, e⟩)
  | cons e es ih =>
    intro is vs ds ρ ρ' s Q ht hl I F r hb h
    cases e <;> first | (cases ht; done) | skip
    rename_i x p
    simp only [ownsOf] at ht
    split at ht
    · cases ht
    · rename_i i hi
      split at ht
      · cases ht
      · rename_i is' hi'
        cases ht
        cases ds with
        | nil => cases hb
        | cons d ds =>
          cases r with
          | @cons v vs _ _ rv r =>
            show wpAny _ A (assignInOrder (assign (.Name x p) env :: (assignEach es env).map (·.2)) (v :: vs)) Q E s
            have gl : ∀ (f : Value → Sem Unit) fs, assignInOrder (f :: fs) (v :: vs) = (do holding vs (f v); assignInOrder fs vs) := fun _ _ => rfl
            rw [gl]
            refine wpAny_bind (wpAny_holding (name_ok (lc := lc) hs hi (fun z => hl z x p (.head _)) I F (.dat rv) fun h₁ tk₁ I₁ F₁ k₁ st₁ => ?_))
            have kS : ∀ a o, S a → s.heap.get? a = some o → h₁.get? a = some o := fun a o ha e => k₁ a o (fun q => q.1.notS I F ha) e
            refine ih (s := { s with heap := h₁, toks := tk₁ }) hi' (fun z x p hm => hl z x p (.tail _ hm)) I₁ F₁ (r.mono kS fun _ q => q) hb fun h₂ tk₂ I₂ F₂ k₂ st₂ => ?_
            exact h h₂ tk₂ I₂ F₂ (fun b o hb e => k₂ b o hb (k₁ b o hb e)) fun b o e => let ⟨o', e'⟩ := st₁ b o e; st₂ b o' e'

theorem owns_len : ∀ {es : List Expr} {is : List Nat}, ownsOf G sc es = some is → (assignEach es env).length = is.length ∧ (assignEach es env).findIdx? (·.1) = none := by
  intro es
  induction es with
  | nil => intro is h; cases h; exact ⟨rfl, rfl⟩
  | cons e es ih =>
    intro is h
    cases e <;> first | (cases h; done) | skip
    rename_i x p
    simp only [ownsOf] at h
    split at h
    · cases h
    · split at h
      · cases h
      · rename_i is' hi'
        cases h
        obtain ⟨h1, h2⟩ := ih hi'
        refine ⟨by show (assignEach es env).length + 1 = _; rw [h1]; rfl, ?_⟩
        show List.findIdx? (·.1) ((false, assign (.Name x p) env) :: assignEach es env) = none
        rw [List.findIdx?_cons]
        simp [h2]
theorem bindMany_len : ∀ {is : List Nat} {ds : List PyData} {ρ ρ' : Rho}, bindMany is ds ρ = some ρ' → is.length = ds.length := by
  intro is
  induction is with
  | nil => intro ds ρ ρ' h; cases ds with | nil => rfl | cons _ _ => cases h
  | cons i is ih => intro ds ρ ρ' h; cases ds with | nil => cases h | cons d ds => simp [ih h]

theorem bind_ok {t : Expr} {tg : Tgt} (ht : trT G sc t = some tg) (hA : A.handled = none) (hs : ScOk env sc) (hl : lc = true → locE env t) (I : Inv base S μ σ s.heap) (F : FrOk base ec G.V S μ env ρ s.heap) {v : Value} {d : PyData} (r : Rd s.heap S v d) (hb : bindT tg d ρ = some ρ') {Q : Unit → Shared → Prop}
    (h : ∀ h' tk, Inv base S μ σ h' → FrOk base ec G.V S μ env ρ' h' → (∀ b o, ¬ OwnL lc env b → s.heap.get? b = some o → h'.get? b = some o) → (∀ b o, s.heap.get? b = some o → ∃ o', h'.get? b = some o') → Q () { s with heap := h', toks := tk }) :
    wpAny (model prog w) A (assign t env v) Q E s := by
  cases t <;> first | (cases ht; done) | skip
  · rename_i x p
    simp only [trT] at ht
    split at ht
    · rename_i i hi
      cases ht
      cases hb
      exact name_ok hs hi hl I F (.dat r) h
    · cases ht
  · rename_i es k p
    simp only [trT] at ht
    split at ht
    · rename_i is hi
      cases ht
      cases d <;> first | (cases hb; done) | skip
      rename_i ds
      cases r with
      | @tuple a vs m _ sa e r =>
        have hlen := bindMany_len hb
        obtain ⟨l1, l2⟩ := owns_len (env := env) hi
        refine wpAny_assign_Tuple hA (items := vs.toArray) ⟨_, e, rfl, m, rfl⟩ (by rw [l1, hlen, ← r.length]; simp) l2 fun h₁ x₁ => ?_
        have k₁ : ∀ b o, s.heap.get? b = some o → h₁.get? b = some o := fun b o e => x₁ b o (Nat.ne_of_lt (Heap.lt_size e)) e
        have mv : Mv (fun _ => False) S S s.heap h₁ := Mv.same fun b o _ e => k₁ b o e
        have I₁ := I.mv mv (fun _ q => q.elim) (fun _ q => q.elim) fun _ q => q.elim
        have F₁ := F.mv mv (fun _ q => q.elim) fun _ _ q => q
        refine names_ok (lc := lc) (s := { s with heap := h₁ }) hs hi (fun z => hl z) I₁ F₁ (r.mono (fun b o _ e => k₁ b o e) fun _ q => q) hb fun h₂ tk₂ I₂ F₂ k₂ st₂ => ?_
        exact h h₂ tk₂ I₂ F₂ (fun b o hb e => k₂ b o hb (k₁ b o e)) fun b o e => st₂ b o (k₁ b o e)
    · cases ht
end
end Mine

-- M12
namespace Mine
open PySem PySem.Calls PyProof.Rows

/-! ## Locking the cells that a loop reads -/

theorem flagAll_len (f : Flag) : ∀ (L : List Nat) (σ : Store), (flagAll f L σ).length = σ.length := by
  intro L
  induction L with
  | nil => intro σ; rfl
  | cons i L ih =>
    intro σ
    simp only [flagAll]
    rw [ih]
    split
    · rw [List.length_set]
    · rfl
theorem flagAll_get (f : Flag) : ∀ (L : List Nat) (σ : Store) (i : Nat), (flagAll f L σ)[i]? = if i ∈ L then (match σ[i]? with | some p => some (f, p.2) | none => none) else σ[i]? := by
  intro L
  induction L with
  | nil => intro σ i; simp [flagAll]
  | cons j L ih =>
    intro σ i
    simp only [flagAll]
    rw [ih]
    by_cases hij : i = j
    · subst hij
      cases q : σ[i]? with
      | none => simp [q]
      | some p =>
        have : (σ.set i (f, p.2))[i]? = some (f, p.2) := set_at q
        simp [this]
    · cases q : σ[j]? with
      | none => simp [hij]
      | some p =>
        have : (σ.set j (f, p.2))[i]? = σ[i]? := set_ne (Ne.symm hij)
        simp [this, hij]
theorem mem_liveOf {σ : Store} : ∀ {vs : List AV} {i : Nat}, i ∈ liveOf σ vs ↔ AV.cell i ∈ vs ∧ ∃ ds, σ[i]? = some (Flag.live, ds) := by
  intro vs
  induction vs with
  | nil => intro i; simp [liveOf]
  | cons v vs ih =>
    intro i
    cases v with
    | cell j =>
      simp only [liveOf, List.mem_append, ih, List.mem_cons]
      constructor
      · rintro (h | ⟨h1, h2⟩)
        · split at h
          · rename_i ds q
            rcases List.mem_singleton.mp h with rfl
            exact ⟨.inl rfl, ds, q⟩
          · cases h
        · exact ⟨.inr h1, h2⟩
      · rintro ⟨h | h, ds, q⟩
        · cases h
          left
          rw [q]
          exact List.mem_singleton.mpr rfl
        · exact .inr ⟨h, ds, q⟩
    | dat d => simp only [liveOf, ih, List.mem_cons]; simp
    | fresh d => simp only [liveOf, ih, List.mem_cons]; simp
    | exc d => simp only [liveOf, ih, List.mem_cons]; simp

section
variable {base : Heap} {X : Addr → Prop} {μ μ' : List Addr} {S S' : Addr → Prop} {σ σ' : Store} {h h' : Heap} {ec : ExcCls} {L : List Nat}

theorem lock_live (hL : ∀ i ∈ L, ∃ ds, σ[i]? = some (Flag.live, ds)) {a : Addr} (l : Live μ (flagAll .locked L σ) a) : Live μ σ a := by
  obtain ⟨i, ds, e1, e2⟩ := l
  rw [flagAll_get] at e2
  split at e2
  · split at e2 <;> cases e2
  · exact ⟨i, ds, e1, e2⟩
theorem lock_ev (I : Inv base S μ σ h) (hL : ∀ i ∈ L, ∃ ds, σ[i]? = some (Flag.live, ds)) : Ev base μ S S σ (flagAll .locked L σ) h h where
  sub := fun _ q => q
  new := fun _ q => .inl q
  inv := {
    keepB := I.keepB
    len := by rw [flagAll_len]; exact I.len
    cells := fun i a f ds e1 e2 => by
      rw [flagAll_get] at e2
      split at e2
      · rename_i hi
        obtain ⟨es, q⟩ := hL i hi
        rw [q] at e2
        cases e2
        obtain ⟨vs, n, k1, k2, k3, k4⟩ := I.cells i a _ _ e1 q
        exact ⟨vs, n, k1, k2, fun z => (nomatch z), fun _ => k4 (by intro z; cases z)⟩
      · exact I.cells i a f ds e1 e2
    nodup := I.nodup
    new := I.new
    inS := I.inS }
  keep := fun _ _ _ e => e
  live := fun _ l => lock_live hL l

theorem unlock (I : Inv base S μ σ h) (hL : ∀ i ∈ L, ∃ ds, σ[i]? = some (Flag.live, ds)) (x : Evo base X μ μ' S S' (flagAll .locked L σ) σ' h h') : Evo base X μ μ' S S' σ (flagAll .live L σ') h h' := by
  have muL : ∀ (i : Nat) (a : Addr), i ∈ L → μ'[i]? = some a → μ[i]? = some a := fun i a hi e => by
    obtain ⟨ds, q⟩ := hL i hi
    obtain ⟨b, hb⟩ := I.cell q
    rw [x.mu i b hb] at e
    rw [hb]; exact e
  have nLive : ∀ (i : Nat) (a : Addr), i ∈ L → μ[i]? = some a → ¬ Live μ (flagAll .locked L σ) a := fun i a hi e l => by
    obtain ⟨j, ds, e1, e2⟩ := l
    obtain rfl := I.nodup i j a e e1
    rw [flagAll_get, if_pos hi] at e2
    split at e2 <;> cases e2
  refine ⟨x.ext, x.sub, fun a s => ?_, ?_, fun b o hb hl e => x.keep b o hb (fun l => hl (lock_live hL l)) e, fun a l => ?_, x.stay⟩
  · rcases x.new a s with q | q | q
    · exact .inl q
    · exact .inr (.inl q)
    · exact .inr (.inr (lock_live hL q))
  · refine ⟨x.inv.keepB, by rw [flagAll_len]; exact x.inv.len, fun i a f ds e1 e2 => ?_, x.inv.nodup, x.inv.new, x.inv.inS⟩
    rw [flagAll_get] at e2
    split at e2
    · rename_i hi
      split at e2
      · rename_i p q
        cases e2
        obtain ⟨f', es⟩ := p
        obtain ⟨vs, n, k1, k2, _, _⟩ := x.inv.cells i a f' es e1 q
        refine ⟨vs, n, k1, k2, fun z => (nomatch z), fun _ s => ?_⟩
        have em := muL i a hi e1
        obtain ⟨us, q⟩ := hL i hi
        obtain ⟨ws, m, j1, _, _, j4⟩ := I.cells i a _ us em q
        rcases x.new a s with z | z | z
        · exact j4 (by intro z; cases z) z
        · rw [z] at j1; cases j1
        · exact nLive i a hi em z
      · cases e2
    · exact x.inv.cells i a f ds e1 e2
  · obtain ⟨i, ds, e1, e2⟩ := l
    rw [flagAll_get] at e2
    split at e2
    · rename_i hi
      obtain ⟨us, q⟩ := hL i hi
      exact .inl ⟨i, us, muL i a hi e1, q⟩
    · rcases x.live a ⟨i, ds, e1, e2⟩ with z | z
      · exact .inl (lock_live hL z)
      · exact .inr z

theorem liveOf_ok {vs : List AV} : ∀ i ∈ liveOf σ vs, ∃ ds, σ[i]? = some (Flag.live, ds) := fun _ hi => (mem_liveOf.mp hi).2

/-- what a loop reads is no live cell while it lasts -/
theorem seq_locked {vs : List AV} (I : Inv base S μ σ h) {v : Value} {av : AV} {a : Addr} (m : av ∈ vs) (r : RdA ec h S μ v av) (e : v = .ref a) : ¬ Live μ (flagAll .locked (liveOf σ vs) σ) a := fun l => by
  have l' := lock_live liveOf_ok l
  cases r with
  | dat r =>
    subst e
    cases r with
    | tuple s e _ => exact l'.notS I s
    | list s e _ => exact l'.notS I s
  | @cell i b hi =>
    cases e
    obtain ⟨j, ds, e1, e2⟩ := l
    obtain rfl := I.nodup i j _ hi e1
    rw [flagAll_get] at e2
    split at e2
    · split at e2 <;> cases e2
    · rename_i hn
      exact hn (mem_liveOf.mpr ⟨m, ds, e2⟩)
  | exc s _ _ => cases e; exact l'.notS I s
end

/-! ## What a loop goes along -/

section
variable {prog : Program} {w : World} {A : Around}
theorem Src.long (hh : A.handled = none) (I : Addr) (a b : Int) :
    Src prog w A I (fun c => c = I) (fun c => c = I) (rangeL a b) (fun t => isNameT t = true)
      (fun i h => IsLongIter h I (a + (i : Nat) * 1) ((((b - a).toNat : Nat) : Int) - (i : Nat)) 1) (fun i _ h => IsLongIter h I (a + ((i + 1 : Nat) : Int) * 1) ((((b - a).toNat : Nat) : Int) - ((i + 1 : Nat) : Int)) 1) (fun _ _ => True) where
  sub := fun _ hb => hb
  frame := fun i h h' st hk => hk I _ rfl st
  alloc := fun i h c st hc => by
    subst hc
    exact ⟨_, st, by constructor <;> (intros; intro q; cases q)⟩
  mono := fun _ _ _ _ _ _ _ => trivial
  next := fun i d S s Q E hd st r hw hQ => by
    obtain ⟨hi, rfl⟩ := rangeL_get hd
    refine wpAny_pyNext_long_item st (by omega) fun h' hit hs => ?_
    rw [Int.mul_one] at *
    refine hQ _ h' _ S (.same fun b o hb e => hs.extBut b o hb e) (.int _ _) ?_
    have e1 : a + ((i + 1 : Nat) : Int) = a + (i : Int) + 1 := by omega
    have e2 : (((b - a).toNat : Nat) : Int) - ((i + 1 : Nat) : Int) = (((b - a).toNat : Nat) : Int) - (i : Int) - 1 := by omega
    rw [e1, e2]; exact hit
  go := fun i v t s Q E ht hm hQ => go_name ht (hQ s.heap (fun _ _ _ e => e) hm)
  done := fun S s Q E st r hQ => wpAny_pyNext_long_end hh st (by rw [rangeL_len]; omega) fun h' he => hQ h' s.toks fun b o hb e => he b o hb e
  self := fun i s Q E st hQ => wpAny_pyIter_longiter st hQ
end

noncomputable def Tk : ItK → Expr → Prop
  | .seq, t => isNameT t = true ∨ isTupT t = true
  | .range1, t => isNameT t = true
  | .range2, t => isNameT t = true
  | .zip, t => isTupT t = true

/-- a source that has just been made -/
structure Made (prog : Program) (w : World) (A : Around) (μ : List Addr) (S : Addr → Prop) (σ : Store) (k : ItK) (xs : List PyData) (I : Addr) (h₀ h₁ : Heap) (fp wr : Addr → Prop) (St : Nat → Heap → Prop) (Mid : Nat → Value → Heap → Prop) (Ok : (Addr → Prop) → Heap → Prop) : Prop where
  src : Src prog w A I fp wr xs (Tk k) St Mid Ok
  grow : ∀ b o, h₀.get? b = some o → h₁.get? b = some o
  st : St 0 h₁
  ok : Ok S h₁
  wn : ∀ b, wr b → h₀.get? b = none
  nl : ∀ b, fp b → ¬ Live μ σ b

noncomputable def SI (prog : Program) (w : World) (base : Heap) (ec : ExcCls) (G : Cfg) (n : Nat) (Φ : Phi) (sc : Sc) (e : Expr) (k : ItK) (cs : List CE) : Prop :=
  (∀ env x, foldedSetIterable e env x = pure x) ∧
  ∀ (A : Around) (env : Env) (ρ : Rho) (σ σ₁ : Store) (vs : List AV) (ds xs : List PyData) (S : Addr → Prop) (μ : List Addr) (s : Shared) (Q : Value → Shared → Prop) (E : Value → Shared → Prop),
    AOk n A → ScOk env sc → Inv base S μ σ s.heap → FrOk base ec G.V S μ env ρ s.heap → evEs Φ cs ρ σ = some (vs, σ₁) → rdAll σ₁ vs = some ds → itemsD k ds = some xs →
    (∀ I h₀ h₁ tk S₀ fp wr St Mid Ok, Ev base μ S S₀ σ σ₁ s.heap h₀ → Made prog w A μ S₀ (flagAll .locked (liveOf σ₁ vs) σ₁) k xs I h₀ h₁ fp wr St Mid Ok → Q (.ref I) { s with heap := h₁, toks := tk }) →
    wpAny (model prog w) A (eval e env) (fun xv s₁ => wpAny (model prog w) A (pyIter xv) Q E s₁) E s

section
variable {prog : Program} {w : World} {base : Heap} {ec : ExcCls} {G : Cfg} {n : Nat} {Φ : Phi} {sc : Sc}

theorem noSet_fold {e : Expr} (h : noSet e = true) : ∀ env x, foldedSetIterable e env x = pure x := by
  intro env x
  cases e <;> first | rfl | cases h

theorem fresh_not {h : Heap} {a : Addr} {o : Obj} (e : h.get? a = some o) : a ≠ h.objs.size := Nat.ne_of_lt (Heap.lt_size e)

theorem seqD_get {h : Heap} {S : Addr → Prop} {v : Value} {d : PyData} {xs : List PyData} (r : Rt h S v d) (e : seqD d = some xs) : ∃ k a vs m, v = .ref a ∧ h.get? a = some (seqO k vs m) ∧ RdL h S vs xs := by
  cases d <;> first | (cases e; done) | skip
  · cases e
    obtain ⟨a, vs, m, rfl, e, q⟩ := r.lstD
    exact ⟨true, a, vs, m, rfl, e, q⟩
  · cases e
    obtain ⟨a, vs, m, rfl, _, e, q⟩ := r.tupD
    exact ⟨false, a, vs, m, rfl, e, q⟩

theorem made_seq {A : Around} (hA : A.handled = none) {k : Bool} {a : Addr} {vs : List Value} {m : Nat} {xs : List PyData} {h : Heap} {S : Addr → Prop} {μ : List Addr} {σ : Store} (he : h.get? a = some (seqO k vs m)) (r : RdL h S vs xs) (hl : ¬ Live μ σ a)
    (hI : ∀ b, Live μ σ b → ∃ o, h.get? b = some o) : ∃ fp wr St Mid Ok, Made prog w A μ S σ .seq xs h.objs.size h (h.push (iterO k a)) fp wr St Mid Ok := by
  have g : ∀ b o, h.get? b = some o → (h.push (iterO k a)).get? b = some o := fun _ _ e => Heap.get?_push_of_some _ e
  have hi : (h.push (iterO k a)).get? h.objs.size = some (iterO k a) := Heap.get?_push_size _ rfl
  have nl : ∀ b, b = h.objs.size ∨ b = a → ¬ Live μ σ b := fun b hb l => by
    rcases hb with rfl | rfl
    · obtain ⟨o, e⟩ := hI _ l
      exact fresh_not e rfl
    · exact hl l
  cases k with
  | true => exact ⟨_, _, _, _, _, Src.list hA h.objs.size a (fresh_not he) vs m xs, g, ⟨itAt_new (k := true) hi, g _ _ he⟩, r.mono (fun b o _ e => g b o e) (fun _ q => q), fun b hb => hb ▸ fresh_none h, nl⟩
  | false => exact ⟨_, _, _, _, _, Src.tuple hA h.objs.size a (fresh_not he) vs m xs, g, ⟨itAt_new (k := false) hi, g _ _ he⟩, r.mono (fun b o _ e => g b o e) (fun _ q => q), fun b hb => hb ▸ fresh_none h, nl⟩

theorem live_has {h : Heap} {S : Addr → Prop} {μ : List Addr} {σ : Store} (I : Inv base S μ σ h) : ∀ b, Live μ σ b → ∃ o, h.get? b = some o := fun b l => let ⟨_, _, e⟩ := l.obj I; ⟨_, e⟩

theorem si_seq {e : Expr} {c : CE} (hn : noSet e = true) (H : SE prog w base ec G n Φ sc e c) : SI prog w base ec G n Φ sc e .seq [c] := by
  refine ⟨noSet_fold hn, fun A env ρ σ σ₁ vs ds xs S μ s Q E hA hs I F q₁ q₂ q₃ P => ?_⟩
  simp only [evEs] at q₁
  split at q₁
  · cases q₁
  · rename_i v σ₂ q
    cases q₁
    simp only [rdAll] at q₂
    split at q₂
    · cases q₂
    · rename_i d qd
      cases q₂
      simp only [itemsD] at q₃
      refine seq1 H hA hs I F q fun u h' tk S' x r F' => ?_
      have t := r.rt x.inv qd
      obtain ⟨k, a, us, m, rfl, he, rl⟩ := seqD_get t q₃
      refine pyIter_k he ?_
      have L := lock_ev (L := liveOf σ₁ [settle v]) x.inv liveOf_ok
      obtain ⟨fp, wr, St, Mid, Ok, M⟩ := made_seq (prog := prog) (w := w) (μ := μ) hA.hd he rl (seq_locked x.inv (.head _) r rfl) (live_has L.inv)
      exact P _ _ _ tk S' _ _ _ _ _ x M

theorem made_range {A : Around} (hA : A.handled = none) {k : ItK} (hk : Tk k = fun t => isNameT t = true) {a b : Int} {r : Addr} {t u v : Tok} {s : Shared} {h : Heap} {S : Addr → Prop} {μ : List Addr} {σ : Store} (hr : IsRange s.heap r a b 1 t u v) (hg : ∀ b o, h.get? b = some o → s.heap.get? b = some o)
    (hI : ∀ b, Live μ σ b → ∃ o, h.get? b = some o) {Q : Value → Shared → Prop} {E : Value → Shared → Prop}
    (P : ∀ I h₁ fp wr St Mid Ok, Made prog w A μ S σ k (rangeL a b) I h h₁ fp wr St Mid Ok → Q (.ref I) { s with heap := h₁ }) : wpAny (model prog w) A (pyIter (.ref r)) Q E s := by
  have hsz : Builtin.Range.rangeSize a b 1 = (((b - a).toNat : Nat) : Int) := by rw [rangeSize_one]; split <;> omega
  have g : ∀ o' b o, h.get? b = some o → (s.heap.push o').get? b = some o := fun _ _ _ e => Heap.get?_push_of_some _ (hg _ _ e)
  have nh : h.get? s.heap.objs.size = none := by
    cases e : h.get? s.heap.objs.size with
    | none => rfl
    | some o => exact absurd rfl (fresh_not (hg _ _ e))
  have nl : ∀ b, b = s.heap.objs.size → ¬ Live μ σ b := fun b hb l => by
    obtain ⟨o, e⟩ := hI b l
    rw [hb, nh] at e; cases e
  have e1 : a + ((0 : Nat) : Int) * 1 = a := by simp
  have e2 : (((b - a).toNat : Nat) : Int) - ((0 : Nat) : Int) = Builtin.Range.rangeSize a b 1 := by rw [hsz]; simp
  cases hs : Builtin.Range.small a b 1 with
  | true =>
    refine wpAny_pyIter_range hr hs (P _ _ (fun c => c = s.heap.objs.size) (fun c => c = s.heap.objs.size) _ _ _ ⟨by rw [hk]; exact Src.range hA s.heap.objs.size a b, g _, ?_, trivial, fun b hb => hb ▸ nh, nl⟩)
    show IsRangeIter _ _ _ _ _
    rw [e1, e2]
    exact Heap.get?_push_size _ rfl
  | false =>
    refine wpAny_pyIter_longrange hr hs (P _ _ (fun c => c = s.heap.objs.size) (fun c => c = s.heap.objs.size) _ _ _ ⟨by rw [hk]; exact Src.long hA s.heap.objs.size a b, g _, ?_, trivial, fun b hb => hb ▸ nh, nl⟩)
    show IsLongIter _ _ _ _ _
    rw [e1, e2]
    exact Heap.get?_push_size _ rfl

theorem call_fold {g : Expr} {es : List Expr} {ks : List Keyword} {pos : Pos} : ∀ env x, foldedSetIterable (.Call g es ks pos) env x = pure x := fun _ _ => rfl

theorem RdA.intV {h : Heap} {S : Addr → Prop} {μ : List Addr} {σ : Store} (I : Inv base S μ σ h) {v : Value} {av : AV} {i : Int} (r : RdA ec h S μ v av) (e : rd σ av = some (.int i)) : ∃ t, v = .int i t := (r.rt I e).intD

theorem si_range1 (W : Wd base ec G) {g : Str} {p pos : Pos} {e : Expr} {c : CE} (hg : isGlob sc g = true) (ho : okName g = true) (hr : (g == ("range" : Str)) = true) (hn : noStar e = true) (H : SE prog w base ec G n Φ sc e c) : SI prog w base ec G n Φ sc (.Call (.Name g p) [e] [] pos) .range1 [c] := by
  refine ⟨call_fold, fun A env ρ σ σ₁ vs ds xs S μ s Q E hA hs I F q₁ q₂ q₃ P => ?_⟩
  rw [beq_iff_eq] at hr
  subst hr
  refine wpAny_Call_Name_kw (eval_glob F I.keepB ((hs.gl _).trans hg) ho (W.blt _ (.type "range") (by unfold bltL; simp)) ?_)
  refine callB_ok (.inr ⟨_, rfl⟩) (by simp) (.cons hn H .nil) hA hs I F q₁ fun us h' tk S' x r => ?_
  have rl := r.rtL x.inv q₂
  unfold itemsD at q₃
  split at q₃ <;> first | (rename_i hh; cases hh; done) | skip
  all_goals first | (rename_i hk _; cases hk; done) | skip
  · rename_i b
    split at q₃
    · cases q₃
      cases rl with
      | cons ru rl => cases rl with
        | nil =>
          obtain ⟨t, rfl⟩ := ru.intD
          refine call_range_1 ?_
          have L := lock_ev (L := liveOf σ₁ vs) x.inv liveOf_ok
          exact made_range hA.hd rfl (S := S') (μ := μ) (IsRange.new ..) (fun _ _ e => Heap.get?_push_of_some _ e) (live_has L.inv) fun I h₁ fp wr St Mid Ok M => P I h' h₁ _ S' fp wr St Mid Ok x M
    · cases q₃
  all_goals cases q₃
theorem si_range2 (W : Wd base ec G) {g : Str} {p pos : Pos} {e f : Expr} {c d : CE} (hg : isGlob sc g = true) (ho : okName g = true) (hr : (g == ("range" : Str)) = true) (hn : noStar e = true) (hm : noStar f = true) (H : SE prog w base ec G n Φ sc e c) (H' : SE prog w base ec G n Φ sc f d) : SI prog w base ec G n Φ sc (.Call (.Name g p) [e, f] [] pos) .range2 [c, d] := by
  refine ⟨call_fold, fun A env ρ σ σ₁ vs ds xs S μ s Q E hA hs I F q₁ q₂ q₃ P => ?_⟩
  rw [beq_iff_eq] at hr
  subst hr
  refine wpAny_Call_Name_kw (eval_glob F I.keepB ((hs.gl _).trans hg) ho (W.blt _ (.type "range") (by unfold bltL; simp)) ?_)
  refine callB_ok (.inr ⟨_, rfl⟩) (by simp) (.cons hn H (.cons hm H' .nil)) hA hs I F q₁ fun us h' tk S' x r => ?_
  have rl := r.rtL x.inv q₂
  unfold itemsD at q₃
  split at q₃ <;> first | (rename_i hh; cases hh; done) | skip
  all_goals first | (rename_i hk _; cases hk; done) | skip
  · rename_i a b
    split at q₃
    · cases q₃
      cases rl with
      | cons ru rl => cases rl with
        | cons ru' rl => cases rl with
          | nil =>
            obtain ⟨t, rfl⟩ := ru.intD
            obtain ⟨t', rfl⟩ := ru'.intD
            refine call_range_2 ?_
            have L := lock_ev (L := liveOf σ₁ vs) x.inv liveOf_ok
            exact made_range hA.hd rfl (S := S') (μ := μ) (IsRange.new ..) (fun _ _ e => Heap.get?_push_of_some _ e) (live_has L.inv) fun I h₁ fp wr St Mid Ok M => P I h' h₁ _ S' fp wr St Mid Ok x M
    · cases q₃
  all_goals cases q₃

theorem si_zip (W : Wd base ec G) {g : Str} {p pos : Pos} {e f : Expr} {c d : CE} (hg : isGlob sc g = true) (ho : okName g = true) (hr : (g == ("zip" : Str)) = true) (hn : noStar e = true) (hm : noStar f = true) (H : SE prog w base ec G n Φ sc e c) (H' : SE prog w base ec G n Φ sc f d) : SI prog w base ec G n Φ sc (.Call (.Name g p) [e, f] [] pos) .zip [c, d] := by
  refine ⟨call_fold, fun A env ρ σ σ₁ vs ds xs S μ s Q E hA hs I F q₁ q₂ q₃ P => ?_⟩
  rw [beq_iff_eq] at hr
  subst hr
  refine wpAny_Call_Name_kw (eval_glob F I.keepB ((hs.gl _).trans hg) ho (W.blt _ (.type "zip") (by unfold bltL; simp)) ?_)
  refine callB_ok (.inr ⟨_, rfl⟩) (by simp) (.cons hn H (.cons hm H' .nil)) hA hs I F q₁ fun us h' tk S' x r => ?_
  have rl := r.rtL x.inv q₂
  unfold itemsD at q₃
  split at q₃ <;> first | (rename_i hh; cases hh; done) | skip
  all_goals first | (rename_i hk _; cases hk; done) | skip
  · rename_i d1 d2
    split at q₃
    · rename_i ys zs e1 e2
      cases q₃
      cases rl with
      | cons ru rl => cases rl with
        | cons ru' rl => cases rl with
          | nil =>
            cases r with
            | @cons v1 _ av1 _ r1 r => cases r with
              | @cons v2 _ av2 _ r2 r => cases r with
                | nil =>
                  obtain ⟨k1, l1, us, m1, rfl, g1, rl1⟩ := seqD_get ru e1
                  obtain ⟨k2, l2, ws, m2, rfl, g2, rl2⟩ := seqD_get ru' e2
                  have L := lock_ev (L := liveOf σ₁ [av1, av2]) x.inv liveOf_ok
                  have lv := live_has L.inv
                  have s1 := seq_locked x.inv (vs := [av1, av2]) (.head _) r1 rfl
                  have s2 := seq_locked x.inv (vs := [av1, av2]) (.tail _ (.head _)) r2 rfl
                  refine call_zipK (s := { s with heap := h', toks := tk }) g1 g2 fun h₁ a1 a2 a3 a4 a5 a6 a7 => ?_
                  have lt1 : @LT.lt Nat _ l1 h'.objs.size := Heap.lt_size g1
                  have lt2 : @LT.lt Nat _ l2 h'.objs.size := Heap.lt_size g2
                  dsimp only at a1 a2 a3 a4 a5 a6 a7 ⊢
                  generalize hN : h'.objs.size = N at *
                  have D : ZA (N + 4) (N + 2) (N + 3) N (N + 1) l1 l2 := by
                    constructor <;> (show ¬ (_ : Nat) = _) <;> omega
                  refine wpAny_pyIter_zip a1 (P (N + 4) h' h₁ tk S' _ _ _ _ _ x ⟨Src.zip hA.hd _ _ _ _ _ _ _ D us ws m1 m2 ys zs, a7, ⟨a1, a2, ⟨_, _, a3⟩, a4, a5, a7 _ _ g1, a7 _ _ g2⟩, ⟨rl1.mono (fun b o _ e => a7 b o e) fun _ q => q, rl2.mono (fun b o _ e => a7 b o e) fun _ q => q⟩, fun b hb => ?_, fun b hb l => ?_⟩)
                  · have hle : @LE.le Nat _ N b := by rcases hb with rfl | rfl | rfl | rfl <;> omega
                    cases e : h'.get? b with
                    | none => rfl
                    | some o => have : @LT.lt Nat _ b h'.objs.size := Heap.lt_size e; omega
                  · have hlt : ∀ b, Live μ (flagAll .locked (liveOf σ₁ [av1, av2]) σ₁) b → @LT.lt Nat _ b N := fun b l => by obtain ⟨o, e⟩ := lv b l; rw [← hN]; exact Heap.lt_size e
                    have hb' := hlt b l
                    rcases hb with rfl | rfl | rfl | rfl | rfl | rfl | rfl
                    · omega
                    · omega
                    · omega
                    · omega
                    · omega
                    · exact s1 l
                    · exact s2 l
    · cases q₃
  all_goals cases q₃
end
end Mine

-- M13
namespace Mine
open PySem PySem.Calls PyProof.Rows

/-! ## Targets -/

noncomputable def erase (tg : Tgt) (ρ : Rho) : Rho := fun j => if tg.has j then none else ρ j

theorem bindMany_agree : ∀ {is : List Nat} {ds : List PyData} {ρ₁ ρ₂ ρ' : Rho}, (∀ j, j ∉ is → ρ₁ j = ρ₂ j) → bindMany is ds ρ₁ = some ρ' → bindMany is ds ρ₂ = some ρ' := by
  intro is
  induction is with
  | nil =>
    intro ds ρ₁ ρ₂ ρ' h e
    cases ds with
    | nil =>
      have : ρ₁ = ρ₂ := funext fun j => h j (by simp)
      rw [← this]; exact e
    | cons _ _ => cases e
  | cons i is ih =>
    intro ds ρ₁ ρ₂ ρ' h e
    cases ds with
    | nil => cases e
    | cons d ds =>
      refine ih (ρ₁ := ρ₁.set i (.dat d)) (fun j hj => ?_) e
      unfold Rho.set
      split
      · rfl
      · rename_i hne; exact h j (by simp [hne, hj])
theorem bindMany_other : ∀ {is : List Nat} {ds : List PyData} {ρ ρ' : Rho} {j : Nat}, bindMany is ds ρ = some ρ' → j ∉ is → ρ' j = ρ j := by
  intro is
  induction is with
  | nil => intro ds ρ ρ' j h _; cases ds with | nil => cases h; rfl | cons _ _ => cases h
  | cons i is ih =>
    intro ds ρ ρ' j h hj
    cases ds with
    | nil => cases h
    | cons d ds =>
      have := ih (ρ := ρ.set i (.dat d)) h (fun q => hj (.tail _ q))
      rw [this]
      unfold Rho.set
      rw [if_neg (fun q => hj (by rw [q]; exact .head _))]
theorem bindT_erase {tg : Tgt} {d : PyData} {ρ ρ' : Rho} (h : bindT tg d ρ = some ρ') : bindT tg d (erase tg ρ) = some ρ' := by
  cases tg with
  | one i =>
    cases h
    show some _ = some _
    congr 1
    funext j
    unfold Rho.set erase Tgt.has
    by_cases q : j = i
    · simp [q]
    · simp [q, Ne.symm q]
  | many is =>
    cases d <;> first | (cases h; done) | skip
    refine bindMany_agree (fun j hj => ?_) h
    unfold erase Tgt.has
    simp [hj]
theorem bindT_other {tg : Tgt} {d : PyData} {ρ ρ' : Rho} {j : Nat} {av : AV} (h : bindT tg d ρ = some ρ') (e : erase tg ρ j = some av) : ρ' j = some av := by
  unfold erase at e
  split at e
  · cases e
  · rename_i hn
    cases tg with
    | one i =>
      cases h
      unfold Rho.set
      rw [if_neg (fun q => hn (by simp [Tgt.has, q]))]
      exact e
    | many is =>
      cases d <;> first | (cases h; done) | skip
      rw [bindMany_other h (fun q => hn (by simp [Tgt.has, q]))]
      exact e

/-! ## The block of a comprehension -/

theorem closure_go (env : Env) : ∀ (names : List (Str × NameKind)) (acc : List (Str × Addr)), (∀ p ∈ names, p.2 = .free → ∃ c, env.cells.lookup p.1 = some c) →
    ∃ cl, (forIn names acc fun (x : Str × NameKind) r => match x with | (name, kind) => if (kind == NameKind.free) = true then do let a ← cellOf env name; pure (ForInStep.yield ((name, a) :: r)) else pure (ForInStep.yield r) : Sem (List (Str × Addr))) = pure cl ∧
      (∀ x c, (x, c) ∈ cl → (x, c) ∈ acc ∨ env.cells.lookup x = some c) ∧ (∀ x, ((x, NameKind.free) ∈ names ∨ ∃ c, (x, c) ∈ acc) → ∃ c, (x, c) ∈ cl) := by
  intro names
  induction names with
  | nil => intro acc _; exact ⟨acc, rfl, fun _ _ h => .inl h, fun x h => h.elim (fun q => nomatch q) id⟩
  | cons p names ih =>
    intro acc h
    obtain ⟨x, k⟩ := p
    rw [List.forIn_cons]
    dsimp only
    by_cases hk : k = .free
    · subst hk
      obtain ⟨c, hc⟩ := h (x, .free) (.head _) rfl
      have e : cellOf env x = pure c := by unfold cellOf; dsimp only at hc; rw [hc]
      rw [if_pos (by rfl), e, pure_bind, pure_bind]
      obtain ⟨cl, e', h1, h2⟩ := ih ((x, c) :: acc) fun p hp => h p (.tail _ hp)
      refine ⟨cl, e', fun y d hy => ?_, fun y hy => ?_⟩
      · rcases h1 y d hy with q | q
        · rcases List.mem_cons.mp q with q | q
          · cases q; exact .inr hc
          · exact .inl q
        · exact .inr q
      · rcases hy with hy | ⟨d, hy⟩
        · rcases List.mem_cons.mp hy with q | q
          · cases q; exact h2 x (.inr ⟨c, .head _⟩)
          · exact h2 y (.inl q)
        · exact h2 y (.inr ⟨d, .tail _ hy⟩)
    · have hb : (k == NameKind.free) = false := by simpa using hk
      rw [if_neg (by rw [hb]; exact Bool.false_ne_true), pure_bind]
      obtain ⟨cl, e', h1, h2⟩ := ih acc fun p hp => h p (.tail _ hp)
      refine ⟨cl, e', h1, fun y hy => ?_⟩
      rcases hy with hy | hy
      · rcases List.mem_cons.mp hy with q | q
        · cases q; exact absurd rfl hk
        · exact h2 y (.inl q)
      · exact h2 y (.inr hy)
theorem lookup_of_mem {α : Type} : ∀ {l : List (Str × α)} {x : Str} {c : α}, (x, c) ∈ l → ∃ d, l.lookup x = some d := by
  intro l
  induction l with
  | nil => intro x c h; cases h
  | cons p l ih =>
    intro x c h
    obtain ⟨y, d⟩ := p
    rw [List.lookup_cons]
    by_cases q : x = y
    · subst q; simp
    · have : (x == y) = false := by simpa using q
      rw [this]
      rcases List.mem_cons.mp h with z | z
      · cases z; exact absurd rfl q
      · exact ih z
theorem closure_ok {scope : Scope} {env : Env} (h : ∀ p ∈ scope.names, p.2 = .free → ∃ c, env.cells.lookup p.1 = some c) : ∃ cl, closureFor scope env = pure cl ∧ (∀ x c, (x, c) ∈ cl → env.cells.lookup x = some c) ∧ (∀ x, (x, NameKind.free) ∈ scope.names → ∃ c, cl.lookup x = some c) := by
  obtain ⟨cl, e, h1, h2⟩ := closure_go env scope.names [] h
  refine ⟨cl, ?_, fun x c hx => (h1 x c hx).elim (fun q => nomatch q) id, fun x hx => ?_⟩
  · show (forIn scope.names [] (fun (x : Str × NameKind) r => match x with | (name, kind) => if (kind == NameKind.free) = true then do let a ← cellOf env name; pure (ForInStep.yield ((name, a) :: r)) else pure (ForInStep.yield r)) >>= fun cs => pure cs : Sem (List (Str × Addr))) = pure cl
    rw [e, pure_bind]
  · obtain ⟨c, hc⟩ := h2 x (.inl hx)
    exact lookup_of_mem hc

theorem relabel_lookup {env : Env} : ∀ (names : List (Str × NameKind)) (x : Str), (names.map fun (n, k) => if (k == NameKind.free && env.scope.kind == .function && env.kindOf n == some .cell) then (n, NameKind.cell) else (n, k)).lookup x = names.lookup x ∨
    (names.lookup x = some .free ∧ (names.map fun (n, k) => if (k == NameKind.free && env.scope.kind == .function && env.kindOf n == some .cell) then (n, NameKind.cell) else (n, k)).lookup x = some .cell)
  | [], _ => .inl rfl
  | (n, k) :: r, x => by
    have ih := @relabel_lookup env r x
    rw [List.map_cons, List.lookup_cons]
    dsimp only
    by_cases hc : (k == NameKind.free && env.scope.kind == .function && env.kindOf n == some .cell) = true
    · rw [if_pos hc, List.lookup_cons]
      cases hx : x == n with
      | true =>
        right
        refine ⟨?_, rfl⟩
        rw [Bool.and_eq_true, Bool.and_eq_true] at hc
        have : k = .free := by simpa using hc.1.1
        rw [this]
      | false => exact ih
    · rw [if_neg hc, List.lookup_cons]
      cases hx : x == n with
      | true => exact .inl rfl
      | false => exact ih
theorem comp_sc {scope : Scope} {cl : List (Str × Addr)} {C : Addr} {env : Env} : ScOk (compEnvC scope cl C env) scope.names := fun x => relabel_lookup scope.names x

theorem kindIs_eq {k : Option NameKind} {j : NameKind} (h : kindIs k j = true) : k = some j := by
  unfold kindIs at h
  split at h <;> first | rfl | cases h

structure Fits (sc : Sc) (scope : Scope) : Prop where
  kind : scope.kind = .function
  cell : ∀ y ∈ scope.names, y.2 ≠ .cell
  loc : ∀ y ∈ scope.names, y.2 = .local → scope.names.lookup y.1 = some .local
  free : ∀ y ∈ scope.names, y.2 = .free → sc.lookup y.1 = some .cell ∨ sc.lookup y.1 = some .free
theorem scopeFits_ok {sc : Sc} {scope : Scope} (h : scopeFits sc scope = true) : Fits sc scope := by
  unfold scopeFits at h
  rw [Bool.and_eq_true] at h
  obtain ⟨h1, h2⟩ := h
  have h2' := List.all_eq_true.mp h2
  refine ⟨?_, fun y hy e => ?_, fun y hy e => ?_, fun y hy e => ?_⟩
  · split at h1
    · rename_i q; exact q
    · cases h1
  · have := h2' y hy
    rw [e] at this; cases this
  · have := h2' y hy
    rw [e] at this; exact kindIs_eq this
  · have := h2' y hy
    rw [e] at this
    rw [Bool.or_eq_true] at this
    exact this.imp kindIs_eq kindIs_eq

theorem mem_lookup {α : Type} : ∀ {l : List (Str × α)} {x : Str} {c : α}, l.lookup x = some c → (x, c) ∈ l := by
  intro l
  induction l with
  | nil => intro x c h; cases h
  | cons p l ih =>
    intro x c h
    obtain ⟨y, d⟩ := p
    rw [List.lookup_cons] at h
    cases q : x == y with
    | true => rw [q] at h; cases h; rw [beq_iff_eq] at q; subst q; exact .head _
    | false => rw [q] at h; exact .tail _ (ih h)

section
variable {base : Heap} {ec : ExcCls} {G : Cfg} {S : Addr → Prop} {μ : List Addr} {env : Env} {ρ : Rho} {h : Heap} {sc : Sc} {scope : Scope} {cl : List (Str × Addr)} {C : Addr} {tg : Tgt}

theorem free_kind (hs : ScOk env sc) (ft : Fits sc scope) {x : Str} (hx : (x, NameKind.free) ∈ scope.names) : env.kindOf x = some .cell ∨ env.kindOf x = some .free := by
  rcases ft.free _ hx rfl with q | q
  · rcases hs x with z | ⟨z, _⟩
    · exact .inl (z.trans q)
    · rw [z] at q; cases q
  · rcases hs x with z | ⟨_, z⟩
    · exact .inr (z.trans q)
    · exact .inl z
theorem comp_free (ft : Fits sc scope) {x : Str} (hx : (compEnvC scope cl C env).kindOf x = some .cell ∨ (compEnvC scope cl C env).kindOf x = some .free) : (x, NameKind.free) ∈ scope.names := by
  have k : (compEnvC scope cl C env).kindOf x = (compEnvC scope cl C env).scope.names.lookup x := rfl
  rcases comp_sc (scope := scope) (cl := cl) (C := C) (env := env) x with q | ⟨q, _⟩
  · rw [k, q] at hx
    rcases hx with z | z
    · exact absurd rfl (ft.cell _ (mem_lookup z))
    · exact mem_lookup z
  · exact mem_lookup q

theorem comp_frame (hs : ScOk env sc) (ft : Fits sc scope) (hl : locsIn G scope tg = true) (F : FrOk base ec G.V S μ env ρ h) (hc1 : ∀ x c, (x, c) ∈ cl → env.cells.lookup x = some c) (hc2 : ∀ x, (x, NameKind.free) ∈ scope.names → ∃ c, cl.lookup x = some c)
    {m : Str → Option Value} (hn : h.Ns C m) (hb : base.get? C = none) : FrOk base ec G.V S μ (compEnvC scope cl C env) (erase tg ρ) h where
  kind := by show (relabel scope env).kind = _; exact ft.kind
  glob := F.glob
  blt := F.blt
  ns := ⟨m, hn, fun x i av hx hi hk => by
    have hm : (x, NameKind.local) ∈ scope.names := by
      rcases comp_sc (scope := scope) (cl := cl) (C := C) (env := env) x with q | ⟨_, q⟩
      · exact mem_lookup (q.symm.trans hk)
      · have hk' : (compEnvC scope cl C env).scope.names.lookup x = some .local := hk
        rw [q] at hk'; cases hk'
    have := List.all_eq_true.mp hl _ hm
    dsimp only at this
    rw [hx] at this
    unfold erase at hi
    rw [if_pos this] at hi; cases hi⟩
  cell := fun x c hc => F.cell x c (hc1 x c (mem_of_lookup hc))
  val := fun x c i av h0 hx hi hk => by
    have hm := comp_free ft hk
    have hi' : ρ i = some av := by unfold erase at hi; split at hi; cases hi; exact hi
    exact F.val x c i av (hc1 x c (mem_of_lookup h0)) hx hi' (free_kind hs ft hm)
  has := fun x hk => hc2 x (comp_free ft hk)
  apart := fun x y c hx hy => F.apart x y c (hc1 x c (mem_of_lookup hx)) (hc1 y c (mem_of_lookup hy))
  newL := hb
  newC := fun x c hc => F.newC x c (hc1 x c (mem_of_lookup hc))
end

/-! ## The loop of a comprehension -/

section
variable {prog : Program} {w : World} {base : Heap} {ec : ExcCls} {G : Cfg} {n : Nat} {Φ : Phi} {sc : Sc}

theorem tests_false {A : Around} {env : Env} {E : Value → Shared → Prop} {Q : Bool → Shared → Prop} {s : Shared} : ∀ (ifs : List Expr), Q false s →
    wpAny (model prog w) A (forIn ifs false fun c r => if r = true then do let ok ← isTrue c env (eval c env); pure (ForInStep.yield ok) else pure (ForInStep.yield r)) Q E s := by
  intro ifs
  induction ifs with
  | nil => intro h; exact wpAny_pure h
  | cons c ifs ih =>
    intro h
    rw [List.forIn_cons]
    simp only [Bool.false_eq_true, if_false]
    rw [pure_bind]
    exact ih h
theorem tests_ok {A : Around} {env : Env} : ∀ {ifs : List Expr} {cs : List CE} (ρ : Rho) (σ σ' : Store) (b : Bool) (S : Addr → Prop) (μ : List Addr) (s : Shared) (Q : Bool → Shared → Prop) (E : Value → Shared → Prop),
    SBs prog w base ec G n Φ sc ifs cs → AOk n A → ScOk env sc → Inv base S μ σ s.heap → FrOk base ec G.V S μ env ρ s.heap → evB Φ .And cs ρ σ = some (b, σ') → (∀ h' tk S', Ev base μ S S' σ σ' s.heap h' → Q b { s with heap := h', toks := tk }) →
    wpAny (model prog w) A (forIn ifs true fun c r => if r = true then do let ok ← isTrue c env (eval c env); pure (ForInStep.yield ok) else pure (ForInStep.yield r)) Q E s := by
  intro ifs
  induction ifs with
  | nil =>
    intro cs ρ σ σ' b S μ s Q E hS hA hs I F q P
    cases hS
    simp only [evB] at q
    cases q
    exact wpAny_pure (P s.heap s.toks S (.refl I))
  | cons c ifs ih =>
    intro cs ρ σ σ' b S μ s Q E hS hA hs I F q P
    cases hS with
    | @cons _ _ c' cs' H hS =>
    simp only [evB] at q
    split at q
    · cases q
    · rename_i v σ₁ q₁
      split at q
      · cases q
      · rename_i b₁ hb
        rw [List.forIn_cons]
        simp only [if_true]
        refine wpAny_bind (wpAny_bind (H.2 A env ρ σ σ₁ v b₁ S μ s _ E hA hs I F q₁ hb fun h' tk S' x => wpAny_pure ?_))
        cases b₁ with
        | false =>
          cases q
          exact tests_false ifs (P h' tk S' x)
        | true => exact ih ρ σ₁ σ' b S' μ { s with heap := h', toks := tk } Q E hS hA hs x.inv (F.ev I x) q fun h'' tk' S'' x' => P h'' tk' S'' (x.trans x')

theorem comp_loop {A : Around} {elt iter target : Expr} {ifs : List Expr} {scope : Scope} {pos : Pos} {I : Addr} {xs : List PyData} {fp wr : Addr → Prop} {St : Nat → Heap → Prop} {Mid : Nat → Value → Heap → Prop} {Ok : (Addr → Prop) → Heap → Prop} {T : Expr → Prop}
    {cenv : Env} {D : Addr} {tg : Tgt} {ρ : Rho} {μ : List Addr} {S₀ : Addr → Prop} {σ₀ : Store} {h₀ : Heap} {ce : CE} {cs : List CE} (Z : Src prog w A I fp wr xs T St Mid Ok) (hA : AOk n A) (hs : ScOk cenv sc) (hT : T target) (htr : trT G sc target = some tg) (hloc : locE cenv target)
    (I₀ : Inv base S₀ μ σ₀ h₀) (H : SE prog w base ec G n Φ sc elt ce) (hS : SBs prog w base ec G n Φ sc ifs cs) (hC0 : h₀.get? cenv.locals = none) (hD0 : h₀.get? D = none) (hDf : ¬ fp D) :
    ∀ (rest : List PyData) (i : Nat) (acc out : List PyData) (ys : List Value) (m : Nat) (S : Addr → Prop) (σ σ' : Store) (s : Shared) (R : Result → Shared → Prop), xs.drop i = rest → i ≤ xs.length → Lp base (fun _ => False) μ S₀ σ₀ h₀ fp wr St Ok i μ S σ s.heap → FrOk base ec G.V S μ cenv (erase tg ρ) s.heap →
      s.heap.get? D = some (lstO ys m) → RdL s.heap S ys acc → ¬ S D → acc.length + rest.length ≤ lim → compGo (fun ρ' σ' => evE Φ ce ρ' σ') (fun ρ' σ' => evB Φ .And cs ρ' σ') tg ρ rest σ = some (out, σ') →
      (∀ h' tk S' ys' m', Evo base (fun _ => False) μ μ S₀ S' σ₀ σ' h₀ h' → FrOk base ec G.V S' μ cenv (erase tg ρ) h' → h'.get? D = some (lstO ys' m') → RdL h' S' ys' (acc ++ out) → ¬ S' D → R (.ok .next) { s with heap := h', toks := tk }) →
      codeAny (model prog w) A (.compLoop (.ListComp elt [⟨target, iter, ifs, 0⟩] scope pos) 0 (.ref I) (.ref D) cenv) R s := by
  have hDm : D ∉ μ := fun q => by obtain ⟨_, _, e⟩ := I₀.mem q; rw [hD0] at e; cases e
  have hDb : base.get? D = none := by
    cases e : base.get? D with
    | none => rfl
    | some o => rw [I₀.keepB D o e] at hD0; cases hD0
  intro rest
  induction rest with
  | nil =>
    intro i acc out ys m S σ σ' s R hd hi L F hl rl hDS hz q P
    simp only [compGo] at q
    cases q
    have hi' : i = xs.length := by have := List.drop_eq_nil_iff.mp hd; omega
    subst hi'
    refine codeAny_of_tree ?_
    show wpAny _ A ((compTurn (.ListComp elt [⟨target, iter, ifs, 0⟩] scope pos) 0 (.ref I) (.ref D) cenv).onRaise (fun x => do noteFrame x cenv; theTreesLotGoes x)) _ _ s
    refine wpAny_noted ?_
    rw [compTurn_list]
    refine wpAny_bind (wpAny_standAt (wpAny_bind (L.done Z fun h₂ tk mv ev => wpAny_pure ?_)))
    have hwD : ¬ wr D := fun q => hDf (Z.sub D q)
    have hwO : ∀ a, Own cenv a → ¬ wr a := fun a ha q => by
      obtain ⟨o, e, p⟩ := Z.alloc _ _ a L.st (Z.sub a q)
      exact ha.notList F e p
    refine P h₂ tk S ys m ev (F.mv mv (fun a q hs => L.nw a hs q) hwO) (mv.keep D _ hwD hl) ?_ hDS
    rw [List.append_nil]
    exact rl.mono (fun a o hs e => mv.keep a o (L.nw a hs) e) fun _ q => q
  | cons d rest ih =>
    intro i acc out ys m S σ σ' s R hd hi L F hl rl hDS hz q P
    have hlt : i < xs.length := by
      rcases Nat.lt_or_ge i xs.length with q | q
      · exact q
      · rw [List.drop_eq_nil_of_le q] at hd; cases hd
    have hxi : xs[i]? = some d := by
      have := congrArg (fun l => l[0]?) hd
      simpa using this
    have hd' : xs.drop (i + 1) = rest := by
      have := congrArg List.tail hd
      simpa using this
    simp only [compGo] at q
    split at q
    · cases q
    · rename_i ρ' hb
      refine codeAny_of_tree ?_
      show wpAny _ A ((compTurn (.ListComp elt [⟨target, iter, ifs, 0⟩] scope pos) 0 (.ref I) (.ref D) cenv).onRaise (fun x => do noteFrame x cenv; theTreesLotGoes x)) _ _ s
      refine wpAny_noted ?_
      rw [compTurn_list]
      refine wpAny_bind (wpAny_standAt (wpAny_bind (L.next Z hxi hT fun v h₂ tk₂ S₂ go => ?_)))
      refine wpAny_bind (go _ _ fun h₃ mv L₃ rv => ?_)
      have hwD : ¬ wr D := fun q => hDf (Z.sub D q)
      have hwO : ∀ a, Own cenv a → ¬ wr a := fun a ha q => by
        obtain ⟨o, e, p⟩ := Z.alloc _ _ a L.st (Z.sub a q)
        exact ha.notList F e p
      have F₃ := F.mv mv (fun a q hs => L.nw a hs q) hwO
      have l₃ := mv.keep D _ hwD hl
      have hDS₃ : ¬ S₂ D := fun q => by
        rcases mv.new D q with z | z
        · exact hDS z
        · rw [z] at hl; cases hl
      have rl₃ : RdL h₃ S₂ ys acc := rl.mono (fun a o hs e => mv.keep a o (L.nw a hs) e) mv.sub
      refine wpAny_bind (bind_ok (lc := true) (s := { s with heap := h₃, toks := tk₂ }) htr hA.hd hs (fun _ => hloc) L₃.ev.inv F₃ rv (bindT_erase hb) fun h₄ tk₄ I₄ F₄ k₄ st₄ => ?_)
      have oc : ∀ a, OwnL true cenv a → a = cenv.locals := fun a ha => ha.2 rfl
      have hOC : Own cenv cenv.locals := .inl rfl
      have hCS : ∀ a, OwnL true cenv a → ¬ S₂ a := fun a ha => ha.1.notS L₃.ev.inv F₃
      have hCf : ∀ a, OwnL true cenv a → ¬ fp a := fun a ha q => by
        obtain ⟨o, e, p⟩ := Z.alloc _ _ a L₃.st q
        exact ha.1.notList F₃ e p
      have L₄ : Lp base (fun _ => False) μ S₀ σ₀ h₀ fp wr St Ok (i + 1) μ S₂ σ h₄ := L₃.poke Z (P := OwnL true cenv) k₄ (fun a o ha e => by rw [oc a ha, hC0] at e; cases e) hCS (fun a ha => ha.1.notMu L₃.ev.inv F₃) (fun a ha => ha.1.new F₃) hCf fun a o _ e => st₄ a o e
      have nDO : ¬ OwnL true cenv D := fun q => q.1.notList F₃ l₃ (lst_plain _ _)
      have l₄ := k₄ D _ nDO l₃
      have rl₄ : RdL h₄ S₂ ys acc := rl₃.mono (fun a o hs e => k₄ a o (fun q => hCS a q hs) e) fun _ q => q
      -- the tests
      have next : ∀ (b : Bool) (σ₁ : Store), evB Φ .And cs ρ' σ = some (b, σ₁) → ∀ h₅ S₅, Ev base μ S₂ S₅ σ σ₁ h₄ h₅ → Lp base (fun _ => False) μ S₀ σ₀ h₀ fp wr St Ok (i + 1) μ S₅ σ₁ h₅ ∧ FrOk base ec G.V S₅ μ cenv ρ' h₅ ∧ h₅.get? D = some (lstO ys m) ∧ RdL h₅ S₅ ys acc ∧ ¬ S₅ D := fun b σ₁ _ h₅ S₅ x => by
        have nDl : ¬ Live μ σ D := fun l => hDm (by obtain ⟨i, _, e, _⟩ := l; exact List.mem_of_getElem? e)
        have hD₅ : ¬ S₅ D := fun q => by
          rcases x.new D q with z | z | z
          · exact hDS₃ z
          · rw [z] at l₄; cases l₄
          · exact nDl z
        exact ⟨L₄.step (Y := fun _ => False) Z (Evo.of x) (fun _ _ q => q.elim) (fun _ q => q.elim) (fun _ q => q.elim), F₄.ev I₄ x, x.keep D _ nDl l₄, rl₄.mono (x.keepS I₄) x.sub, hD₅⟩
      cases qt : evB Φ .And cs ρ' σ with
      | none => rw [qt] at q; cases q
      | some p =>
        obtain ⟨b, σ₁⟩ := p
        rw [qt] at q
        refine wpAny_bind (tests_ok ρ' σ σ₁ b S₂ μ { s with heap := h₄, toks := tk₄ } _ _ hS hA hs I₄ F₄ qt fun h₅ tk₅ S₅ x₅ => ?_)
        obtain ⟨L₅, F₅, l₅, rl₅, hD₅⟩ := next b σ₁ qt h₅ S₅ x₅
        cases b with
        | false =>
          dsimp only at q
          refine wpAny_pure ⟨rfl, ?_⟩
          exact ih (i + 1) acc out ys m S₅ σ₁ σ' { s with heap := h₅, toks := tk₅ } R hd' hlt L₅ (F₅.weaken fun j av e => bindT_other hb e) l₅ rl₅ hD₅ (by simp at hz; omega) q P
        | true =>
          dsimp only at q
          split at q
          · cases q
          · rename_i v₁ σ₂ q₁
            split at q
            · cases q
            · rename_i x σ₃ qo
              split at q
              · cases q
              · rename_i zs σ₄ qr
                cases q
                refine wpAny_bind (wpAny_bind (seq1 (s := { s with heap := h₅, toks := tk₅ }) H hA hs L₅.ev.inv F₅ q₁ fun u h₆ tk₆ S₆ x₆ r₆ F₆ => ?_))
                obtain ⟨S₇, x₇, r₇, s₇⟩ := own_step x₆ (settle_notFresh v₁) r₆ qo
                have nDl : ¬ Live μ σ₁ D := fun l => hDm (by obtain ⟨i, _, e, _⟩ := l; exact List.mem_of_getElem? e)
                have L₇ := L₅.step (Y := fun _ => False) Z (Evo.of x₇) (fun _ _ q => q.elim) (fun _ q => q.elim) (fun _ q => q.elim)
                have F₇ := F₅.ev L₅.ev.inv x₇
                have l₇ := x₇.keep D _ nDl l₅
                have rl₇ := rl₅.mono (x₇.keepS L₅.ev.inv) x₇.sub
                have hD₇ : ¬ S₇ D := fun q => by
                  rcases x₇.new D q with z | z | z
                  · exact hD₅ z
                  · rw [z] at l₅; cases l₅
                  · exact nDl z
                refine wpAny_bind (wpAny_list_append_plain (s := { s with heap := h₆, toks := tk₆ }) (l := D) (items := ys.toArray) ⟨m, l₇⟩ (fun h₈ pl sb => ?_) ?_)
                · obtain ⟨m₈, l₈⟩ := pl
                  have k₈ : ∀ b o, ¬ (b = D) → h₆.get? b = some o → h₈.get? b = some o := fun b o hb e => sb.extBut b o hb e
                  have hfD : ∀ a, a = D → ¬ fp a := fun a ha => ha ▸ hDf
                  have L₈ : Lp base (fun _ => False) μ S₀ σ₀ h₀ fp wr St Ok (i + 1) μ S₇ σ₃ h₈ := L₇.poke Z (P := fun b => b = D) k₈ (fun a o ha e => by rw [ha, hD0] at e; cases e) (fun a ha => ha ▸ hD₇) (fun a ha => ha ▸ hDm) (fun a ha => ha ▸ hDb) hfD fun a o ha _ => by subst ha; exact ⟨_, l₈⟩
                  have mv₈ : Mv (fun b => b = D) S₇ S₇ h₆ h₈ := Mv.same k₈
                  have F₈ := F₇.mv mv₈ (fun a ha => ha ▸ hD₇) fun a ha q => ha.notList F₇ (q ▸ l₇) (lst_plain _ _)
                  have kS : ∀ a o, S₇ a → h₆.get? a = some o → h₈.get? a = some o := fun a o hs e => k₈ a o (fun q => hD₇ (q ▸ hs)) e
                  refine wpAny_pure (wpAny_pure ⟨rfl, ?_⟩)
                  refine ih (i + 1) (acc ++ [x]) zs (ys ++ [u]) m₈ S₇ σ₃ _ { s with heap := h₈, toks := tk₆ } R hd' hlt L₈ (F₈.weaken fun j av e => bindT_other hb e) (by rw [l₈]; simp) ((rl₇.append (.one r₇)).mono kS fun _ q => q) hD₇ (by simp at hz ⊢; omega) qr ?_
                  intro h' tk S' ys' m' e1 e2 e3 e4 e5
                  exact P h' tk S' ys' m' e1 e2 e3 (by simpa using e4) e5
                · have := rl₇.length
                  rw [← lim_eq]
                  simp at hz ⊢
                  omega
end
end Mine

-- M14
namespace Mine
open PySem PySem.Calls PyProof.Rows

section
variable {prog : Program} {w : World} {base : Heap} {ec : ExcCls} {G : Cfg} {n : Nat} {Φ : Phi} {sc : Sc}

theorem tgt_kind {k : ItK} {tg : Tgt} {sc : Sc} {t : Expr} (h : tgtFits k tg = true) (ht : trT G sc t = some tg) : Tk k t := by
  cases t <;> first | (cases ht; done) | skip
  · simp only [trT] at ht
    split at ht
    · cases ht
      cases k <;> first | exact rfl | exact .inl rfl | cases h
    · cases ht
  · simp only [trT] at ht
    split at ht
    · cases ht
      cases k <;> first | exact rfl | exact .inr rfl | cases h
    · cases ht

theorem local_locE {scope : Scope} {cl : List (Str × Addr)} {C : Addr} {env : Env} {t : Expr} (h : localT scope.names t = true) : locE (compEnvC scope cl C env) t := by
  cases t <;> first | exact trivial | skip
  · exact lookup_relabel_local (kindIs_eq h)
  · rename_i es _ _
    intro x p hm
    have := List.all_eq_true.mp h _ hm
    exact lookup_relabel_local (kindIs_eq this)

/-- what has just been made, ahead of the first turn -/
theorem Made.lp {A : Around} {μ : List Addr} {S : Addr → Prop} {σ : Store} {k : ItK} {xs : List PyData} {I : Addr} {h₀ h₁ h₂ : Heap} {fp wr : Addr → Prop} {St : Nat → Heap → Prop} {Mid : Nat → Value → Heap → Prop} {Ok : (Addr → Prop) → Heap → Prop} {X : Addr → Prop}
    (M : Made prog w A μ S σ k xs I h₀ h₁ fp wr St Mid Ok) (I₀ : Inv base S μ σ h₀) (hg : ∀ b o, h₁.get? b = some o → h₂.get? b = some o) : Lp base X μ S σ h₀ fp wr St Ok 0 μ S σ h₂ where
  ev := (Evo.refl I₀).poke (wr := fun _ => False) (Mv.same fun b o _ e => hg b o (M.grow b o e)) (fun _ _ q => q.elim) (fun _ q => q.elim) (fun _ q => q.elim) (fun _ q => q.elim) fun _ _ q => q.elim
  st := M.src.frame 0 _ _ M.st fun b o _ e => hg b o e
  ok := M.src.mono _ _ _ _ M.ok (fun _ q => q) fun b o _ e => hg b o e
  nw := fun a hs q => by
    obtain ⟨o, e, _⟩ := I₀.inS a hs
    rw [M.wn a q] at e; cases e
  nl := M.nl
  nm := fun b hb q => by
    obtain ⟨_, _, e⟩ := I₀.mem q
    rw [M.wn b hb] at e; cases e
  wn := M.wn
  wb := fun b hb => by
    cases e : base.get? b with
    | none => rfl
    | some o => have := I₀.keepB b o e; rw [M.wn b hb] at this; cases this

theorem comp_core {elt iter target : Expr} {ifs : List Expr} {scope : Scope} {pos : Pos} {tg : Tgt} {k : ItK} {its cs : List CE} {ce : CE} (ft : Fits sc scope) (hl : locsIn G scope tg = true) (hk : tgtFits k tg = true) (htr : trT G scope.names target = some tg) (hloc : localT scope.names target = true)
    (HI : SI prog w base ec G n Φ sc iter k its) (H : SE prog w base ec G n Φ scope.names elt ce) (hS : SBs prog w base ec G n Φ scope.names ifs cs) {A : Around} {env : Env} {ρ : Rho} {σ σ' : Store} {av : AV} {S : Addr → Prop} {μ : List Addr} {s : Shared} {E : Value → Shared → Prop}
    (hA : AOk n A) (hs : ScOk env sc) (I : Inv base S μ σ s.heap) (F : FrOk base ec G.V S μ env ρ s.heap) (ev : evE Φ (.comp ce tg k its cs) ρ σ = some (av, σ')) {RR : Value → Addr → Result → Shared → Prop}
    (P : ∀ D C h' tk S' ds ys m mm, av = .fresh ds → Ev base μ S S' σ σ' s.heap h' → h'.get? D = some (lstO ys m) → RdL h' S' ys ds → ¬ S' D → s.heap.get? D = none → h'.Ns C mm → s.heap.get? C = none → RR (.ref D) C (.ok .next) { s with heap := h', toks := tk }) :
    ∃ cl, closureFor scope env = pure cl ∧ wpAny (model prog w) A (eval iter env) (fun x s₁ => wpAny (model prog w) A (pyIter x) (fun it s₂ => wpAny (model prog w) A (newList []) (fun acc s₃ =>
      wpAny (model prog w) A (newFunctionEnv scope env.globals cl [] env.qual none .none (some env)) (fun cenv s₄ =>
        codeAny (model prog w) A (.compStart (.ListComp elt [⟨target, iter, ifs, 0⟩] scope pos) 0 it acc { cenv with scope := relabel scope env }) (RR acc cenv.locals) s₄) E s₃) E s₂) E s₁) E s := by
  obtain ⟨cl, hcl, hc1, hc2⟩ := closure_ok (scope := scope) (env := env) fun p hp hf => F.has p.1 (free_kind hs ft (by rw [← hf]; exact hp))
  refine ⟨cl, hcl, ?_⟩
  simp only [evE] at ev
  split at ev
  · cases ev
  · rename_i vs σ₁ q₁
    split at ev
    · cases ev
    · rename_i ds q₂
      split at ev
      · cases ev
      · rename_i xs q₃
        split at ev
        · rename_i hz
          split at ev
          · cases ev
          · rename_i out σ₂ q₄
            cases ev
            refine HI.2 A env ρ σ σ₁ vs ds xs S μ s _ E hA hs I F q₁ q₂ q₃ fun It h₀ h₁ tk S₀ fp wr St Mid Ok x M => ?_
            have lk := lock_ev (L := liveOf σ₁ vs) x.inv liveOf_ok
            refine wpAny_newObj_type (wpAny_newFunctionEnv ft.cell (by intro y hy; simp at hy) (fun h₃ hns hsb => ?_) ft.kind)
            dsimp only at hns hsb ⊢
            generalize hH2 : h₁.push { cls := .type "list", dict := none, data := .seq ([] : List Value).toArray } = h₂ at hns hsb ⊢
            have hC : h₂.objs.size = h₁.objs.size + 1 := by rw [← hH2, Heap.size_push]
            have hDC : h₁.objs.size ≠ h₂.objs.size := by rw [hC]; exact Nat.ne_of_lt (Nat.lt_succ_self _)
            have g₁ : ∀ b o, h₁.get? b = some o → h₃.get? b = some o := fun b o e => hsb.extBut b o (by have := Heap.lt_size e; rw [hC]; exact Nat.ne_of_lt (Nat.lt_succ_of_lt this)) (Heap.get?_push_of_some _ (hH2 ▸ Heap.get?_push_of_some _ e))
            have up : ∀ a, h₁.objs.size ≤ a → h₀.get? a = none := fun a ha => by
              cases e : h₀.get? a with
              | none => rfl
              | some o => exact absurd (Heap.lt_size (M.grow a o e)) (Nat.not_lt.mpr ha)
            have up' : ∀ a, h₀.get? a = none → s.heap.get? a = none := fun a e => x.gone e
            have lD : h₃.get? h₁.objs.size = some (lstO [] 0) := hsb.extBut _ _ hDC (Heap.get?_push_of_some _ (hH2 ▸ Heap.get?_push_size _ rfl))
            have hD0 : h₀.get? h₁.objs.size = none := up _ (Nat.le_refl _)
            have hC0 : h₀.get? h₂.objs.size = none := up _ (by rw [hC]; exact Nat.le_succ _)
            have L : Lp base (fun _ => False) μ S₀ (flagAll .locked (liveOf σ₁ vs) σ₁) h₀ fp wr St Ok 0 μ S₀ (flagAll .locked (liveOf σ₁ vs) σ₁) h₃ := M.lp lk.inv g₁
            have hb : base.get? h₂.objs.size = none := by
              cases e : base.get? h₂.objs.size with
              | none => rfl
              | some o => have := x.inv.keepB _ o e; rw [hC0] at this; cases this
            have F₀ := F.ev I x
            have F₃ : FrOk base ec G.V S₀ μ env ρ h₃ := F₀.mono (fun a o _ e => g₁ a o (M.grow a o e)) fun v av r => r.mono (fun a o _ e => g₁ a o (M.grow a o e)) (fun _ q => q) fun _ _ q => q
            have CF := comp_frame hs ft hl F₃ hc1 hc2 hns hb
            have hDf : ¬ fp h₁.objs.size := fun q => by
              obtain ⟨o, e, _⟩ := M.src.alloc 0 _ _ M.st q
              exact fresh_not e rfl
            have hDS : ¬ S₀ h₁.objs.size := fun q => by
              obtain ⟨o, e, _⟩ := x.inv.inS _ q
              rw [hD0] at e; cases e
            have loop : ∀ s₃ : Shared, s₃ = { s with heap := h₃, toks := tk + ([] : List (Str × Value)).length } →
                codeAny (model prog w) A (.compLoop (.ListComp elt [⟨target, iter, ifs, 0⟩] scope pos) 0 (.ref It) (.ref h₁.objs.size) (compEnvC scope cl h₂.objs.size env)) (RR (.ref h₁.objs.size) h₂.objs.size) s₃ := by
              rintro s₃ rfl
              refine comp_loop M.src hA comp_sc (tgt_kind hk htr) htr (local_locE hloc) lk.inv H hS hC0 hD0 hDf xs 0 [] out [] 0 S₀ _ _ _ _ rfl (Nat.zero_le _) L CF lD .nil hDS (by simpa using hz) q₄ ?_
              intro h' tk' S' ys' m' ev' F' l' r' hD'
              have e1 := (unlock x.inv liveOf_ok ev').toEv x.inv fun _ q => q.elim
              obtain ⟨mm, hn, _⟩ := F'.ns
              exact P _ _ h' tk' S' out ys' m' mm rfl (x.trans e1) l' (by simpa using r') hD' (up' _ hD0) hn (up' _ hC0)
            exact codeAny_compStart_list (loop _ rfl) (M.src.self 0 _ _ _ L.st (loop _ rfl))
        · cases ev

/-- the block's own names let go -/
theorem ev_letGo {S S' : Addr → Prop} {μ : List Addr} {σ σ' : Store} {h h' h'' : Heap} {C : Addr} {mm : Str → Option Value} (I : Inv base S μ σ h) (x : Ev base μ S S' σ σ' h h') (hn : h'.Ns C mm) (h0 : h.get? C = none) (sb : Heap.SameBut C h' h'') : Ev base μ S S' σ σ' h h'' ∧ ¬ S' C := by
  have hCS : ¬ S' C := fun q => by
    obtain ⟨o, e, p⟩ := x.inv.inS C q
    obtain ⟨o', es, ep, e', d, _⟩ := hn
    rw [e] at e'; cases e'
    exact p.1 es ep d
  have k : ∀ b o, ¬ (b = C) → h'.get? b = some o → h''.get? b = some o := fun b o hb e => sb.extBut b o hb e
  refine ⟨?_, hCS⟩
  have y := (Evo.of (X := fun _ => False) x).poke (wr := fun b => b = C) (Mv.same k) (fun a o ha e => by rw [ha, h0] at e; cases e) (fun a ha => ha ▸ hCS) (fun a ha q => by
    obtain ⟨_, _, e⟩ := I.mem q
    rw [ha, h0] at e; cases e) (fun a ha => by
    subst ha
    cases e : base.get? a with
    | none => rfl
    | some o => have := I.keepB a o e; rw [h0] at this; cases this) fun a o ha e => by rw [ha, h0] at e; cases e
  exact y.toEv I fun _ q => q.elim

theorem se_comp {elt iter target : Expr} {ifs : List Expr} {scope : Scope} {pos : Pos} {tg : Tgt} {k : ItK} {its cs : List CE} {ce : CE} (ft : Fits sc scope) (hl : locsIn G scope tg = true) (hk : tgtFits k tg = true) (htr : trT G scope.names target = some tg) (hloc : localT scope.names target = true)
    (HI : SI prog w base ec G n Φ sc iter k its) (H : SE prog w base ec G n Φ scope.names elt ce) (hS : SBs prog w base ec G n Φ scope.names ifs cs) : SE prog w base ec G n Φ sc (.ListComp elt [⟨target, iter, ifs, 0⟩] scope pos) (.comp ce tg k its cs) := by
  intro A env ρ σ σ' av S μ s Q E hA hs I F q P
  rw [eval_ListComp]
  obtain ⟨cl, hcl, h⟩ := comp_core (pos := pos) (E := E) (RR := fun acc C => compPost (model prog w) A E none Q acc C) ft hl hk htr hloc HI H hS hA hs I F q (by
    intro D C h' tk S' ds ys m mm hav x l r hD hD0 hn hC0
    subst hav
    refine ⟨mm, hn, fun h'' sb => ?_⟩
    obtain ⟨x', hCS⟩ := ev_letGo I x hn hC0 sb
    have hDC : D ≠ C := fun q => by
      obtain ⟨o, es, ep, e, d, _⟩ := hn
      rw [q, e] at l; cases l; cases d
    exact P _ h'' tk S' x' (.fresh (sb.extBut _ _ hDC l) (r.mono (fun a o hs e => sb.extBut a o (fun q => hCS (q ▸ hs)) e) fun _ q => q) hD hD0))
  exact wpAny_comprehension_free (use := none) rfl (HI.1 env) hcl ft.kind ft.loc h
end
end Mine

-- M15
namespace Mine
open PySem PySem.Calls PyProof.Rows

section
variable {prog : Program} {w : World} {base : Heap} {ec : ExcCls} {G : Cfg} {n : Nat} {Φ : Phi} {sc : Sc}

noncomputable def partE : Option Expr → Expr
  | some e => e
  | none => .Constant .none 0 default

theorem se_slice {v : Expr} {lo hi : Option Expr} {p pos : Pos} {a l u : CE} (H : SE prog w base ec G n Φ sc v a) (Hl : (∃ x, lo = some x ∧ SE prog w base ec G n Φ sc x l) ∨ (lo = none ∧ l = .const .none)) (Hu : (∃ x, hi = some x ∧ SE prog w base ec G n Φ sc x u) ∨ (hi = none ∧ u = .const .none)) :
    SE prog w base ec G n Φ sc (.Subscript v (.Slice lo hi none p) pos) (.slice a l u) := by
  intro A env ρ σ σ' av S μ s Q E hA hs I F q P
  simp only [evE] at q
  cases q
theorem se_rev {v : Expr} {k : Nat} {p p' p'' pos : Pos} {a : CE} (H : SE prog w base ec G n Φ sc v a) : SE prog w base ec G n Φ sc (.Subscript v (.Slice none none (some (.UnaryOp .USub (.Constant (.int 1) k p) p')) p'') pos) (.rev a) := by
  intro A env ρ σ σ' av S μ s Q E hA hs I F q P
  simp only [evE] at q
  cases q
theorem se_isexc1 (W : Wd base ec G) {g t : Str} {p p' pos : Pos} {x : Expr} {a : CE} {c : Nat} (hn : noStar x = true) (hg : isGlob sc g = true) (ho : okName g = true) (hgi : (g == ("isinstance" : Str)) = true) (ht : isGlob sc t = true) (ht' : okName t = true) (hty : G.excs.lookup t = some c) (H : SE prog w base ec G n Φ sc x a) :
    SE prog w base ec G n Φ sc (.Call (.Name g p) [x, .Name t p'] [] pos) (.isexc a [c]) := by
  intro A env ρ σ σ' av S μ s Q E hA hs I F q P
  simp only [evE] at q
  cases q
theorem se_isexc (W : Wd base ec G) {g : Str} {p p' pos : Pos} {k : Nat} {x : Expr} {ts : List Expr} {a : CE} {cs : List Nat} (hn : noStar x = true) (hg : isGlob sc g = true) (ho : okName g = true) (hgi : (g == ("isinstance" : Str)) = true) (hl : ts.length ≤ 1000)
    (ht : ts.mapM (excName G sc) = some cs) (H : SE prog w base ec G n Φ sc x a) :
    SE prog w base ec G n Φ sc (.Call (.Name g p) [x, .Tuple ts k p'] [] pos) (.isexc a cs) := by
  intro A env ρ σ σ' av S μ s Q E hA hs I F q P
  simp only [evE] at q
  cases q
theorem se_pop {x m : Str} {p p' pos : Pos} {i : Nat} (hm : (m == ("pop" : Str)) = true) (hx : varOf G sc x = some i) : SE prog w base ec G n Φ sc (.Call (.Attribute (.Name x p) m p') [] [] pos) (.pop i) := by
  intro A env ρ σ σ' av S μ s Q E hA hs I F q P
  simp only [evE] at q
  cases q
theorem se_pop0 {x m : Str} {p p' p'' pos : Pos} {k : Nat} {i : Nat} (hm : (m == ("pop" : Str)) = true) (hx : varOf G sc x = some i) : SE prog w base ec G n Φ sc (.Call (.Attribute (.Name x p) m p') [.Constant (.int 0) k p''] [] pos) (.pop0 i) := by
  intro A env ρ σ σ' av S μ s Q E hA hs I F q P
  simp only [evE] at q
  cases q
theorem se_join {x m : Str} {p p' pos : Pos} {k : Nat} {e : Expr} {c : CE} (hm : (m == ("join" : Str)) = true) (hn : noStar e = true) (H : SE prog w base ec G n Φ sc e c) : SE prog w base ec G n Φ sc (.Call (.Attribute (.Constant (.str x) k p) m p') [e] [] pos) (.prim .join [.const (.str x), c]) := by
  have pj : ∀ ds, primD .join ds = none := by
    intro ds
    rcases ds with _ | ⟨d, _ | ⟨e, r⟩⟩
    · rfl
    · cases d <;> rfl
    · cases d <;> first | rfl | (cases e <;> first | rfl | (cases r <;> rfl))
  intro A env ρ σ σ' av S μ s Q E hA hs I F q P
  simp only [evE, pj] at q
  (repeat' split at q) <;> cases q
end
end Mine

-- M16
namespace Mine
open PySem PySem.Calls PyProof.Rows

section
variable {prog : Program} {w : World} {base : Heap} {ec : ExcCls} {G : Cfg} {n : Nat} {Φ : Phi}

theorem trL_ses {f : Expr → Option CE} {sc : Sc} (hf : ∀ e c, f e = some c → SE prog w base ec G n Φ sc e c) : ∀ {es : List Expr} {cs : List CE}, trL f es = some cs → es.all noStar = true → SEs prog w base ec G n Φ sc es cs := by
  intro es
  induction es with
  | nil => intro cs h _; cases h; exact .nil
  | cons e es ih =>
    intro cs h hn
    simp only [trL] at h
    split at h
    · cases h
    · rename_i c hc
      split at h
      · cases h
      · rename_i cs' hc'
        cases h
        rw [List.all_cons, Bool.and_eq_true] at hn
        exact .cons hn.1 (hf e c hc) (ih hc' hn.2)
theorem trL_sbs {f : Expr → Option CE} {sc : Sc} (hf : ∀ e c, f e = some c → SB prog w base ec G n Φ sc e c) : ∀ {es : List Expr} {cs : List CE}, trL f es = some cs → SBs prog w base ec G n Φ sc es cs := by
  intro es
  induction es with
  | nil => intro cs h; cases h; exact .nil
  | cons e es ih =>
    intro cs h
    simp only [trL] at h
    split at h
    · cases h
    · rename_i c hc
      split at h
      · cases h
      · rename_i cs' hc'
        cases h
        exact .cons (hf e c hc) (ih hc')

theorem trI_ok (W : Wd base ec G) {f : Expr → Option CE} {sc : Sc} (hf : ∀ e c, f e = some c → SE prog w base ec G n Φ sc e c) {e : Expr} {k : ItK} {cs : List CE} (h : trI sc f e = some (k, cs)) : SI prog w base ec G n Φ sc e k cs := by
  unfold trI at h
  split at h
  · split at h
    · rename_i hg
      rw [Bool.and_eq_true, Bool.and_eq_true] at hg
      split at h
      · split at h
        · rename_i hc
          split at h
          · rename_i hn
            cases h
            exact si_range1 W hg.1.1 hg.1.2 hg.2 hn (hf _ _ hc)
          · cases h
        · cases h
      · split at h
        · rename_i hc hd
          split at h
          · rename_i hn
            cases h
            rw [Bool.and_eq_true] at hn
            exact si_range2 W hg.1.1 hg.1.2 hg.2 hn.1 hn.2 (hf _ _ hc) (hf _ _ hd)
          · cases h
        · cases h
      · cases h
    · split at h
      · rename_i hg
        rw [Bool.and_eq_true, Bool.and_eq_true] at hg
        split at h
        · split at h
          · rename_i hc hd
            split at h
            · rename_i hn
              cases h
              rw [Bool.and_eq_true] at hn
              exact si_zip W hg.1.1 hg.1.2 hg.2 hn.1 hn.2 (hf _ _ hc) (hf _ _ hd)
            · cases h
          · cases h
        · cases h
      · split at h
        · rename_i hc
          cases h
          exact si_seq rfl (hf _ _ hc)
        · cases h
  · split at h
    · rename_i hn
      split at h
      · rename_i hc
        cases h
        exact si_seq hn (hf _ _ hc)
      · cases h
    · cases h

theorem trCmp_ok {f : Expr → Option CE} {sc : Sc} (hf : ∀ e c, f e = some c → SE prog w base ec G n Φ sc e c) {l : Expr} {a : CE} (ha : SE prog w base ec G n Φ sc l a) {ops : List CmpOp} {rs : List Expr} {pos : Pos} {c : CE} (h : trCmp f a ops rs = some c) : SB prog w base ec G n Φ sc (.Compare l ops rs pos) c := by
  unfold trCmp at h
  split at h
  · split at h
    · rename_i hb
      split at h
      · rename_i hn
        cases h
        exact ⟨se_cmp hn ha (hf _ _ hb), st_cmp hn ha (hf _ _ hb)⟩
      · cases h
    · cases h
  · split at h
    · rename_i hb hc
      split at h
      · rename_i hn
        cases h
        rw [Bool.and_eq_true] at hn
        exact ⟨se_cmp2 hn.2 ha (hf _ _ hb) (hf _ _ hc), st_cmp2 hn.2 ha (hf _ _ hb) (hf _ _ hc)⟩
      · cases h
    · cases h
  · cases h
theorem optE_ok {f : Expr → Option CE} {sc : Sc} (hf : ∀ e c, f e = some c → SE prog w base ec G n Φ sc e c) {o : Option Expr} {c : CE} (h : optE f o = some c) : (∃ x, o = some x ∧ SE prog w base ec G n Φ sc x c) ∨ (o = none ∧ c = .const .none) := by
  cases o with
  | none => cases h; exact .inr ⟨rfl, rfl⟩
  | some x => exact .inl ⟨x, rfl, hf _ _ h⟩
theorem isRevE_ok {e : Expr} (h : isRevE e = true) : ∃ k p p', e = .UnaryOp .USub (.Constant (.int 1) k p) p' := by
  unfold isRevE at h
  split at h
  · exact ⟨_, _, _, rfl⟩
  · cases h
theorem trSub_ok {f : Expr → Option CE} {sc : Sc} (hf : ∀ e c, f e = some c → SE prog w base ec G n Φ sc e c) {v i : Expr} {a : CE} (ha : SE prog w base ec G n Φ sc v a) {pos : Pos} {c : CE} (h : trSub f a i = some c) : SE prog w base ec G n Φ sc (.Subscript v i pos) c := by
  unfold trSub at h
  split at h
  · unfold trSl at h
    split at h
    · split at h
      · rename_i hl hu
        cases h
        exact se_slice ha (optE_ok hf hl) (optE_ok hf hu)
      · cases h
    · split at h
      · rename_i lo hi _ _ _ he
        cases h
        rw [Bool.and_eq_true, Bool.and_eq_true] at he
        obtain ⟨k, p, p', rfl⟩ := isRevE_ok he.2
        cases lo with
        | some _ => cases he.1.1
        | none => cases hi with
          | some _ => cases he.1.2
          | none => exact se_rev ha
      · cases h
  · split at h
    · rename_i hn _ _ hb
      cases h
      refine se_idx ?_ ha (hf _ _ hb)
      unfold noSlice
      split
      · exact (hn _ _ _ _ rfl).elim
      · rfl
    · cases h
theorem trIsi_ok (W : Wd base ec G) {sc : Sc} {g : Str} {p pos : Pos} {x t : Expr} {a c : CE} (hn : noStar x = true) (hg : isGlob sc g = true) (ho : okName g = true) (hgi : (g == ("isinstance" : Str)) = true) (H : SE prog w base ec G n Φ sc x a) (h : trIsi G sc a t = some c) :
    SE prog w base ec G n Φ sc (.Call (.Name g p) [x, t] [] pos) c := by
  unfold trIsi at h
  split at h
  · split at h
    · rename_i ht
      rw [Bool.and_eq_true] at ht
      split at h
      · rename_i hty
        cases h
        exact se_isin W hn hg ho hgi ht.1 ht.2 hty H
      · split at h
        · rename_i hx
          cases h
          exact se_isexc1 W hn hg ho hgi ht.1 ht.2 hx H
        · cases h
    · cases h
  · split at h
    · rename_i hm
      split at h
      · rename_i hl
        cases h
        exact se_isexc W hn hg ho hgi hl hm H
      · cases h
    · cases h
  · cases h
theorem trCallN_ok (W : Wd base ec G) (HP : PhiOk prog w base ec G n Φ) {f : Expr → Option CE} {sc : Sc} (hf : ∀ e c, f e = some c → SE prog w base ec G n Φ sc e c) {g : Str} {p pos : Pos} {args : List Expr} {c : CE} (h : trCallN G sc f g args = some c) : SE prog w base ec G n Φ sc (.Call (.Name g p) args [] pos) c := by
  unfold trCallN at h
  split at h
  · rename_i hg
    rw [Bool.and_eq_true, Bool.and_eq_true, Bool.and_eq_true, Bool.not_eq_true'] at hg
    obtain ⟨⟨⟨h1, h2⟩, h3⟩, h4⟩ := hg
    have hne : args ≠ [] := fun q => by rw [q] at h4; cases h4
    split at h
    · rename_i k hk
      split at h
      · rename_i hc
        cases h
        exact se_call W HP h1 h2 hk hne (trL_ses hf hc h3)
      · cases h
    · split at h
      · rename_i hgi
        split at h
        · split at h
          · rename_i ha
            simp only [List.all_cons, Bool.and_eq_true] at h3
            exact trIsi_ok W h3.1 h1 h2 hgi (hf _ _ ha) h
          · cases h
        · cases h
      · split at h
        · rename_i hp
          split at h
          · rename_i hc
            cases h
            exact se_prim W h1 h2 hp hne (trL_ses hf hc h3)
          · cases h
        · cases h
  · cases h
theorem isZeroE_ok {e : Expr} (h : isZeroE e = true) : ∃ k p, e = .Constant (.int 0) k p := by
  unfold isZeroE at h
  split at h
  · exact ⟨_, _, rfl⟩
  · cases h
theorem strOf_ok {e : Expr} {x : Str} (h : strOf e = some x) : ∃ k p, e = .Constant (.str x) k p := by
  unfold strOf at h
  split at h
  · cases h; exact ⟨_, _, rfl⟩
  · cases h
theorem nameOf_ok {e : Expr} {x : Str} (h : nameOf e = some x) : ∃ p, e = .Name x p := by
  unfold nameOf at h
  split at h
  · cases h; exact ⟨_, rfl⟩
  · cases h
theorem trCallA_ok {f : Expr → Option CE} {sc : Sc} (hf : ∀ e c, f e = some c → SE prog w base ec G n Φ sc e c) {o : Expr} {m : Str} {p pos : Pos} {args : List Expr} {c : CE} (h : trCallA G sc f o m args = some c) : SE prog w base ec G n Φ sc (.Call (.Attribute o m p) args [] pos) c := by
  unfold trCallA at h
  split at h
  · rename_i hm
    split at h
    · rename_i x hx
      obtain ⟨q, rfl⟩ := nameOf_ok hx
      split at h
      · rename_i i hi
        split at h
        · cases h
          exact se_pop hm hi
        · split at h
          · rename_i hz
            obtain ⟨k, r, rfl⟩ := isZeroE_ok hz
            cases h
            exact se_pop0 hm hi
          · cases h
        · cases h
      · cases h
    · cases h
  · split at h
    · rename_i hm
      split at h
      · rename_i hx
        obtain ⟨k, r, rfl⟩ := strOf_ok hx
        split at h
        · rename_i hn
          split at h
          · rename_i hc
            cases h
            exact se_join hm hn (hf _ _ hc)
          · cases h
        · cases h
      · cases h
    · cases h

theorem comp_parts {sc : Sc} {f : Sc → Expr → Option CE} {elt : Expr} {g : Comprehension} {scope : Scope} {c : CE} (h : trComp G sc f elt g scope = some c) : ∃ target iter ifs tg k its ce cs, g = ⟨target, iter, ifs, 0⟩ ∧ c = .comp ce tg k its cs ∧
    scopeFits sc scope = true ∧ localT scope.names target = true ∧ trT G scope.names target = some tg ∧ trI sc (f sc) iter = some (k, its) ∧ f scope.names elt = some ce ∧ trL (f scope.names) ifs = some cs ∧ tgtFits k tg = true ∧ locsIn G scope tg = true := by
  unfold trComp at h
  split at h
  · split at h
    · rename_i hf
      rw [Bool.and_eq_true] at hf
      split at h
      · rename_i ht hi he hcs
        split at h
        · rename_i hk
          rw [Bool.and_eq_true] at hk
          cases h
          exact ⟨_, _, _, _, _, _, _, _, rfl, rfl, hf.1, hf.2, ht, hi, he, hcs, hk.1, hk.2⟩
        · cases h
      · cases h
    · cases h
  · cases h

theorem sb_of {sc : Sc} {e : Expr} {c : CE} (he : ∀ env whole, isTrue e env whole = (do let v ← whole; standAt e.pos; holding [v] (truthy v))) (H : SE prog w base ec G n Φ sc e c) : SB prog w base ec G n Φ sc e c := ⟨H, st_of_se he H⟩

theorem trE_ok (W : Wd base ec G) (HP : PhiOk prog w base ec G n Φ) : ∀ (m : Nat) (sc : Sc) (e : Expr) (c : CE), trE G m sc e = some c → SB prog w base ec G n Φ sc e c := by
  intro m
  induction m with
  | zero => intro sc e c h; cases h
  | succ m ih =>
    intro sc e c h
    have ihE : ∀ sc e c, trE G m sc e = some c → SE prog w base ec G n Φ sc e c := fun sc e c h => (ih sc e c h).1
    have ihT : ∀ sc e c, trE G m sc e = some c → ST prog w base ec G n Φ sc e c := fun sc e c h => (ih sc e c h).2
    cases e <;> simp only [trE] at h <;> first | (cases h; done) | skip
    case Constant =>
      split at h
      · rename_i hd
        cases h
        exact sb_of (fun _ _ => rfl) (se_const hd)
      · cases h
    case Name =>
      split at h
      · split at h
        · rename_i hi
          cases h
          exact sb_of (fun _ _ => rfl) (se_var hi)
        · cases h
      · split at h
        · rename_i hg
          rw [Bool.and_eq_true] at hg
          split at h
          · rename_i hd
            cases h
            exact sb_of (fun _ _ => rfl) (se_cst W hg.1 hg.2 hd)
          · cases h
        · cases h
    case BinOp =>
      split at h
      · rename_i ha hb
        cases h
        exact sb_of (fun _ _ => rfl) (se_bin (ihE _ _ _ ha) (ihE _ _ _ hb))
      · cases h
    case UnaryOp op x pos =>
      split at h
      · rename_i ha
        cases op <;> first | (cases h; done) | skip
        · cases h
          exact ⟨se_not (ihE _ _ _ ha), st_not (ihT _ _ _ ha)⟩
        · cases h
          exact sb_of (fun _ _ => rfl) (se_neg (ihE _ _ _ ha))
      · cases h
    case BoolOp op vs pos =>
      split at h
      · cases h
      · rename_i hv
        split at h
        · rename_i hc
          cases h
          exact ⟨se_bop (fun q => hv (by rw [q]; rfl)) (trL_sbs (ih _) hc), st_bop (trL_sbs (ih _) hc)⟩
        · cases h
    case Compare =>
      split at h
      · rename_i ha
        exact trCmp_ok (ihE _) (ihE _ _ _ ha) h
      · cases h
    case IfExp =>
      split at h
      · rename_i ha hb hc
        cases h
        exact ⟨se_ite (ihT _ _ _ ha) (ihE _ _ _ hb) (ihE _ _ _ hc), st_ite (ihT _ _ _ ha) (ihT _ _ _ hb) (ihT _ _ _ hc)⟩
      · cases h
    case Subscript =>
      split at h
      · rename_i ha
        exact sb_of (fun _ _ => rfl) (trSub_ok (ihE _) (ihE _ _ _ ha) h)
      · cases h
    case Tuple =>
      split at h
      · rename_i hn
        rw [Bool.and_eq_true] at hn
        split at h
        · rename_i hc
          cases h
          exact sb_of (fun _ _ => rfl) (se_tup (by simpa using hn.1) (trL_ses (ihE _) hc hn.2))
        · cases h
      · cases h
    case List =>
      split at h
      · rename_i hn
        rw [Bool.and_eq_true] at hn
        split at h
        · rename_i hc
          cases h
          exact sb_of (fun _ _ => rfl) (se_lst (by simpa using hn.1) (trL_ses (ihE _) hc hn.2))
        · cases h
      · cases h
    case Call g args kws pos =>
      split at h
      · rename_i hk
        rw [List.isEmpty_iff] at hk
        subst hk
        cases g <;> first | (cases h; done) | skip
        · exact sb_of (fun _ _ => rfl) (trCallA_ok (ihE _) h)
        · exact sb_of (fun _ _ => rfl) (trCallN_ok W HP (ihE _) h)
      · cases h
    case ListComp =>
      split at h
      · obtain ⟨target, iter, ifs, tg, k, its, ce, cs, rfl, rfl, h1, h2, h3, h4, h5, h6, h7, h8⟩ := comp_parts h
        exact sb_of (fun _ _ => rfl) (se_comp (scopeFits_ok h1) h8 h7 h3 h2 (trI_ok W (ihE _) h4) (ihE _ _ _ h5) (trL_sbs (ih _) h6))
      · cases h
end
end Mine

-- M17
namespace Mine
open PySem PySem.Calls PyProof.Rows

/-! ## Statements -/

inductive FlOk (base : Heap) (ec : ExcCls) (V : List Str) (env : Env) (h₀ h : Heap) (S : Addr → Prop) (μ : List Addr) : Fl → Flow → Prop
  | next {ρ : Rho} : FrOk base ec V S μ env ρ h → FlOk base ec V env h₀ h S μ (.next ρ) .next
  | ret {v : Value} {av : AV} : RdR ec h₀ h S μ v av → FlOk base ec V env h₀ h S μ (.ret av) (.ret v)

noncomputable def SPost (ec : ExcCls) (base : Heap) (V : List Str) (env : Env) (μ : List Addr) (S : Addr → Prop) (σ σ' : Store) (s : Shared) (fl : Fl) (Q : Flow → Shared → Prop) : Prop :=
  ∀ f h' tk S' μ', Evo base (Own env) μ μ' S S' σ σ' s.heap h' → FlOk base ec V env s.heap h' S' μ' fl f → Q f { s with heap := h', toks := tk }

noncomputable def SS (prog : Program) (w : World) (base : Heap) (ec : ExcCls) (G : Cfg) (n : Nat) (sc : Sc) (m : Env → Sem Flow) (ev : Rho → Store → Option (Fl × Store)) : Prop :=
  ∀ (A : Around) (env : Env) (ρ : Rho) (σ σ' : Store) (fl : Fl) (S : Addr → Prop) (μ : List Addr) (s : Shared) (Q : Flow → Shared → Prop) (E : Value → Shared → Prop),
    AOk n A → ScOk env sc → Inv base S μ σ s.heap → FrOk base ec G.V S μ env ρ s.heap → ev ρ σ = some (fl, σ') → (∀ c, fl ≠ .exc c) → SPost ec base G.V env μ S σ σ' s fl Q → wpAny (model prog w) A (m env) Q E s

section
variable {base : Heap} {ec : ExcCls} {V : List Str} {env : Env} {μ μ' μ₁ : List Addr} {S S' S₁ : Addr → Prop} {σ σ' σ₁ : Store} {h h' h₁ : Heap} {ρ : Rho} {s : Shared} {fl : Fl}

theorem RdR.backo {X : Addr → Prop} {h'' : Heap} {v : Value} {av : AV} (x : Evo base X μ μ' S S' σ σ' h h') (r : RdR ec h' h'' S₁ μ₁ v av) : RdR ec h h'' S₁ μ₁ v av := by
  cases r with
  | old r => exact .old r
  | fresh e r s n => exact .fresh e r s (x.gone n)
theorem FlOk.back {X : Addr → Prop} {h'' : Heap} {f : Flow} (x : Evo base X μ μ' S S' σ σ' h h') (r : FlOk base ec V env h' h'' S₁ μ₁ fl f) : FlOk base ec V env h h'' S₁ μ₁ fl f := by
  cases r with
  | next F => exact .next F
  | ret r => exact .ret (r.backo x)
theorem SPost.past {Q : Flow → Shared → Prop} {tk : Nat} (x : Evo base (Own env) μ μ₁ S S₁ σ σ₁ s.heap h₁) (P : SPost ec base V env μ S σ σ' s fl Q) : SPost ec base V env μ₁ S₁ σ₁ σ' { s with heap := h₁, toks := tk } fl Q :=
  fun f h' tk' S' μ' y r => P f h' tk' S' μ' (x.trans y fun _ _ q _ => q) (r.back x)
end

section
variable {prog : Program} {w : World} {base : Heap} {ec : ExcCls} {G : Cfg} {n N : Nat} {Φ : Phi} {sc : Sc}

theorem ss_nil : SS prog w base ec G n sc (execs []) (fun ρ σ => evSs N Φ [] ρ σ) := by
  intro A env ρ σ σ' fl S μ s Q E hA hs I F q hx P
  simp only [evSs] at q
  cases q
  exact wpAny_execs_nil (P .next s.heap s.toks S μ (.refl I) (.next F))

theorem ss_cons {st : Stmt} {rest : List Stmt} {c : CS} {cs : List CS} (H : SS prog w base ec G n sc (exec st) (fun ρ σ => evS N Φ c ρ σ)) (H' : SS prog w base ec G n sc (execs rest) (fun ρ σ => evSs N Φ cs ρ σ)) :
    SS prog w base ec G n sc (execs (st :: rest)) (fun ρ σ => evSs N Φ (c :: cs) ρ σ) := by
  intro A env ρ σ σ' fl S μ s Q E hA hs I F q hx P
  simp only [evSs] at q
  refine wpAny_execs_cons ?_
  split at q
  · rename_i ρ₁ σ₁ q₁
    refine H A env ρ σ σ₁ _ S μ s _ E hA hs I F q₁ (fun c e => nomatch e) fun f h' tk S' μ' x r => ?_
    cases r with
    | next F' => exact H' A env ρ₁ σ₁ σ' fl S' μ' { s with heap := h', toks := tk } Q E hA hs x.inv F' q hx (P.past x)
  · rename_i hn
    refine H A env ρ σ σ' fl S μ s _ E hA hs I F q hx fun f h' tk S' μ' x r => ?_
    cases r with
    | next F' => exact (hn _ _ q).elim
    | ret r => exact P _ h' tk S' μ' x (.ret r)

theorem ss_ret {e : Expr} {c : CE} {pos : Pos} (H : SE prog w base ec G n Φ sc e c) : SS prog w base ec G n sc (exec (.Return (some e) pos)) (fun ρ σ => evS N Φ (.ret c) ρ σ) := by
  intro A env ρ σ σ' fl S μ s Q E hA hs I F q hx P
  simp only [evS] at q
  split at q
  · rename_i v σ₁ q₁
    cases q
    exact wpAny_Return_some (H A env ρ σ _ v S μ s _ E hA hs I F q₁ fun u h' tk S' x r => P _ h' tk S' μ (.of x) (.ret r))
  · cases q

theorem ss_if {t : Expr} {a b : List Stmt} {c : CE} {x y : List CS} {pos : Pos} (H : ST prog w base ec G n Φ sc t c) (Ha : SS prog w base ec G n sc (execs a) (fun ρ σ => evSs N Φ x ρ σ)) (Hb : SS prog w base ec G n sc (execs b) (fun ρ σ => evSs N Φ y ρ σ)) :
    SS prog w base ec G n sc (exec (.If t a b pos)) (fun ρ σ => evS N Φ (.ite c x y) ρ σ) := by
  intro A env ρ σ σ' fl S μ s Q E hA hs I F q hx P
  simp only [evS] at q
  split at q
  · rename_i v σ₁ q₁
    refine wpAny_If ?_
    split at q
    · rename_i hb
      refine H A env ρ σ σ₁ v true S μ s _ E hA hs I F q₁ hb fun h' tk S' x => ?_
      exact Ha A env ρ σ₁ σ' fl S' μ { s with heap := h', toks := tk } Q E hA hs x.inv (F.ev I x) q hx (P.past (.of x))
    · rename_i hb
      refine H A env ρ σ σ₁ v false S μ s _ E hA hs I F q₁ hb fun h' tk S' x => ?_
      exact Hb A env ρ σ₁ σ' fl S' μ { s with heap := h', toks := tk } Q E hA hs x.inv (F.ev I x) q hx (P.past (.of x))
    · cases q
  · cases q

/-! ### Assigning a name -/

noncomputable def resA (nc : Bool) (i : Nat) (ρ : Rho) (σ : Store) : AV → Rho × Store
  | .fresh ds => if nc then (ρ.set i (.cell σ.length), σ ++ [(.live, ds)]) else (ρ.set i (.dat (.list ds)), σ)
  | v => (ρ.set i v, σ)

theorem live_append {μ : List Addr} {σ : Store} {a b : Addr} {ds : List PyData} (hl : μ.length = σ.length) (l : Live (μ ++ [a]) (σ ++ [(.live, ds)]) b) : Live μ σ b ∨ b = a := by
  obtain ⟨i, es, e1, e2⟩ := l
  rcases Nat.lt_trichotomy i μ.length with q | q | q
  · rw [List.getElem?_append_left q] at e1
    rw [List.getElem?_append_left (hl ▸ q)] at e2
    exact .inl ⟨i, es, e1, e2⟩
  · subst q
    simp at e1
    exact .inr e1.symm
  · rw [List.getElem?_eq_none (by simp; omega)] at e1; cases e1

theorem Inv.addCell {S : Addr → Prop} {μ : List Addr} {σ : Store} {h : Heap} (I : Inv base S μ σ h) {a : Addr} {vs : List Value} {m : Nat} {ds : List PyData} (e : h.get? a = some (lstO vs m)) (r : RdL h S vs ds) (hS : ¬ S a) (hm : a ∉ μ) (hb : base.get? a = none) : Inv base S (μ ++ [a]) (σ ++ [(.live, ds)]) h where
  keepB := I.keepB
  len := by simp [I.len]
  cells := fun i b f es e1 e2 => by
    rcases Nat.lt_trichotomy i μ.length with q | q | q
    · rw [List.getElem?_append_left q] at e1
      rw [List.getElem?_append_left (I.len ▸ q)] at e2
      exact I.cells i b f es e1 e2
    · subst q
      simp at e1
      rw [I.len] at e2
      simp at e2
      obtain ⟨rfl, rfl⟩ := e2
      subst e1
      exact ⟨vs, m, e, r, fun z => (nomatch z), fun _ => hS⟩
    · rw [List.getElem?_eq_none (by simp; omega)] at e1; cases e1
  nodup := fun i j b e1 e2 => by
    have key : ∀ i : Nat, (μ ++ [a])[i]? = some b → (μ[i]? = some b ∧ i < μ.length) ∨ (i = μ.length ∧ b = a) := fun i e => by
      rcases Nat.lt_trichotomy i μ.length with q | q | q
      · rw [List.getElem?_append_left q] at e; exact .inl ⟨e, q⟩
      · subst q; simp at e; exact .inr ⟨rfl, e.symm⟩
      · rw [List.getElem?_eq_none (by simp; omega)] at e; cases e
    rcases key i e1 with ⟨h1, _⟩ | ⟨h1, q1⟩ <;> rcases key j e2 with ⟨h2, _⟩ | ⟨h2, q2⟩
    · exact I.nodup i j b h1 h2
    · subst q2; exact absurd (List.mem_of_getElem? h1) hm
    · subst q1; exact absurd (List.mem_of_getElem? h2) hm
    · rw [h1, h2]
  new := fun b hb' => by
    rcases List.mem_append.mp hb' with q | q
    · exact I.new b q
    · rcases List.mem_singleton.mp q with rfl; exact hb
  inS := I.inS

/-- a result is stored under a name of the frame's own -/
theorem store_res {A : Around} {env : Env} {ρ : Rho} {σ σ₁ : Store} {S S₁ : Addr → Prop} {μ : List Addr} {h₀ : Heap} {s : Shared} {E : Value → Shared → Prop} {Q : Unit → Shared → Prop} {v : Value} {av : AV} {x : Str} {i : Nat} {p : Pos} (nc : Bool) (hs : ScOk env sc)
    (I : Inv base S μ σ h₀) (ev : Ev base μ S S₁ σ σ₁ h₀ s.heap) (r : RdR ec h₀ s.heap S₁ μ v av) (F : FrOk base ec G.V S₁ μ env ρ s.heap) (hx : ownOf G sc x = some i)
    (P : ∀ h' tk S' μ', Evo base (Own env) μ μ' S S' σ (resA nc i ρ σ₁ av).2 h₀ h' → FrOk base ec G.V S' μ' env (resA nc i ρ σ₁ av).1 h' → (∀ b o, ¬ Own env b → s.heap.get? b = some o → h'.get? b = some o) → Q () { s with heap := h', toks := tk }) :
    wpAny (model prog w) A (assign (.Name x p) env v) Q E s := by
  have fin : ∀ (S' : Addr → Prop) (μ' : List Addr) (σ' : Store) (aw : AV), Evo base (Own env) μ μ' S S' σ σ' h₀ s.heap → FrOk base ec G.V S' μ' env ρ s.heap → RdA ec s.heap S' μ' v aw → (ρ.set i aw, σ') = resA nc i ρ σ₁ av → wpAny (model prog w) A (assign (.Name x p) env v) Q E s := by
    intro S' μ' σ' aw ev' F' r' e
    refine name_ok (lc := false) hs hx (fun z => nomatch z) ev'.inv F' r' fun h' tk I' F'' k st => ?_
    have k' : ∀ b o, ¬ Own env b → s.heap.get? b = some o → h'.get? b = some o := fun b o hb e => k b o (fun q => hb q.1) e
    have ev'' : Evo base (Own env) μ μ' S S' σ σ' h₀ h' := ev'.poke (wr := Own env) (Mv.same k') (fun a o ha _ => ha) (fun a ha => ha.notS ev'.inv F') (fun a ha => ha.notMu ev'.inv F') (fun a ha => ha.new F') fun a o ha e => let ⟨o', e'⟩ := ev'.stay a o e; st a o' e'
    have e1 := congrArg Prod.fst e
    have e2 := congrArg Prod.snd e
    dsimp only at e1 e2
    exact P h' tk S' μ' (e2 ▸ ev'') (e1 ▸ F'') k'
  cases r with
  | old r =>
    refine fin S₁ μ σ₁ av (.of ev) F r ?_
    cases r <;> rfl
  | @fresh a vs m ds e r hS hn =>
    cases nc with
    | false =>
      have ev' := ev.add I hn e (lst_plain _ _)
      refine fin _ μ σ₁ (.dat (.list ds)) (.of ev') (F.mono (fun _ _ _ q => q) fun _ _ r => r.sub fun _ => .inl) (.dat (.list (.inr rfl) e (r.sub fun _ => .inl))) rfl
    | true =>
      have hm : a ∉ μ := fun q => by obtain ⟨_, _, e'⟩ := I.mem q; rw [hn] at e'; cases e'
      have hb : base.get? a = none := by
        cases e' : base.get? a with
        | none => rfl
        | some o => have := I.keepB a o e'; rw [hn] at this; cases this
      have I' := ev.inv.addCell e r hS hm hb
      have evo : Evo base (Own env) μ (μ ++ [a]) S S₁ σ (σ₁ ++ [(.live, ds)]) h₀ s.heap := ⟨⟨[a], rfl, fun b hb => by rcases List.mem_singleton.mp hb with rfl; exact hn⟩, ev.sub, ev.new, I', fun b o _ hl e => ev.keep b o hl e,
        fun b l => (live_append ev.inv.len l).elim (fun q => .inl (ev.live b q)) fun q => .inr (q ▸ hn), fun b o e => ev.stays e⟩
      have hmu : ∀ (i : Nat) (b : Addr), μ[i]? = some b → (μ ++ [a])[i]? = some b := fun i b e => by rw [List.getElem?_append_left (List.getElem?_eq_some_iff.mp e).1]; exact e
      refine fin S₁ (μ ++ [a]) _ (.cell σ₁.length) evo (F.mono (fun _ _ _ q => q) fun _ _ r => r.mono (fun _ _ _ q => q) (fun _ q => q) hmu) (.cell (by rw [← ev.inv.len]; simp)) rfl

noncomputable def isComp : Expr → Bool
  | .ListComp .. => true
  | .SetComp .. => true
  | .DictComp .. => true
  | _ => false
theorem swaps_no {e : Expr} (h : isComp e = false) (t : Expr) (l : Nat) (env : Env) : swapsWith e (some t) l env = pure false := by
  cases e <;> first | rfl | cases h

noncomputable def asg (nc : Bool) (i : Nat) (c : CE) : CS := if nc then .newcell i c else .assign i c
theorem asg_ev {nc : Bool} {i : Nat} {c : CE} {ρ : Rho} {σ σ' : Store} {fl : Fl} (q : evS N Φ (asg nc i c) ρ σ = some (fl, σ')) : ∃ av σ₁, evE Φ c ρ σ = some (av, σ₁) ∧ fl = .next (resA nc i ρ σ₁ av).1 ∧ σ' = (resA nc i ρ σ₁ av).2 := by
  cases nc with
  | false =>
    simp only [asg, Bool.false_eq_true, if_false, evS] at q
    split at q
    · rename_i v σ₁ q₁
      cases q
      refine ⟨v, _, q₁, ?_, ?_⟩ <;> cases v <;> rfl
    · cases q
  | true =>
    simp only [asg, if_true, evS] at q
    split at q
    · rename_i q₁
      cases q
      exact ⟨_, _, q₁, rfl, rfl⟩
    · rename_i v σ₁ hn q₁
      cases q
      refine ⟨v, _, q₁, ?_, ?_⟩ <;> cases v <;> first | rfl | exact (hn _ _ q₁).elim | exact (hn _ rfl).elim
    · cases q

theorem ss_asg {nc : Bool} {x : Str} {p pos : Pos} {e : Expr} {c : CE} {i : Nat} (hx : ownOf G sc x = some i) (hn : isComp e = false) (H : SE prog w base ec G n Φ sc e c) : SS prog w base ec G n sc (exec (.Assign [.Name x p] e pos)) (fun ρ σ => evS N Φ (asg nc i c) ρ σ) := by
  intro A env ρ σ σ' fl S μ s Q E hA hs I F q hxx P
  obtain ⟨av, σ₁, q₁, rfl, rfl⟩ := asg_ev q
  rw [exec_Assign_Name env x p e pos (swaps_no hn _ _ _)]
  refine wpAny_bind (wpAny_standAt (wpAny_bind ?_))
  refine H A env ρ σ σ₁ av S μ s _ E hA hs I F q₁ fun v h' tk S' ev r => ?_
  have := store_res (prog := prog) (w := w) (A := A) (E := E) (p := p) (s := { s with heap := h', toks := tk }) (Q := fun _ s' => Q .next s') nc hs I ev r (F.ev I ev) hx fun h'' tk' S'' μ'' evo F'' _ => P .next h'' tk' S'' μ'' evo (.next F'')
  rw [PySem.assign_Name] at this
  show wpAny _ A (standAt p >>= fun _ => bindName env x v >>= fun _ => pure .next) Q E _
  have e : (standAt p >>= fun _ => bindName env x v >>= fun _ => pure Flow.next) = ((standAt p >>= fun _ => bindName env x v) >>= fun _ => pure Flow.next) := by rw [bind_assoc]
  rw [e]
  exact wpAny_bind (wpAny_mono this (fun _ _ h => wpAny_pure h) fun _ _ h => h)
end
end Mine

-- M18
namespace Mine
open PySem PySem.Calls PyProof.Rows

section
variable {prog : Program} {w : World} {base : Heap} {ec : ExcCls} {G : Cfg} {n N : Nat} {Φ : Phi} {sc : Sc}

theorem asg_plain {nc : Bool} {x : Str} {p pos : Pos} {e : Expr} {c : CE} {i : Nat} (hx : ownOf G sc x = some i) (H : SE prog w base ec G n Φ sc e c) {A : Around} {env : Env} {ρ : Rho} {σ σ' : Store} {fl : Fl} {S : Addr → Prop} {μ : List Addr} {s : Shared} {Q : Flow → Shared → Prop} {E : Value → Shared → Prop}
    (hn : swapsWith e (some (.Name x p)) pos.line env = pure false) (hA : AOk n A) (hs : ScOk env sc) (I : Inv base S μ σ s.heap) (F : FrOk base ec G.V S μ env ρ s.heap) (q : evS N Φ (asg nc i c) ρ σ = some (fl, σ')) (P : SPost ec base G.V env μ S σ σ' s fl Q) :
    wpAny (model prog w) A (exec (.Assign [.Name x p] e pos) env) Q E s := by
  obtain ⟨av, σ₁, q₁, rfl, rfl⟩ := asg_ev q
  rw [exec_Assign_Name env x p e pos hn]
  refine wpAny_bind (wpAny_standAt (wpAny_bind ?_))
  refine H A env ρ σ σ₁ av S μ s _ E hA hs I F q₁ fun v h' tk S' ev r => ?_
  have := store_res (prog := prog) (w := w) (A := A) (E := E) (p := p) (s := { s with heap := h', toks := tk }) (Q := fun _ s' => Q .next s') nc hs I ev r (F.ev I ev) hx fun h'' tk' S'' μ'' evo F'' _ => P .next h'' tk' S'' μ'' evo (.next F'')
  rw [PySem.assign_Name] at this
  show wpAny _ A (standAt p >>= fun _ => bindName env x v >>= fun _ => pure .next) Q E _
  have e : (standAt p >>= fun _ => bindName env x v >>= fun _ => pure Flow.next) = ((standAt p >>= fun _ => bindName env x v) >>= fun _ => pure Flow.next) := by rw [bind_assoc]
  rw [e]
  exact wpAny_bind (wpAny_mono this (fun _ _ h => wpAny_pure h) fun _ _ h => h)

theorem ss_asgC {nc : Bool} {x : Str} {p spos : Pos} {i : Nat} {elt iter target : Expr} {ifs : List Expr} {scope : Scope} {pos : Pos} {tg : Tgt} {k : ItK} {its cs : List CE} {ce : CE} (hx : ownOf G sc x = some i) (ft : Fits sc scope) (hl : locsIn G scope tg = true) (hk : tgtFits k tg = true) (htr : trT G scope.names target = some tg) (hloc : localT scope.names target = true)
    (HI : SI prog w base ec G n Φ sc iter k its) (H : SE prog w base ec G n Φ scope.names elt ce) (hS : SBs prog w base ec G n Φ scope.names ifs cs) :
    SS prog w base ec G n sc (exec (.Assign [.Name x p] (.ListComp elt [⟨target, iter, ifs, 0⟩] scope pos) spos)) (fun ρ σ => evS N Φ (asg nc i (.comp ce tg k its cs)) ρ σ) := by
  intro A env ρ σ σ' fl S μ s Q E hA hs I F q hxx P
  obtain ⟨b, hb⟩ : ∃ b, swapsWith (.ListComp elt [⟨target, iter, ifs, 0⟩] scope pos) (some (.Name x p)) spos.line env = pure b := ⟨_, rfl⟩
  cases b with
  | false => exact asg_plain hx (se_comp ft hl hk htr hloc HI H hS) hb hA hs I F q P
  | true =>
    obtain ⟨av, σ₁, q₁, rfl, rfl⟩ := asg_ev q
    rw [exec_Assign_Name_used _ _ _ _ hb]
    refine wpAny_bind (wpAny_standAt (wpAny_bind ?_))
    show wpAny _ A (do let _ ← comprehension (.ListComp elt [⟨target, iter, ifs, 0⟩] scope pos) scope env _ (newList []) false (eval iter env) (some (assign (.Name x p) env))) _ _ s
    obtain ⟨cl, hcl, h⟩ := comp_core (pos := pos) (E := E) (RR := fun acc C => compPost (model prog w) A E (some (assign (.Name x p) env)) (fun _ s' => Q .next s') acc C) ft hl hk htr hloc HI H hS hA hs I F q₁ (by
      intro D C h' tk S' ds ys m mm hav x' l r hD hD0 hn hC0
      show wpAny _ A (assign (.Name x p) env (.ref D)) _ _ _
      subst hav
      refine store_res (s := { s with heap := h', toks := tk }) nc hs I x' (.fresh l r hD hD0) (F.ev I x') hx fun h'' tk' S'' μ'' evo F'' k => ?_
      have hOC : ∀ a, Own env a → a ≠ C := fun a ha q => by
        obtain ⟨o, e⟩ := ha.has F
        rw [q, hC0] at e; cases e
      have hn'' : h''.Ns C mm := hn.at' fun o e => k C o (fun q => hOC C q rfl) e
      have nP : ∀ o, h''.get? C = some o → ¬ Plainly o := fun o e p => by
        obtain ⟨o', es, ep, e', d, _⟩ := hn''
        rw [e] at e'; cases e'
        exact p.1 es ep d
      have hCS : ¬ S'' C := fun q => by
        obtain ⟨o, e, p⟩ := evo.inv.inS C q
        exact nP o e p
      have hCm : C ∉ μ'' := fun q => by
        obtain ⟨vs, j, e⟩ := evo.inv.mem q
        exact nP _ e (lst_plain _ _)
      have hCb : base.get? C = none := by
        cases e : base.get? C with
        | none => rfl
        | some o => have := I.keepB C o e; rw [hC0] at this; cases this
      refine ⟨mm, hn'', fun h₃ sb => ?_⟩
      have k₃ : ∀ b o, ¬ (b = C) → h''.get? b = some o → h₃.get? b = some o := fun b o hb e => sb.extBut b o hb e
      refine P .next h₃ tk' S'' μ'' (evo.poke (wr := fun b => b = C) (Mv.same k₃) (fun a o ha e => by rw [ha, hC0] at e; cases e) (fun a ha => ha ▸ hCS) (fun a ha => ha ▸ hCm) (fun a ha => ha ▸ hCb) fun a o ha e => by rw [ha, hC0] at e; cases e) (.next ?_)
      exact F''.mv (Mv.same k₃) (fun a ha => ha ▸ hCS) hOC)
    exact wpAny_bind (wpAny_mono (wpAny_comprehension_free (use := some (assign (.Name x p) env)) (Q := fun _ s' => Q .next s') rfl (HI.1 env) hcl ft.kind ft.loc h) (fun _ s' hq => wpAny_pure (wpAny_pure hq)) fun _ _ e => e)

theorem ss_unpack {es : List Expr} {k : Nat} {p pos : Pos} {e : Expr} {c : CE} {is : List Nat} (hi : ownsOf G sc es = some is) (hc : isComp e = false) (ht : isTupT e = false) (H : SE prog w base ec G n Φ sc e c) : SS prog w base ec G n sc (exec (.Assign [.Tuple es k p] e pos)) (fun ρ σ => evS N Φ (.unpack is c) ρ σ) := by
  intro A env ρ σ σ' fl S μ s Q E hA hs I F q hx P
  simp only [evS] at q
  split at q
  · rename_i ds σ₁ q₁
    split at q
    · rename_i ρ' hb
      cases q
      refine wpAny_Assign_stores (H A env ρ σ _ _ S μ s _ E hA hs I F q₁ fun v h' tk S' x r => ?_) (by unfold swapsWithSole; exact swaps_no hc _ _ _) (by cases e <;> first | rfl | cases ht)
      cases r with
      | old r => cases r with
        | dat r =>
          show wpAny _ A (assign (.Tuple es k p) env v) _ _ _
          have F' := F.ev I x
          refine bind_ok (lc := false) (s := { s with heap := h', toks := tk }) (tg := .many is) (d := .tuple ds) (by simp only [trT, hi]) hA.hd hs (fun z => nomatch z) x.inv F' r hb fun h'' tk' I'' F'' k st => ?_
          refine P .next h'' tk' S' μ ((Evo.of x).poke (wr := Own env) (Mv.same fun b o hb e => k b o (fun q => hb q.1) e) (fun a o ha _ => ha) (fun a ha => ha.notS x.inv F') (fun a ha => ha.notMu x.inv F') (fun a ha => ha.new F') fun a o ha e => ?_) (.next F'')
          obtain ⟨o', e'⟩ := x.stays e
          exact st a o' e'
    · cases q
  · cases q

/-! ### loops -/

theorem for_loop {A : Around} {target : Expr} {body : List Stmt} {I : Addr} {xs : List PyData} {fp wr : Addr → Prop} {St : Nat → Heap → Prop} {Mid : Nat → Value → Heap → Prop} {Ok : (Addr → Prop) → Heap → Prop} {T : Expr → Prop} {env : Env} {tg : Tgt} {μ : List Addr} {S₀ : Addr → Prop} {σ₀ : Store} {h₀ : Heap} {cs : List CS}
    (Z : Src prog w A I fp wr xs T St Mid Ok) (hA : AOk n A) (hs : ScOk env sc) (hT : T target) (htr : trT G sc target = some tg) (H : SS prog w base ec G n sc (execs body) (fun ρ σ => evSs N Φ cs ρ σ)) :
    ∀ (rest : List PyData) (i : Nat) (S : Addr → Prop) (μ' : List Addr) (ρ : Rho) (σ σ' : Store) (fl : Fl) (s : Shared) (R : Result → Shared → Prop), xs.drop i = rest → i ≤ xs.length → Lp base (Own env) μ S₀ σ₀ h₀ fp wr St Ok i μ' S σ s.heap → FrOk base ec G.V S μ' env ρ s.heap →
      forGo tg (fun ρ' σ' => evSs N Φ cs ρ' σ') rest ρ σ = some (fl, σ') → (∀ c, fl ≠ .exc c) →
      (∀ f h' tk S' μ'', Evo base (Own env) μ μ'' S₀ S' σ₀ σ' h₀ h' → FlOk base ec G.V env h₀ h' S' μ'' fl f → R (.ok f) { s with heap := h', toks := tk }) →
      codeAny (model prog w) A (.forLoop target (.ref I) body [] env) R s := by
  intro rest
  induction rest with
  | nil =>
    intro i S μ' ρ σ σ' fl s R hd hi L F q hx P
    simp only [forGo] at q
    cases q
    have hi' : i = xs.length := by have := List.drop_eq_nil_iff.mp hd; omega
    subst hi'
    refine codeAny_of_tree ?_
    show wpAny _ A ((forTurn target (.ref I) body [] env).onRaise (fun x => do noteFrame x env; theTreesLotGoes x)) _ _ s
    refine wpAny_noted ?_
    simp only [forTurn]
    refine wpAny_bind (wpAny_standAt (wpAny_bind (wpAny_onRaise (L.done Z fun h₂ tk mv ev => ?_))))
    have hwO : ∀ a, Own env a → ¬ wr a := fun a ha q => by
      obtain ⟨o, e, p⟩ := Z.alloc _ _ a L.st (Z.sub a q)
      exact ha.notList F e p
    exact wpAny_pure ⟨rfl, codeAny_block (wpAny_execs_nil (P .next h₂ tk S μ' ev (.next (F.mv mv (fun a q hs => L.nw a hs q) hwO))))⟩
  | cons d rest ih =>
    intro i S μ' ρ σ σ' fl s R hd hi L F q hx P
    have hlt : i < xs.length := by
      rcases Nat.lt_or_ge i xs.length with q | q
      · exact q
      · rw [List.drop_eq_nil_of_le q] at hd; cases hd
    have hxi : xs[i]? = some d := by
      have := congrArg (fun l => l[0]?) hd
      simpa using this
    have hd' : xs.drop (i + 1) = rest := by
      have := congrArg List.tail hd
      simpa using this
    simp only [forGo] at q
    split at q
    · cases q
    · rename_i ρ₁ hb
      refine codeAny_of_tree ?_
      show wpAny _ A ((forTurn target (.ref I) body [] env).onRaise (fun x => do noteFrame x env; theTreesLotGoes x)) _ _ s
      refine wpAny_noted ?_
      simp only [forTurn]
      refine wpAny_bind (wpAny_standAt (wpAny_bind (wpAny_onRaise (L.next Z hxi hT fun v h₂ tk₂ S₂ go => ?_))))
      refine wpAny_bind (go _ _ fun h₃ mv L₃ rv => ?_)
      have hwO : ∀ a, Own env a → ¬ wr a := fun a ha q => by
        obtain ⟨o, e, p⟩ := Z.alloc _ _ a L.st (Z.sub a q)
        exact ha.notList F e p
      have F₃ := F.mv mv (fun a q hs => L.nw a hs q) hwO
      refine wpAny_bind (bind_ok (lc := false) (s := { s with heap := h₃, toks := tk₂ }) htr hA.hd hs (fun z => nomatch z) L₃.ev.inv F₃ rv hb fun h₄ tk₄ I₄ F₄ k₄ st₄ => ?_)
      have hOS : ∀ a, Own env a → ¬ S₂ a := fun a ha => ha.notS L₃.ev.inv F₃
      have hOf : ∀ a, Own env a → ¬ fp a := fun a ha q => by
        obtain ⟨o, e, p⟩ := Z.alloc _ _ a L₃.st q
        exact ha.notList F₃ e p
      have L₄ : Lp base (Own env) μ S₀ σ₀ h₀ fp wr St Ok (i + 1) μ' S₂ σ h₄ := L₃.poke Z (P := Own env) (fun b o hb e => k₄ b o (fun q => hb q.1) e) (fun a o ha _ => ha) hOS (fun a ha => ha.notMu L₃.ev.inv F₃) (fun a ha => ha.new F₃) hOf fun a o _ e => st₄ a o e
      split at q
      · rename_i ρ₂ σ₂ q₁
        refine wpAny_bind (H A env ρ₁ σ σ₂ _ S₂ μ' { s with heap := h₄, toks := tk₄ } _ _ hA hs I₄ F₄ q₁ (fun c e => nomatch e) fun f h₅ tk₅ S₅ μ₅ x₅ r₅ => ?_)
        cases r₅ with
        | next F₅ =>
          have L₅ := L₄.step Z x₅ (fun a o ha _ => ha) hOf (fun a ha => ha.notS I₄ F₄)
          refine wpAny_pure ⟨rfl, ?_⟩
          exact ih (i + 1) S₅ μ₅ ρ₂ σ₂ σ' fl { s with heap := h₅, toks := tk₅ } R hd' hlt L₅ F₅ q hx P
      · rename_i hn
        refine wpAny_bind (H A env ρ₁ σ σ' fl S₂ μ' { s with heap := h₄, toks := tk₄ } _ _ hA hs I₄ F₄ q hx fun f h₅ tk₅ S₅ μ₅ x₅ r₅ => ?_)
        have L₅ := L₄.step Z x₅ (fun a o ha _ => ha) hOf (fun a ha => ha.notS I₄ F₄)
        cases r₅ with
        | next F₅ => exact (hn _ _ q).elim
        | ret r₅ => exact wpAny_pure (P (.ret _) h₅ tk₅ S₅ μ₅ L₅.ev (.ret (r₅.backo L₄.ev)))

theorem ss_for {target iter : Expr} {body : List Stmt} {pos : Pos} {tg : Tgt} {k : ItK} {its : List CE} {cs : List CS} (hk : tgtFits k tg = true) (htr : trT G sc target = some tg) (HI : SI prog w base ec G n Φ sc iter k its) (H : SS prog w base ec G n sc (execs body) (fun ρ σ => evSs N Φ cs ρ σ)) :
    SS prog w base ec G n sc (exec (.For target iter body [] pos)) (fun ρ σ => evS N Φ (.forr tg k its cs) ρ σ) := by
  intro A env ρ σ σ' fl S μ s Q E hA hs I F q hx P
  simp only [evS] at q
  split at q
  · cases q
  · rename_i vs σ₁ q₁
    split at q
    · cases q
    · rename_i ds q₂
      split at q
      · cases q
      · rename_i xs q₃
        split at q
        · cases q
        · rename_i f σ₂ q₄
          cases q
          refine wpAny_For (HI.2 A env ρ σ σ₁ vs ds xs S μ s _ E hA hs I F q₁ q₂ q₃ fun It h₀ h₁ tk S₀ fp wr St Mid Ok x M => ?_) (HI.1 env)
          have lk := lock_ev (L := liveOf σ₁ vs) x.inv liveOf_ok
          have F₀ := F.ev I x
          have F₁ : FrOk base ec G.V S₀ μ env ρ h₁ := F₀.mono (fun a o _ e => M.grow a o e) fun v av r => r.mono (fun a o _ e => M.grow a o e) (fun _ q => q) fun _ _ q => q
          refine for_loop M.src hA hs (tgt_kind hk htr) htr H xs 0 S₀ μ ρ _ σ₂ fl { s with heap := h₁, toks := tk } _ rfl (Nat.zero_le _) (M.lp lk.inv fun _ _ e => e) F₁ q₄ hx ?_
          intro f' h' tk' S' μ' ev' r'
          have e1 := unlock x.inv liveOf_ok ev'
          exact P f' h' tk' S' μ' ((Evo.of x).trans e1 fun _ _ q _ => q) (r'.back (Evo.of (X := fun _ => False) x))

theorem while_loop {A : Around} {test : Expr} {body : List Stmt} {env : Env} {c : CE} {cs : List CS} (hA : AOk n A) (hs : ScOk env sc) (HT : ST prog w base ec G n Φ sc test c) (H : SS prog w base ec G n sc (execs body) (fun ρ σ => evSs N Φ cs ρ σ)) {μ : List Addr} {S₀ : Addr → Prop} {σ₀ : Store} {h₀ : Heap} :
    ∀ (k : Nat) (S : Addr → Prop) (μ' : List Addr) (ρ : Rho) (σ σ' : Store) (fl : Fl) (s : Shared) (R : Result → Shared → Prop), Evo base (Own env) μ μ' S₀ S σ₀ σ h₀ s.heap → FrOk base ec G.V S μ' env ρ s.heap →
      whileGo (fun ρ' σ' => evE Φ c ρ' σ') (fun ρ' σ' => evSs N Φ cs ρ' σ') k ρ σ = some (fl, σ') → (∀ c, fl ≠ .exc c) →
      (∀ f h' tk S' μ'', Evo base (Own env) μ μ'' S₀ S' σ₀ σ' h₀ h' → FlOk base ec G.V env h₀ h' S' μ'' fl f → R (.ok f) { s with heap := h', toks := tk }) →
      codeAny (model prog w) A (.whileLoop test body [] env) R s := by
  intro k
  induction k with
  | zero => intro S μ' ρ σ σ' fl s R x F q; cases q
  | succ k ih =>
    intro S μ' ρ σ σ' fl s R x F q hx P
    simp only [whileGo] at q
    split at q
    · cases q
    · rename_i v σ₁ q₁
      refine codeAny_of_tree ?_
      show wpAny _ A ((whileTurn test body [] env).onRaise (fun x => do noteFrame x env; theTreesLotGoes x)) _ _ s
      refine wpAny_noted ?_
      simp only [whileTurn]
      split at q
      · cases q
      · rename_i hb
        cases q
        refine wpAny_bind (HT A env ρ σ _ v false S μ' s _ _ hA hs x.inv F q₁ hb fun h₁ tk₁ S₁ x₁ => ?_)
        refine wpAny_bind (wpAny_execs_nil (wpAny_pure ?_))
        exact P .next h₁ tk₁ S₁ μ' (x.trans (Evo.of (X := fun _ => False) x₁) fun _ _ q => q.elim) (.next (F.ev x.inv x₁))
      · rename_i hb
        refine wpAny_bind (HT A env ρ σ _ v true S μ' s _ _ hA hs x.inv F q₁ hb fun h₁ tk₁ S₁ x₁ => ?_)
        have x' := x.trans (Evo.of (X := fun _ => False) x₁) fun _ _ q => q.elim
        have F₁ := F.ev x.inv x₁
        split at q
        · rename_i ρ₂ σ₂ q₂
          refine wpAny_bind (H A env ρ σ₁ σ₂ _ S₁ μ' { s with heap := h₁, toks := tk₁ } _ _ hA hs x₁.inv F₁ q₂ (fun c e => nomatch e) fun f h₅ tk₅ S₅ μ₅ x₅ r₅ => ?_)
          cases r₅ with
          | next F₅ =>
            refine wpAny_pure ⟨rfl, ?_⟩
            exact ih S₅ μ₅ ρ₂ σ₂ σ' fl { s with heap := h₅, toks := tk₅ } R (x'.trans x₅ fun _ _ q _ => q) F₅ q hx P
        · rename_i hn
          refine wpAny_bind (H A env ρ σ₁ σ' fl S₁ μ' { s with heap := h₁, toks := tk₁ } _ _ hA hs x₁.inv F₁ q hx fun f h₅ tk₅ S₅ μ₅ x₅ r₅ => ?_)
          cases r₅ with
          | next F₅ => exact (hn _ _ q).elim
          | ret r₅ => exact wpAny_pure (P (.ret _) h₅ tk₅ S₅ μ₅ (x'.trans x₅ fun _ _ q _ => q) (.ret (r₅.backo x')))
theorem ss_while {test : Expr} {body : List Stmt} {pos : Pos} {c : CE} {cs : List CS} (HT : ST prog w base ec G n Φ sc test c) (H : SS prog w base ec G n sc (execs body) (fun ρ σ => evSs N Φ cs ρ σ)) :
    SS prog w base ec G n sc (exec (.While test body [] pos)) (fun ρ σ => evS N Φ (.whil c cs) ρ σ) := by
  intro A env ρ σ σ' fl S μ s Q E hA hs I F q hx P
  simp only [evS] at q
  refine wpAny_While (while_loop hA hs HT H N S μ ρ σ σ' fl s _ (.refl I) F q hx ?_)
  intro f h' tk S' μ' x r
  exact P f h' tk S' μ' x r
end
end Mine

-- M19
namespace Mine
open PySem PySem.Calls PyProof.Rows

section
variable {prog : Program} {w : World} {base : Heap} {ec : ExcCls} {G : Cfg} {n N : Nat} {Φ : Phi} {sc : Sc}

/-- a live cell is written -/
theorem cell_set {S : Addr → Prop} {μ : List Addr} {σ : Store} {h h' : Heap} {c : Nat} {ds ds' : List PyData} {a : Addr} {vs' : List Value} {m' : Nat} (I : Inv base S μ σ h) (hc : σ[c]? = some (.live, ds)) (ha : μ[c]? = some a) (sb : Heap.SameBut a h h') (e : h'.get? a = some (lstO vs' m')) (r : RdL h S vs' ds') :
    Ev base μ S S σ (σ.set c (.live, ds')) h h' := by
  obtain ⟨vs, m, e0, r0, _, hS⟩ := I.cells c a _ ds ha hc
  have hS : ¬ S a := hS (by intro q; cases q)
  have kS : ∀ b o, S b → h.get? b = some o → h'.get? b = some o := fun b o hb e => sb.extBut b o (fun q => hS (q ▸ hb)) e
  have hL : Live μ σ a := ⟨c, ds, ha, hc⟩
  refine ⟨fun _ q => q, fun _ q => .inl q, ⟨fun b o eb => sb.extBut b o (fun q => ?_) (I.keepB b o eb), by rw [List.length_set]; exact I.len, fun i b f es e1 e2 => ?_, I.nodup, I.new, fun b hb => ?_⟩, fun b o hb e => sb.extBut b o (fun q => hb (q ▸ hL)) e, fun b l => ?_⟩
  · have := I.new a (List.mem_of_getElem? ha)
    rw [← q, eb] at this; cases this
  · by_cases q : c = i
    · subst q
      rw [set_at hc] at e2; cases e2
      rw [ha] at e1; cases e1
      exact ⟨vs', m', e, r.mono kS fun _ q => q, fun z => (nomatch z), fun _ => hS⟩
    · rw [set_ne q] at e2
      obtain ⟨us, k, k1, k2, k3, k4⟩ := I.cells i b f es e1 e2
      refine ⟨us, k, sb.extBut b _ (fun z => q ?_) k1, k2.mono kS fun _ q => q, k3, k4⟩
      subst z
      exact I.nodup c i _ ha e1
  · obtain ⟨o, eo, p⟩ := I.inS b hb
    exact ⟨o, kS b o hb eo, p⟩
  · obtain ⟨i, es, e1, e2⟩ := l
    by_cases q : c = i
    · subst q; exact ⟨c, ds, e1, hc⟩
    · rw [set_ne q] at e2; exact ⟨i, es, e1, e2⟩

theorem upd_list {h : Heap} {a : Addr} {vs : List Value} {m : Nat} (e : h.get? a = some (lstO vs m)) (f : Array Value → Array Value) : ∃ m', (h.update a (Obj.mapSeq f)).get? a = some (lstO (f vs.toArray).toList m') := by
  have := IsL.update (h := h) (l := a) (items := vs.toArray) (n := m) e f
  have this' : (h.update a (Obj.mapSeq f)).get? a = some { cls := .type "list", data := .seq (f vs.toArray) (if (f vs.toArray).size == vs.toArray.size then m else m + 1) } := this
  exact ⟨_, by rw [this']⟩

theorem no_inter {env : Env} (h : env.scope.kind = .function) : interactive env = false := by
  unfold interactive
  rw [h]
  rfl

theorem var_cell {A : Around} {env : Env} {ρ : Rho} {σ : Store} {S : Addr → Prop} {μ : List Addr} {s : Shared} {E : Value → Shared → Prop} {Q : Value → Shared → Prop} {x : Str} {p : Pos} {i c : Nat} (hs : ScOk env sc) (I : Inv base S μ σ s.heap) (F : FrOk base ec G.V S μ env ρ s.heap) (hx : varOf G sc x = some i) (hi : ρ i = some (.cell c))
    (h : ∀ a vs m, μ[c]? = some a → s.heap.get? a = some (lstO vs m) → Q (.ref a) s) : wpAny (model prog w) A (eval (.Name x p) env) Q E s := by
  unfold varOf at hx
  split at hx
  · rename_i hv
    rw [Bool.and_eq_true] at hv
    refine eval_var F ((hs.var x).trans hv.1) hv.2 hx hi fun v r => ?_
    cases r with
    | @cell _ a ha =>
      obtain ⟨vs, m, e⟩ := I.mem (List.mem_of_getElem? ha)
      exact h a vs m ha e
  · cases hx

theorem method_list {A : Around} {E : Value → Shared → Prop} {Q : Value → Shared → Prop} {s : Shared} {name : Str} {id : String} {a : Addr} {vs : List Value} {m : Nat} {pos : Pos} {args : List (Bool × Sem Value)} (slot : Slot "list" name id) (ty : typeOf (.builtin id) = pure (.type "method_descriptor")) (e : s.heap.get? a = some (lstO vs m))
    (h : wpAny (model prog w) A (callWith pos (.builtin id) [.ref a] args []) Q E s) : MethodOnS prog w A E name (.ref a) pos args Q s :=
  ⟨"list", id, PySem.F.plainAttrs_list, slot, ty, ⟨_, e, rfl⟩, fun b q => by cases q; exact ⟨_, e, rfl⟩, h⟩

theorem ss_append {x : Str} {m : Str} {p ap pos spos : Pos} {e : Expr} {c : CE} {i : Nat} (hm : (m == ("append" : Str)) = true) (hl : (ap.endLine == pos.line) = true) (hx : varOf G sc x = some i) (hn : noStar e = true) (H : SE prog w base ec G n Φ sc e c) :
    SS prog w base ec G n sc (exec (.Expr (.Call (.Attribute (.Name x p) m ap) [e] [] pos) spos)) (fun ρ σ => evS N Φ (.append i c) ρ σ) := by
  intro A env ρ σ σ' fl S μ s Q E hA hs I F q _ P
  simp only [evS] at q
  split at q
  · rename_i k hk
    split at q
    · cases q
    · rename_i v σ₁ q₁
      split at q
      · cases q
      · rename_i d σ₂ q₂
        split at q
        · rename_i ds q₃
          split at q
          · rename_i hz
            cases q
            rw [beq_iff_eq] at hm
            subst hm
            refine wpAny_Expr_any ?_ (no_inter F.kind) rfl
            refine Call_method1 rfl (starEach_no hn) hl (var_cell hs I F hx hk fun a vs j ha e => ?_)
            refine method_list PySem.F.slot_list_append type_list_append e (PySem.P.append_list ?_)
            refine seq1 H hA hs I F q₁ fun u h' tk S' x r F' => ?_
            obtain ⟨S₂, x₂, r₂, _⟩ := own_step x (settle_notFresh v) r q₂
            obtain ⟨vs₂, m₂, e₂, rl, _⟩ := x₂.inv.cells k a _ ds ha q₃
            refine ⟨vs₂.toArray, m₂, ?_, e₂, ?_⟩
            · have := rl.length
              rw [← lim_eq]; simp; omega
            · obtain ⟨m₃, e₃⟩ := upd_list e₂ (fun xs => xs.push u)
              have y := cell_set (ds' := ds ++ [d]) x₂.inv q₃ ha (Heap.SameBut.update ..) e₃ (by simpa using rl.append (.one r₂))
              have z := x₂.trans y
              exact P .next _ tk S₂ μ (.of z) (.next (F.ev I z))
          · cases q
        · cases q
  · cases q

theorem ss_extend {x : Str} {m : Str} {p ap pos spos : Pos} {e : Expr} {c : CE} {i : Nat} (hm : (m == ("extend" : Str)) = true) (hl : (ap.endLine == pos.line) = true) (hx : varOf G sc x = some i) (hn : noStar e = true) (H : SE prog w base ec G n Φ sc e c) :
    SS prog w base ec G n sc (exec (.Expr (.Call (.Attribute (.Name x p) m ap) [e] [] pos) spos)) (fun ρ σ => evS N Φ (.extend i c) ρ σ) := by
  intro A env ρ σ σ' fl S μ s Q E hA hs I F q _ P
  simp only [evS] at q
  split at q
  · rename_i k hk
    split at q
    · cases q
    · rename_i v σ₁ q₁
      split at q
      · rename_i es q₂
        split at q
        · rename_i ds q₃
          split at q
          · rename_i hz
            cases q
            rw [beq_iff_eq] at hm
            subst hm
            refine wpAny_Expr_any ?_ (no_inter F.kind) rfl
            refine Call_method1 rfl (starEach_no hn) hl (var_cell hs I F hx hk fun a vs j ha e => ?_)
            refine method_list PySem.F.slot_list_extend PySem.F.type_list_extend e (PySem.P.extend_list ?_)
            refine seq1 H hA hs I F q₁ fun u h' tk S' x r F' => ?_
            obtain ⟨b, us, mb, rfl, eb, rb⟩ := (r.rt x.inv q₂).lstD
            obtain ⟨vs₂, m₂, e₂, rl, _⟩ := x.inv.cells k a _ ds ha q₃
            have l1 := rl.length
            have l2 := rb.length
            refine ⟨b, vs₂.toArray, us.toArray, m₂, mb, ?_, ?_, ?_, rfl, e₂, eb, ?_⟩
            · rw [← lim_eq]; simp; omega
            · rw [← lim_eq]; simp; omega
            · unfold Builtin.List.listTooLong
              rw [← lim_eq]
              simp
              intro _
              omega
            · obtain ⟨m₃, e₃⟩ := upd_list e₂ (fun xs => xs ++ us.toArray)
              have y := cell_set (ds' := ds ++ es) x.inv q₃ ha (Heap.SameBut.update ..) e₃ (by simpa using rl.append rb)
              have z := x.trans y
              exact P .next _ tk S' μ (.of z) (.next (F.ev I z))
          · cases q
        · cases q
      · cases q
  · cases q

theorem ss_insert {x : Str} {m : Str} {p ap pos spos : Pos} {e f : Expr} {c d : CE} {i : Nat} (hm : (m == ("insert" : Str)) = true) (hl : (ap.endLine == pos.line) = true) (hx : varOf G sc x = some i) (hn : noStar e = true) (hn' : noStar f = true) (H : SE prog w base ec G n Φ sc e c) (H' : SE prog w base ec G n Φ sc f d) :
    SS prog w base ec G n sc (exec (.Expr (.Call (.Attribute (.Name x p) m ap) [e, f] [] pos) spos)) (fun ρ σ => evS N Φ (.insert i c d) ρ σ) := by
  intro A env ρ σ σ' fl S μ s Q E hA hs I F q _ P
  simp only [evS] at q
  split at q
  · rename_i k hk
    split at q
    · rename_i j σ₁ q₁
      split at q
      · cases q
      · rename_i v σ₂ q₂
        split at q
        · cases q
        · rename_i d' σ₃ q₃
          split at q
          · rename_i ds q₄
            split at q
            · rename_i hz
              cases q
              rw [beq_iff_eq] at hm
              subst hm
              refine wpAny_Expr_any ?_ (no_inter F.kind) rfl
              refine Call_method2 rfl (by rw [starEach_no hn, starEach_no hn']; rfl) hl (var_cell hs I F hx hk fun a vs j' ha e => ?_)
              refine method_list PySem.F.slot_list_insert PySem.F.type_list_insert e ?_
              refine method_meets PySem.F.slot_list_insert PySem.F.entry_list_insert rfl (evalArgs_plain (spliced_cons ?_))
              refine seq1 H hA hs I F q₁ fun u h₁ tk₁ S₁ x₁ r₁ F₁ => ?_
              refine spliced_cons (seq1 (s := { s with heap := h₁, toks := tk₁ }) H' hA hs x₁.inv F₁ q₂ fun u' h₂ tk₂ S₂ x₂ r₂ F₂ => spliced_nil ?_)
              obtain ⟨t, rfl⟩ := (rtOf (d := .int j) x₁.inv r₁ rfl).intD
              obtain ⟨S₃, x₃, r₃, _⟩ := own_step x₂ (settle_notFresh v) r₂ q₃
              obtain ⟨vs₃, m₃, e₃, rl, _⟩ := x₃.inv.cells k a _ ds ha q₄
              have ll := rl.length
              have hsz : vs₃.toArray.size ≤ sizeLine := by rw [← lim_eq]; simp; omega
              have hj : j.toNat < lim := by omega
              have hfit : ¬(!Builtin.List.listFitsIndex j) = true := by
                unfold Builtin.List.listFitsIndex
                have : lim = 16777216 := rfl
                simp
                constructor <;> omega
              refine ⟨rfl, ⟨_, e₃, rfl⟩, PySem.F.args_list_insert_3 _ _ _, _, AutoSeq1.list_insert_list_int_val_1 a vs₃.toArray m₃ j t u' hfit hsz, e₃, ?_⟩
              obtain ⟨m₄, e₄⟩ := upd_list e₃ (fun xs => have k := if j < 0 then (j + (xs.size : Int)).toNat else min j.toNat xs.size; (xs.extract 0 k).push u' ++ xs.extract k)
              have hlist : ((fun xs : Array Value => have k := if j < 0 then (j + (xs.size : Int)).toNat else min j.toNat xs.size; (xs.extract 0 k).push u' ++ xs.extract k) vs₃.toArray).toList = vs₃.take j.toNat ++ u' :: vs₃.drop j.toNat := by
                have h0 : ¬ j < 0 := by omega
                have h1 : min j.toNat vs₃.length = j.toNat := by omega
                simp [h0, h1]
                exact List.take_of_length_le (by simp)
              rw [hlist] at e₄
              have y := cell_set (ds' := ds.take j.toNat ++ d' :: ds.drop j.toNat) x₃.inv q₄ ha (Heap.SameBut.update ..) e₄ ((rl.take _).append (.cons r₃ (rl.drop _)))
              have z := (x₁.trans x₃).trans y
              exact P .next _ tk₂ S₃ μ (.of z) (.next (F.ev I z))
            · cases q
          · cases q
    · cases q
  · cases q

theorem ss_call (W : Wd base ec G) (HP : PhiOk prog w base ec G n Φ) {g : Str} {p pos spos : Pos} {es : List Expr} {cs : List CE} {k : Nat} (hg : isGlob sc g = true) (ho : okName g = true) (hk : slotL (G.fns.map (·.1)) 0 g = some k) (hne : es ≠ []) (hS : SEs prog w base ec G n Φ sc es cs) :
    SS prog w base ec G n sc (exec (.Expr (.Call (.Name g p) es [] pos) spos)) (fun ρ σ => evS N Φ (.expr (.call k cs)) ρ σ) := by
  intro A env ρ σ σ' fl S μ s Q E hA hs I F q hx P
  simp only [evS] at q
  refine wpAny_Expr_any ?_ (no_inter F.kind) rfl
  split at q
  · cases q
  · rename_i vs σ₁ q₁
    split at q
    · rename_i v σ₂ q₂
      cases q
      have ev : evE Φ (.call k cs) ρ σ = some (v, σ') := by simp only [evE, q₁, q₂]
      exact se_call W HP hg ho hk hne hS A env ρ σ σ' v S μ s _ E hA hs I F ev fun u h' tk S' x r => P .next h' tk S' μ (.of x) (.next (F.ev I x))
    · cases q; exact (hx _ rfl).elim
    · cases q
end
end Mine

-- M20
namespace Mine
open PySem PySem.Calls PyProof.Rows

noncomputable def trLS (f : Stmt → Option CS) : List Stmt → Option (List CS)
  | [] => some []
  | e :: es => match f e with
    | none => none
    | some c => match trLS f es with
      | none => none
      | some cs => some (c :: cs)

noncomputable def trAsg (G : Cfg) (sc : Sc) (e : Expr) : List Expr → Option CS
  | [.Name x _] => (match ownOf G sc x, trE G 40 sc e with | some i, some c => some (asg (G.cells.contains x) i c) | _, _ => none)
  | [.Tuple es _ _] => (match ownsOf G sc es, trE G 40 sc e with | some is, some c => if !isComp e && !isTupT e then some (.unpack is c) else none | _, _ => none)
  | _ => none
noncomputable def trMth (G : Cfg) (sc : Sc) (x m : Str) : List Expr → Option CS
  | [a] => if noStar a then (match varOf G sc x, trE G 40 sc a with
      | some i, some c => if m == ("append" : Str) then some (.append i c) else if m == ("extend" : Str) then some (.extend i c) else none
      | _, _ => none) else none
  | [a, b] => if noStar a && noStar b && (m == ("insert" : Str)) then
      (match varOf G sc x, trE G 40 sc a, trE G 40 sc b with
      | some i, some c, some d => some (.insert i c d)
      | _, _, _ => none) else none
  | _ => none
noncomputable def trDo (G : Cfg) (sc : Sc) (g : Str) (args : List Expr) : Option CS :=
  if isGlob sc g && okName g && args.all noStar && !args.isEmpty then
    (match slotL (G.fns.map (·.1)) 0 g, trL (trE G 40 sc) args with
    | some k, some cs => some (.expr (.call k cs))
    | _, _ => none) else none
noncomputable def trCallS (G : Cfg) (sc : Sc) (pos : Pos) (args : List Expr) : Expr → Option CS
  | .Attribute o m ap => if ap.endLine == pos.line then (match nameOf o with | some x => trMth G sc x m args | none => none) else none
  | .Name g _ => trDo G sc g args
  | _ => none
noncomputable def trExpS (G : Cfg) (sc : Sc) : Expr → Option CS
  | .Call g args kws pos => if kws.isEmpty then trCallS G sc pos args g else none
  | _ => none

noncomputable def trS (G : Cfg) : Nat → Sc → Stmt → Option CS
  | 0, _, _ => none
  | m + 1, sc, st => match st with
    | .Assign ts e _ => trAsg G sc e ts
    | .Expr e _ => trExpS G sc e
    | .If t a b _ => (match trE G 40 sc t, trLS (trS G m sc) a, trLS (trS G m sc) b with | some c, some x, some y => some (.ite c x y) | _, _, _ => none)
    | .While t b o _ => if o.isEmpty then (match trE G 40 sc t, trLS (trS G m sc) b with | some c, some x => some (.whil c x) | _, _ => none) else none
    | .For t it b o _ => if o.isEmpty then (match trT G sc t, trI sc (trE G 40 sc) it, trLS (trS G m sc) b with | some tg, some (k, its), some x => if tgtFits k tg then some (.forr tg k its x) else none | _, _, _ => none) else none
    | .Return eo _ => (match eo with
      | some e => (match trE G 40 sc e with | some c => some (.ret c) | none => none)
      | none => some (.ret (.const .none)))
    | _ => none

section
variable {prog : Program} {w : World} {base : Heap} {ec : ExcCls} {G : Cfg} {n N : Nat} {Φ : Phi} {sc : Sc}

theorem ss_ret0 {pos : Pos} : SS prog w base ec G n sc (exec (.Return none pos)) (fun ρ σ => evS N Φ (.ret (.const .none)) ρ σ) := by
  intro A env ρ σ σ' fl S μ s Q E hA hs I F q hx P
  simp only [evS, evE] at q
  cases q
  exact wpAny_Return_none (P _ s.heap s.toks S μ (.refl I) (.ret (.old (.dat .none))))

theorem comp_inv {m : Nat} {e : Expr} {c : CE} (h : trE G m sc e = some c) (hc : isComp e = true) : ∃ elt target iter ifs scope pos tg k its ce cs m', e = .ListComp elt [⟨target, iter, ifs, 0⟩] scope pos ∧ c = .comp ce tg k its cs ∧
    scopeFits sc scope = true ∧ localT scope.names target = true ∧ trT G scope.names target = some tg ∧ trI sc (trE G m' sc) iter = some (k, its) ∧ trE G m' scope.names elt = some ce ∧ trL (trE G m' scope.names) ifs = some cs ∧ tgtFits k tg = true ∧ locsIn G scope tg = true := by
  cases m with
  | zero => cases h
  | succ m =>
    cases e <;> first | (cases hc; done) | skip
    case ListComp elt gens scope pos =>
      simp only [trE] at h
      split at h
      · obtain ⟨target, iter, ifs, tg, k, its, ce, cs, rfl, rfl, r⟩ := comp_parts h
        exact ⟨_, _, _, _, _, _, _, _, _, _, _, m, rfl, rfl, r⟩
      · cases h
    case SetComp => cases h
    case DictComp => cases h

theorem trLS_ok {f : Stmt → Option CS} (hf : ∀ st c, f st = some c → SS prog w base ec G n sc (exec st) (fun ρ σ => evS N Φ c ρ σ)) : ∀ {b : List Stmt} {cs : List CS}, trLS f b = some cs → SS prog w base ec G n sc (execs b) (fun ρ σ => evSs N Φ cs ρ σ) := by
  intro b
  induction b with
  | nil => intro cs h; cases h; exact ss_nil
  | cons st b ih =>
    intro cs h
    simp only [trLS] at h
    split at h
    · cases h
    · rename_i c hc
      split at h
      · cases h
      · rename_i cs' hc'
        cases h
        exact ss_cons (hf st c hc) (ih hc')

theorem trAsg_ok (W : Wd base ec G) (HP : PhiOk prog w base ec G n Φ) {e : Expr} {ts : List Expr} {pos : Pos} {c : CS} (h : trAsg G sc e ts = some c) : SS prog w base ec G n sc (exec (.Assign ts e pos)) (fun ρ σ => evS N Φ c ρ σ) := by
  unfold trAsg at h
  split at h
  · split at h
    · rename_i i c' hi hc
      cases h
      cases hcomp : isComp e with
      | false => exact ss_asg hi hcomp (trE_ok W HP 40 _ _ _ hc).1
      | true =>
        obtain ⟨elt, target, iter, ifs, scope, pos, tg, k, its, ce, cs, m', rfl, rfl, h1, h2, h3, h4, h5, h6, h7, h8⟩ := comp_inv hc hcomp
        have HE' : ∀ (sc : Sc) (e : Expr) (c : CE), trE G m' sc e = some c → SB prog w base ec G n Φ sc e c := fun sc e c h => trE_ok W HP m' sc e c h
        exact ss_asgC hi (scopeFits_ok h1) h8 h7 h3 h2 (trI_ok W (fun e c h => (HE' _ e c h).1) h4) (HE' _ _ _ h5).1 (trL_sbs (HE' _) h6)
    · cases h
  · split at h
    · rename_i hi hc
      split at h
      · rename_i hn
        rw [Bool.and_eq_true, Bool.not_eq_true', Bool.not_eq_true'] at hn
        cases h
        exact ss_unpack hi hn.1 hn.2 (trE_ok W HP 40 _ _ _ hc).1
      · cases h
    · cases h
  · cases h
theorem trMth_ok (W : Wd base ec G) (HP : PhiOk prog w base ec G n Φ) {x m : Str} {p ap pos spos : Pos} {args : List Expr} {c : CS} (hl : (ap.endLine == pos.line) = true) (h : trMth G sc x m args = some c) : SS prog w base ec G n sc (exec (.Expr (.Call (.Attribute (.Name x p) m ap) args [] pos) spos)) (fun ρ σ => evS N Φ c ρ σ) := by
  have HE : ∀ (e : Expr) (c : CE), trE G 40 sc e = some c → SE prog w base ec G n Φ sc e c := fun e c h => (trE_ok W HP 40 sc e c h).1
  unfold trMth at h
  split at h
  · split at h
    · rename_i hn
      split at h
      · rename_i hi hc
        split at h
        · rename_i hm
          cases h
          exact ss_append hm hl hi hn (HE _ _ hc)
        · split at h
          · rename_i hm
            cases h
            exact ss_extend hm hl hi hn (HE _ _ hc)
          · cases h
      · cases h
    · cases h
  · split at h
    · rename_i hn
      rw [Bool.and_eq_true, Bool.and_eq_true] at hn
      split at h
      · rename_i hi hc hd
        cases h
        exact ss_insert hn.2 hl hi hn.1.1 hn.1.2 (HE _ _ hc) (HE _ _ hd)
      · cases h
    · cases h
  · cases h
theorem trExpS_ok (W : Wd base ec G) (HP : PhiOk prog w base ec G n Φ) {e : Expr} {spos : Pos} {c : CS} (h : trExpS G sc e = some c) : SS prog w base ec G n sc (exec (.Expr e spos)) (fun ρ σ => evS N Φ c ρ σ) := by
  unfold trExpS at h
  split at h
  · split at h
    · rename_i hk
      rw [List.isEmpty_iff] at hk
      subst hk
      unfold trCallS at h
      split at h
      · split at h
        · rename_i hl
          split at h
          · rename_i hx
            obtain ⟨q, rfl⟩ := nameOf_ok hx
            exact trMth_ok W HP hl h
          · cases h
        · cases h
      · unfold trDo at h
        split at h
        · rename_i hg
          rw [Bool.and_eq_true, Bool.and_eq_true, Bool.and_eq_true, Bool.not_eq_true'] at hg
          obtain ⟨⟨⟨h1, h2⟩, h3⟩, h4⟩ := hg
          split at h
          · rename_i hk hc
            cases h
            exact ss_call W HP h1 h2 hk (fun q => by rw [q] at h4; cases h4) (trL_ses (fun e c h => (trE_ok W HP 40 sc e c h).1) hc h3)
          · cases h
        · cases h
      · cases h
    · cases h
  · cases h
theorem trS_ok (W : Wd base ec G) (HP : PhiOk prog w base ec G n Φ) : ∀ (m : Nat) (st : Stmt) (c : CS), trS G m sc st = some c → SS prog w base ec G n sc (exec st) (fun ρ σ => evS N Φ c ρ σ) := by
  intro m
  have HE : ∀ (sc : Sc) (e : Expr) (c : CE), trE G 40 sc e = some c → SE prog w base ec G n Φ sc e c := fun sc e c h => (trE_ok W HP 40 sc e c h).1
  have HT : ∀ (sc : Sc) (e : Expr) (c : CE), trE G 40 sc e = some c → ST prog w base ec G n Φ sc e c := fun sc e c h => (trE_ok W HP 40 sc e c h).2
  induction m with
  | zero => intro st c h; cases h
  | succ m ih =>
    intro st c h
    cases st <;> simp only [trS] at h <;> first | (cases h; done) | skip
    case Expr => exact trExpS_ok W HP h
    case Assign => exact trAsg_ok W HP h
    case Return eo pos =>
      cases eo with
      | none => cases h; exact ss_ret0
      | some e =>
        dsimp only at h
        split at h
        · rename_i hc
          cases h
          exact ss_ret (HE _ _ _ hc)
        · cases h
    case If =>
      split at h
      · rename_i hc hx hy
        cases h
        exact ss_if (HT _ _ _ hc) (trLS_ok ih hx) (trLS_ok ih hy)
      · cases h
    case While =>
      split at h
      · rename_i ho
        rw [List.isEmpty_iff] at ho
        subst ho
        split at h
        · rename_i hc hx
          cases h
          exact ss_while (HT _ _ _ hc) (trLS_ok ih hx)
        · cases h
      · cases h
    case For =>
      split at h
      · rename_i ho
        rw [List.isEmpty_iff] at ho
        subst ho
        split at h
        · rename_i ht hi hx
          split at h
          · rename_i hk
            cases h
            exact ss_for hk ht (trI_ok W (HE _) hi) (trLS_ok ih hx)
          · cases h
        · cases h
      · cases h
end
end Mine

-- M21
namespace Mine
open PySem PySem.Calls PyProof.Rows

/-! ## Calls of the text's own functions -/

theorem cellsFrom_has : ∀ (names : List (Str × NameKind)) (k : Nat) (acc : List (Str × Addr)) (x : Str), ((x, NameKind.cell) ∈ names ∨ ∃ c, acc.lookup x = some c) → ∃ c, (cellsFrom k names acc).lookup x = some c := by
  intro names
  induction names with
  | nil => intro k acc x h; exact h.elim (fun q => nomatch q) id
  | cons p names ih =>
    intro k acc x h
    obtain ⟨y, kd⟩ := p
    unfold cellsFrom
    split
    · refine ih _ _ x ?_
      rcases h with h | ⟨c, h⟩
      · rcases List.mem_cons.mp h with q | q
        · cases q
          exact .inr ⟨k, by rw [List.lookup_cons]; simp⟩
        · exact .inl q
      · right
        rw [List.lookup_cons]
        cases q : x == y with
        | true => exact ⟨k, rfl⟩
        | false => exact ⟨c, h⟩
    · rename_i hk
      refine ih _ _ x ?_
      rcases h with h | h
      · rcases List.mem_cons.mp h with q | q
        · cases q; exact absurd rfl hk
        · exact .inl q
      · exact .inr h

section
variable {prog : Program} {w : World} {base : Heap} {ec : ExcCls} {G : Cfg} {n N : Nat} {Φ : Phi}

structure PRel (ec : ExcCls) (V : List Str) (kindOf : Str → Option NameKind) (h : Heap) (S : Addr → Prop) (μ : List Addr) (m cm : Str → Option Value) (ρ : Rho) : Prop where
  loc : ∀ x i av, slotL V 0 x = some i → ρ i = some av → kindOf x = some .local → ∃ v, m x = some v ∧ RdA ec h S μ v av
  cel : ∀ x i av, slotL V 0 x = some i → ρ i = some av → kindOf x = some .cell → ∃ v, cm x = some v ∧ RdA ec h S μ v av

noncomputable def slots (V : List Str) : List Str → Option (List Nat)
  | [] => some []
  | x :: xs => match slotL V 0 x with
    | none => none
    | some i => match slots V xs with
      | none => none
      | some is => some (i :: is)

theorem params_ok {V : List Str} {kindOf : Str → Option NameKind} {h : Heap} {S : Addr → Prop} {μ : List Addr} : ∀ {ps : List Str} {is : List Nat} {vals : List Value} {args : List AV} {m cm : Str → Option Value} {ρ ρ' : Rho}, slots V ps = some is → (∀ x ∈ ps, kindOf x = some .local ∨ kindOf x = some .cell) →
    RdAs ec h S μ vals args → bindArgsR is args ρ = some ρ' → PRel ec V kindOf h S μ m cm ρ → PRel ec V kindOf h S μ (bindL kindOf (ps.zip vals) m) (bindC kindOf (ps.zip vals) cm) ρ' ∧ vals.length = ps.length := by
  intro ps
  induction ps with
  | nil =>
    intro is vals args m cm ρ ρ' hs hk r hb R
    cases hs
    cases r with
    | nil => cases hb; exact ⟨R, rfl⟩
    | cons _ _ => cases hb
  | cons x ps ih =>
    intro is vals args m cm ρ ρ' hs hk r hb R
    simp only [slots] at hs
    split at hs
    · cases hs
    · rename_i i hi
      split at hs
      · cases hs
      · rename_i is' hs'
        cases hs
        cases r with
        | nil => cases hb
        | @cons v vs av avs rv r =>
          have key := ih (m := if kindOf x = some .local then fun y => if y = x then some v else m y else m) (cm := if kindOf x = some .local then cm else fun y => if y = x then some v else cm y) (ρ := ρ.set i av) hs' (fun y hy => hk y (.tail _ hy)) r hb ?_
          · exact ⟨key.1, by simp [key.2]⟩
          · have other : ∀ y j aw, slotL V 0 y = some j → (ρ.set i av) j = some aw → (y = x ∧ aw = av) ∨ (y ≠ x ∧ ρ j = some aw) := fun y j aw hy hj => by
              unfold Rho.set at hj
              split at hj
              · rename_i q; subst q; exact .inl ⟨slot_inj hy hi, (Option.some.inj hj).symm⟩
              · rename_i q
                refine .inr ⟨fun z => q ?_, hj⟩
                subst z
                rw [hi] at hy; cases hy; rfl
            constructor
            · intro y j aw hy hj hky
              rcases other y j aw hy hj with ⟨rfl, rfl⟩ | ⟨hne, hj'⟩
              · rw [if_pos hky]; exact ⟨v, by simp, rv⟩
              · obtain ⟨u, e, ru⟩ := R.loc y j aw hy hj' hky
                refine ⟨u, ?_, ru⟩
                split
                · simp [hne, e]
                · exact e
            · intro y j aw hy hj hky
              rcases other y j aw hy hj with ⟨rfl, rfl⟩ | ⟨hne, hj'⟩
              · rw [if_neg (by rw [hky]; intro q; cases q)]; exact ⟨v, by simp, rv⟩
              · obtain ⟨u, e, ru⟩ := R.cel y j aw hy hj' hky
                refine ⟨u, ?_, ru⟩
                split
                · exact e
                · simp [hne, e]

/-- what a def's record must be -/
structure DefOk (base : Heap) (V : List Str) (a : Addr) (fd : FuncData) (ps : List Str) (is : List Nat) (body : List Stmt) : Prop where
  rec_ : ∃ o, base.get? a = some o ∧ o.data = .func fd
  code : base.CodeRec fd.code fd.qualname
  stmts : fd.body = .stmts body
  clo : fd.closure = []
  glob : fd.globals = mainGlobals
  blt : fd.builtins = builtinsNs
  kind : fd.scope.kind = .function
  gen : fd.scope.isGenerator = false
  cor : fd.scope.isCoroutine = false
  bind : ∀ vals, vals.length = ps.length → bindArgs fd ⟨vals, []⟩ = pure (ps.zip vals)
  slot : slots V ps = some is
  own : ∀ x ∈ ps, fd.scope.names.lookup x = some .local ∨ fd.scope.names.lookup x = some .cell
  free : ∀ p ∈ fd.scope.names, p.2 ≠ .free

theorem leave_ok {S S' : Addr → Prop} {μ μ' : List Addr} {σ σ' : Store} {h h' : Heap} {X : Addr → Prop} (I : Inv base S μ σ h) (x : Evo base X μ μ' S S' σ σ' h h') (hX : ∀ a, X a → h.get? a = none) : Ev base μ S S' σ (σ'.take σ.length) h h' := by
  obtain ⟨ν, rfl, hν⟩ := x.ext
  have len : (μ ++ ν).length = σ'.length := x.inv.len
  have hl : μ.length = σ.length := I.len
  have low : ∀ (i : Nat) (p : Flag × List PyData), (σ'.take σ.length)[i]? = some p → i < σ.length ∧ σ'[i]? = some p := fun i p e => by
    rw [List.getElem?_take] at e
    split at e
    · rename_i q; exact ⟨q, e⟩
    · cases e
  have up : ∀ (i : Nat) (a : Addr), μ[i]? = some a → (μ ++ ν)[i]? = some a := x.mu
  refine ⟨x.sub, x.new, ⟨x.inv.keepB, ?_, fun i a f ds e1 e2 => ?_, fun i j a e1 e2 => x.inv.nodup i j a (up i a e1) (up j a e2), fun a ha => x.inv.new a (List.mem_append_left _ ha), x.inv.inS⟩, fun b o hl' e => x.keep b o (fun q => by rw [hX b q] at e; cases e) hl' e, fun a l => ?_⟩
  · rw [List.length_take]
    simp at len
    omega
  · obtain ⟨_, e2'⟩ := low i _ e2
    exact x.inv.cells i a f ds (up i a e1) e2'
  · obtain ⟨i, ds, e1, e2⟩ := l
    obtain ⟨_, e2'⟩ := low i _ e2
    rcases x.live a ⟨i, ds, up i a e1, e2'⟩ with q | q
    · exact q
    · obtain ⟨_, _, e⟩ := I.mem (List.mem_of_getElem? e1)
      rw [q] at e; cases e

theorem leave_res {S S' : Addr → Prop} {μ μ' : List Addr} {σ σ' : Store} {h h₁ h' : Heap} {X : Addr → Prop} (I : Inv base S μ σ h) (x : Evo base X μ μ' S S' σ σ' h h') (hg : ∀ a, h₁.get? a = none → h.get? a = none) {v : Value} {av r : AV} (rr : RdR ec h₁ h' S' μ' v av) (e : leave σ.length σ' av = some r) : RdR ec h h' S' μ v r := by
  cases rr with
  | fresh e' r' s n =>
    cases e
    exact .fresh e' r' s (hg _ n)
  | old ra =>
    cases ra with
    | dat rd => cases e; exact .old (.dat rd)
    | exc _ _ _ => cases e
    | @cell i a ha =>
      simp only [leave] at e
      obtain ⟨ν, rfl, hν⟩ := x.ext
      split at e
      · rename_i hi
        cases e
        rw [List.getElem?_append_left (by rw [I.len]; exact hi)] at ha
        exact .old (.cell ha)
      · rename_i hi
        have hn : h.get? a = none := by
          rw [List.getElem?_append_right (by rw [I.len]; omega)] at ha
          exact hν a (List.mem_of_getElem? ha)
        split at e
        · rename_i ds q
          cases e
          obtain ⟨vs, m, k1, k2, _, k4⟩ := x.inv.cells i a _ ds ha q
          exact .fresh k1 k2 (k4 (by intro z; cases z)) hn
        · rename_i ds q
          cases e
          obtain ⟨vs, m, k1, k2, k3, _⟩ := x.inv.cells i a _ ds ha q
          exact .old (.dat (.list (k3 rfl) k1 k2))
        · cases e

theorem fn_ok {a : Addr} {fd : FuncData} {ps : List Str} {is : List Nat} {body : List Stmt} {cs : List CS} (hlim : base.NoLimit) (D : DefOk base G.V a fd ps is body) (H : SS prog w base ec G n fd.scope.names (execs body) (fun ρ σ => evSs N Φ cs ρ σ)) :
    FnOk prog w base ec (n + 1) a (runF N Φ is cs) := by
  intro A S μ σ σ' s vals args r Q E hA I ra q P
  obtain ⟨o, ho, hd⟩ := D.rec_
  unfold runF at q
  split at q
  · cases q
  · rename_i ρ hρ
    have R0 := params_ok (ec := ec) (V := G.V) (kindOf := (callEnvC fd s.heap.objs.size a).kindOf) (h := s.heap) (S := S) (μ := μ) (m := fun _ => none) (cm := fun _ => none) D.slot D.own ra hρ ⟨(fun _ _ _ _ e => nomatch e), (fun _ _ _ _ e => nomatch e)⟩
    refine wpAny_call (codeAny_call_cells (by have := hA.dp; omega) (I.keepB _ _ ho) hd (hlim.keeps I.keepB) (D.code.keeps I.keepB) D.stmts (D.bind vals R0.2) D.clo ?_ ?_ D.cor D.gen D.kind)
    · intro p hp
      have hm : p.1 ∈ ps := (List.of_mem_zip (a := p.1) (b := p.2) hp).1
      rcases D.own p.1 hm with z | z
      · exact .inl z
      · refine .inr ⟨z, ?_⟩
        obtain ⟨c, hc⟩ := cellsFrom_has fd.scope.names (s.heap.objs.size + 1) [] p.1 (.inl (mem_lookup z))
        rw [hc]; rfl
    · intro s₁ x
      obtain ⟨h₁, tk₁, rfl⟩ := x.toInCall.same
      have keep := x.toInCall.keep
      have R1 := R0.1
      generalize henv : callEnvC fd s.heap.objs.size a = env at x R1 ⊢
      have none_ : ∀ c, s.heap.objs.size ≤ c → s.heap.get? c = none := fun c hc => by
        cases e : s.heap.get? c with
        | none => rfl
        | some o => exact absurd (Heap.lt_size e) (Nat.not_lt.mpr hc)
      have hL : env.locals = s.heap.objs.size := by rw [← henv]; rfl
      have nb : ∀ c, s.heap.get? c = none → base.get? c = none := fun c hc => by
        cases e : base.get? c with
        | none => rfl
        | some o => rw [I.keepB c o e] at hc; cases hc
      have hnL : s.heap.get? env.locals = none := none_ _ (by rw [hL]; exact Nat.le_refl _)
      have hnC : ∀ y c, env.cells.lookup y = some c → s.heap.get? c = none := fun y c hc => none_ c (by
        have : env.locals < c := x.above y c (mem_of_lookup hc)
        rw [hL] at this
        exact Nat.le_of_lt this)
      have hnO : ∀ b, Own env b → s.heap.get? b = none := fun b hb => by
        rcases hb with rfl | ⟨y, hy⟩
        · exact hnL
        · exact hnC y b hy
      have kin : ∀ y, env.kindOf y = fd.scope.names.lookup y := fun y => by rw [← henv]; rfl
      have mv : Mv (fun _ => False) S S s.heap h₁ := Mv.same fun b o _ e => keep b o e
      have I₁ : Inv base S μ σ h₁ := I.mv mv (fun _ q => q.elim) (fun _ q => q.elim) fun _ q => q.elim
      have up : ∀ v av, RdA ec s.heap S μ v av → RdA ec h₁ S μ v av := fun v av r => r.mono (fun b o _ e => keep b o e) (fun _ q => q) fun _ _ q => q
      have F : FrOk base ec G.V S μ env ρ h₁ := {
        kind := by rw [← henv]; exact D.kind
        glob := by rw [← henv]; exact D.glob
        blt := by rw [← henv]; exact D.blt
        ns := ⟨_, x.toInCall.ns, fun y i av hy hi hk => let ⟨v, e, r⟩ := R1.loc y i av hy hi hk; ⟨v, e, up v av r⟩⟩
        cell := fun y c hc => ⟨_, x.cell y c hc⟩
        val := fun y c i av h0 hy hi hk => by
          rcases hk with hk | hk
          · obtain ⟨v, e, r⟩ := R1.cel y i av hy hi hk
            exact ⟨v, e ▸ x.cell y c h0, up v av r⟩
          · rw [kin] at hk
            exact absurd rfl (D.free _ (mem_lookup hk))
        has := fun y hk => by
          rcases hk with hk | hk
          · rw [kin] at hk
            obtain ⟨c, hc⟩ := cellsFrom_has fd.scope.names (s.heap.objs.size + 1) [] y (.inl (mem_lookup hk))
            exact ⟨c, by rw [← henv]; exact hc⟩
          · rw [kin] at hk
            exact absurd rfl (D.free _ (mem_lookup hk))
        apart := fun y z c hy hz => name_of_addr x.apart (mem_of_lookup hy) (mem_of_lookup hz)
        newL := nb _ hnL
        newC := fun y c hc => nb _ (hnC y c hc) }
      have hsc : ScOk env fd.scope.names := fun y => .inl (kin y)
      have hA' : AOk n (A.deeper env) := ⟨hA.hd, by have := hA.dp; show A.depth + 1 + n < _; omega, by have := hA.un; show A.units + 3 + _ + _ < _; omega⟩
      have x₀ : Evo base (fun _ => False) μ μ S S σ σ s.heap h₁ := (Evo.refl I).poke (wr := fun _ => False) mv (fun _ _ q => q.elim) (fun _ q => q.elim) (fun _ q => q.elim) (fun _ q => q.elim) fun _ _ q => q.elim
      split at q
      · cases q
      · rename_i ρ₂ σ₁ q₁
        cases q
        refine H _ env ρ σ σ₁ _ S μ _ _ _ hA' hsc I₁ F q₁ (fun c e => nomatch e) fun f h' tk S' μ' ev rr => ?_
        have ev' := (x₀.wide (Y := Own env) fun _ _ q => q.elim).trans ev fun _ _ q _ => q
        cases rr with
        | next F' => exact P _ h' tk S' (leave_ok I ev' hnO) (.old (.dat .none))
      · rename_i v σ₁ q₁
        split at q
        · rename_i r' hr
          cases q
          refine H _ env ρ σ σ₁ _ S μ _ _ _ hA' hsc I₁ F q₁ (fun c e => nomatch e) fun f h' tk S' μ' ev rr => ?_
          have ev' := (x₀.wide (Y := Own env) fun _ _ q => q.elim).trans ev fun _ _ q _ => q
          cases rr with
          | ret rr => exact P _ h' tk S' (leave_ok I ev' hnO) (leave_res I ev' (fun a e => x₀.gone e) rr hr)
        · cases q
      · cases q
end
end Mine

-- M22
namespace Mine
open PySem PySem.Calls PySem.W PyProof.Rows

/-! ## The functions of a text, by ranks -/

structure FnIn (K : Frag) (G : Cfg) (name : Str) (a : Addr) (is : List Nat) (cs : List CS) : Prop where
  glob : nsIn K mainGlobals name = some (some (.ref a))
  body : ∃ o fd c co ovs t body ps, K.lookup a = some o ∧ o.data = .func fd ∧ fd.code = .ref c ∧ K.lookup c = some co ∧ co.data = .fields ovs ∧ ovs[1]? = some (.str fd.qualname t) ∧ fd.body = .stmts body ∧ fd.closure = [] ∧ fd.globals = mainGlobals ∧ fd.builtins = builtinsNs ∧
    fd.scope.kind = .function ∧ fd.scope.isGenerator = false ∧ fd.scope.isCoroutine = false ∧ (∀ vals : List Value, vals.length = ps.length → bindArgs fd ⟨vals, []⟩ = pure (ps.zip vals)) ∧ slots G.V ps = some is ∧
    (ps.all fun x => isOwnN fd.scope.names x) = true ∧ (fd.scope.names.all fun p => match p.2 with | .free => false | _ => true) = true ∧ trLS (trS G 20 fd.scope.names) body = some cs

structure TabIn (K : Frag) (G : Cfg) (tab : List (List Nat × List CS)) : Prop where
  fn : ∀ (k : Nat) f a, G.fns[k]? = some (f, a) → ∃ is cs, tab[k]? = some (is, cs) ∧ FnIn K G f a is cs
  blt : ∀ f v, (f, v) ∈ bltL → nsIn K mainGlobals f = some none ∧ bootBuiltins f = some v ∧ f ≠ "__name__"
  cst : ∀ x d, G.consts.lookup x = some d → ∃ v, nsIn K mainGlobals x = some (some v) ∧ ∀ h S, Rd h S v d

section
variable {prog : Program} {w : World} {G : Cfg} {K : Frag} {tab : List (List Nat × List CS)} {ec : ExcCls} {N : Nat}

theorem wd_of {s : Shared} {mg mb : Str → Option Value} (KX : K.In s.heap) (hg : s.heap.Ns mainGlobals mg) (hb : s.heap.Ns builtinsNs mb) (hbb : ∀ x : Str, x ≠ "__name__" → mb x = bootBuiltins x) (T : TabIn K G tab) (hx : ∀ x c, G.excs.lookup x = some c → nsIn K mainGlobals x = some (some (.ref (ec c)))) : Wd s.heap ec G where
  fn := fun k f a e => by
    obtain ⟨is, cs, _, F⟩ := T.fn k f a e
    obtain ⟨o, fd, c, co, ovs, t, body, ps, h1, h2, _⟩ := F.body
    exact ⟨⟨mg, hg, .inl (mg_of KX hg F.glob)⟩, o, fd, KX _ _ h1, h2⟩
  blt := fun f v h => by
    obtain ⟨h1, h2, h3⟩ := T.blt f v h
    exact ⟨mg, hg, .inr ⟨mg_none_of KX hg h1, mb, hb, (hbb f h3).trans h2⟩⟩
  cst := fun x d e => by
    obtain ⟨v, h1, h2⟩ := T.cst x d e
    exact ⟨v, ⟨mg, hg, .inl (mg_of KX hg h1)⟩, h2⟩
  exc := fun x c e => ⟨mg, hg, .inl (mg_of KX hg (hx x c e))⟩

theorem isOwnN_eq {sc : Sc} {x : Str} (h : isOwnN sc x = true) : sc.lookup x = some .local ∨ sc.lookup x = some .cell := by
  unfold isOwnN at h
  split at h
  · rename_i q; exact .inl q
  · rename_i q; exact .inr q
  · cases h

theorem phi_ok {s : Shared} (KX : K.In s.heap) (nl : s.heap.NoLimit) (T : TabIn K G tab) (W : Wd s.heap ec G) : ∀ k, PhiOk prog w s.heap ec G k (tabAt tab N k) := by
  intro k
  induction k with
  | zero =>
    intro j f a e A S μ σ σ' s' vals args r Q E hA I ra q P
    cases q
  | succ k ih =>
    intro j f a e
    obtain ⟨is, cs, ht, F⟩ := T.fn j f a e
    obtain ⟨o, fd, c, co, ovs, t, body, ps, h1, h2, h3, h4, h5, h6, h7, h8, h9, h10, h11, h12, h13, h14, h15, h16, h17, h18⟩ := F.body
    have D : DefOk s.heap G.V a fd ps is body := {
      rec_ := ⟨o, KX _ _ h1, h2⟩
      code := ⟨c, co, ovs, t, h3, KX _ _ h4, h5, h6⟩
      stmts := h7
      clo := h8
      glob := h9
      blt := h10
      kind := h11
      gen := h12
      cor := h13
      bind := h14
      slot := h15
      own := fun x hx => isOwnN_eq (List.all_eq_true.mp h16 x hx)
      free := fun p hp e => by
        have := List.all_eq_true.mp h17 p hp
        rw [e] at this; cases this }
    have H := trLS_ok (prog := prog) (w := w) (base := s.heap) (ec := ec) (n := k) (N := N) (fun st c h => trS_ok W ih 20 st c h) h18
    have := fn_ok (prog := prog) (w := w) (N := N) nl D H
    have e : tabAt tab N (k + 1) j = runF N (tabAt tab N k) is cs := by
      funext args σ
      simp only [tabAt, ht]
    rw [e]
    exact this

theorem run_law {s : Shared} {mg mb : Str → Option Value} (KX : K.In s.heap) (hg : s.heap.Ns mainGlobals mg) (hb : s.heap.Ns builtinsNs mb) (hbb : ∀ x : Str, x ≠ "__name__" → mb x = bootBuiltins x) (nl : s.heap.NoLimit) (T : TabIn K G tab)
    (hx : ∀ x c, G.excs.lookup x = some c → nsIn K mainGlobals x = some (some (.ref (ec c)))) {k f : Nat} (hk : k ≤ 600) {name : Str} {fa l : Addr} (hf : G.fns[f]? = some (name, fa)) {vs : List Value} {xs : List PyData} (hl : s.heap.get? l = some (lstO vs 0)) (hv : RdL s.heap (fun b => b = l) vs xs)
    {σ' : Store} (hrun : tabAt tab N k f [.dat (.list xs)] [] = some (.ret (.dat (.bool true)), σ')) {Q : Value → Shared → Prop} {E : Value → Shared → Prop}
    (hQ : ∀ h' tk, (∀ b o, s.heap.get? b = some o → h'.get? b = some o) → Q (.bool true) { s with heap := h', toks := tk }) : wpAny (model prog w) callerA (call (.ref fa) [.ref l]) Q E s := by
  have W : Wd s.heap ec G := wd_of KX hg hb hbb T hx
  have H := phi_ok (prog := prog) (w := w) (N := N) KX nl T W k f name fa hf
  have I : Inv s.heap (fun b => b = l) [] [] s.heap := ⟨fun _ _ e => e, rfl, fun i a f ds e1 e2 => by simp at e1, fun i j a e1 e2 => by simp at e1, (fun a h => nomatch h), (fun a h => ⟨_, h ▸ hl, lst_plain vs 0⟩)⟩
  refine H callerA (fun b => b = l) [] [] σ' s [.ref l] [.dat (.list xs)] (.dat (.bool true)) Q E ⟨rfl, ?_, ?_⟩ I (.cons (.dat (.list rfl hl hv)) .nil) hrun fun v h' tk S' x r => ?_
  · rw [depth_caller]; unfold recursionLimit; omega
  · show 4 + 8 * k + 400 < cLine
    unfold cLine; omega
  · cases r with
    | old r => cases r with
      | dat r => cases r; exact hQ h' tk x.inv.keepB
end
end Mine

-- M23
namespace Mine
open PySem

/-! ## Plain facts on the small language -/
section
variable {Φ : Phi} {ρ : Rho} {σ : Store}
theorem ev_const (d : PyData) : evE Φ (.const d) ρ σ = some (.dat d, σ) := by first | (simp only [evE]; done) | (simp only [evE]; rfl)
theorem ev_var (i : Nat) : evE Φ (.var i) ρ σ = match ρ i with | some v => some (v, σ) | none => none := by first | (simp only [evE]; done) | (simp only [evE]; rfl)
theorem ev_bin (op : Operator) (a b : CE) : evE Φ (.bin op a b) ρ σ = match evE Φ a ρ σ with
    | none => none
    | some (x, σ₁) => match evE Φ b ρ σ₁ with
      | none => none
      | some (y, σ₂) => match rd σ₂ x, rd σ₂ y with
        | some dx, some dy => (match binD op dx dy with | some r => some (r, σ₂) | none => none)
        | _, _ => none := by first | (simp only [evE]; done) | (simp only [evE]; rfl)
theorem ev_neg (a : CE) : evE Φ (.neg a) ρ σ = match evE Φ a ρ σ with
    | some (.dat (.int i), σ₁) => some (.dat (.int (-i)), σ₁)
    | _ => none := by first | (simp only [evE]; done) | (simp only [evE]; rfl)
theorem ev_nott (a : CE) : evE Φ (.nott a) ρ σ = match evE Φ a ρ σ with
    | some (v, σ₁) => (match boolA v with | some b => some (.dat (.bool (!b)), σ₁) | none => none)
    | none => none := by first | (simp only [evE]; done) | (simp only [evE]; rfl)
theorem ev_bop (op : BoolOp) (es : List CE) : evE Φ (.bop op es) ρ σ = match evB Φ op es ρ σ with
    | some (b, σ₁) => some (.dat (.bool b), σ₁)
    | none => none := by first | (simp only [evE]; done) | (simp only [evE]; rfl)
theorem ev_cmp (op : CmpOp) (a b : CE) : evE Φ (.cmp op a b) ρ σ = match evE Φ a ρ σ with
    | none => none
    | some (x, σ₁) => match evE Φ b ρ σ₁ with
      | none => none
      | some (y, σ₂) => match rd σ₂ x, rd σ₂ y with
        | some dx, some dy => (match cmpD op dx dy with | some r => some (.dat (.bool r), σ₂) | none => none)
        | _, _ => none := by first | (simp only [evE]; done) | (simp only [evE]; rfl)
theorem ev_ite (c a b : CE) : evE Φ (.ite c a b) ρ σ = match evE Φ c ρ σ with
    | some (v, σ₁) => (match boolA v with
      | some true => evE Φ a ρ σ₁
      | some false => evE Φ b ρ σ₁
      | none => none)
    | none => none := by first | (simp only [evE]; done) | (simp only [evE]; rfl)
theorem ev_idx (a i : CE) : evE Φ (.idx a i) ρ σ = match evE Φ a ρ σ with
    | none => none
    | some (x, σ₁) => match evE Φ i ρ σ₁ with
      | none => none
      | some (y, σ₂) => match rd σ₂ x, rd σ₂ y with
        | some dx, some dy => (match idxD dx dy with | some r => some (.dat r, σ₂) | none => none)
        | _, _ => none := by first | (simp only [evE]; done) | (simp only [evE]; rfl)
theorem ev_tup (es : List CE) : evE Φ (.tup es) ρ σ = match evEs Φ es ρ σ with
    | none => none
    | some (vs, σ₁) => match ownAll vs σ₁ with
      | some (ds, σ₂) => some (.dat (.tuple ds), σ₂)
      | none => none := by first | (simp only [evE]; done) | (simp only [evE]; rfl)
theorem ev_lst (es : List CE) : evE Φ (.lst es) ρ σ = match evEs Φ es ρ σ with
    | none => none
    | some (vs, σ₁) => match ownAll vs σ₁ with
      | some (ds, σ₂) => some (.fresh ds, σ₂)
      | none => none := by first | (simp only [evE]; done) | (simp only [evE]; rfl)
theorem ev_call (f : Nat) (es : List CE) : evE Φ (.call f es) ρ σ = match evEs Φ es ρ σ with
    | none => none
    | some (vs, σ₁) => match Φ f vs σ₁ with
      | some (.ret v, σ₂) => some (v, σ₂)
      | _ => none := by first | (simp only [evE]; done) | (simp only [evE]; rfl)
theorem ev_prim (p : Prim) (es : List CE) : evE Φ (.prim p es) ρ σ = match evEs Φ es ρ σ with
    | none => none
    | some (vs, σ₁) => match rdAll σ₁ vs with
      | some ds => (match primD p ds with | some r => some (r, σ₁) | none => none)
      | none => none := by first | (simp only [evE]; done) | (simp only [evE]; rfl)
theorem ev_isin (e : CE) (t : Ty) : evE Φ (.isin e t) ρ σ = match evE Φ e ρ σ with
    | none => none
    | some (x, σ₁) => match rd σ₁ x with
      | some d => some (.dat (.bool (isinD t d)), σ₁)
      | none => none := by first | (simp only [evE]; done) | (simp only [evE]; rfl)

theorem es_assign {N : Nat} {Φ : Phi} {ρ : Rho} {σ : Store} (i : Nat) (e : CE) : evS N Φ (.assign i e) ρ σ = match evE Φ e ρ σ with
    | some (v, σ₁) => some (.next (ρ.set i (settle v)), σ₁)
    | none => none := by
  first | (simp only [evS]; done) | (simp only [evS]; rfl)
theorem es_newcell {N : Nat} {Φ : Phi} {ρ : Rho} {σ : Store} (i : Nat) (e : CE) : evS N Φ (.newcell i e) ρ σ = match evE Φ e ρ σ with
    | some (.fresh ds, σ₁) => some (.next (ρ.set i (.cell σ₁.length)), σ₁ ++ [(.live, ds)])
    | some (v, σ₁) => some (.next (ρ.set i v), σ₁)
    | none => none := by
  first | (simp only [evS]; done) | (simp only [evS]; rfl)
theorem es_unpack {N : Nat} {Φ : Phi} {ρ : Rho} {σ : Store} (is : List Nat) (e : CE) : evS N Φ (.unpack is e) ρ σ = match evE Φ e ρ σ with
    | some (.dat (.tuple ds), σ₁) => (match bindMany is ds ρ with | some ρ' => some (.next ρ', σ₁) | none => none)
    | _ => none := by
  first | (simp only [evS]; done) | (simp only [evS]; rfl)
theorem es_setItem {N : Nat} {Φ : Phi} {ρ : Rho} {σ : Store} (x : Nat) (i e : CE) : evS N Φ (.setItem x i e) ρ σ = match evE Φ e ρ σ with
    | none => none
    | some (v, σ₁) => match own σ₁ (settle v) with
      | none => none
      | some (d, σ₂) => match evE Φ i ρ σ₂ with
        | some (.dat (.int k), σ₃) => (match ρ x with
          | some (.cell c) => (match σ₃[c]? with
            | some (.live, ds) => if 0 ≤ k ∧ k.toNat < 4611686018427387904 ∧ k.toNat < ds.length then some (.next ρ, σ₃.set c (.live, ds.set k.toNat d)) else none
            | _ => none)
          | _ => none)
        | _ => none := by
  first | (simp only [evS]; done) | (simp only [evS]; rfl)
theorem es_append {N : Nat} {Φ : Phi} {ρ : Rho} {σ : Store} (x : Nat) (e : CE) : evS N Φ (.append x e) ρ σ = match ρ x with
    | some (.cell c) => (match evE Φ e ρ σ with
      | none => none
      | some (v, σ₁) => match own σ₁ (settle v) with
        | none => none
        | some (d, σ₂) => match σ₂[c]? with
          | some (.live, ds) => if ds.length < lim then some (.next ρ, σ₂.set c (.live, ds ++ [d])) else none
          | _ => none)
    | _ => none := by
  first | (simp only [evS]; done) | (simp only [evS]; rfl)
theorem es_extend {N : Nat} {Φ : Phi} {ρ : Rho} {σ : Store} (x : Nat) (e : CE) : evS N Φ (.extend x e) ρ σ = match ρ x with
    | some (.cell c) => (match evE Φ e ρ σ with
      | none => none
      | some (v, σ₁) => match rd σ₁ (settle v) with
        | some (.list es) => (match σ₁[c]? with
          | some (.live, ds) => if ds.length + es.length ≤ lim then some (.next ρ, σ₁.set c (.live, ds ++ es)) else none
          | _ => none)
        | _ => none)
    | _ => none := by
  first | (simp only [evS]; done) | (simp only [evS]; rfl)
theorem es_insert {N : Nat} {Φ : Phi} {ρ : Rho} {σ : Store} (x : Nat) (i e : CE) : evS N Φ (.insert x i e) ρ σ = match ρ x with
    | some (.cell c) => (match evE Φ i ρ σ with
      | some (.dat (.int k), σ₁) => (match evE Φ e ρ σ₁ with
        | none => none
        | some (v, σ₂) => match own σ₂ (settle v) with
          | none => none
          | some (d, σ₃) => match σ₃[c]? with
            | some (.live, ds) => if 0 ≤ k ∧ k.toNat ≤ ds.length ∧ ds.length < lim then some (.next ρ, σ₃.set c (.live, ds.take k.toNat ++ d :: ds.drop k.toNat)) else none
            | _ => none)
      | _ => none)
    | _ => none := by
  first | (simp only [evS]; done) | (simp only [evS]; rfl)
theorem es_ite {N : Nat} {Φ : Phi} {ρ : Rho} {σ : Store} (c : CE) (a b : List CS) : evS N Φ (.ite c a b) ρ σ = match evE Φ c ρ σ with
    | some (v, σ₁) => (match boolA v with
      | some true => evSs N Φ a ρ σ₁
      | some false => evSs N Φ b ρ σ₁
      | none => none)
    | none => none := by
  first | (simp only [evS]; done) | (simp only [evS]; rfl)
theorem es_whil {N : Nat} {Φ : Phi} {ρ : Rho} {σ : Store} (c : CE) (body : List CS) : evS N Φ (.whil c body) ρ σ = whileGo (fun ρ' σ' => evE Φ c ρ' σ') (fun ρ' σ' => evSs N Φ body ρ' σ') N ρ σ := by
  first | (simp only [evS]; done) | (simp only [evS]; rfl)
theorem es_forr {N : Nat} {Φ : Phi} {ρ : Rho} {σ : Store} (t : Tgt) (k : ItK) (its : List CE) (body : List CS) : evS N Φ (.forr t k its body) ρ σ = match evEs Φ its ρ σ with
    | none => none
    | some (vs, σ₁) => match rdAll σ₁ vs with
      | none => none
      | some ds => match itemsD k ds with
        | none => none
        | some xs => match forGo t (fun ρ' σ' => evSs N Φ body ρ' σ') xs ρ (flagAll .locked (liveOf σ₁ vs) σ₁) with
          | none => none
          | some (f, σ₂) => some (f, flagAll .live (liveOf σ₁ vs) σ₂) := by
  first | (simp only [evS]; done) | (simp only [evS]; rfl)
theorem es_ret {N : Nat} {Φ : Phi} {ρ : Rho} {σ : Store} (e : CE) : evS N Φ (.ret e) ρ σ = match evE Φ e ρ σ with
    | some (v, σ₁) => some (.ret v, σ₁)
    | none => none := by
  first | (simp only [evS]; done) | (simp only [evS]; rfl)
theorem es_raise {N : Nat} {Φ : Phi} {ρ : Rho} {σ : Store} (c : Nat) : evS N Φ (.raise c) ρ σ = some (.exc c, σ) := by
  first | (simp only [evS]; done) | (simp only [evS]; rfl)
theorem es_nil {N : Nat} {Φ : Phi} {ρ : Rho} {σ : Store} : evSs N Φ [] ρ σ = some (.next ρ, σ) := by
  first | (simp only [evSs]; done) | (simp only [evSs]; rfl)
theorem es_cons {N : Nat} {Φ : Phi} {ρ : Rho} {σ : Store} (c : CS) (cs : List CS) : evSs N Φ (c :: cs) ρ σ = match evS N Φ c ρ σ with
    | some (.next ρ₁, σ₁) => evSs N Φ cs ρ₁ σ₁
    | r => r := by
  first | (simp only [evSs]; done) | (simp only [evSs]; rfl)
theorem el_nil {Φ : Phi} {ρ : Rho} {σ : Store} : evEs Φ [] ρ σ = some ([], σ) := by first | (simp only [evEs]; done) | (simp only [evEs]; rfl)
theorem el_cons {Φ : Phi} {ρ : Rho} {σ : Store} (e : CE) (es : List CE) : evEs Φ (e :: es) ρ σ = match evE Φ e ρ σ with
    | none => none
    | some (v, σ₁) => match evEs Φ es ρ σ₁ with
      | none => none
      | some (vs, σ₂) => some (settle v :: vs, σ₂) := by
  first | (simp only [evEs]; done) | (simp only [evEs]; rfl)
theorem eb_nil {Φ : Phi} {ρ : Rho} {σ : Store} (op : BoolOp) : evB Φ op [] ρ σ = some (op == .And, σ) := by first | (simp only [evB]; done) | (simp only [evB]; rfl)
theorem eb_cons {Φ : Phi} {ρ : Rho} {σ : Store} (op : BoolOp) (e : CE) (es : List CE) : evB Φ op (e :: es) ρ σ = match evE Φ e ρ σ with
    | none => none
    | some (v, σ₁) => match boolA v with
      | none => none
      | some b => if b == (op == .And) then evB Φ op es ρ σ₁ else some (b, σ₁) := by
  first | (simp only [evB]; done) | (simp only [evB]; rfl)

theorem r_next {N : Nat} {Φ : Phi} {ρ ρ₁ : Rho} {σ σ₁ : Store} {c : CS} {cs : List CS} (h : evS N Φ c ρ σ = some (.next ρ₁, σ₁)) : evSs N Φ (c :: cs) ρ σ = evSs N Φ cs ρ₁ σ₁ := by rw [es_cons, h]
theorem r_stop {N : Nat} {Φ : Phi} {ρ : Rho} {σ σ₁ : Store} {c : CS} {cs : List CS} {v : AV} (h : evS N Φ c ρ σ = some (.ret v, σ₁)) : evSs N Φ (c :: cs) ρ σ = some (.ret v, σ₁) := by rw [es_cons, h]
theorem r_true {N : Nat} {Φ : Phi} {ρ : Rho} {σ σ₁ : Store} {c : CE} {a b : List CS} (h : evE Φ c ρ σ = some (.dat (.bool true), σ₁)) : evS N Φ (.ite c a b) ρ σ = evSs N Φ a ρ σ₁ := by rw [es_ite, h]; rfl
theorem r_false {N : Nat} {Φ : Phi} {ρ : Rho} {σ σ₁ : Store} {c : CE} {a b : List CS} (h : evE Φ c ρ σ = some (.dat (.bool false), σ₁)) : evS N Φ (.ite c a b) ρ σ = evSs N Φ b ρ σ₁ := by rw [es_ite, h]; rfl
theorem r_skip {N : Nat} {Φ : Phi} {ρ : Rho} {σ σ₁ : Store} {c : CE} {a : List CS} {cs : List CS} (h : evE Φ c ρ σ = some (.dat (.bool false), σ₁)) : evSs N Φ (.ite c a [] :: cs) ρ σ = evSs N Φ cs ρ σ₁ := by
  rw [es_cons, r_false h, es_nil]
theorem r_ret {N : Nat} {Φ : Phi} {ρ : Rho} {σ σ₁ : Store} {e : CE} {cs : List CS} {v : AV} (h : evE Φ e ρ σ = some (v, σ₁)) : evSs N Φ (.ret e :: cs) ρ σ = some (.ret v, σ₁) := by rw [es_cons, es_ret, h]
theorem r_taken {N : Nat} {Φ : Phi} {ρ : Rho} {σ σ₁ σ₂ : Store} {c : CE} {a b : List CS} {cs : List CS} {v : AV} (h : evE Φ c ρ σ = some (.dat (.bool true), σ₁)) (h' : evSs N Φ a ρ σ₁ = some (.ret v, σ₂)) : evSs N Φ (.ite c a b :: cs) ρ σ = some (.ret v, σ₂) := by
  rw [es_cons, r_true h, h']
theorem r_assign {N : Nat} {Φ : Phi} {ρ : Rho} {σ σ₁ : Store} {i : Nat} {e : CE} {cs : List CS} {v : AV} (h : evE Φ e ρ σ = some (v, σ₁)) : evSs N Φ (.assign i e :: cs) ρ σ = evSs N Φ cs (ρ.set i (settle v)) σ₁ := by rw [es_cons, es_assign, h]
theorem r_run {N : Nat} {Φ : Phi} {is : List Nat} {cs : List CS} {args : List AV} {σ : Store} {ρ : Rho} {v : AV} {r : AV} (h : bindArgsR is args (fun _ => none) = some ρ) (h' : evSs N Φ cs ρ σ = some (.ret v, σ)) (h'' : leave σ.length σ v = some r) : runF N Φ is cs args σ = some (.ret r, σ) := by
  simp only [runF, h, h', h'', List.take_length]
theorem r_runD {N : Nat} {Φ : Phi} {is : List Nat} {cs : List CS} {args : List AV} {σ : Store} {ρ : Rho} {d : PyData} (h : bindArgsR is args (fun _ => none) = some ρ) (h' : evSs N Φ cs ρ σ = some (.ret (.dat d), σ)) : runF N Φ is cs args σ = some (.ret (.dat d), σ) := r_run h h' rfl
theorem r_runL {N : Nat} {Φ : Phi} {is : List Nat} {cs : List CS} {args : List AV} {σ : Store} {ρ : Rho} {d : List PyData} (h : bindArgsR is args (fun _ => none) = some ρ) (h' : evSs N Φ cs ρ σ = some (.ret (.fresh d), σ)) : runF N Φ is cs args σ = some (.ret (.fresh d), σ) := r_run h h' rfl
theorem r_for {N : Nat} {Φ : Phi} {ρ ρ' : Rho} {σ : Store} {t : Tgt} {k : ItK} {its : List CE} {body cs : List CS} {vs : List AV} {ds xs : List PyData} (h1 : evEs Φ its ρ σ = some (vs, σ)) (h2 : liveOf σ vs = []) (h3 : rdAll σ vs = some ds) (h4 : itemsD k ds = some xs)
    (h5 : forGo t (fun ρ' σ' => evSs N Φ body ρ' σ') xs ρ σ = some (.next ρ', σ)) : evSs N Φ (.forr t k its body :: cs) ρ σ = evSs N Φ cs ρ' σ := by
  refine r_next ?_
  rw [es_forr, h1]
  dsimp only
  rw [h3]
  dsimp only
  rw [h4, h2]
  dsimp only [flagAll]
  rw [h5]
theorem compGo_on {α : Type} {elt : Rho → Store → Option (AV × Store)} {tests : Rho → Store → Option (Bool × Store)} {t : Tgt} (g f : α → PyData) (p : α → Bool) : ∀ (l : List α), (∀ x ∈ l, ∃ ρ', bindT t (g x) ρ = some ρ' ∧ tests ρ' σ = some (p x, σ) ∧ (p x = true → elt ρ' σ = some (.dat (f x), σ))) →
    compGo elt tests t ρ (l.map g) σ = some ((l.filter p).map f, σ) := by
  intro l
  induction l with
  | nil => intro _; rfl
  | cons x l ih =>
    intro h
    obtain ⟨ρ', h1, h2, h3⟩ := h x (.head _)
    have ih' := ih fun y hy => h y (.tail _ hy)
    simp only [List.map_cons, compGo, h1, h2]
    cases hp : p x with
    | false => simp [hp, ih']
    | true => simp [h3 hp, settle, own, ih', hp]
theorem ev_compF {α : Type} {ce : CE} {t : Tgt} {k : ItK} {its ifs : List CE} {vs : List AV} {ds : List PyData} (l : List α) (g f : α → PyData) (p : α → Bool) (h1 : evEs Φ its ρ σ = some (vs, σ)) (h2 : liveOf σ vs = []) (h3 : rdAll σ vs = some ds) (h4 : itemsD k ds = some (l.map g)) (hl : l.length ≤ lim)
    (h : ∀ x ∈ l, ∃ ρ', bindT t (g x) ρ = some ρ' ∧ evB Φ .And ifs ρ' σ = some (p x, σ) ∧ (p x = true → evE Φ ce ρ' σ = some (.dat (f x), σ))) : evE Φ (.comp ce t k its ifs) ρ σ = some (.fresh ((l.filter p).map f), σ) := by
  have := compGo_on (elt := fun ρ' σ' => evE Φ ce ρ' σ') (tests := fun ρ' σ' => evB Φ .And ifs ρ' σ') g f p l h
  simp only [evE, h1, h2, h3, h4, flagAll, List.length_map, hl, if_true, this]
theorem ev_comp {α : Type} {ce : CE} {t : Tgt} {k : ItK} {its : List CE} {vs : List AV} {ds : List PyData} (l : List α) (g f : α → PyData) (h1 : evEs Φ its ρ σ = some (vs, σ)) (h2 : liveOf σ vs = []) (h3 : rdAll σ vs = some ds) (h4 : itemsD k ds = some (l.map g)) (hl : l.length ≤ lim)
    (h : ∀ x ∈ l, ∃ ρ', bindT t (g x) ρ = some ρ' ∧ evE Φ ce ρ' σ = some (.dat (f x), σ)) : evE Φ (.comp ce t k its []) ρ σ = some (.fresh (l.map f), σ) := by
  have := ev_compF (Φ := Φ) (ρ := ρ) (ce := ce) (t := t) (ifs := []) l g f (fun _ => true) h1 h2 h3 h4 hl fun x hx => by
    obtain ⟨ρ', a, b⟩ := h x hx
    exact ⟨ρ', a, by simp [evB], fun _ => b⟩
  rw [this, List.filter_eq_self.mpr (fun _ _ => rfl)]

theorem forGo_inv {t : Tgt} {body : Rho → Store → Option (Fl × Store)} (P : Rho → Prop) : ∀ (ds : List PyData) (ρ : Rho), (∀ d ∈ ds, ∀ ρ, P ρ → ∃ ρ₁ ρ₂, bindT t d ρ = some ρ₁ ∧ body ρ₁ σ = some (.next ρ₂, σ) ∧ P ρ₂) → P ρ → ∃ ρ', forGo t body ds ρ σ = some (.next ρ', σ) ∧ P ρ' := by
  intro ds
  induction ds with
  | nil => intro ρ _ h; exact ⟨ρ, rfl, h⟩
  | cons d ds ih =>
    intro ρ h hp
    obtain ⟨ρ₁, ρ₂, h1, h2, h3⟩ := h d (.head _) ρ hp
    obtain ⟨ρ', h4, h5⟩ := ih ρ₂ (fun e he => h e (.tail _ he)) h3
    exact ⟨ρ', by simp only [forGo, h1, h2, h4], h5⟩
end

theorem tab_step {tab : List (List Nat × List CS)} {N k f : Nat} {is : List Nat} {cs : List CS} {args : List AV} {σ : Store} (h : tab[f]? = some (is, cs)) : tabAt tab N (k + 1) f args σ = runF N (tabAt tab N k) is cs args σ := by
  simp only [tabAt, h]

theorem canLay_ints (xs : List Int) : PyData.canLayAll0 (xs.map .int) = true := by
  induction xs with
  | nil => rfl
  | cons x xs ih => simp [PyData.canLayAll0, PyData.canLay0, ih]
theorem depth_ints (xs : List Int) : PyData.depthAll (xs.map .int) = 0 := by
  induction xs with
  | nil => rfl
  | cons x xs ih => simp [PyData.depthAll, PyData.depth, ih]

theorem mulOk_r {a b : Int} (h : b.natAbs < 2 ^ 64) : mulOk a b = true := by unfold mulOk; simp [h]
theorem mulOk_l {a b : Int} (h : a.natAbs < 2 ^ 64) : mulOk a b = true := by unfold mulOk; simp [h]
theorem mulOk_b {a b : Int} (h : a.natAbs < 2 ^ 30000) (h' : b.natAbs < 2 ^ 30000) : mulOk a b = true := by unfold mulOk; simp only [h, h', decide_true, Bool.and_self, Bool.or_true]

theorem boolsD_map (bs : List Bool) : boolsD (bs.map .bool) = some bs := by
  induction bs with
  | nil => rfl
  | cons b bs ih => simp [boolsD, ih]
theorem intsD_map (xs : List Int) : intsD (xs.map .int) = some xs := by
  induction xs with
  | nil => rfl
  | cons b bs ih => simp [intsD, ih]
theorem rangeL_nat (n : Nat) : rangeL 0 n = (List.range n).map fun k => PyData.int (k : Nat) := by
  unfold rangeL
  simp

section
theorem bi_add (a b : Int) : binD .Add (.int a) (.int b) = some (.dat (.int (a + b))) := rfl
theorem bi_sub (a b : Int) : binD .Sub (.int a) (.int b) = some (.dat (.int (a - b))) := rfl
theorem bi_mul {a b : Int} (h : mulOk a b = true) : binD .Mult (.int a) (.int b) = some (.dat (.int (a * b))) := by
  show (if mulOk a b = true then _ else _) = _; exact if_pos h
theorem bi_mod {a b : Int} (h : b ≠ 0) : binD .Mod (.int a) (.int b) = some (.dat (.int (a.fmod b))) := by
  show (if b ≠ 0 then _ else _) = _; exact if_pos h
theorem bi_fdiv {a b : Int} (h : b ≠ 0) (h' : b.natAbs < 1073741824) : binD .FloorDiv (.int a) (.int b) = some (.dat (.int (a.fdiv b))) := by
  show (if b ≠ 0 ∧ b.natAbs < 1073741824 then _ else _) = _; exact if_pos ⟨h, h'⟩
theorem bi_pow {a b : Int} (h : 0 ≤ b) (h1 : b ≤ 1000000) (h2 : a.natAbs < 2 ^ 64) : binD .Pow (.int a) (.int b) = some (.dat (.int (a ^ b.toNat))) := by
  show (if 0 ≤ b ∧ b ≤ 1000000 ∧ a.natAbs < 2 ^ 64 then _ else _) = _; exact if_pos ⟨h, h1, h2⟩
theorem bi_addT {xs ys : List PyData} (h : xs.length + ys.length ≤ lim) : binD .Add (.tuple xs) (.tuple ys) = some (.dat (.tuple (xs ++ ys))) := by
  show (if xs.length + ys.length ≤ lim then _ else _) = _; exact if_pos h
theorem bi_addL {xs ys : List PyData} (h : xs.length + ys.length ≤ lim) : binD .Add (.list xs) (.list ys) = some (.fresh (xs ++ ys)) := by
  show (if xs.length + ys.length ≤ lim then _ else _) = _; exact if_pos h
theorem cm_lt (a b : Int) : cmpD .Lt (.int a) (.int b) = some (decide (a < b)) := rfl
theorem cm_le (a b : Int) : cmpD .LtE (.int a) (.int b) = some (decide (a ≤ b)) := rfl
theorem cm_gt (a b : Int) : cmpD .Gt (.int a) (.int b) = some (decide (b < a)) := rfl
theorem cm_ge (a b : Int) : cmpD .GtE (.int a) (.int b) = some (decide (b ≤ a)) := rfl
theorem cm_eqi (a b : Int) : cmpD .Eq (.int a) (.int b) = some (a == b) := rfl
theorem cm_nei (a b : Int) : cmpD .NotEq (.int a) (.int b) = some (!(a == b)) := rfl
theorem cm_eqb (a b : Bool) : cmpD .Eq (.bool a) (.bool b) = some (a == b) := rfl
theorem cm_neb (a b : Bool) : cmpD .NotEq (.bool a) (.bool b) = some (!(a == b)) := rfl
theorem cm_eq_self {d : PyData} (h : SeqAt.shaped d = true) : cmpD .Eq d d = some true := by
  show (if (SeqAt.shaped d && SeqAt.shaped d) = true then some (PyData.eqv d d) else none) = _
  rw [h, SeqAt.eqv_refl d (SeqAt.canLay_of_shaped h)]
  rfl
theorem cm_ne_self {d : PyData} (h : SeqAt.shaped d = true) : cmpD .NotEq d d = some false := by
  show (if (SeqAt.shaped d && SeqAt.shaped d) = true then some (!PyData.eqv d d) else none) = _
  rw [h, SeqAt.eqv_refl d (SeqAt.canLay_of_shaped h)]
  rfl
theorem pl_list {xs : List PyData} (h : xs.length ≤ lim) : primD .len [.list xs] = some (.dat (.int xs.length)) := by
  show (if xs.length ≤ lim then _ else _) = _; exact if_pos h
theorem pl_tuple {xs : List PyData} (h : xs.length ≤ lim) : primD .len [.tuple xs] = some (.dat (.int xs.length)) := by
  show (if xs.length ≤ lim then _ else _) = _; exact if_pos h
theorem pt_list {xs : List PyData} (h : xs.length ≤ lim) : primD .tuple [.list xs] = some (.dat (.tuple xs)) := by
  show (if xs.length ≤ lim then _ else _) = _; exact if_pos h
theorem pt_tuple {xs : List PyData} (h : xs.length ≤ lim) : primD .tuple [.tuple xs] = some (.dat (.tuple xs)) := by
  show (if xs.length ≤ lim then _ else _) = _; exact if_pos h
theorem pk_list {xs : List PyData} (h : xs.length ≤ lim) : primD .list [.list xs] = some (.fresh xs) := by
  show (if xs.length ≤ lim then _ else _) = _; exact if_pos h
theorem pk_tuple {xs : List PyData} (h : xs.length ≤ lim) : primD .list [.tuple xs] = some (.fresh xs) := by
  show (if xs.length ≤ lim then _ else _) = _; exact if_pos h
theorem pa_all (bs : List Bool) : primD .all [.list (bs.map .bool)] = some (.dat (.bool (bs.all id))) := by
  show (match boolsD (bs.map .bool) with | some bs => some (AV.dat (.bool (bs.all id))) | none => none) = _
  rw [boolsD_map]
theorem pa_any (bs : List Bool) : primD .any [.list (bs.map .bool)] = some (.dat (.bool (bs.any id))) := by
  show (match boolsD (bs.map .bool) with | some bs => some (AV.dat (.bool (bs.any id))) | none => none) = _
  rw [boolsD_map]
theorem pa_sum (xs : List Int) : primD .sum [.list (xs.map .int)] = some (.dat (.int xs.sum)) := by
  show (match intsD (xs.map .int) with | some is => some (AV.dat (.int is.sum)) | none => none) = _
  rw [intsD_map]
theorem pi_bool (b : Bool) : primD .int [.bool b] = some (.dat (.int (if b then 1 else 0))) := rfl
theorem ix_t0 (a : PyData) (r : List PyData) : idxD (.tuple (a :: r)) (.int 0) = some a := rfl
theorem ix_t1 (a b : PyData) (r : List PyData) : idxD (.tuple (a :: b :: r)) (.int 1) = some b := rfl
theorem ix_t2 (a b c : PyData) (r : List PyData) : idxD (.tuple (a :: b :: c :: r)) (.int 2) = some c := rfl
theorem ix_l0 (a : PyData) (r : List PyData) : idxD (.list (a :: r)) (.int 0) = some a := rfl
theorem ix_l1 (a b : PyData) (r : List PyData) : idxD (.list (a :: b :: r)) (.int 1) = some b := rfl
theorem ix_l2 (a b c : PyData) (r : List PyData) : idxD (.list (a :: b :: c :: r)) (.int 2) = some c := rfl
theorem ix_list {xs : List PyData} {j : Nat} {d : PyData} (hj : j < 1048576) (h : xs[j]? = some d) : idxD (.list xs) (.int j) = some d := by
  simp only [idxD]
  split
  · simpa using h
  · rename_i hn
    exact absurd ⟨by omega, by omega⟩ hn
theorem ix_tuple {xs : List PyData} {j : Nat} {d : PyData} (hj : j < 1048576) (h : xs[j]? = some d) : idxD (.tuple xs) (.int j) = some d := by
  simp only [idxD]
  split
  · simpa using h
  · rename_i hn
    exact absurd ⟨by omega, by omega⟩ hn
theorem bo_or : (BoolOp.Or == BoolOp.And) = false := rfl
theorem bo_and : (BoolOp.And == BoolOp.And) = true := rfl
theorem ev_idxR {Φ : Phi} {ρ : Rho} {σ : Store} {a i : CE} {x y : AV} {dx dy r : PyData} (h1 : evE Φ a ρ σ = some (x, σ)) (h2 : evE Φ i ρ σ = some (y, σ)) (h3 : rd σ x = some dx) (h4 : rd σ y = some dy) (h5 : idxD dx dy = some r) : evE Φ (.idx a i) ρ σ = some (.dat r, σ) := by
  simp only [ev_idx, h1, h2, h3, h4, h5]
theorem le_lim {n m : Nat} (h : n ≤ m) (hm : m ≤ 1000000) : n ≤ lim := by unfold lim; omega
end
end Mine

-- M24
namespace Mine
open PySem PySem.Calls PySem.W PyProof.Rows

/-! ## The law's one argument and its answer -/

theorem has_int {d : WData} (h : WShape.has [] d .int = true) : ∃ i, d = .int i := by
  cases d <;> first | exact ⟨_, rfl⟩ | (cases h; done)
theorem has_ints : ∀ {xs : List WData}, WShape.hasItems [] xs .int = true → ∃ is : List Int, xs = is.map .int := by
  intro xs
  induction xs with
  | nil => intro _; exact ⟨[], rfl⟩
  | cons x xs ih =>
    intro h
    rw [WShape.hasItems, Bool.and_eq_true] at h
    obtain ⟨i, rfl⟩ := has_int h.1
    obtain ⟨is, rfl⟩ := ih h.2
    exact ⟨i :: is, rfl⟩
theorem has_list {d : WData} (h : WShape.has [] d (.list .int) = true) : ∃ is : List Int, d = .list (is.map .int) := by
  cases d <;> first | (cases h; done) | skip
  rename_i xs
  have h' : (WShape.hasItems [] xs .int || false) = true := h
  rw [Bool.or_false] at h'
  obtain ⟨is, rfl⟩ := has_ints h'
  exact ⟨is, rfl⟩

theorem pre_law (is : List Int) (b : Bool) (hb : decide ((63 : Int) < ((is.map WData.int).length : Nat)) = b) : WTm.value [] (.and (.not (.lt (.lit (.int 63)) (.len (.arg 0)))) (.lit (.bool true))) { args := [.list (is.map .int)] } = some (.bool (!b)) := by
  have e : WTm.value [] (.and (.not (.lt (.lit (.int 63)) (.len (.arg 0)))) (.lit (.bool true))) { args := [.list (is.map .int)] } = WTm.value [] (.and (.not (.lit (.bool (decide ((63 : Int) < ((is.map WData.int).length : Nat)))))) (.lit (.bool true))) { args := [.list (is.map .int)] } := rfl
  rw [e, hb]
  cases b <;> rfl
theorem law_args {l : OpenLaw} (hm : l.most = some 63) (hb : l.bound = none) {args : List WData} (h : l.row.claim.pre args = true) : ∃ is : List Int, args = [.list (is.map .int)] ∧ is.length ≤ 63 := by
  obtain ⟨h1, h2⟩ := pre_splitW h
  have h1' : WShape.hasAll [] args [.list .int] = true := h1
  have h2' : l.pre.holds [] { args := args } = true := h2
  cases args with
  | nil => cases h1'
  | cons d r =>
    have h1'' : (WShape.has [] d (.list .int) && WShape.hasAll [] r []) = true := h1'
    rw [Bool.and_eq_true] at h1''
    obtain ⟨is, rfl⟩ := has_list h1''.1
    cases r with
    | cons _ _ => cases h1''.2
    | nil =>
      refine ⟨is, rfl, ?_⟩
      have hp : l.pre = .and (.not (.lt (.lit (.int 63)) (.len (.arg 0)))) (.lit (.bool true)) := by
        unfold OpenLaw.pre; rw [hm, hb]; rfl
      rw [hp] at h2'
      unfold WTm.holds at h2'
      rw [pre_law is _ rfl] at h2'
      rcases Nat.lt_or_ge 63 is.length with q | q
      · rw [decide_eq_true (by rw [List.length_map]; omega)] at h2'
        cases h2'
      · exact q

theorem well_list {P : Params} {h : Heap} {vals : List Value} {is : List Int} (W : WellAll P h vals [.list (is.map .int)]) : ∃ l vs, vals = [.ref l] ∧ h.get? l = some (lstO vs 0) ∧ RdL h (fun b => b = l) vs (is.map .int) := by
  cases W with
  | cons w r =>
    cases r
    cases w with
    | @list l vs _ e ws =>
      refine ⟨l, vs, rfl, e, ?_⟩
      clear e
      induction is generalizing vs with
      | nil => cases ws; exact .nil
      | cons i is ih =>
        cases ws with
        | cons w ws =>
          cases w with
          | int _ t => exact .cons (.int i t) (ih ws)

theorem law_good {l : OpenLaw} {cl : Str → Option Addr} {mean : ExcName → Option Value} {args : List WData} {s₁ : Shared} (hg : s₁.gens = #[]) {h' : Heap} {tk : Nat} (hk : ∀ b o, s₁.heap.get? b = some o → h'.get? b = some o) :
    GoodWG l.row.claim cl mean args s₁ (.ok (.ret (.bool true))) { s₁ with heap := h', toks := tk } := by
  refine ⟨.inl ⟨.bool true, .bool true, [], rfl, fun _ => rfl, .bool true, ?_, fun _ => ⟨List.nodup_nil, fun a h => nomatch h⟩⟩, .of_keep hk, rfl, .of_eq hg⟩
  show (WShape.has [] (.bool true) .bool && (WTm.eq .res (.lit (.bool true))).holds [] { args := args, res := some (.bool true), after := args }) = true
  have e : WTm.value [] (.eq .res (.lit (.bool true))) { args := args, res := some (.bool true), after := args } = some (.bool (same (.bool true) (.bool true))) := rfl
  have e' : same (.bool true) (.bool true) = true := by decide +kernel
  unfold WTm.holds
  rw [e, e']
  rfl
end Mine

namespace Mine
open PySem
noncomputable def c_all_inputs : List CS := [.assign 1 (.lst [(.tup [])]),
  .forr (.many [2, 3]) .seq [(.var 0)] [.newcell 4 (.lst []), .forr (.one 5) .seq [(.var 1)] [.extend 4 (.comp (.bin .Add (.var 5) (.tup [(.var 6)])) (.one 6) .range2 [(.var 2), (.bin .Add (.var 3) (.const (.int (1))))] [])], .assign 1 (.var 4)],
  .ret (.var 1)]
noncomputable def c_comes_to : List CS := [.ret (.bin .Add (.idx (.var 7) (.const (.int (0)))) (.prim .sum [(.comp (.bin .Mult (.var 9) (.var 6)) (.many [9, 6]) .zip [(.idx (.var 7) (.const (.int (1)))), (.var 8)] [])]))]
noncomputable def c_holds : List CS := [.ret (.cmp .Eq (.cmp .GtE (.call 1 [(.idx (.var 10) (.const (.int (0)))), (.var 8)]) (.const (.int (0)))) (.idx (.var 10) (.const (.int (1)))))]
noncomputable def c_first_wrong : List CS := [.forr (.one 12) .range1 [(.prim .len [(.var 11)])] [.ite (.nott (.call 2 [(.idx (.var 11) (.var 12)), (.var 8)])) [.ret (.var 12)] []],
  .ret (.const .none)]
noncomputable def c_example : List CS := [.forr (.one 8) .seq [(.call 0 [(.var 0)])] [.ite (.cmp .Is (.call 3 [(.var 11), (.var 8)]) (.const .none)) [.ret (.var 8)] []],
  .ret (.const .none)]
noncomputable def c_table : List CS := [.ret (.prim .tuple [(.comp (.call 3 [(.var 11), (.var 8)]) (.one 8) .seq [(.call 0 [(.var 0)])] [])])]
noncomputable def c__law_cell_at : List CS := [.ite (.cmp .Lt (.var 14) (.prim .len [(.var 13)])) [.ret (.bin .Add (.idx (.var 13) (.var 14)) (.bin .Mult (.bin .Mod (.idx (.var 13) (.var 14)) (.const (.int (251)))) (.const (.int (381840)))))] [],
  .ret (.const (.int (0)))]
noncomputable def c__law_mixed : List CS := [.ret (.bin .Mod (.bin .Add (.bin .Add (.bin .Mult (.var 15) (.bin .Add (.bin .Add (.const (.int (48271))) (.bin .Mult (.bin .Mult (.const (.int (7919))) (.var 14)) (.var 14))) (.bin .Mult (.const (.int (104729))) (.var 14)))) (.bin .Mult (.const (.int (7919))) (.var 14))) (.const (.int (12345)))) (.const (.int (2147483647))))]
noncomputable def c__law_whole : List CS := [.ret (.bop .And [(.isin (.var 16) .int), (.nott (.isin (.var 16) .bool))])]
noncomputable def c__law_ranges : List CS := [.assign 17 (.idx (.lst [(.const (.int (1))), (.const (.int (2))), (.const (.int (1))), (.const (.int (2))), (.const (.int (0))), (.const (.int (3))), (.const (.int (1)))]) (.bin .Mod (.var 15) (.const (.int (7))))),
  .newcell 18 (.lst []),
  .forr (.one 14) .range1 [(.var 17)] [.assign 19 (.call 7 [(.bin .FloorDiv (.var 15) (.const (.int (7)))), (.var 14)]), .assign 20 (.idx (.lst [(.bin .Sub (.bin .Mod (.var 19) (.const (.int (11)))) (.const (.int (5)))), (.bin .Sub (.bin .Mod (.var 19) (.const (.int (11)))) (.const (.int (5)))), (.bin .Add (.bin .Pow (.const (.int (10))) (.const (.int (20)))) (.bin .Mod (.var 19) (.const (.int (7))))), (.bin .Sub (.const (.int (0))) (.bin .Pow (.const (.int (10))) (.const (.int (20)))))]) (.bin .Mod (.bin .FloorDiv (.var 19) (.const (.int (11)))) (.const (.int (4))))), .assign 21 (.bin .Mod (.bin .FloorDiv (.var 19) (.const (.int (44)))) (.idx (.lst [(.const (.int (1))), (.const (.int (9))), (.const (.int (5))), (.const (.int (3)))]) (.var 17))), .ite (.bop .And [(.cmp .Eq (.var 17) (.const (.int (1)))), (.cmp .Eq (.bin .Mod (.bin .FloorDiv (.var 19) (.const (.int (396)))) (.const (.int (8)))) (.const (.int (1))))]) [.assign 21 (.bin .Sub (.const (.int (20))) (.bin .Mod (.bin .FloorDiv (.var 19) (.const (.int (3168)))) (.const (.int (2)))))] [], .append 18 (.tup [(.var 20), (.bin .Add (.var 20) (.var 21))])],
  .ret (.prim .tuple [(.var 18)])]
noncomputable def c__law_expression : List CS := [.assign 23 (.comp (.idx (.lst [(.const (.int (0))), (.const (.int (1))), (.neg (.const (.int (1)))), (.const (.int (2))), (.neg (.const (.int (3)))), (.const (.int (1))), (.const (.int (0)))]) (.bin .Mod (.call 7 [(.var 15), (.var 14)]) (.const (.int (7))))) (.one 14) .range1 [(.idx (.var 22) (.const (.int (0))))] []),
  .assign 24 (.comp (.idx (.lst [(.const (.int (0))), (.const (.int (1))), (.const (.int (0))), (.neg (.const (.int (1)))), (.const (.int (2))), (.const (.int (0)))]) (.bin .Mod (.bin .FloorDiv (.call 7 [(.var 15), (.bin .Add (.const (.int (7))) (.var 14))]) (.const (.int (5)))) (.const (.int (6))))) (.one 14) .range1 [(.idx (.var 22) (.const (.int (1))))] []),
  .assign 25 (.bin .Sub (.bin .Mod (.var 15) (.const (.int (13)))) (.const (.int (6)))),
  .ite (.bop .And [(.cmp .Eq (.bin .Mod (.bin .FloorDiv (.var 15) (.const (.int (13)))) (.const (.int (3)))) (.const (.int (1)))), (.cmp .Gt (.idx (.var 22) (.const (.int (0)))) (.const (.int (0))))]) [.assign 25 (.bin .Sub (.var 25) (.bin .Mult (.idx (.var 23) (.const (.int (0)))) (.idx (.idx (.var 18) (.const (.int (0)))) (.const (.int (0))))))] [],
  .ite (.cmp .Eq (.bin .Mod (.bin .FloorDiv (.var 15) (.const (.int (39)))) (.const (.int (9)))) (.const (.int (1)))) [.assign 25 (.bin .Mult (.var 25) (.bin .Pow (.const (.int (10))) (.const (.int (18)))))] [],
  .ret (.tup [(.var 25), (.prim .tuple [(.var 23)]), (.prim .tuple [(.var 24)])])]
noncomputable def c__law_inputs : List CS := [.assign 16 (.lst [(.tup [])]),
  .forr (.many [20, 26]) .seq [(.var 18)] [.assign 19 (.lst []), .forr (.one 27) .seq [(.var 16)] [.assign 19 (.bin .Add (.var 19) (.comp (.bin .Add (.var 27) (.tup [(.bin .Add (.var 20) (.var 14))])) (.one 14) .range1 [(.bin .Add (.bin .Sub (.var 26) (.var 20)) (.const (.int (1))))] []))], .assign 16 (.var 19)],
  .ret (.var 16)]
noncomputable def c__law_comes : List CS := [.ret (.bin .Add (.idx (.var 28) (.const (.int (0)))) (.prim .sum [(.comp (.bin .Mult (.idx (.idx (.var 28) (.const (.int (1)))) (.var 14)) (.idx (.var 29) (.var 14))) (.one 14) .range1 [(.prim .len [(.var 29)])] [])]))]
noncomputable def c__law_holds : List CS := [.ret (.cmp .Eq (.cmp .GtE (.call 12 [(.idx (.var 30) (.const (.int (0)))), (.var 29)]) (.const (.int (0)))) (.idx (.var 30) (.const (.int (1)))))]
noncomputable def c__law_asked : List CS := [.newcell 31 (.lst []),
  .forr (.one 14) .range1 [(.bin .Mod (.call 6 [(.var 13), (.const (.int (1)))]) (.const (.int (7))))] [.assign 15 (.call 7 [(.call 6 [(.var 13), (.bin .Add (.const (.int (2))) (.var 14))]), (.var 14)]), .assign 32 (.call 10 [(.bin .FloorDiv (.var 15) (.const (.int (2)))), (.tup [(.prim .len [(.var 18)]), (.const (.int (1)))]), (.var 18)]), .append 31 (.tup [(.tup [(.idx (.var 32) (.const (.int (0)))), (.idx (.var 32) (.const (.int (1))))]), (.cmp .Eq (.bin .Mod (.var 15) (.const (.int (2)))) (.const (.int (1))))])],
  .ite (.bop .And [(.cmp .Eq (.bin .Mod (.bin .FloorDiv (.call 6 [(.var 13), (.const (.int (1)))]) (.const (.int (7)))) (.const (.int (3)))) (.const (.int (1)))), (.cmp .NotEq (.var 31) (.lst []))]) [.unpack [28, 33] (.idx (.var 31) (.bin .Mod (.call 6 [(.var 13), (.const (.int (9)))]) (.prim .len [(.var 31)]))), .insert 31 (.bin .Mod (.bin .FloorDiv (.call 6 [(.var 13), (.const (.int (9)))]) (.const (.int (7)))) (.bin .Add (.prim .len [(.var 31)]) (.const (.int (1))))) (.tup [(.var 28), (.nott (.var 33))])] [],
  .ret (.var 31)]
noncomputable def c_law : List CS := [.newcell 18 (.call 9 [(.call 6 [(.var 13), (.const (.int (0)))])]),
  .newcell 31 (.call 14 [(.var 13), (.var 18)]),
  .newcell 34 (.lst []),
  .assign 35 (.const .none),
  .forr (.one 29) .seq [(.call 11 [(.var 18)])] [.assign 36 (.comp (.var 14) (.one 14) .range1 [(.prim .len [(.var 31)])] [(.nott (.call 13 [(.idx (.var 31) (.var 14)), (.var 29)]))]), .append 34 (.idx (.bin .Add (.var 36) (.lst [(.const .none)])) (.const (.int (0)))), .ite (.bop .And [(.cmp .Eq (.var 36) (.lst [])), (.cmp .Is (.var 35) (.const .none))]) [.assign 35 (.var 29)] []],
  .assign 37 (.prim .list [(.var 31)]),
  .forr (.one 38) .seq [(.tup [(.var 37), (.prim .tuple [(.var 31)]), (.var 37)])] [.assign 16 (.call 4 [(.var 18), (.var 38)]), .ite (.bop .Or [(.cmp .NotEq (.var 16) (.var 35)), (.bop .And [(.cmp .IsNot (.var 35) (.const .none)), (.nott (.isin (.var 16) .tuple))])]) [.ret (.const (.bool false))] [], .ite (.bop .And [(.cmp .IsNot (.var 35) (.const .none)), (.nott (.prim .all [(.comp (.call 8 [(.var 40)]) (.one 40) .seq [(.var 16)] [])]))]) [.ret (.const (.bool false))] [], .ite (.cmp .Is (.var 35) (.const .none)) [.assign 39 (.call 5 [(.var 18), (.var 38)]), .ite (.bop .Or [(.nott (.isin (.var 39) .tuple)), (.cmp .NotEq (.var 39) (.prim .tuple [(.var 34)])), (.nott (.prim .all [(.comp (.call 8 [(.var 41)]) (.one 41) .seq [(.var 39)] [])]))]) [.ret (.const (.bool false))] []] []],
  .ret (.cmp .Eq (.var 37) (.var 31))]
noncomputable def tab5 : List (List Nat × List CS) := [([0], c_all_inputs), ([7, 8], c_comes_to), ([10, 8], c_holds), ([11, 8], c_first_wrong), ([0, 11], c_example), ([0, 11], c_table), ([13, 14], c__law_cell_at), ([15, 14], c__law_mixed), ([16], c__law_whole), ([15], c__law_ranges), ([15, 22, 18], c__law_expression), ([18], c__law_inputs), ([28, 29], c__law_comes), ([30, 29], c__law_holds), ([13, 18], c__law_asked), ([13], c_law)]
/-! ## loops, plainly -/
theorem forGo_cnt {t : Tgt} {body : Rho → Store → Option (Fl × Store)} (P : Nat → Rho → Store → Prop) : ∀ (ds : List PyData) (i : Nat) (ρ : Rho) (σ : Store), (∀ j d, ds[j]? = some d → ∀ ρ σ, P (i + j) ρ σ → ∃ ρ₁ ρ₂ σ₂, bindT t d ρ = some ρ₁ ∧ body ρ₁ σ = some (.next ρ₂, σ₂) ∧ P (i + j + 1) ρ₂ σ₂) → P i ρ σ → ∃ ρ' σ', forGo t body ds ρ σ = some (.next ρ', σ') ∧ P (i + ds.length) ρ' σ' := by
  intro ds
  induction ds with
  | nil => intro i ρ σ _ h; exact ⟨ρ, σ, rfl, h⟩
  | cons d ds ih =>
    intro i ρ σ h hp
    obtain ⟨ρ₁, ρ₂, σ₂, h1, h2, h3⟩ := h 0 d rfl ρ σ hp
    obtain ⟨ρ', σ', h4, h5⟩ := ih (i + 1) ρ₂ σ₂ (fun j e he ρ σ hP => by
      have := h (j + 1) e (by simpa using he) ρ σ (by rw [show i + (j + 1) = i + 1 + j by omega]; exact hP)
      rw [show i + (j + 1) + 1 = i + 1 + j + 1 by omega] at this
      exact this) h3
    exact ⟨ρ', σ', by simp only [forGo, h1, h2, h4], by rw [List.length_cons, show i + (ds.length + 1) = i + 1 + ds.length by omega]; exact h5⟩
theorem forGo_find {α : Type} {t : Tgt} {body : Rho → Store → Option (Fl × Store)} {σ : Store} (g : α → PyData) (p : α → Bool) (v : α → AV) (P : Rho → Prop) : ∀ (l : List α) (ρ : Rho), (∀ x ∈ l, ∀ ρ, P ρ → ∃ ρ₁ ρ₂, bindT t (g x) ρ = some ρ₁ ∧ (p x = true → body ρ₁ σ = some (.ret (v x), σ)) ∧ (p x = false → body ρ₁ σ = some (.next ρ₂, σ) ∧ P ρ₂)) → P ρ →
    (∀ x, l.find? p = some x → forGo t body (l.map g) ρ σ = some (.ret (v x), σ)) ∧ (l.find? p = none → ∃ ρ', forGo t body (l.map g) ρ σ = some (.next ρ', σ) ∧ P ρ') := by
  intro l
  induction l with
  | nil => intro ρ _ h; exact ⟨fun x e => (nomatch e), fun _ => ⟨ρ, rfl, h⟩⟩
  | cons x l ih =>
    intro ρ h hp
    obtain ⟨ρ₁, ρ₂, h1, h2, h3⟩ := h x (.head _) ρ hp
    cases hx : p x with
    | true =>
      refine ⟨fun y e => ?_, fun e => ?_⟩
      · simp only [List.find?, hx, Option.some.injEq] at e
        subst e
        simp only [List.map_cons, forGo, h1, h2 hx]
      · simp only [List.find?, hx, reduceCtorEq] at e
    | false =>
      obtain ⟨h4, h5⟩ := h3 hx
      obtain ⟨i1, i2⟩ := ih ρ₂ (fun y hy => h y (.tail _ hy)) h5
      simp only [List.find?, hx, List.map_cons, forGo, h1, h4]
      exact ⟨i1, i2⟩
theorem r_forS {N : Nat} {Φ : Phi} {ρ ρ' : Rho} {σ σ' : Store} {t : Tgt} {k : ItK} {its : List CE} {body cs : List CS} {vs : List AV} {ds xs : List PyData} (h1 : evEs Φ its ρ σ = some (vs, σ)) (h2 : liveOf σ vs = []) (h3 : rdAll σ vs = some ds) (h4 : itemsD k ds = some xs)
    (h5 : forGo t (fun ρ' σ' => evSs N Φ body ρ' σ') xs ρ σ = some (.next ρ', σ')) : evSs N Φ (.forr t k its body :: cs) ρ σ = evSs N Φ cs ρ' σ' := by
  refine r_next ?_
  rw [es_forr, h1]
  dsimp only
  rw [h3]
  dsimp only
  rw [h4, h2]
  dsimp only [flagAll]
  rw [h5]
theorem r_forR {N : Nat} {Φ : Phi} {ρ : Rho} {σ : Store} {t : Tgt} {k : ItK} {its : List CE} {body cs : List CS} {vs : List AV} {ds xs : List PyData} {v : AV} (h1 : evEs Φ its ρ σ = some (vs, σ)) (h2 : liveOf σ vs = []) (h3 : rdAll σ vs = some ds) (h4 : itemsD k ds = some xs)
    (h5 : forGo t (fun ρ' σ' => evSs N Φ body ρ' σ') xs ρ σ = some (.ret v, σ)) : evSs N Φ (.forr t k its body :: cs) ρ σ = some (.ret v, σ) := by
  refine r_stop ?_
  rw [es_forr, h1]
  dsimp only
  rw [h3]
  dsimp only
  rw [h4, h2]
  dsimp only [flagAll]
  rw [h5]
theorem r_newcell {N : Nat} {Φ : Phi} {ρ : Rho} {σ σ₁ : Store} {i : Nat} {e : CE} {cs : List CS} {ds : List PyData} (h : evE Φ e ρ σ = some (.fresh ds, σ₁)) : evSs N Φ (.newcell i e :: cs) ρ σ = evSs N Φ cs (ρ.set i (.cell σ₁.length)) (σ₁ ++ [(.live, ds)]) := by rw [es_cons, es_newcell, h]
theorem r_newdat {N : Nat} {Φ : Phi} {ρ : Rho} {σ σ₁ : Store} {i : Nat} {e : CE} {cs : List CS} {d : PyData} (h : evE Φ e ρ σ = some (.dat d, σ₁)) : evSs N Φ (.newcell i e :: cs) ρ σ = evSs N Φ cs (ρ.set i (.dat d)) σ₁ := by rw [es_cons, es_newcell, h]
theorem r_append {N : Nat} {Φ : Phi} {ρ : Rho} {σ : Store} {x c : Nat} {e : CE} {cs : List CS} {d : PyData} {ds : List PyData} (hx : ρ x = some (.cell c)) (h : evE Φ e ρ σ = some (.dat d, σ)) (hc : σ[c]? = some (.live, ds)) (hl : ds.length < lim) : evSs N Φ (.append x e :: cs) ρ σ = evSs N Φ cs ρ (σ.set c (.live, ds ++ [d])) := by
  rw [es_cons, es_append, hx]
  dsimp only
  rw [h]
  dsimp only [settle, own]
  rw [hc]
  dsimp only
  rw [if_pos hl]
theorem r_extend {N : Nat} {Φ : Phi} {ρ : Rho} {σ : Store} {x c : Nat} {e : CE} {cs : List CS} {es ds : List PyData} (hx : ρ x = some (.cell c)) (h : evE Φ e ρ σ = some (.fresh es, σ)) (hc : σ[c]? = some (.live, ds)) (hl : ds.length + es.length ≤ lim) : evSs N Φ (.extend x e :: cs) ρ σ = evSs N Φ cs ρ (σ.set c (.live, ds ++ es)) := by
  rw [es_cons, es_extend, hx]
  dsimp only
  rw [h]
  dsimp only [settle, rd]
  rw [hc]
  dsimp only
  rw [if_pos hl]
theorem r_insert {N : Nat} {Φ : Phi} {ρ : Rho} {σ : Store} {x c : Nat} {i e : CE} {cs : List CS} {k : Nat} {d : PyData} {ds : List PyData} (hx : ρ x = some (.cell c)) (hi : evE Φ i ρ σ = some (.dat (.int k), σ)) (h : evE Φ e ρ σ = some (.dat d, σ)) (hc : σ[c]? = some (.live, ds)) (hk : k ≤ ds.length) (hl : ds.length < lim) : evSs N Φ (.insert x i e :: cs) ρ σ = evSs N Φ cs ρ (σ.set c (.live, ds.take k ++ d :: ds.drop k)) := by
  rw [es_cons, es_insert, hx]
  dsimp only
  rw [hi]
  dsimp only
  rw [h]
  dsimp only [settle, own]
  rw [hc]
  dsimp only
  rw [if_pos ⟨Int.natCast_nonneg _, by simpa using hk, hl⟩]
  simp
theorem range_it {n : Nat} (hn : n < 1000) : itemsD .range1 [.int n] = some ((List.range n).map fun k => PyData.int (k : Nat)) := by
  show (if (n : Int).toNat < 1048576 then some (rangeL 0 n) else none) = _
  rw [if_pos (by omega), rangeL_nat]
theorem fmod_range (a : Int) {b : Int} (h : 0 < b) : 0 ≤ a.fmod b ∧ a.fmod b < b := ⟨Int.fmod_nonneg_of_pos a h, Int.fmod_lt_of_pos a h⟩
theorem fmod_nat (a : Int) {b : Nat} (h : 0 < b) : ∃ n : Nat, n < b ∧ a.fmod b = n := by
  obtain ⟨h0, h1⟩ := fmod_range a (b := b) (by omega)
  exact ⟨(a.fmod b).toNat, by omega, by omega⟩

/-! ## the small functions -/
noncomputable def mixed (c j : Int) : Int := (c * (48271 + 7919 * j * j + 104729 * j) + 7919 * j + 12345).fmod 2147483647
theorem s_mixed (N k : Nat) (c : Int) (j : Nat) (hj : j < 1000) (σ : Store) : tabAt tab5 N (k + 1) 7 [.dat (.int c), .dat (.int j)] σ = some (.ret (.dat (.int (mixed c j))), σ) := by
  have h1 : mulOk 7919 (j : Int) = true := mulOk_l (by decide)
  have h2 : mulOk (7919 * (j : Int)) j = true := mulOk_r (by omega)
  have h3 : mulOk 104729 (j : Int) = true := mulOk_l (by decide)
  have h5 : 7919 * (j : Int) * j ≤ 7919 * 1000 * 1000 := by
    have := Int.mul_le_mul (a := 7919 * (j : Int)) (b := j) (c := 7919 * 1000) (d := 1000) (by omega) (by omega) (by omega) (by omega)
    omega
  have h6 : 0 ≤ 7919 * (j : Int) * j := Int.mul_nonneg (by omega) (by omega)
  have h4 : mulOk c (48271 + 7919 * (j : Int) * j + 104729 * j) = true := mulOk_r (by omega)
  rw [tab_step (by rfl : tab5[7]? = some ([15, 14], c__law_mixed))]
  simp [es_nil, es_cons, es_assign, es_newcell, es_unpack, es_append, es_extend, es_insert, es_ite, es_ret, el_nil, el_cons, eb_nil, eb_cons, ev_const, ev_var, ev_bin, ev_neg, ev_nott, ev_bop, ev_cmp, ev_ite, ev_idx, ev_tup, ev_lst, ev_call, ev_prim, ev_isin, runF, bindArgsR, Rho.set, rd, rdAll, bi_add, bi_sub, bi_mod, bi_fdiv, cm_lt, cm_le, cm_gt, cm_ge, cm_eqi, cm_nei, cm_eqb, cm_neb, pi_bool, ix_t0, ix_t1, ix_t2, ix_l0, ix_l1, ix_l2, bo_or, bo_and, boolA, settle, leave, ownAll, own, c__law_mixed, bi_mul h1, bi_mul h2, bi_mul h3, bi_mul h4, mixed]
theorem s_whole (N k : Nat) (d : PyData) (σ : Store) : tabAt tab5 N (k + 1) 8 [.dat d] σ = some (.ret (.dat (.bool (match d with | .int _ => true | _ => false))), σ) := by
  rw [tab_step (by rfl : tab5[8]? = some ([16], c__law_whole))]
  refine r_runD rfl ?_
  cases d <;> rfl
noncomputable def cellAt (xs : List Int) (k : Nat) : Int := match xs[k]? with
  | some x => x + x.fmod 251 * 381840
  | none => 0
theorem s_cell_at (N k : Nat) (xs : List Int) (hx : xs.length ≤ 63) (j : Nat) (hj : j < 1000) (σ : Store) : tabAt tab5 N (k + 1) 6 [.dat (.list (xs.map .int)), .dat (.int j)] σ = some (.ret (.dat (.int (cellAt xs j))), σ) := by
  rw [tab_step (by rfl : tab5[6]? = some ([13, 14], c__law_cell_at))]
  have hp := pl_list (xs := xs.map PyData.int) (le_lim (m := 63) (by simpa using hx) (by decide))
  rw [List.length_map] at hp
  refine r_runD rfl ?_
  by_cases h : j < xs.length
  · have h1 : xs[j]? = some xs[j] := List.getElem?_eq_getElem h
    have h2 : mulOk (xs[j].fmod 251) 381840 = true := mulOk_r (by decide)
    have h3 : idxD (.list (xs.map .int)) (.int j) = some (.int xs[j]) := ix_list (by omega) (by simp [h1])
    refine r_taken (σ₁ := σ) (by simp [es_nil, es_cons, es_assign, es_newcell, es_unpack, es_append, es_extend, es_insert, es_ite, es_ret, el_nil, el_cons, eb_nil, eb_cons, ev_const, ev_var, ev_bin, ev_neg, ev_nott, ev_bop, ev_cmp, ev_ite, ev_idx, ev_tup, ev_lst, ev_call, ev_prim, ev_isin, runF, bindArgsR, Rho.set, rd, rdAll, bi_add, bi_sub, bi_mod, bi_fdiv, cm_lt, cm_le, cm_gt, cm_ge, cm_eqi, cm_nei, cm_eqb, cm_neb, pi_bool, ix_t0, ix_t1, ix_t2, ix_l0, ix_l1, ix_l2, bo_or, bo_and, boolA, settle, leave, ownAll, own, hp, h]) (r_ret ?_)
    simp [es_nil, es_cons, es_assign, es_newcell, es_unpack, es_append, es_extend, es_insert, es_ite, es_ret, el_nil, el_cons, eb_nil, eb_cons, ev_const, ev_var, ev_bin, ev_neg, ev_nott, ev_bop, ev_cmp, ev_ite, ev_idx, ev_tup, ev_lst, ev_call, ev_prim, ev_isin, runF, bindArgsR, Rho.set, rd, rdAll, bi_add, bi_sub, bi_mod, bi_fdiv, cm_lt, cm_le, cm_gt, cm_ge, cm_eqi, cm_nei, cm_eqb, cm_neb, pi_bool, ix_t0, ix_t1, ix_t2, ix_l0, ix_l1, ix_l2, bo_or, bo_and, boolA, settle, leave, ownAll, own, bi_mul h2, h3, cellAt, h1]
  · have h1 : xs[j]? = none := List.getElem?_eq_none (by omega)
    refine (r_skip (σ₁ := σ) (by simp [es_nil, es_cons, es_assign, es_newcell, es_unpack, es_append, es_extend, es_insert, es_ite, es_ret, el_nil, el_cons, eb_nil, eb_cons, ev_const, ev_var, ev_bin, ev_neg, ev_nott, ev_bop, ev_cmp, ev_ite, ev_idx, ev_tup, ev_lst, ev_call, ev_prim, ev_isin, runF, bindArgsR, Rho.set, rd, rdAll, bi_add, bi_sub, bi_mod, bi_fdiv, cm_lt, cm_le, cm_gt, cm_ge, cm_eqi, cm_nei, cm_eqb, cm_neb, pi_bool, ix_t0, ix_t1, ix_t2, ix_l0, ix_l1, ix_l2, bo_or, bo_and, boolA, settle, leave, ownAll, own, hp, h])).trans (r_ret ?_)
    simp [es_nil, es_cons, es_assign, es_newcell, es_unpack, es_append, es_extend, es_insert, es_ite, es_ret, el_nil, el_cons, eb_nil, eb_cons, ev_const, ev_var, ev_bin, ev_neg, ev_nott, ev_bop, ev_cmp, ev_ite, ev_idx, ev_tup, ev_lst, ev_call, ev_prim, ev_isin, runF, bindArgsR, Rho.set, rd, rdAll, bi_add, bi_sub, bi_mod, bi_fdiv, cm_lt, cm_le, cm_gt, cm_ge, cm_eqi, cm_nei, cm_eqb, cm_neb, pi_bool, ix_t0, ix_t1, ix_t2, ix_l0, ix_l1, ix_l2, bo_or, bo_and, boolA, settle, leave, ownAll, own, cellAt, h1]
/-! ## all inputs of the ranges -/
noncomputable def numsIn (r : Int × Int) : List Int := (List.range (r.2 - r.1 + 1).toNat).map fun (k : Nat) => r.1 + (k : Int)
noncomputable def longer (r : Int × Int) (a : List Int) : List (List Int) := (numsIn r).map fun x => a ++ [x]
noncomputable def stepIn (acc : List (List Int)) (r : Int × Int) : List (List Int) := acc.flatMap (longer r)
noncomputable def allIn (rs : List (Int × Int)) : List (List Int) := rs.foldl stepIn [[]]
noncomputable def inT (a : List Int) : PyData := .tuple (a.map .int)
noncomputable def pairD (r : Int × Int) : PyData := .tuple [.int r.1, .int r.2]
noncomputable def okR (r : Int × Int) : Prop := (r.2 - r.1 + 1).toNat ≤ 21
theorem longer_len {r : Int × Int} (h : okR r) (a : List Int) : (longer r a).length ≤ 21 := by
  unfold longer numsIn
  rw [List.length_map, List.length_map, List.length_range]
  exact h
theorem longer_mem {r : Int × Int} {a b : List Int} (h : b ∈ longer r a) : b.length = a.length + 1 := by
  obtain ⟨x, _, rfl⟩ := List.mem_map.mp h
  simp
theorem step_len {r : Int × Int} (h : okR r) (l : List (List Int)) : (l.flatMap (longer r)).length ≤ 21 * l.length := by
  induction l with
  | nil => simp
  | cons a l ih => have := longer_len h a; simp only [List.flatMap_cons, List.length_append, List.length_cons]; omega
theorem step_mem {r : Int × Int} {acc : List (List Int)} {b : List Int} (h : b ∈ stepIn acc r) : ∃ a ∈ acc, b.length = a.length + 1 := by
  obtain ⟨a, ha, hb⟩ := List.mem_flatMap.mp h
  exact ⟨a, ha, longer_mem hb⟩
theorem add_in {a : List Int} (h : a.length ≤ 3) (x : Int) : binD .Add (inT a) (.tuple [.int x]) = some (.dat (inT (a ++ [x]))) := by
  unfold inT
  rw [bi_addT (le_lim (m := 4) (by simp; omega) (by decide))]
  simp
theorem a_comp {Φ : Phi} {ρ : Rho} {σ : Store} {r : Int × Int} {a : List Int} (hr : okR r) (ha : a.length ≤ 3) (h5 : ρ 5 = some (.dat (inT a))) (h2 : ρ 2 = some (.dat (.int r.1))) (h3 : ρ 3 = some (.dat (.int r.2))) :
    evE Φ (.comp (.bin .Add (.var 5) (.tup [(.var 6)])) (.one 6) .range2 [(.var 2), (.bin .Add (.var 3) (.const (.int (1))))] []) ρ σ = some (.fresh ((longer r a).map inT), σ) := by
  have hl : (numsIn r).length ≤ lim := le_lim (m := 21) (by unfold numsIn; rw [List.length_map, List.length_range]; exact hr) (by decide)
  have := ev_comp (Φ := Φ) (ρ := ρ) (σ := σ) (ce := .bin .Add (.var 5) (.tup [(.var 6)])) (t := .one 6) (k := .range2) (its := [(.var 2), (.bin .Add (.var 3) (.const (.int (1))))])
    (vs := [.dat (.int r.1), .dat (.int (r.2 + 1))]) (ds := [.int r.1, .int (r.2 + 1)]) (numsIn r) (fun x => .int x) (fun x => inT (a ++ [x])) (by simp [es_nil, es_cons, es_assign, es_newcell, es_unpack, es_append, es_extend, es_insert, es_ite, es_ret, el_nil, el_cons, eb_nil, eb_cons, ev_const, ev_var, ev_bin, ev_neg, ev_nott, ev_bop, ev_cmp, ev_ite, ev_idx, ev_tup, ev_lst, ev_call, ev_prim, ev_isin, runF, bindArgsR, Rho.set, rd, rdAll, bi_add, bi_sub, bi_mod, bi_fdiv, cm_lt, cm_le, cm_gt, cm_ge, cm_eqi, cm_nei, cm_eqb, cm_neb, pi_bool, ix_t0, ix_t1, ix_t2, ix_l0, ix_l1, ix_l2, bo_or, bo_and, boolA, settle, leave, ownAll, own, h2, h3]) rfl rfl (by
      show (if (r.2 + 1 - r.1).toNat < 1048576 then some (rangeL r.1 (r.2 + 1)) else none) = _
      have e : r.2 + 1 - r.1 = r.2 - r.1 + 1 := by omega
      unfold okR at hr
      rw [e, if_pos (by omega)]
      simp only [rangeL, numsIn, e, List.map_map, Function.comp_def]) hl (fun x _ => ⟨_, rfl, by simp [es_nil, es_cons, es_assign, es_newcell, es_unpack, es_append, es_extend, es_insert, es_ite, es_ret, el_nil, el_cons, eb_nil, eb_cons, ev_const, ev_var, ev_bin, ev_neg, ev_nott, ev_bop, ev_cmp, ev_ite, ev_idx, ev_tup, ev_lst, ev_call, ev_prim, ev_isin, runF, bindArgsR, Rho.set, rd, rdAll, bi_add, bi_sub, bi_mod, bi_fdiv, cm_lt, cm_le, cm_gt, cm_ge, cm_eqi, cm_nei, cm_eqb, cm_neb, pi_bool, ix_t0, ix_t1, ix_t2, ix_l0, ix_l1, ix_l2, bo_or, bo_and, boolA, settle, leave, ownAll, own, h5, add_in ha]⟩)
  rw [this]
  simp [longer]
noncomputable def aBody : List CS := [.extend 4 (.comp (.bin .Add (.var 5) (.tup [(.var 6)])) (.one 6) .range2 [(.var 2), (.bin .Add (.var 3) (.const (.int (1))))] [])]
theorem a_inner (N : Nat) (Φ : Phi) {r : Int × Int} (hr : okR r) (σ₁ : Store) : ∀ (l done : List (List Int)) (ρ : Rho), (∀ a ∈ l, a.length ≤ 3) → ρ 4 = some (.cell σ₁.length) → ρ 2 = some (.dat (.int r.1)) → ρ 3 = some (.dat (.int r.2)) → done.length + 21 * l.length ≤ 1000000 →
    ∃ ρ', forGo (.one 5) (fun ρ' σ' => evSs N Φ aBody ρ' σ') (l.map inT) ρ (σ₁ ++ [(.live, done.map inT)]) = some (.next ρ', σ₁ ++ [(.live, (done ++ l.flatMap (longer r)).map inT)]) ∧ ρ' 4 = some (.cell σ₁.length) := by
  intro l
  induction l with
  | nil => intro done ρ _ h4 _ _ _; exact ⟨ρ, by simp [forGo], h4⟩
  | cons a l ih =>
    intro done ρ ha h4 h2 h3 hb
    have hll := longer_len hr a
    simp only [List.length_cons] at hb
    obtain ⟨ρ', i1, i2⟩ := ih (done ++ longer r a) (Rho.set ρ 5 (.dat (inT a))) (fun b hb => ha b (.tail _ hb)) h4 h2 h3 (by rw [List.length_append]; omega)
    refine ⟨ρ', ?_, i2⟩
    have hs : evSs N Φ aBody (Rho.set ρ 5 (.dat (inT a))) (σ₁ ++ [(.live, done.map inT)]) = some (.next (Rho.set ρ 5 (.dat (inT a))), σ₁ ++ [(.live, (done ++ longer r a).map inT)]) := by
      refine (r_extend (x := 4) (ρ := Rho.set ρ 5 (.dat (inT a))) (σ := σ₁ ++ [(.live, done.map inT)]) (c := σ₁.length) (ds := done.map inT) (es := (longer r a).map inT) h4 (a_comp (ρ := Rho.set ρ 5 (.dat (inT a))) hr (ha a (.head _)) rfl h2 h3) (by simp) (le_lim (m := 1000000) (by rw [List.length_map, List.length_map]; omega) (by decide))).trans ?_
      rw [es_nil]
      simp
    simp only [List.map_cons, forGo, bindT, hs, i1, List.flatMap_cons, List.append_assoc]
noncomputable def cur (n : Nat) (σ : Store) (v : AV) (acc : List (List Int)) : Prop := v = .dat (.list (acc.map inT)) ∨ ∃ j, n ≤ j ∧ v = .cell j ∧ σ[j]? = some (.live, acc.map inT)
noncomputable def aOuter : List CS := [.newcell 4 (.lst []), .forr (.one 5) .seq [(.var 1)] aBody, .assign 1 (.var 4)]
theorem a_outer (N : Nat) (Φ : Phi) (n : Nat) (σ : Store) : ∀ (rs : List (Int × Int)) (acc : List (List Int)) (ρ : Rho) (σ' : Store) (v : AV), (∀ r ∈ rs, okR r) → acc.length * 21 ^ rs.length ≤ 10000 → (∀ a ∈ acc, a.length + rs.length ≤ 3) → ρ 1 = some v → cur n σ' v acc → n ≤ σ'.length → σ'.take n = σ →
    ∃ ρ' σ'' v', forGo (.many [2, 3]) (fun ρ' σ' => evSs N Φ aOuter ρ' σ') (rs.map pairD) ρ σ' = some (.next ρ', σ'') ∧ ρ' 1 = some v' ∧ cur n σ'' v' (rs.foldl stepIn acc) ∧ σ''.take n = σ := by
  intro rs
  induction rs with
  | nil => intro acc ρ σ' v _ _ _ h1 hc _ ht; exact ⟨ρ, σ', v, rfl, h1, hc, ht⟩
  | cons r rs ih =>
    intro acc ρ σ' v hr hb ha h1 hc hn ht
    have hr0 := hr r (.head _)
    have hsl := step_len hr0 acc
    have hpow : 21 * acc.length * 21 ^ rs.length ≤ 10000 := by
      rw [List.length_cons, Nat.pow_succ] at hb
      calc 21 * acc.length * 21 ^ rs.length = acc.length * (21 ^ rs.length * 21) := by rw [Nat.mul_comm 21, Nat.mul_assoc, Nat.mul_comm 21]
        _ ≤ 10000 := hb
    have hb' : (stepIn acc r).length * 21 ^ rs.length ≤ 10000 := Nat.le_trans (Nat.mul_le_mul_right _ hsl) hpow
    have hpos : 0 < 21 ^ rs.length := Nat.pow_pos (by decide)
    have hb2 : 21 * acc.length ≤ 10000 := Nat.le_trans (Nat.le_mul_of_pos_right _ hpos) hpow
    have ha' : ∀ a ∈ acc, a.length ≤ 3 := fun a h => by have := ha a h; omega
    have hstep : ∃ ρ₂, evSs N Φ aOuter (Rho.set (Rho.set ρ 2 (.dat (.int r.1))) 3 (.dat (.int r.2))) σ' = some (.next (Rho.set ρ₂ 1 (.cell σ'.length)), σ' ++ [(.live, (stepIn acc r).map inT)]) := by
      have hnew := fun cs => r_newcell (N := N) (Φ := Φ) (ρ := Rho.set (Rho.set ρ 2 (.dat (.int r.1))) 3 (.dat (.int r.2))) (σ := σ') (i := 4) (e := .lst []) (cs := cs) (ds := []) (σ₁ := σ') (by simp [es_nil, es_cons, es_assign, es_newcell, es_unpack, es_append, es_extend, es_insert, es_ite, es_ret, el_nil, el_cons, eb_nil, eb_cons, ev_const, ev_var, ev_bin, ev_neg, ev_nott, ev_bop, ev_cmp, ev_ite, ev_idx, ev_tup, ev_lst, ev_call, ev_prim, ev_isin, runF, bindArgsR, Rho.set, rd, rdAll, bi_add, bi_sub, bi_mod, bi_fdiv, cm_lt, cm_le, cm_gt, cm_ge, cm_eqi, cm_nei, cm_eqb, cm_neb, pi_bool, ix_t0, ix_t1, ix_t2, ix_l0, ix_l1, ix_l2, bo_or, bo_and, boolA, settle, leave, ownAll, own])
      rcases hc with rfl | ⟨j, hj, rfl, hj'⟩
      · obtain ⟨ρ₂, i1, i2⟩ := a_inner N Φ hr0 σ' acc [] (Rho.set (Rho.set (Rho.set ρ 2 (.dat (.int r.1))) 3 (.dat (.int r.2))) 4 (.cell σ'.length)) ha' rfl rfl rfl (by simp; omega)
        refine ⟨ρ₂, (hnew _).trans ?_⟩
        refine (r_forS (vs := [.dat (.list (acc.map inT))]) (ds := [.list (acc.map inT)]) (xs := acc.map inT) (by simp [es_nil, es_cons, es_assign, es_newcell, es_unpack, es_append, es_extend, es_insert, es_ite, es_ret, el_nil, el_cons, eb_nil, eb_cons, ev_const, ev_var, ev_bin, ev_neg, ev_nott, ev_bop, ev_cmp, ev_ite, ev_idx, ev_tup, ev_lst, ev_call, ev_prim, ev_isin, runF, bindArgsR, Rho.set, rd, rdAll, bi_add, bi_sub, bi_mod, bi_fdiv, cm_lt, cm_le, cm_gt, cm_ge, cm_eqi, cm_nei, cm_eqb, cm_neb, pi_bool, ix_t0, ix_t1, ix_t2, ix_l0, ix_l1, ix_l2, bo_or, bo_and, boolA, settle, leave, ownAll, own, h1]) rfl rfl rfl i1).trans ?_
        refine (r_assign (v := .cell σ'.length) (σ₁ := σ' ++ [(.live, (stepIn acc r).map inT)]) (by simp [es_nil, es_cons, es_assign, es_newcell, es_unpack, es_append, es_extend, es_insert, es_ite, es_ret, el_nil, el_cons, eb_nil, eb_cons, ev_const, ev_var, ev_bin, ev_neg, ev_nott, ev_bop, ev_cmp, ev_ite, ev_idx, ev_tup, ev_lst, ev_call, ev_prim, ev_isin, runF, bindArgsR, Rho.set, rd, rdAll, bi_add, bi_sub, bi_mod, bi_fdiv, cm_lt, cm_le, cm_gt, cm_ge, cm_eqi, cm_nei, cm_eqb, cm_neb, pi_bool, ix_t0, ix_t1, ix_t2, ix_l0, ix_l1, ix_l2, bo_or, bo_and, boolA, settle, leave, ownAll, own, i2, stepIn])).trans ?_
        exact es_nil
      · have hjl : j < σ'.length := (List.getElem?_eq_some_iff.mp hj').1
        obtain ⟨ρ₂, i1, i2⟩ := a_inner N Φ hr0 (σ'.set j (.locked, acc.map inT)) acc [] (Rho.set (Rho.set (Rho.set ρ 2 (.dat (.int r.1))) 3 (.dat (.int r.2))) 4 (.cell σ'.length)) ha' (by rw [List.length_set]; rfl) rfl rfl (by simp; omega)
        refine ⟨ρ₂, (hnew _).trans ?_⟩
        have hg : (σ' ++ [(Flag.live, ([] : List PyData))])[j]? = some (.live, acc.map inT) := by rw [List.getElem?_append_left hjl, hj']
        have hf : evS N Φ (.forr (.one 5) .seq [(.var 1)] aBody) (Rho.set (Rho.set (Rho.set ρ 2 (.dat (.int r.1))) 3 (.dat (.int r.2))) 4 (.cell σ'.length)) (σ' ++ [(.live, [])]) = some (.next ρ₂, σ' ++ [(.live, (stepIn acc r).map inT)]) := by
          have he : evEs Φ [.var 1] (Rho.set (Rho.set (Rho.set ρ 2 (.dat (.int r.1))) 3 (.dat (.int r.2))) 4 (.cell σ'.length)) (σ' ++ [(.live, [])]) = some ([.cell j], σ' ++ [(.live, [])]) := by simp [es_nil, es_cons, es_assign, es_newcell, es_unpack, es_append, es_extend, es_insert, es_ite, es_ret, el_nil, el_cons, eb_nil, eb_cons, ev_const, ev_var, ev_bin, ev_neg, ev_nott, ev_bop, ev_cmp, ev_ite, ev_idx, ev_tup, ev_lst, ev_call, ev_prim, ev_isin, runF, bindArgsR, Rho.set, rd, rdAll, bi_add, bi_sub, bi_mod, bi_fdiv, cm_lt, cm_le, cm_gt, cm_ge, cm_eqi, cm_nei, cm_eqb, cm_neb, pi_bool, ix_t0, ix_t1, ix_t2, ix_l0, ix_l1, ix_l2, bo_or, bo_and, boolA, settle, leave, ownAll, own, h1]
          have hl : liveOf (σ' ++ [(.live, [])]) [.cell j] = [j] := by simp only [liveOf, hg, List.append_nil]
          have hr : rdAll (σ' ++ [(.live, [])]) [.cell j] = some [.list (acc.map inT)] := by simp only [rdAll, rd, hg]
          have hk : flagAll .locked [j] (σ' ++ [(.live, [])]) = σ'.set j (.locked, acc.map inT) ++ [(.live, [])] := by
            simp only [flagAll, hg, List.set_append_left _ _ hjl]
          have hu : flagAll .live [j] (σ'.set j (.locked, acc.map inT) ++ [(.live, ([] ++ acc.flatMap (longer r)).map inT)]) = σ' ++ [(.live, (stepIn acc r).map inT)] := by
            have : (σ'.set j (.locked, acc.map inT) ++ [(Flag.live, ([] ++ acc.flatMap (longer r)).map inT)])[j]? = some (.locked, acc.map inT) := by
              rw [List.getElem?_append_left (by rw [List.length_set]; exact hjl), List.getElem?_set_self hjl]
            simp only [flagAll, this]
            rw [List.set_append_left _ _ (by rw [List.length_set]; exact hjl), List.set_set]
            have hs : σ'.set j (.live, acc.map inT) = σ' := by
              apply List.ext_getElem?
              intro i
              rw [List.getElem?_set]
              split
              · rename_i e; subst e; exact hj'.symm
              · rfl
            rw [hs]; rfl
          rw [es_forr, he]
          dsimp only
          rw [hr]
          dsimp only [itemsD, seqD]
          rw [hl, hk]
          have i1' := i1
          simp only [List.map_nil] at i1'
          rw [i1']
          dsimp only
          rw [hu]
        refine (r_next hf).trans ?_
        refine (r_assign (v := .cell σ'.length) (σ₁ := σ' ++ [(.live, (stepIn acc r).map inT)]) (by simp [es_nil, es_cons, es_assign, es_newcell, es_unpack, es_append, es_extend, es_insert, es_ite, es_ret, el_nil, el_cons, eb_nil, eb_cons, ev_const, ev_var, ev_bin, ev_neg, ev_nott, ev_bop, ev_cmp, ev_ite, ev_idx, ev_tup, ev_lst, ev_call, ev_prim, ev_isin, runF, bindArgsR, Rho.set, rd, rdAll, bi_add, bi_sub, bi_mod, bi_fdiv, cm_lt, cm_le, cm_gt, cm_ge, cm_eqi, cm_nei, cm_eqb, cm_neb, pi_bool, ix_t0, ix_t1, ix_t2, ix_l0, ix_l1, ix_l2, bo_or, bo_and, boolA, settle, leave, ownAll, own, i2])).trans ?_
        exact es_nil
    obtain ⟨ρ₂, hs⟩ := hstep
    obtain ⟨ρ', σ'', v', j1, j2, j3, j4⟩ := ih (stepIn acc r) (Rho.set ρ₂ 1 (.cell σ'.length)) (σ' ++ [(.live, (stepIn acc r).map inT)]) (.cell σ'.length) (fun r h => hr r (.tail _ h)) hb' (fun b h => by
      obtain ⟨a, h1, h2⟩ := step_mem h
      have := ha a h1
      simp only [List.length_cons] at this
      omega) rfl (.inr ⟨_, hn, rfl, by simp⟩) (by simp; omega) (by rw [List.take_append_of_le_length hn, ht])
    refine ⟨ρ', σ'', v', ?_, j2, j3, j4⟩
    simp only [List.map_cons, forGo, pairD, bindT, bindMany, hs]
    exact j1
theorem s_all_inputs (N k : Nat) (rs : List (Int × Int)) (hl : rs.length ≤ 3) (hr : ∀ r ∈ rs, okR r) (σ : Store) : ∃ b, tabAt tab5 N (k + 1) 0 [.dat (.tuple (rs.map pairD))] σ = some (.ret (if b = true then .fresh ((allIn rs).map inT) else .dat (.list ((allIn rs).map inT))), σ) := by
  rw [tab_step (by rfl : tab5[0]? = some ([0], c_all_inputs))]
  have hp : 21 ^ rs.length ≤ 21 ^ 3 := Nat.pow_le_pow_right (by decide) hl
  obtain ⟨ρ', σ'', v', h1, h2, h3, h4⟩ := a_outer N (tabAt tab5 N k) σ.length σ rs [[]] (Rho.set (Rho.set (fun _ => none) 0 (.dat (.tuple (rs.map pairD)))) 1 (.dat (.list [.tuple []]))) σ (.dat (.list [.tuple []])) hr (by simp; omega) (fun a h => by simp at h; subst h; simpa using hl) rfl (.inl rfl) (Nat.le_refl _) (List.take_length)
  have hb : evSs N (tabAt tab5 N k) c_all_inputs (Rho.set (fun _ => none) 0 (.dat (.tuple (rs.map pairD)))) σ = some (.ret v', σ'') := by
    refine (r_assign (v := .fresh [.tuple []]) (σ₁ := σ) (by simp [es_nil, es_cons, es_assign, es_newcell, es_unpack, es_append, es_extend, es_insert, es_ite, es_ret, el_nil, el_cons, eb_nil, eb_cons, ev_const, ev_var, ev_bin, ev_neg, ev_nott, ev_bop, ev_cmp, ev_ite, ev_idx, ev_tup, ev_lst, ev_call, ev_prim, ev_isin, runF, bindArgsR, Rho.set, rd, rdAll, bi_add, bi_sub, bi_mod, bi_fdiv, cm_lt, cm_le, cm_gt, cm_ge, cm_eqi, cm_nei, cm_eqb, cm_neb, pi_bool, ix_t0, ix_t1, ix_t2, ix_l0, ix_l1, ix_l2, bo_or, bo_and, boolA, settle, leave, ownAll, own])).trans ?_
    refine (r_forS (vs := [.dat (.tuple (rs.map pairD))]) (ds := [.tuple (rs.map pairD)]) (xs := rs.map pairD) (by simp [es_nil, es_cons, es_assign, es_newcell, es_unpack, es_append, es_extend, es_insert, es_ite, es_ret, el_nil, el_cons, eb_nil, eb_cons, ev_const, ev_var, ev_bin, ev_neg, ev_nott, ev_bop, ev_cmp, ev_ite, ev_idx, ev_tup, ev_lst, ev_call, ev_prim, ev_isin, runF, bindArgsR, Rho.set, rd, rdAll, bi_add, bi_sub, bi_mod, bi_fdiv, cm_lt, cm_le, cm_gt, cm_ge, cm_eqi, cm_nei, cm_eqb, cm_neb, pi_bool, ix_t0, ix_t1, ix_t2, ix_l0, ix_l1, ix_l2, bo_or, bo_and, boolA, settle, leave, ownAll, own]) rfl rfl rfl h1).trans ?_
    exact r_ret (by simp [es_nil, es_cons, es_assign, es_newcell, es_unpack, es_append, es_extend, es_insert, es_ite, es_ret, el_nil, el_cons, eb_nil, eb_cons, ev_const, ev_var, ev_bin, ev_neg, ev_nott, ev_bop, ev_cmp, ev_ite, ev_idx, ev_tup, ev_lst, ev_call, ev_prim, ev_isin, runF, bindArgsR, Rho.set, rd, rdAll, bi_add, bi_sub, bi_mod, bi_fdiv, cm_lt, cm_le, cm_gt, cm_ge, cm_eqi, cm_nei, cm_eqb, cm_neb, pi_bool, ix_t0, ix_t1, ix_t2, ix_l0, ix_l1, ix_l2, bo_or, bo_and, boolA, settle, leave, ownAll, own, h2])
  have hrun : ∀ r, leave σ.length σ'' v' = some r → runF N (tabAt tab5 N k) [0] c_all_inputs [.dat (.tuple (rs.map pairD))] σ = some (.ret r, σ) := fun r hr => by
    simp only [runF, bindArgsR, hb, hr, h4]
  rcases h3 with rfl | ⟨j, hj, rfl, hj'⟩
  · exact ⟨false, hrun _ rfl⟩
  · exact ⟨true, hrun _ (by simp only [leave, Nat.not_lt.mpr hj, if_false, hj']; rfl)⟩
/-! ## the law's own inputs: the same list -/
theorem i_comp {Φ : Phi} {ρ : Rho} {σ : Store} {r : Int × Int} {a : List Int} (hr : okR r) (ha : a.length ≤ 3) (h27 : ρ 27 = some (.dat (inT a))) (h20 : ρ 20 = some (.dat (.int r.1))) (h26 : ρ 26 = some (.dat (.int r.2))) :
    evE Φ (.comp (.bin .Add (.var 27) (.tup [(.bin .Add (.var 20) (.var 14))])) (.one 14) .range1 [(.bin .Add (.bin .Sub (.var 26) (.var 20)) (.const (.int (1))))] []) ρ σ = some (.fresh ((longer r a).map inT), σ) := by
  have hl : (List.range (r.2 - r.1 + 1).toNat).length ≤ lim := le_lim (m := 21) (by rw [List.length_range]; exact hr) (by decide)
  have := ev_comp (Φ := Φ) (ρ := ρ) (σ := σ) (ce := .bin .Add (.var 27) (.tup [(.bin .Add (.var 20) (.var 14))])) (t := .one 14) (k := .range1) (its := [(.bin .Add (.bin .Sub (.var 26) (.var 20)) (.const (.int (1))))])
    (vs := [.dat (.int (r.2 - r.1 + 1))]) (ds := [.int (r.2 - r.1 + 1)]) (List.range (r.2 - r.1 + 1).toNat) (fun k => .int (k : Nat)) (fun k => inT (a ++ [r.1 + (k : Nat)])) (by simp [es_nil, es_cons, es_assign, es_newcell, es_unpack, es_append, es_extend, es_insert, es_ite, es_ret, el_nil, el_cons, eb_nil, eb_cons, ev_const, ev_var, ev_bin, ev_neg, ev_nott, ev_bop, ev_cmp, ev_ite, ev_idx, ev_tup, ev_lst, ev_call, ev_prim, ev_isin, runF, bindArgsR, Rho.set, rd, rdAll, bi_add, bi_sub, bi_mod, bi_fdiv, cm_lt, cm_le, cm_gt, cm_ge, cm_eqi, cm_nei, cm_eqb, cm_neb, pi_bool, ix_t0, ix_t1, ix_t2, ix_l0, ix_l1, ix_l2, bo_or, bo_and, boolA, settle, leave, ownAll, own, h20, h26]) rfl rfl (by
      show (if (r.2 - r.1 + 1).toNat < 1048576 then some (rangeL 0 (r.2 - r.1 + 1)) else none) = _
      unfold okR at hr
      rw [if_pos (by omega)]
      simp only [rangeL, Int.sub_zero, Int.zero_add]) hl (fun x _ => ⟨_, rfl, by simp [es_nil, es_cons, es_assign, es_newcell, es_unpack, es_append, es_extend, es_insert, es_ite, es_ret, el_nil, el_cons, eb_nil, eb_cons, ev_const, ev_var, ev_bin, ev_neg, ev_nott, ev_bop, ev_cmp, ev_ite, ev_idx, ev_tup, ev_lst, ev_call, ev_prim, ev_isin, runF, bindArgsR, Rho.set, rd, rdAll, bi_add, bi_sub, bi_mod, bi_fdiv, cm_lt, cm_le, cm_gt, cm_ge, cm_eqi, cm_nei, cm_eqb, cm_neb, pi_bool, ix_t0, ix_t1, ix_t2, ix_l0, ix_l1, ix_l2, bo_or, bo_and, boolA, settle, leave, ownAll, own, h27, h20, add_in ha]⟩)
  rw [this]
  simp only [longer, numsIn, List.map_map, Function.comp_def]
noncomputable def iBody : List CS := [.assign 19 (.bin .Add (.var 19) (.comp (.bin .Add (.var 27) (.tup [(.bin .Add (.var 20) (.var 14))])) (.one 14) .range1 [(.bin .Add (.bin .Sub (.var 26) (.var 20)) (.const (.int (1))))] []))]
theorem i_inner (N : Nat) (Φ : Phi) {r : Int × Int} (hr : okR r) (σ : Store) : ∀ (l done : List (List Int)) (ρ : Rho), (∀ a ∈ l, a.length ≤ 3) → ρ 19 = some (.dat (.list (done.map inT))) → ρ 20 = some (.dat (.int r.1)) → ρ 26 = some (.dat (.int r.2)) → done.length + 21 * l.length ≤ 1000000 →
    ∃ ρ', forGo (.one 27) (fun ρ' σ' => evSs N Φ iBody ρ' σ') (l.map inT) ρ σ = some (.next ρ', σ) ∧ ρ' 19 = some (.dat (.list ((done ++ l.flatMap (longer r)).map inT))) := by
  intro l
  induction l with
  | nil => intro done ρ _ h4 _ _ _; exact ⟨ρ, by simp [forGo], by simpa using h4⟩
  | cons a l ih =>
    intro done ρ ha h4 h2 h3 hb
    have hll := longer_len hr a
    simp only [List.length_cons] at hb
    obtain ⟨ρ', i1, i2⟩ := ih (done ++ longer r a) (Rho.set (Rho.set ρ 27 (.dat (inT a))) 19 (.dat (.list ((done ++ longer r a).map inT)))) (fun b hb => ha b (.tail _ hb)) rfl h2 h3 (by rw [List.length_append]; omega)
    refine ⟨ρ', ?_, by rw [i2, List.flatMap_cons, List.append_assoc]⟩
    have hadd : binD .Add (.list (done.map inT)) (.list ((longer r a).map inT)) = some (.fresh ((done ++ longer r a).map inT)) := by
      rw [bi_addL (le_lim (m := 1000000) (by simp; omega) (by decide)), List.map_append]
    have hs : evSs N Φ iBody (Rho.set ρ 27 (.dat (inT a))) σ = some (.next (Rho.set (Rho.set ρ 27 (.dat (inT a))) 19 (.dat (.list ((done ++ longer r a).map inT)))), σ) := by
      refine (r_assign (v := .fresh ((done ++ longer r a).map inT)) (σ₁ := σ) ?_).trans es_nil
      have hc := i_comp (Φ := Φ) (ρ := Rho.set ρ 27 (.dat (inT a))) (σ := σ) hr (ha a (.head _)) rfl h2 h3
      have h19 : Rho.set ρ 27 (.dat (inT a)) 19 = some (.dat (.list (done.map inT))) := h4
      simp only [ev_bin, ev_var, h19, hc, rd, hadd]
    simp only [List.map_cons, forGo, bindT, hs, i1]
noncomputable def iOuter : List CS := [.assign 19 (.lst []), .forr (.one 27) .seq [(.var 16)] iBody, .assign 16 (.var 19)]
theorem i_outer (N : Nat) (Φ : Phi) (σ : Store) : ∀ (rs : List (Int × Int)) (acc : List (List Int)) (ρ : Rho), (∀ r ∈ rs, okR r) → acc.length * 21 ^ rs.length ≤ 10000 → (∀ a ∈ acc, a.length + rs.length ≤ 3) → ρ 16 = some (.dat (.list (acc.map inT))) →
    ∃ ρ', forGo (.many [20, 26]) (fun ρ' σ' => evSs N Φ iOuter ρ' σ') (rs.map pairD) ρ σ = some (.next ρ', σ) ∧ ρ' 16 = some (.dat (.list ((rs.foldl stepIn acc).map inT))) := by
  intro rs
  induction rs with
  | nil => intro acc ρ _ _ _ h1; exact ⟨ρ, rfl, h1⟩
  | cons r rs ih =>
    intro acc ρ hr hb ha h1
    have hr0 := hr r (.head _)
    have hsl := step_len hr0 acc
    have hpow : 21 * acc.length * 21 ^ rs.length ≤ 10000 := by
      rw [List.length_cons, Nat.pow_succ] at hb
      calc 21 * acc.length * 21 ^ rs.length = acc.length * (21 ^ rs.length * 21) := by rw [Nat.mul_comm 21, Nat.mul_assoc, Nat.mul_comm 21]
        _ ≤ 10000 := hb
    have hb' : (stepIn acc r).length * 21 ^ rs.length ≤ 10000 := Nat.le_trans (Nat.mul_le_mul_right _ hsl) hpow
    have hpos : 0 < 21 ^ rs.length := Nat.pow_pos (by decide)
    have hb2 : 21 * acc.length ≤ 10000 := Nat.le_trans (Nat.le_mul_of_pos_right _ hpos) hpow
    have ha' : ∀ a ∈ acc, a.length ≤ 3 := fun a h => by have := ha a h; omega
    obtain ⟨ρ₂, i1, i2⟩ := i_inner N Φ hr0 σ acc [] (Rho.set (Rho.set (Rho.set ρ 20 (.dat (.int r.1))) 26 (.dat (.int r.2))) 19 (.dat (.list []))) ha' rfl rfl rfl (by simp; omega)
    have hs : evSs N Φ iOuter (Rho.set (Rho.set ρ 20 (.dat (.int r.1))) 26 (.dat (.int r.2))) σ = some (.next (Rho.set ρ₂ 16 (.dat (.list ((stepIn acc r).map inT)))), σ) := by
      refine (r_assign (v := .fresh []) (σ₁ := σ) (by simp [es_nil, es_cons, es_assign, es_newcell, es_unpack, es_append, es_extend, es_insert, es_ite, es_ret, el_nil, el_cons, eb_nil, eb_cons, ev_const, ev_var, ev_bin, ev_neg, ev_nott, ev_bop, ev_cmp, ev_ite, ev_idx, ev_tup, ev_lst, ev_call, ev_prim, ev_isin, runF, bindArgsR, Rho.set, rd, rdAll, bi_add, bi_sub, bi_mod, bi_fdiv, cm_lt, cm_le, cm_gt, cm_ge, cm_eqi, cm_nei, cm_eqb, cm_neb, pi_bool, ix_t0, ix_t1, ix_t2, ix_l0, ix_l1, ix_l2, bo_or, bo_and, boolA, settle, leave, ownAll, own])).trans ?_
      refine (r_forS (vs := [.dat (.list (acc.map inT))]) (ds := [.list (acc.map inT)]) (xs := acc.map inT) (by simp [es_nil, es_cons, es_assign, es_newcell, es_unpack, es_append, es_extend, es_insert, es_ite, es_ret, el_nil, el_cons, eb_nil, eb_cons, ev_const, ev_var, ev_bin, ev_neg, ev_nott, ev_bop, ev_cmp, ev_ite, ev_idx, ev_tup, ev_lst, ev_call, ev_prim, ev_isin, runF, bindArgsR, Rho.set, rd, rdAll, bi_add, bi_sub, bi_mod, bi_fdiv, cm_lt, cm_le, cm_gt, cm_ge, cm_eqi, cm_nei, cm_eqb, cm_neb, pi_bool, ix_t0, ix_t1, ix_t2, ix_l0, ix_l1, ix_l2, bo_or, bo_and, boolA, settle, leave, ownAll, own, h1]) rfl rfl rfl i1).trans ?_
      refine (r_assign (v := .dat (.list ((stepIn acc r).map inT))) (σ₁ := σ) (by simp only [ev_var, i2]; rfl)).trans ?_
      exact es_nil
    obtain ⟨ρ', j1, j2⟩ := ih (stepIn acc r) (Rho.set ρ₂ 16 (.dat (.list ((stepIn acc r).map inT)))) (fun r h => hr r (.tail _ h)) hb' (fun b h => by
      obtain ⟨a, h1, h2⟩ := step_mem h
      have := ha a h1
      simp only [List.length_cons] at this
      omega) rfl
    refine ⟨ρ', ?_, j2⟩
    simp only [List.map_cons, forGo, pairD, bindT, bindMany, hs]
    exact j1
theorem s_law_inputs (N k : Nat) (rs : List (Int × Int)) (hl : rs.length ≤ 3) (hr : ∀ r ∈ rs, okR r) (σ : Store) : tabAt tab5 N (k + 1) 11 [.dat (.tuple (rs.map pairD))] σ = some (.ret (.dat (.list ((allIn rs).map inT))), σ) := by
  rw [tab_step (by rfl : tab5[11]? = some ([18], c__law_inputs))]
  have hp : 21 ^ rs.length ≤ 21 ^ 3 := Nat.pow_le_pow_right (by decide) hl
  obtain ⟨ρ', h1, h2⟩ := i_outer N (tabAt tab5 N k) σ rs [[]] (Rho.set (Rho.set (fun _ => none) 18 (.dat (.tuple (rs.map pairD)))) 16 (.dat (.list [.tuple []]))) hr (by simp; omega) (fun a h => by simp at h; subst h; simpa using hl) rfl
  refine r_runD rfl ?_
  refine (r_assign (v := .fresh [.tuple []]) (σ₁ := σ) (by simp [es_nil, es_cons, es_assign, es_newcell, es_unpack, es_append, es_extend, es_insert, es_ite, es_ret, el_nil, el_cons, eb_nil, eb_cons, ev_const, ev_var, ev_bin, ev_neg, ev_nott, ev_bop, ev_cmp, ev_ite, ev_idx, ev_tup, ev_lst, ev_call, ev_prim, ev_isin, runF, bindArgsR, Rho.set, rd, rdAll, bi_add, bi_sub, bi_mod, bi_fdiv, cm_lt, cm_le, cm_gt, cm_ge, cm_eqi, cm_nei, cm_eqb, cm_neb, pi_bool, ix_t0, ix_t1, ix_t2, ix_l0, ix_l1, ix_l2, bo_or, bo_and, boolA, settle, leave, ownAll, own])).trans ?_
  refine (r_forS (vs := [.dat (.tuple (rs.map pairD))]) (ds := [.tuple (rs.map pairD)]) (xs := rs.map pairD) (by simp [es_nil, es_cons, es_assign, es_newcell, es_unpack, es_append, es_extend, es_insert, es_ite, es_ret, el_nil, el_cons, eb_nil, eb_cons, ev_const, ev_var, ev_bin, ev_neg, ev_nott, ev_bop, ev_cmp, ev_ite, ev_idx, ev_tup, ev_lst, ev_call, ev_prim, ev_isin, runF, bindArgsR, Rho.set, rd, rdAll, bi_add, bi_sub, bi_mod, bi_fdiv, cm_lt, cm_le, cm_gt, cm_ge, cm_eqi, cm_nei, cm_eqb, cm_neb, pi_bool, ix_t0, ix_t1, ix_t2, ix_l0, ix_l1, ix_l2, bo_or, bo_and, boolA, settle, leave, ownAll, own]) rfl rfl rfl h1).trans ?_
  exact r_ret (by simp only [ev_var, h2]; rfl)
/-! ## questions -/
structure Que where
  a : Int
  fs : List Int
  b : Bool
noncomputable def q0 : Que := ⟨0, [], true⟩
noncomputable def sumD (a : Int) (fs : List Int) : PyData := .tuple [.int a, .tuple (fs.map .int)]
noncomputable def qD (q : Que) : PyData := .tuple [sumD q.a q.fs, .bool q.b]
structure OkQ (n : Nat) (q : Que) : Prop where
  len : q.fs.length = n
  small : ∀ f ∈ q.fs, f.natAbs ≤ 3
noncomputable def comesI (a : Int) (fs xs : List Int) : Int := a + (List.zipWith (· * ·) fs xs).sum
noncomputable def holdsB (q : Que) (xs : List Int) : Bool := decide (0 ≤ comesI q.a q.fs xs) == q.b
theorem sum0 (a : Int) (fs : List Int) : idxD (sumD a fs) (.int 0) = some (.int a) := rfl
theorem sum1 (a : Int) (fs : List Int) : idxD (sumD a fs) (.int 1) = some (.tuple (fs.map .int)) := rfl
theorem q_0 (q : Que) : idxD (qD q) (.int 0) = some (sumD q.a q.fs) := rfl
theorem q_1 (q : Que) : idxD (qD q) (.int 1) = some (.bool q.b) := rfl
theorem s_comes_to (N k : Nat) (a : Int) (fs xs : List Int) (hf : fs.length ≤ 3) (hs : ∀ f ∈ fs, f.natAbs ≤ 3) (σ : Store) :
    tabAt tab5 N (k + 1) 1 [.dat (sumD a fs), .dat (inT xs)] σ = some (.ret (.dat (.int (comesI a fs xs))), σ) := by
  rw [tab_step (by rfl : tab5[1]? = some ([7, 8], c_comes_to))]
  refine r_runD rfl (r_ret ?_)
  have hl : (fs.zip xs).length ≤ lim := le_lim (m := 3) (by simp; omega) (by decide)
  have hc := fun (ρ : Rho) (h0 : ρ 7 = some (.dat (sumD a fs))) (h1 : ρ 8 = some (.dat (inT xs))) => ev_comp (Φ := tabAt tab5 N k) (ρ := ρ) (σ := σ) (ce := .bin .Mult (.var 9) (.var 6)) (t := .many [9, 6]) (k := .zip) (its := [(.idx (.var 7) (.const (.int (1)))), (.var 8)])
    (vs := [.dat (.tuple (fs.map .int)), .dat (inT xs)]) (ds := [.tuple (fs.map .int), inT xs]) (fs.zip xs) (fun p => .tuple [.int p.1, .int p.2]) (fun p => .int (p.1 * p.2))
    (by simp [es_nil, es_cons, es_assign, es_newcell, es_unpack, es_append, es_extend, es_insert, es_ite, es_ret, el_nil, el_cons, eb_nil, eb_cons, ev_const, ev_var, ev_bin, ev_neg, ev_nott, ev_bop, ev_cmp, ev_ite, ev_idx, ev_tup, ev_lst, ev_call, ev_prim, ev_isin, runF, bindArgsR, Rho.set, rd, rdAll, bi_add, bi_sub, bi_mod, bi_fdiv, cm_lt, cm_le, cm_gt, cm_ge, cm_eqi, cm_nei, cm_eqb, cm_neb, pi_bool, ix_t0, ix_t1, ix_t2, ix_l0, ix_l1, ix_l2, bo_or, bo_and, boolA, settle, leave, ownAll, own, sum1, *]) rfl rfl (by simp [itemsD, seqD, inT, List.zip_map, Function.comp_def]) hl (fun x hm => ⟨_, rfl, by
      have := hs _ (List.of_mem_zip hm).1
      simp [es_nil, es_cons, es_assign, es_newcell, es_unpack, es_append, es_extend, es_insert, es_ite, es_ret, el_nil, el_cons, eb_nil, eb_cons, ev_const, ev_var, ev_bin, ev_neg, ev_nott, ev_bop, ev_cmp, ev_ite, ev_idx, ev_tup, ev_lst, ev_call, ev_prim, ev_isin, runF, bindArgsR, Rho.set, rd, rdAll, bi_add, bi_sub, bi_mod, bi_fdiv, cm_lt, cm_le, cm_gt, cm_ge, cm_eqi, cm_nei, cm_eqb, cm_neb, pi_bool, ix_t0, ix_t1, ix_t2, ix_l0, ix_l1, ix_l2, bo_or, bo_and, boolA, settle, leave, ownAll, own, bi_mul (mulOk_l (show x.1.natAbs < 2 ^ 64 by omega))]⟩)
  have hz : (fs.zip xs).map (fun p => PyData.int (p.1 * p.2)) = (List.zipWith (· * ·) fs xs).map .int := by
    rw [← List.map_uncurry_zip_eq_zipWith, List.map_map]; rfl
  simp only [hz] at hc
  simp [es_nil, es_cons, es_assign, es_newcell, es_unpack, es_append, es_extend, es_insert, es_ite, es_ret, el_nil, el_cons, eb_nil, eb_cons, ev_const, ev_var, ev_bin, ev_neg, ev_nott, ev_bop, ev_cmp, ev_ite, ev_idx, ev_tup, ev_lst, ev_call, ev_prim, ev_isin, runF, bindArgsR, Rho.set, rd, rdAll, bi_add, bi_sub, bi_mod, bi_fdiv, cm_lt, cm_le, cm_gt, cm_ge, cm_eqi, cm_nei, cm_eqb, cm_neb, pi_bool, ix_t0, ix_t1, ix_t2, ix_l0, ix_l1, ix_l2, bo_or, bo_and, boolA, settle, leave, ownAll, own, hc, sum0, pa_sum, comesI, -List.map_zipWith]
theorem s_holds (N k : Nat) (n : Nat) (hn : n ≤ 3) (q : Que) (hq : OkQ n q) (xs : List Int) (σ : Store) : tabAt tab5 N (k + 2) 2 [.dat (qD q), .dat (inT xs)] σ = some (.ret (.dat (.bool (holdsB q xs))), σ) := by
  rw [tab_step (by rfl : tab5[2]? = some ([10, 8], c_holds))]
  refine r_runD rfl (r_ret ?_)
  have := s_comes_to N k q.a q.fs xs (by have := hq.len; omega) hq.small σ
  simp [es_nil, es_cons, es_assign, es_newcell, es_unpack, es_append, es_extend, es_insert, es_ite, es_ret, el_nil, el_cons, eb_nil, eb_cons, ev_const, ev_var, ev_bin, ev_neg, ev_nott, ev_bop, ev_cmp, ev_ite, ev_idx, ev_tup, ev_lst, ev_call, ev_prim, ev_isin, runF, bindArgsR, Rho.set, rd, rdAll, bi_add, bi_sub, bi_mod, bi_fdiv, cm_lt, cm_le, cm_gt, cm_ge, cm_eqi, cm_nei, cm_eqb, cm_neb, pi_bool, ix_t0, ix_t1, ix_t2, ix_l0, ix_l1, ix_l2, bo_or, bo_and, boolA, settle, leave, ownAll, own, q_0, q_1, this, holdsB]
noncomputable def at0 (fs : List Int) (k : Nat) : Int := fs.getD k 0
theorem range_zip {α : Type} (F : Int → Int → α) {fs gs : List Int} {n : Nat} (hf : fs.length = n) (hg : gs.length = n) : (List.range n).map (fun k => F (at0 fs k) (at0 gs k)) = List.zipWith F fs gs := by
  apply List.ext_getElem
  · simp [hf, hg]
  · intro i h1 h2
    simp at h1
    simp [at0, List.getD, List.getElem?_eq_getElem (show i < fs.length by omega), List.getElem?_eq_getElem (show i < gs.length by omega)]
theorem ix_fs {fs : List Int} {n k : Nat} (hf : fs.length = n) (hn : n ≤ 3) (hk : k < n) : idxD (.tuple (fs.map .int)) (.int k) = some (.int (at0 fs k)) :=
  ix_tuple (by omega) (by simp [at0, List.getD, List.getElem?_eq_getElem (show k < fs.length by omega)])
theorem at0_mem {fs : List Int} {k : Nat} (h : k < fs.length) : at0 fs k ∈ fs := by
  simp [at0, List.getD, List.getElem?_eq_getElem h]
theorem s_law_comes (N k n : Nat) (hn : n ≤ 3) (a : Int) (fs xs : List Int) (hf : fs.length = n) (hx : xs.length = n) (hs : ∀ f ∈ fs, f.natAbs ≤ 3) (σ : Store) :
    tabAt tab5 N (k + 1) 12 [.dat (sumD a fs), .dat (inT xs)] σ = some (.ret (.dat (.int (comesI a fs xs))), σ) := by
  rw [tab_step (by rfl : tab5[12]? = some ([28, 29], c__law_comes))]
  refine r_runD rfl (r_ret ?_)
  have hl : (List.range n).length ≤ lim := le_lim (m := 3) (by simp; omega) (by decide)
  have hp : primD .len [inT xs] = some (.dat (.int n)) := by
    have := pl_tuple (xs := xs.map PyData.int) (le_lim (m := 3) (by rw [List.length_map]; omega) (by decide))
    rw [List.length_map, hx] at this
    exact this
  have hc := fun (ρ : Rho) (h0 : ρ 28 = some (.dat (sumD a fs))) (h1 : ρ 29 = some (.dat (inT xs))) => ev_comp (Φ := tabAt tab5 N k) (ρ := ρ) (σ := σ) (ce := .bin .Mult (.idx (.idx (.var 28) (.const (.int (1)))) (.var 14)) (.idx (.var 29) (.var 14))) (t := .one 14) (k := .range1) (its := [(.prim .len [(.var 29)])])
    (vs := [.dat (.int n)]) (ds := [.int n]) (List.range n) (fun k => .int (k : Nat)) (fun k => .int (at0 fs k * at0 xs k))
    (by simp [es_nil, es_cons, es_assign, es_newcell, es_unpack, es_append, es_extend, es_insert, es_ite, es_ret, el_nil, el_cons, eb_nil, eb_cons, ev_const, ev_var, ev_bin, ev_neg, ev_nott, ev_bop, ev_cmp, ev_ite, ev_idx, ev_tup, ev_lst, ev_call, ev_prim, ev_isin, runF, bindArgsR, Rho.set, rd, rdAll, bi_add, bi_sub, bi_mod, bi_fdiv, cm_lt, cm_le, cm_gt, cm_ge, cm_eqi, cm_nei, cm_eqb, cm_neb, pi_bool, ix_t0, ix_t1, ix_t2, ix_l0, ix_l1, ix_l2, bo_or, bo_and, boolA, settle, leave, ownAll, own, h1, hp]) rfl rfl (range_it (by omega)) hl (fun x hm => ⟨_, rfl, by
      have hx' := List.mem_range.mp hm
      have := hs _ (at0_mem (fs := fs) (k := x) (by omega))
      simp [es_nil, es_cons, es_assign, es_newcell, es_unpack, es_append, es_extend, es_insert, es_ite, es_ret, el_nil, el_cons, eb_nil, eb_cons, ev_const, ev_var, ev_bin, ev_neg, ev_nott, ev_bop, ev_cmp, ev_ite, ev_idx, ev_tup, ev_lst, ev_call, ev_prim, ev_isin, runF, bindArgsR, Rho.set, rd, rdAll, bi_add, bi_sub, bi_mod, bi_fdiv, cm_lt, cm_le, cm_gt, cm_ge, cm_eqi, cm_nei, cm_eqb, cm_neb, pi_bool, ix_t0, ix_t1, ix_t2, ix_l0, ix_l1, ix_l2, bo_or, bo_and, boolA, settle, leave, ownAll, own, h0, h1, sum1, ix_fs hf hn hx', inT, ix_fs hx hn hx', bi_mul (mulOk_l (show (at0 fs x).natAbs < 2 ^ 64 by omega))]⟩)
  have hz : (List.range n).map (fun k => PyData.int (at0 fs k * at0 xs k)) = (List.zipWith (· * ·) fs xs).map .int := by
    rw [range_zip (fun x y => PyData.int (x * y)) hf hx, List.map_zipWith]
  simp only [hz] at hc
  simp [es_nil, es_cons, es_assign, es_newcell, es_unpack, es_append, es_extend, es_insert, es_ite, es_ret, el_nil, el_cons, eb_nil, eb_cons, ev_const, ev_var, ev_bin, ev_neg, ev_nott, ev_bop, ev_cmp, ev_ite, ev_idx, ev_tup, ev_lst, ev_call, ev_prim, ev_isin, runF, bindArgsR, Rho.set, rd, rdAll, bi_add, bi_sub, bi_mod, bi_fdiv, cm_lt, cm_le, cm_gt, cm_ge, cm_eqi, cm_nei, cm_eqb, cm_neb, pi_bool, ix_t0, ix_t1, ix_t2, ix_l0, ix_l1, ix_l2, bo_or, bo_and, boolA, settle, leave, ownAll, own, hc, sum0, pa_sum, comesI, -List.map_zipWith]
theorem s_law_holds (N k n : Nat) (hn : n ≤ 3) (q : Que) (hq : OkQ n q) (xs : List Int) (hx : xs.length = n) (σ : Store) : tabAt tab5 N (k + 2) 13 [.dat (qD q), .dat (inT xs)] σ = some (.ret (.dat (.bool (holdsB q xs))), σ) := by
  rw [tab_step (by rfl : tab5[13]? = some ([30, 29], c__law_holds))]
  refine r_runD rfl (r_ret ?_)
  have := s_law_comes N k n hn q.a q.fs xs hq.len hx hq.small σ
  simp [es_nil, es_cons, es_assign, es_newcell, es_unpack, es_append, es_extend, es_insert, es_ite, es_ret, el_nil, el_cons, eb_nil, eb_cons, ev_const, ev_var, ev_bin, ev_neg, ev_nott, ev_bop, ev_cmp, ev_ite, ev_idx, ev_tup, ev_lst, ev_call, ev_prim, ev_isin, runF, bindArgsR, Rho.set, rd, rdAll, bi_add, bi_sub, bi_mod, bi_fdiv, cm_lt, cm_le, cm_gt, cm_ge, cm_eqi, cm_nei, cm_eqb, cm_neb, pi_bool, ix_t0, ix_t1, ix_t2, ix_l0, ix_l1, ix_l2, bo_or, bo_and, boolA, settle, leave, ownAll, own, q_0, q_1, this, holdsB]

/-! ## the first wrong one, an example, the table -/
noncomputable def qAt (qs : List Que) (i : Nat) : Que := qs.getD i q0
noncomputable def fwN (qs : List Que) (xs : List Int) : Option Nat := (List.range qs.length).find? fun i => !holdsB (qAt qs i) xs
noncomputable def natD : Option Nat → PyData
  | some i => .int i
  | none => .none
noncomputable def qsD (b : Bool) (qs : List Que) : PyData := if b then .list (qs.map qD) else .tuple (qs.map qD)
theorem qs_len {b : Bool} {qs : List Que} (h : qs.length ≤ 7) : primD .len [qsD b qs] = some (.dat (.int qs.length)) := by
  cases b
  · show primD .len [.tuple (qs.map qD)] = _
    rw [pl_tuple (le_lim (m := 7) (by simpa using h) (by decide)), List.length_map]
  · show primD .len [.list (qs.map qD)] = _
    rw [pl_list (le_lim (m := 7) (by simpa using h) (by decide)), List.length_map]
theorem qs_map {qs : List Que} {i : Nat} (hi : i < qs.length) : (qs.map qD)[i]? = some (qD (qAt qs i)) := by
  simp [qAt, List.getD, List.getElem?_eq_getElem hi]
theorem qs_at {b : Bool} {qs : List Que} {i : Nat} (h : qs.length ≤ 7) (hi : i < qs.length) : idxD (qsD b qs) (.int i) = some (qD (qAt qs i)) := by
  cases b
  · exact ix_tuple (xs := qs.map qD) (by omega) (qs_map hi)
  · exact ix_list (xs := qs.map qD) (by omega) (qs_map hi)
theorem qAt_ok {n : Nat} {qs : List Que} (h : ∀ q ∈ qs, OkQ n q) {i : Nat} (hi : i < qs.length) : OkQ n (qAt qs i) := by
  apply h
  simp [qAt, List.getD, List.getElem?_eq_getElem hi]
theorem s_first_wrong (N k n : Nat) (hn : n ≤ 3) (b : Bool) (qs : List Que) (hl : qs.length ≤ 7) (hq : ∀ q ∈ qs, OkQ n q) (xs : List Int) (σ : Store) : tabAt tab5 N (k + 3) 3 [.dat (qsD b qs), .dat (inT xs)] σ = some (.ret (.dat (natD (fwN qs xs))), σ) := by
  rw [tab_step (by rfl : tab5[3]? = some ([11, 8], c_first_wrong))]
  refine r_runD rfl ?_
  obtain ⟨h1, h2⟩ := forGo_find (t := .one 12) (body := fun ρ' σ' => evSs N (tabAt tab5 N (k + 2)) [.ite (.nott (.call 2 [(.idx (.var 11) (.var 12)), (.var 8)])) [.ret (.var 12)] []] ρ' σ') (σ := σ) (fun i : Nat => PyData.int (i : Int)) (fun i => !holdsB (qAt qs i) xs) (fun i : Nat => .dat (.int i)) (fun ρ => ρ 11 = some (.dat (qsD b qs)) ∧ ρ 8 = some (.dat (inT xs))) (List.range qs.length)
    (Rho.set (Rho.set (fun _ => none) 11 (.dat (qsD b qs))) 8 (.dat (inT xs))) (fun i hi ρ hP => by
      have hi' := List.mem_range.mp hi
      obtain ⟨p1, p2⟩ := hP
      have hh := s_holds N k n hn (qAt qs i) (qAt_ok hq hi') xs σ
      have e : evE (tabAt tab5 N (k + 2)) (.nott (.call 2 [(.idx (.var 11) (.var 12)), (.var 8)])) (Rho.set ρ 12 (.dat (.int i))) σ = some (.dat (.bool (!holdsB (qAt qs i) xs)), σ) := by
        simp [es_nil, es_cons, es_assign, es_newcell, es_unpack, es_append, es_extend, es_insert, es_ite, es_ret, el_nil, el_cons, eb_nil, eb_cons, ev_const, ev_var, ev_bin, ev_neg, ev_nott, ev_bop, ev_cmp, ev_ite, ev_idx, ev_tup, ev_lst, ev_call, ev_prim, ev_isin, runF, bindArgsR, Rho.set, rd, rdAll, bi_add, bi_sub, bi_mod, bi_fdiv, cm_lt, cm_le, cm_gt, cm_ge, cm_eqi, cm_nei, cm_eqb, cm_neb, pi_bool, ix_t0, ix_t1, ix_t2, ix_l0, ix_l1, ix_l2, bo_or, bo_and, boolA, settle, leave, ownAll, own, p1, p2, qs_at hl hi', hh]
      refine ⟨_, Rho.set ρ 12 (.dat (.int i)), rfl, fun hp => ?_, fun hp => ⟨?_, p1, p2⟩⟩
      · rw [hp] at e
        exact r_taken e (r_ret (by simp [es_nil, es_cons, es_assign, es_newcell, es_unpack, es_append, es_extend, es_insert, es_ite, es_ret, el_nil, el_cons, eb_nil, eb_cons, ev_const, ev_var, ev_bin, ev_neg, ev_nott, ev_bop, ev_cmp, ev_ite, ev_idx, ev_tup, ev_lst, ev_call, ev_prim, ev_isin, runF, bindArgsR, Rho.set, rd, rdAll, bi_add, bi_sub, bi_mod, bi_fdiv, cm_lt, cm_le, cm_gt, cm_ge, cm_eqi, cm_nei, cm_eqb, cm_neb, pi_bool, ix_t0, ix_t1, ix_t2, ix_l0, ix_l1, ix_l2, bo_or, bo_and, boolA, settle, leave, ownAll, own]))
      · rw [hp] at e
        exact (r_skip e).trans es_nil) ⟨rfl, rfl⟩
  have he : evEs (tabAt tab5 N (k + 2)) [(.prim .len [(.var 11)])] (Rho.set (Rho.set (fun _ => none) 11 (.dat (qsD b qs))) 8 (.dat (inT xs))) σ = some ([.dat (.int qs.length)], σ) := by simp [es_nil, es_cons, es_assign, es_newcell, es_unpack, es_append, es_extend, es_insert, es_ite, es_ret, el_nil, el_cons, eb_nil, eb_cons, ev_const, ev_var, ev_bin, ev_neg, ev_nott, ev_bop, ev_cmp, ev_ite, ev_idx, ev_tup, ev_lst, ev_call, ev_prim, ev_isin, runF, bindArgsR, Rho.set, rd, rdAll, bi_add, bi_sub, bi_mod, bi_fdiv, cm_lt, cm_le, cm_gt, cm_ge, cm_eqi, cm_nei, cm_eqb, cm_neb, pi_bool, ix_t0, ix_t1, ix_t2, ix_l0, ix_l1, ix_l2, bo_or, bo_and, boolA, settle, leave, ownAll, own, qs_len hl]
  unfold fwN
  cases hf : (List.range qs.length).find? fun i => !holdsB (qAt qs i) xs with
  | some i => exact r_forR he rfl rfl (range_it (by omega)) (h1 i hf)
  | none =>
    obtain ⟨ρ', h3, _⟩ := h2 hf
    exact (r_forS he rfl rfl (range_it (by omega)) h3).trans (r_ret (by simp [es_nil, es_cons, es_assign, es_newcell, es_unpack, es_append, es_extend, es_insert, es_ite, es_ret, el_nil, el_cons, eb_nil, eb_cons, ev_const, ev_var, ev_bin, ev_neg, ev_nott, ev_bop, ev_cmp, ev_ite, ev_idx, ev_tup, ev_lst, ev_call, ev_prim, ev_isin, runF, bindArgsR, Rho.set, rd, rdAll, bi_add, bi_sub, bi_mod, bi_fdiv, cm_lt, cm_le, cm_gt, cm_ge, cm_eqi, cm_nei, cm_eqb, cm_neb, pi_bool, ix_t0, ix_t1, ix_t2, ix_l0, ix_l1, ix_l2, bo_or, bo_and, boolA, settle, leave, ownAll, own, natD]))
noncomputable def inD' : Option (List Int) → PyData
  | some xs => inT xs
  | none => .none
noncomputable def exN (rs : List (Int × Int)) (qs : List Que) : Option (List Int) := (allIn rs).find? fun xs => (fwN qs xs).isNone
theorem none_nat (o : Option Nat) : cmpD .Is (natD o) .none = some o.isNone := by cases o <;> rfl
theorem it_all (N k : Nat) (rs : List (Int × Int)) (hl : rs.length ≤ 3) (hr : ∀ r ∈ rs, okR r) (σ : Store) (ρ : Rho) (h : ρ 0 = some (.dat (.tuple (rs.map pairD)))) : evEs (tabAt tab5 N (k + 1)) [(.call 0 [(.var 0)])] ρ σ = some ([.dat (.list ((allIn rs).map inT))], σ) := by
  obtain ⟨b, hb⟩ := s_all_inputs N k rs hl hr σ
  cases b <;> simp [es_nil, es_cons, es_assign, es_newcell, es_unpack, es_append, es_extend, es_insert, es_ite, es_ret, el_nil, el_cons, eb_nil, eb_cons, ev_const, ev_var, ev_bin, ev_neg, ev_nott, ev_bop, ev_cmp, ev_ite, ev_idx, ev_tup, ev_lst, ev_call, ev_prim, ev_isin, runF, bindArgsR, Rho.set, rd, rdAll, bi_add, bi_sub, bi_mod, bi_fdiv, cm_lt, cm_le, cm_gt, cm_ge, cm_eqi, cm_nei, cm_eqb, cm_neb, pi_bool, ix_t0, ix_t1, ix_t2, ix_l0, ix_l1, ix_l2, bo_or, bo_and, boolA, settle, leave, ownAll, own, h, hb]
theorem s_example (N k n : Nat) (hn : n ≤ 3) (b : Bool) (rs : List (Int × Int)) (hrl : rs.length ≤ 3) (hr : ∀ r ∈ rs, okR r) (qs : List Que) (hl : qs.length ≤ 7) (hq : ∀ q ∈ qs, OkQ n q) (σ : Store) :
    tabAt tab5 N (k + 4) 4 [.dat (.tuple (rs.map pairD)), .dat (qsD b qs)] σ = some (.ret (.dat (inD' (exN rs qs))), σ) := by
  rw [tab_step (by rfl : tab5[4]? = some ([0, 11], c_example))]
  refine r_runD rfl ?_
  obtain ⟨h1, h2⟩ := forGo_find (t := .one 8) (body := fun ρ' σ' => evSs N (tabAt tab5 N (k + 3)) [.ite (.cmp .Is (.call 3 [(.var 11), (.var 8)]) (.const .none)) [.ret (.var 8)] []] ρ' σ') (σ := σ) inT (fun xs => (fwN qs xs).isNone) (fun xs => .dat (inT xs)) (fun ρ => ρ 11 = some (.dat (qsD b qs))) (allIn rs)
    (Rho.set (Rho.set (fun _ => none) 0 (.dat (.tuple (rs.map pairD)))) 11 (.dat (qsD b qs))) (fun xs hx ρ hP => by
      have hh := s_first_wrong N k n hn b qs hl hq xs σ
      have e : evE (tabAt tab5 N (k + 3)) (.cmp .Is (.call 3 [(.var 11), (.var 8)]) (.const .none)) (Rho.set ρ 8 (.dat (inT xs))) σ = some (.dat (.bool (fwN qs xs).isNone), σ) := by
        simp [es_nil, es_cons, es_assign, es_newcell, es_unpack, es_append, es_extend, es_insert, es_ite, es_ret, el_nil, el_cons, eb_nil, eb_cons, ev_const, ev_var, ev_bin, ev_neg, ev_nott, ev_bop, ev_cmp, ev_ite, ev_idx, ev_tup, ev_lst, ev_call, ev_prim, ev_isin, runF, bindArgsR, Rho.set, rd, rdAll, bi_add, bi_sub, bi_mod, bi_fdiv, cm_lt, cm_le, cm_gt, cm_ge, cm_eqi, cm_nei, cm_eqb, cm_neb, pi_bool, ix_t0, ix_t1, ix_t2, ix_l0, ix_l1, ix_l2, bo_or, bo_and, boolA, settle, leave, ownAll, own, hP, hh, none_nat]
      refine ⟨_, Rho.set ρ 8 (.dat (inT xs)), rfl, fun hp => ?_, fun hp => ⟨?_, hP⟩⟩
      · rw [hp] at e
        exact r_taken e (r_ret (by simp [es_nil, es_cons, es_assign, es_newcell, es_unpack, es_append, es_extend, es_insert, es_ite, es_ret, el_nil, el_cons, eb_nil, eb_cons, ev_const, ev_var, ev_bin, ev_neg, ev_nott, ev_bop, ev_cmp, ev_ite, ev_idx, ev_tup, ev_lst, ev_call, ev_prim, ev_isin, runF, bindArgsR, Rho.set, rd, rdAll, bi_add, bi_sub, bi_mod, bi_fdiv, cm_lt, cm_le, cm_gt, cm_ge, cm_eqi, cm_nei, cm_eqb, cm_neb, pi_bool, ix_t0, ix_t1, ix_t2, ix_l0, ix_l1, ix_l2, bo_or, bo_and, boolA, settle, leave, ownAll, own]))
      · rw [hp] at e
        exact (r_skip e).trans es_nil) rfl
  have he := it_all N (k + 2) rs hrl hr σ (Rho.set (Rho.set (fun _ => none) 0 (.dat (.tuple (rs.map pairD)))) 11 (.dat (qsD b qs))) rfl
  unfold exN
  cases hf : (allIn rs).find? fun xs => (fwN qs xs).isNone with
  | some i => exact r_forR he rfl rfl rfl (h1 i hf)
  | none =>
    obtain ⟨ρ', h3, _⟩ := h2 hf
    exact (r_forS he rfl rfl rfl h3).trans (r_ret (by simp [es_nil, es_cons, es_assign, es_newcell, es_unpack, es_append, es_extend, es_insert, es_ite, es_ret, el_nil, el_cons, eb_nil, eb_cons, ev_const, ev_var, ev_bin, ev_neg, ev_nott, ev_bop, ev_cmp, ev_ite, ev_idx, ev_tup, ev_lst, ev_call, ev_prim, ev_isin, runF, bindArgsR, Rho.set, rd, rdAll, bi_add, bi_sub, bi_mod, bi_fdiv, cm_lt, cm_le, cm_gt, cm_ge, cm_eqi, cm_nei, cm_eqb, cm_neb, pi_bool, ix_t0, ix_t1, ix_t2, ix_l0, ix_l1, ix_l2, bo_or, bo_and, boolA, settle, leave, ownAll, own, inD']))
theorem fold_len : ∀ (rs : List (Int × Int)) (acc : List (List Int)), (∀ r ∈ rs, okR r) → (rs.foldl stepIn acc).length ≤ acc.length * 21 ^ rs.length := by
  intro rs
  induction rs with
  | nil => intro acc _; simp
  | cons r rs ih =>
    intro acc h
    have h1 := ih (stepIn acc r) fun x hx => h x (.tail _ hx)
    have h2 := step_len (h r (.head _)) acc
    refine Nat.le_trans h1 ?_
    rw [List.length_cons, Nat.pow_succ]
    calc (stepIn acc r).length * 21 ^ rs.length ≤ 21 * acc.length * 21 ^ rs.length := Nat.mul_le_mul_right _ h2
      _ = acc.length * (21 ^ rs.length * 21) := by rw [Nat.mul_comm 21, Nat.mul_assoc, Nat.mul_comm 21]
theorem all_len {rs : List (Int × Int)} (hl : rs.length ≤ 3) (hr : ∀ r ∈ rs, okR r) : (allIn rs).length ≤ 10000 := by
  have h := fold_len rs [[]] hr
  have hp : 21 ^ rs.length ≤ 21 ^ 3 := Nat.pow_le_pow_right (by decide) hl
  have : (allIn rs).length ≤ 1 * 21 ^ rs.length := h
  omega
theorem fold_mem : ∀ (rs : List (Int × Int)) (acc : List (List Int)) (m : Nat), (∀ a ∈ acc, a.length = m) → ∀ x ∈ rs.foldl stepIn acc, x.length = m + rs.length := by
  intro rs
  induction rs with
  | nil => intro acc m h x hx; exact h x hx
  | cons r rs ih =>
    intro acc m h x hx
    have := ih (stepIn acc r) (m + 1) (fun b hb => by
      obtain ⟨a, h1, h2⟩ := step_mem hb
      rw [h2, h a h1]) x hx
    rw [this, List.length_cons]
    omega
theorem all_mem {rs : List (Int × Int)} {xs : List Int} (h : xs ∈ allIn rs) : xs.length = rs.length := by
  have := fold_mem rs [[]] 0 (fun a ha => by simp at ha; subst ha; rfl) xs h
  omega
theorem s_table (N k n : Nat) (hn : n ≤ 3) (b : Bool) (rs : List (Int × Int)) (hrl : rs.length ≤ 3) (hr : ∀ r ∈ rs, okR r) (qs : List Que) (hl : qs.length ≤ 7) (hq : ∀ q ∈ qs, OkQ n q) (σ : Store) :
    tabAt tab5 N (k + 4) 5 [.dat (.tuple (rs.map pairD)), .dat (qsD b qs)] σ = some (.ret (.dat (.tuple ((allIn rs).map fun xs => natD (fwN qs xs)))), σ) := by
  rw [tab_step (by rfl : tab5[5]? = some ([0, 11], c_table))]
  refine r_runD rfl (r_ret ?_)
  have hal := all_len hrl hr
  have hl' : (allIn rs).length ≤ lim := le_lim (m := 10000) hal (by decide)
  have he := it_all N (k + 2) rs hrl hr σ (Rho.set (Rho.set (fun _ => none) 0 (.dat (.tuple (rs.map pairD)))) 11 (.dat (qsD b qs))) rfl
  have hc := ev_comp (Φ := tabAt tab5 N (k + 3)) (ρ := Rho.set (Rho.set (fun _ => none) 0 (.dat (.tuple (rs.map pairD)))) 11 (.dat (qsD b qs))) (σ := σ) (ce := .call 3 [(.var 11), (.var 8)]) (t := .one 8) (k := .seq) (its := [(.call 0 [(.var 0)])])
    (allIn rs) inT (fun xs => natD (fwN qs xs)) he rfl rfl rfl hl' (fun xs hm => ⟨_, rfl, by simp [es_nil, es_cons, es_assign, es_newcell, es_unpack, es_append, es_extend, es_insert, es_ite, es_ret, el_nil, el_cons, eb_nil, eb_cons, ev_const, ev_var, ev_bin, ev_neg, ev_nott, ev_bop, ev_cmp, ev_ite, ev_idx, ev_tup, ev_lst, ev_call, ev_prim, ev_isin, runF, bindArgsR, Rho.set, rd, rdAll, bi_add, bi_sub, bi_mod, bi_fdiv, cm_lt, cm_le, cm_gt, cm_ge, cm_eqi, cm_nei, cm_eqb, cm_neb, pi_bool, ix_t0, ix_t1, ix_t2, ix_l0, ix_l1, ix_l2, bo_or, bo_and, boolA, settle, leave, ownAll, own, s_first_wrong N k n hn b qs hl hq xs σ]⟩)
  have hp := pt_list (xs := (allIn rs).map fun xs => natD (fwN qs xs)) (by rw [List.length_map]; exact hl')
  simp only [ev_prim, el_cons, el_nil, hc, settle, rdAll, rd, hp]
/-! ## what the law builds -/
theorem ev_binR {Φ : Phi} {ρ : Rho} {σ : Store} {op : Operator} {a b : CE} {x y r : AV} {dx dy : PyData} (h1 : evE Φ a ρ σ = some (x, σ)) (h2 : evE Φ b ρ σ = some (y, σ)) (h3 : rd σ x = some dx) (h4 : rd σ y = some dy) (h5 : binD op dx dy = some r) : evE Φ (.bin op a b) ρ σ = some (r, σ) := by
  simp only [ev_bin, h1, h2, h3, h4, h5]
theorem ev_and2 {Φ : Phi} {ρ : Rho} {σ : Store} {a b : CE} {p q : Bool} (h1 : evE Φ a ρ σ = some (.dat (.bool p), σ)) (h2 : p = true → evE Φ b ρ σ = some (.dat (.bool q), σ)) : evE Φ (.bop .And [a, b]) ρ σ = some (.dat (.bool (p && q)), σ) := by
  cases p
  · simp [es_nil, es_cons, es_assign, es_newcell, es_unpack, es_append, es_extend, es_insert, es_ite, es_ret, el_nil, el_cons, eb_nil, eb_cons, ev_const, ev_var, ev_bin, ev_neg, ev_nott, ev_bop, ev_cmp, ev_ite, ev_idx, ev_tup, ev_lst, ev_call, ev_prim, ev_isin, runF, bindArgsR, Rho.set, rd, rdAll, bi_add, bi_sub, bi_mod, bi_fdiv, cm_lt, cm_le, cm_gt, cm_ge, cm_eqi, cm_nei, cm_eqb, cm_neb, pi_bool, ix_t0, ix_t1, ix_t2, ix_l0, ix_l1, ix_l2, bo_or, bo_and, boolA, settle, leave, ownAll, own, h1]
  · cases q <;> simp [es_nil, es_cons, es_assign, es_newcell, es_unpack, es_append, es_extend, es_insert, es_ite, es_ret, el_nil, el_cons, eb_nil, eb_cons, ev_const, ev_var, ev_bin, ev_neg, ev_nott, ev_bop, ev_cmp, ev_ite, ev_idx, ev_tup, ev_lst, ev_call, ev_prim, ev_isin, runF, bindArgsR, Rho.set, rd, rdAll, bi_add, bi_sub, bi_mod, bi_fdiv, cm_lt, cm_le, cm_gt, cm_ge, cm_eqi, cm_nei, cm_eqb, cm_neb, pi_bool, ix_t0, ix_t1, ix_t2, ix_l0, ix_l1, ix_l2, bo_or, bo_and, boolA, settle, leave, ownAll, own, h1, h2 rfl]
theorem ix_getD {l : List Int} {j : Nat} (h : j < l.length) (hl : l.length < 1000) : idxD (.list (l.map .int)) (.int j) = some (.int (l.getD j 0)) :=
  ix_list (by omega) (by simp [List.getD, List.getElem?_eq_getElem h])
theorem getD_mem {l : List Int} {j : Nat} (h : j < l.length) : l.getD j 0 ∈ l := by
  simp [List.getD, List.getElem?_eq_getElem h]
theorem ev_pick {Φ : Phi} {ρ : Rho} {σ : Store} {es : CE} {i : CE} (l : List Int) (j : Nat) (h1 : evE Φ es ρ σ = some (.fresh (l.map .int), σ)) (h2 : evE Φ i ρ σ = some (.dat (.int j), σ)) (h : j < l.length) (hl : l.length < 1000) : evE Φ (.idx es i) ρ σ = some (.dat (.int (l.getD j 0)), σ) :=
  ev_idxR h1 h2 rfl rfl (ix_getD h hl)
noncomputable def rBody : List CS := [.assign 19 (.call 7 [(.bin .FloorDiv (.var 15) (.const (.int (7)))), (.var 14)]), .assign 20 (.idx (.lst [(.bin .Sub (.bin .Mod (.var 19) (.const (.int (11)))) (.const (.int (5)))), (.bin .Sub (.bin .Mod (.var 19) (.const (.int (11)))) (.const (.int (5)))), (.bin .Add (.bin .Pow (.const (.int (10))) (.const (.int (20)))) (.bin .Mod (.var 19) (.const (.int (7))))), (.bin .Sub (.const (.int (0))) (.bin .Pow (.const (.int (10))) (.const (.int (20)))))]) (.bin .Mod (.bin .FloorDiv (.var 19) (.const (.int (11)))) (.const (.int (4))))), .assign 21 (.bin .Mod (.bin .FloorDiv (.var 19) (.const (.int (44)))) (.idx (.lst [(.const (.int (1))), (.const (.int (9))), (.const (.int (5))), (.const (.int (3)))]) (.var 17))), .ite (.bop .And [(.cmp .Eq (.var 17) (.const (.int (1)))), (.cmp .Eq (.bin .Mod (.bin .FloorDiv (.var 19) (.const (.int (396)))) (.const (.int (8)))) (.const (.int (1))))]) [.assign 21 (.bin .Sub (.const (.int (20))) (.bin .Mod (.bin .FloorDiv (.var 19) (.const (.int (3168)))) (.const (.int (2)))))] [], .append 18 (.tup [(.var 20), (.bin .Add (.var 20) (.var 21))])]
theorem r_pow {b : Nat} (h : b ≤ 1000) : binD .Pow (.int 10) (.int b) = some (.dat (.int (10 ^ b))) := bi_pow (a := 10) (b := (b : Int)) (by omega) (by omega) (by decide)
theorem r_body (N k : Nat) (c : Int) (m j : Nat) (hm : m ≤ 3) (hj : j < 1000) (σ : Store) (ds : List PyData) (hd : ds.length < 1000) (ρ : Rho) (h15 : ρ 15 = some (.dat (.int c))) (h17 : ρ 17 = some (.dat (.int m))) (h14 : ρ 14 = some (.dat (.int j))) (h18 : ρ 18 = some (.cell σ.length)) :
    ∃ ρ₂ r, evSs N (tabAt tab5 N (k + 1)) rBody ρ (σ ++ [(.live, ds)]) = some (.next ρ₂, σ ++ [(.live, ds ++ [pairD r])]) ∧ okR r ∧ ρ₂ 15 = ρ 15 ∧ ρ₂ 17 = ρ 17 ∧ ρ₂ 18 = ρ 18 := by
  generalize hσ : σ ++ [(Flag.live, ds)] = σ'
  have hget : σ'[σ.length]? = some (.live, ds) := by rw [← hσ]; simp
  have hset : ∀ es, σ'.set σ.length (.live, es) = σ ++ [(.live, es)] := fun es => by rw [← hσ]; simp
  have h7 := s_mixed N k (c.fdiv 7) j hj σ'
  generalize mixed (c.fdiv 7) j = x at h7
  obtain ⟨i4, hi4, e4⟩ := fmod_nat (x.fdiv 11) (b := 4) (by decide)
  have hp20 : binD .Pow (.int 10) (.int 20) = some (.dat (.int (10 ^ 20))) := r_pow (b := 20) (by decide)
  have e4' : (x.fdiv 11).fmod 4 = (i4 : Int) := e4
  have hlow : ∀ ρ : Rho, ρ 19 = some (.dat (.int x)) → evE (tabAt tab5 N (k + 1)) (.idx (.lst [(.bin .Sub (.bin .Mod (.var 19) (.const (.int (11)))) (.const (.int (5)))), (.bin .Sub (.bin .Mod (.var 19) (.const (.int (11)))) (.const (.int (5)))), (.bin .Add (.bin .Pow (.const (.int (10))) (.const (.int (20)))) (.bin .Mod (.var 19) (.const (.int (7))))), (.bin .Sub (.const (.int (0))) (.bin .Pow (.const (.int (10))) (.const (.int (20)))))]) (.bin .Mod (.bin .FloorDiv (.var 19) (.const (.int (11)))) (.const (.int (4))))) ρ σ' = some (.dat (.int (([x.fmod 11 - 5, x.fmod 11 - 5, 10 ^ 20 + x.fmod 7, 0 - 10 ^ 20] : List Int).getD i4 0)), σ') := fun ρ h =>
    ev_pick [x.fmod 11 - 5, x.fmod 11 - 5, 10 ^ 20 + x.fmod 7, 0 - 10 ^ 20] i4 (by simp [es_nil, es_cons, es_assign, es_newcell, es_unpack, es_append, es_extend, es_insert, es_ite, es_ret, el_nil, el_cons, eb_nil, eb_cons, ev_const, ev_var, ev_bin, ev_neg, ev_nott, ev_bop, ev_cmp, ev_ite, ev_idx, ev_tup, ev_lst, ev_call, ev_prim, ev_isin, runF, bindArgsR, Rho.set, rd, rdAll, bi_add, bi_sub, bi_mod, bi_fdiv, cm_lt, cm_le, cm_gt, cm_ge, cm_eqi, cm_nei, cm_eqb, cm_neb, pi_bool, ix_t0, ix_t1, ix_t2, ix_l0, ix_l1, ix_l2, bo_or, bo_and, boolA, settle, leave, ownAll, own, h, hp20]) (by simp [es_nil, es_cons, es_assign, es_newcell, es_unpack, es_append, es_extend, es_insert, es_ite, es_ret, el_nil, el_cons, eb_nil, eb_cons, ev_const, ev_var, ev_bin, ev_neg, ev_nott, ev_bop, ev_cmp, ev_ite, ev_idx, ev_tup, ev_lst, ev_call, ev_prim, ev_isin, runF, bindArgsR, Rho.set, rd, rdAll, bi_add, bi_sub, bi_mod, bi_fdiv, cm_lt, cm_le, cm_gt, cm_ge, cm_eqi, cm_nei, cm_eqb, cm_neb, pi_bool, ix_t0, ix_t1, ix_t2, ix_l0, ix_l1, ix_l2, bo_or, bo_and, boolA, settle, leave, ownAll, own, h, e4']) hi4 (by simp)
  generalize ([x.fmod 11 - 5, x.fmod 11 - 5, 10 ^ 20 + x.fmod 7, 0 - 10 ^ 20] : List Int).getD i4 0 = low at hlow
  have hw : ∃ wd : Int, (∀ ρ : Rho, ρ 19 = some (.dat (.int x)) → ρ 17 = some (.dat (.int m)) → evE (tabAt tab5 N (k + 1)) (.bin .Mod (.bin .FloorDiv (.var 19) (.const (.int (44)))) (.idx (.lst [(.const (.int (1))), (.const (.int (9))), (.const (.int (5))), (.const (.int (3)))]) (.var 17))) ρ σ' = some (.dat (.int wd), σ')) ∧ 0 ≤ wd ∧ wd ≤ 20 := by
    have hmem := getD_mem (l := [1, 9, 5, 3]) (j := m) (by simp; omega)
    have hpk := fun (ρ : Rho) (h : ρ 17 = some (.dat (.int m))) => ev_pick (Φ := tabAt tab5 N (k + 1)) (ρ := ρ) (σ := σ') (es := (.lst [(.const (.int (1))), (.const (.int (9))), (.const (.int (5))), (.const (.int (3)))])) (i := .var 17) [1, 9, 5, 3] m (by simp [es_nil, es_cons, es_assign, es_newcell, es_unpack, es_append, es_extend, es_insert, es_ite, es_ret, el_nil, el_cons, eb_nil, eb_cons, ev_const, ev_var, ev_bin, ev_neg, ev_nott, ev_bop, ev_cmp, ev_ite, ev_idx, ev_tup, ev_lst, ev_call, ev_prim, ev_isin, runF, bindArgsR, Rho.set, rd, rdAll, bi_add, bi_sub, bi_mod, bi_fdiv, cm_lt, cm_le, cm_gt, cm_ge, cm_eqi, cm_nei, cm_eqb, cm_neb, pi_bool, ix_t0, ix_t1, ix_t2, ix_l0, ix_l1, ix_l2, bo_or, bo_and, boolA, settle, leave, ownAll, own]) (by simp [es_nil, es_cons, es_assign, es_newcell, es_unpack, es_append, es_extend, es_insert, es_ite, es_ret, el_nil, el_cons, eb_nil, eb_cons, ev_const, ev_var, ev_bin, ev_neg, ev_nott, ev_bop, ev_cmp, ev_ite, ev_idx, ev_tup, ev_lst, ev_call, ev_prim, ev_isin, runF, bindArgsR, Rho.set, rd, rdAll, bi_add, bi_sub, bi_mod, bi_fdiv, cm_lt, cm_le, cm_gt, cm_ge, cm_eqi, cm_nei, cm_eqb, cm_neb, pi_bool, ix_t0, ix_t1, ix_t2, ix_l0, ix_l1, ix_l2, bo_or, bo_and, boolA, settle, leave, ownAll, own, h]) (by simp; omega) (by simp)
    generalize ([1, 9, 5, 3] : List Int).getD m 0 = w at hmem hpk
    have hw0 : 0 < w ∧ w ≤ 9 := by
      simp only [List.mem_cons, List.not_mem_nil, or_false] at hmem
      omega
    obtain ⟨f0, f1⟩ := fmod_range (x.fdiv 44) hw0.1
    refine ⟨(x.fdiv 44).fmod w, fun ρ h19 h17 => ?_, f0, by omega⟩
    have hpk' := hpk ρ h17
    have hmod : binD .Mod (.int (x.fdiv 44)) (.int w) = _ := bi_mod (show w ≠ 0 by omega)
    exact ev_binR (x := .dat (.int (x.fdiv 44))) (by simp [es_nil, es_cons, es_assign, es_newcell, es_unpack, es_append, es_extend, es_insert, es_ite, es_ret, el_nil, el_cons, eb_nil, eb_cons, ev_const, ev_var, ev_bin, ev_neg, ev_nott, ev_bop, ev_cmp, ev_ite, ev_idx, ev_tup, ev_lst, ev_call, ev_prim, ev_isin, runF, bindArgsR, Rho.set, rd, rdAll, bi_add, bi_sub, bi_mod, bi_fdiv, cm_lt, cm_le, cm_gt, cm_ge, cm_eqi, cm_nei, cm_eqb, cm_neb, pi_bool, ix_t0, ix_t1, ix_t2, ix_l0, ix_l1, ix_l2, bo_or, bo_and, boolA, settle, leave, ownAll, own, h19]) hpk' rfl rfl hmod
  obtain ⟨wd, hwd, hw0, hw1⟩ := hw
  have hcond := fun (ρ : Rho) (h19 : ρ 19 = some (.dat (.int x))) (h17 : ρ 17 = some (.dat (.int m))) => ev_and2 (Φ := tabAt tab5 N (k + 1)) (ρ := ρ) (σ := σ') (a := (.cmp .Eq (.var 17) (.const (.int (1))))) (b := (.cmp .Eq (.bin .Mod (.bin .FloorDiv (.var 19) (.const (.int (396)))) (.const (.int (8)))) (.const (.int (1))))) (p := (m : Int) == 1) (q := (x.fdiv 396).fmod 8 == 1) (by simp [es_nil, es_cons, es_assign, es_newcell, es_unpack, es_append, es_extend, es_insert, es_ite, es_ret, el_nil, el_cons, eb_nil, eb_cons, ev_const, ev_var, ev_bin, ev_neg, ev_nott, ev_bop, ev_cmp, ev_ite, ev_idx, ev_tup, ev_lst, ev_call, ev_prim, ev_isin, runF, bindArgsR, Rho.set, rd, rdAll, bi_add, bi_sub, bi_mod, bi_fdiv, cm_lt, cm_le, cm_gt, cm_ge, cm_eqi, cm_nei, cm_eqb, cm_neb, pi_bool, ix_t0, ix_t1, ix_t2, ix_l0, ix_l1, ix_l2, bo_or, bo_and, boolA, settle, leave, ownAll, own, h17]) (fun _ => by simp [es_nil, es_cons, es_assign, es_newcell, es_unpack, es_append, es_extend, es_insert, es_ite, es_ret, el_nil, el_cons, eb_nil, eb_cons, ev_const, ev_var, ev_bin, ev_neg, ev_nott, ev_bop, ev_cmp, ev_ite, ev_idx, ev_tup, ev_lst, ev_call, ev_prim, ev_isin, runF, bindArgsR, Rho.set, rd, rdAll, bi_add, bi_sub, bi_mod, bi_fdiv, cm_lt, cm_le, cm_gt, cm_ge, cm_eqi, cm_nei, cm_eqb, cm_neb, pi_bool, ix_t0, ix_t1, ix_t2, ix_l0, ix_l1, ix_l2, bo_or, bo_and, boolA, settle, leave, ownAll, own, h19])
  generalize ((m : Int) == 1 && (x.fdiv 396).fmod 8 == 1) = cb at hcond
  have hfin : ∀ (ρ : Rho) (wd : Int), ρ 20 = some (.dat (.int low)) → ρ 21 = some (.dat (.int wd)) → ρ 18 = some (.cell σ.length) → evSs N (tabAt tab5 N (k + 1)) [.append 18 (.tup [(.var 20), (.bin .Add (.var 20) (.var 21))])] ρ σ' = some (.next ρ, σ ++ [(.live, ds ++ [pairD (low, low + wd)])]) := fun ρ wd h20 h21 h18 => by
    refine (r_append (c := σ.length) (d := pairD (low, low + wd)) (ds := ds) h18 (by simp [es_nil, es_cons, es_assign, es_newcell, es_unpack, es_append, es_extend, es_insert, es_ite, es_ret, el_nil, el_cons, eb_nil, eb_cons, ev_const, ev_var, ev_bin, ev_neg, ev_nott, ev_bop, ev_cmp, ev_ite, ev_idx, ev_tup, ev_lst, ev_call, ev_prim, ev_isin, runF, bindArgsR, Rho.set, rd, rdAll, bi_add, bi_sub, bi_mod, bi_fdiv, cm_lt, cm_le, cm_gt, cm_ge, cm_eqi, cm_nei, cm_eqb, cm_neb, pi_bool, ix_t0, ix_t1, ix_t2, ix_l0, ix_l1, ix_l2, bo_or, bo_and, boolA, settle, leave, ownAll, own, h20, h21, pairD]) hget (Nat.lt_of_lt_of_le hd (by decide))).trans ?_
    rw [es_nil, hset]
  have ha : evE (tabAt tab5 N (k + 1)) (.call 7 [(.bin .FloorDiv (.var 15) (.const (.int (7)))), (.var 14)]) ρ σ' = some (.dat (.int x), σ') := by simp [es_nil, es_cons, es_assign, es_newcell, es_unpack, es_append, es_extend, es_insert, es_ite, es_ret, el_nil, el_cons, eb_nil, eb_cons, ev_const, ev_var, ev_bin, ev_neg, ev_nott, ev_bop, ev_cmp, ev_ite, ev_idx, ev_tup, ev_lst, ev_call, ev_prim, ev_isin, runF, bindArgsR, Rho.set, rd, rdAll, bi_add, bi_sub, bi_mod, bi_fdiv, cm_lt, cm_le, cm_gt, cm_ge, cm_eqi, cm_nei, cm_eqb, cm_neb, pi_bool, ix_t0, ix_t1, ix_t2, ix_l0, ix_l1, ix_l2, bo_or, bo_and, boolA, settle, leave, ownAll, own, h15, h14, h7]
  cases cb with
  | false =>
    refine ⟨((ρ.set 19 (.dat (.int x))).set 20 (.dat (.int low))).set 21 (.dat (.int wd)), (low, low + wd), ?_, ?_, rfl, rfl, rfl⟩
    · refine (r_assign ha).trans ?_
      refine (r_assign (hlow _ rfl)).trans ?_
      refine Eq.trans (r_assign (hwd _ (by rfl) (by exact h17))) ?_
      refine Eq.trans (r_skip (hcond _ (by rfl) (by exact h17))) ?_
      exact hfin _ wd (by rfl) (by rfl) (by exact h18)
    · show (low + wd - low + 1).toNat ≤ 21
      omega
  | true =>
    obtain ⟨f0, f1⟩ := fmod_range (x.fdiv 3168) (b := 2) (by decide)
    refine ⟨(((ρ.set 19 (.dat (.int x))).set 20 (.dat (.int low))).set 21 (.dat (.int wd))).set 21 (.dat (.int (20 - (x.fdiv 3168).fmod 2))), (low, low + (20 - (x.fdiv 3168).fmod 2)), ?_, ?_, rfl, rfl, rfl⟩
    · refine (r_assign ha).trans ?_
      refine (r_assign (hlow _ rfl)).trans ?_
      refine Eq.trans (r_assign (hwd _ (by rfl) (by exact h17))) ?_
      refine Eq.trans (r_next (Eq.trans (r_true (hcond _ (by rfl) (by exact h17))) ((r_assign (v := .dat (.int (20 - (x.fdiv 3168).fmod 2))) (σ₁ := σ') (by simp [es_nil, es_cons, es_assign, es_newcell, es_unpack, es_append, es_extend, es_insert, es_ite, es_ret, el_nil, el_cons, eb_nil, eb_cons, ev_const, ev_var, ev_bin, ev_neg, ev_nott, ev_bop, ev_cmp, ev_ite, ev_idx, ev_tup, ev_lst, ev_call, ev_prim, ev_isin, runF, bindArgsR, Rho.set, rd, rdAll, bi_add, bi_sub, bi_mod, bi_fdiv, cm_lt, cm_le, cm_gt, cm_ge, cm_eqi, cm_nei, cm_eqb, cm_neb, pi_bool, ix_t0, ix_t1, ix_t2, ix_l0, ix_l1, ix_l2, bo_or, bo_and, boolA, settle, leave, ownAll, own])).trans es_nil))) ?_
      exact hfin _ _ (by rfl) (by rfl) (by exact h18)
    · show (low + (20 - (x.fdiv 3168).fmod 2) - low + 1).toNat ≤ 21
      omega
theorem s_ranges (N k : Nat) (c : Int) (σ : Store) : ∃ rs : List (Int × Int), rs.length ≤ 3 ∧ (∀ r ∈ rs, okR r) ∧ tabAt tab5 N (k + 2) 9 [.dat (.int c)] σ = some (.ret (.dat (.tuple (rs.map pairD))), σ) := by
  rw [tab_step (by rfl : tab5[9]? = some ([15], c__law_ranges))]
  obtain ⟨i7, hi7, e7⟩ := fmod_nat c (b := 7) (by decide)
  have e7' : c.fmod 7 = (i7 : Int) := e7
  have hmem := getD_mem (l := [1, 2, 1, 2, 0, 3, 1]) (j := i7) hi7
  have hpk := fun (ρ : Rho) (h : ρ 15 = some (.dat (.int c))) => ev_pick (Φ := tabAt tab5 N (k + 1)) (ρ := ρ) (σ := σ) (es := (.lst [(.const (.int (1))), (.const (.int (2))), (.const (.int (1))), (.const (.int (2))), (.const (.int (0))), (.const (.int (3))), (.const (.int (1)))])) (i := .bin .Mod (.var 15) (.const (.int (7)))) [1, 2, 1, 2, 0, 3, 1] i7 (by simp [es_nil, es_cons, es_assign, es_newcell, es_unpack, es_append, es_extend, es_insert, es_ite, es_ret, el_nil, el_cons, eb_nil, eb_cons, ev_const, ev_var, ev_bin, ev_neg, ev_nott, ev_bop, ev_cmp, ev_ite, ev_idx, ev_tup, ev_lst, ev_call, ev_prim, ev_isin, runF, bindArgsR, Rho.set, rd, rdAll, bi_add, bi_sub, bi_mod, bi_fdiv, cm_lt, cm_le, cm_gt, cm_ge, cm_eqi, cm_nei, cm_eqb, cm_neb, pi_bool, ix_t0, ix_t1, ix_t2, ix_l0, ix_l1, ix_l2, bo_or, bo_and, boolA, settle, leave, ownAll, own]) (by simp [es_nil, es_cons, es_assign, es_newcell, es_unpack, es_append, es_extend, es_insert, es_ite, es_ret, el_nil, el_cons, eb_nil, eb_cons, ev_const, ev_var, ev_bin, ev_neg, ev_nott, ev_bop, ev_cmp, ev_ite, ev_idx, ev_tup, ev_lst, ev_call, ev_prim, ev_isin, runF, bindArgsR, Rho.set, rd, rdAll, bi_add, bi_sub, bi_mod, bi_fdiv, cm_lt, cm_le, cm_gt, cm_ge, cm_eqi, cm_nei, cm_eqb, cm_neb, pi_bool, ix_t0, ix_t1, ix_t2, ix_l0, ix_l1, ix_l2, bo_or, bo_and, boolA, settle, leave, ownAll, own, h, e7']) hi7 (by simp)
  generalize ([1, 2, 1, 2, 0, 3, 1] : List Int).getD i7 0 = mi at hmem hpk
  obtain ⟨m, rfl, hm⟩ : ∃ m : Nat, mi = m ∧ m ≤ 3 := by
    simp only [List.mem_cons, List.not_mem_nil, or_false] at hmem
    exact ⟨mi.toNat, by omega, by omega⟩
  obtain ⟨ρ', σ', h1, h2, rs, h3, h4, h5⟩ := forGo_cnt (t := .one 14) (body := fun ρ' σ' => evSs N (tabAt tab5 N (k + 1)) rBody ρ' σ') (fun i ρ σ' => (ρ 15 = some (.dat (.int c)) ∧ ρ 17 = some (.dat (.int m)) ∧ ρ 18 = some (.cell σ.length)) ∧ ∃ rs : List (Int × Int), rs.length = i ∧ (∀ r ∈ rs, okR r) ∧ σ' = σ ++ [(.live, rs.map pairD)])
    ((List.range m).map fun k => PyData.int (k : Nat)) 0 (Rho.set (Rho.set (Rho.set (fun _ => none) 15 (.dat (.int c))) 17 (.dat (.int m))) 18 (.cell σ.length)) (σ ++ [(.live, [])]) (fun j d hd ρ σ' hP => by
      obtain ⟨⟨p1, p2, p3⟩, rs, p4, p5, rfl⟩ := hP
      have hj : j < m := by
        have := (List.getElem?_eq_some_iff.mp hd).1
        simpa using this
      have hd' : d = .int j := by
        rw [List.getElem?_map, List.getElem?_range hj] at hd
        simpa using hd.symm
      subst hd'
      obtain ⟨ρ₂, r, q1, q2, q3, q4, q5⟩ := r_body N k c m j hm (by omega) σ (rs.map pairD) (by rw [List.length_map]; omega) (Rho.set ρ 14 (.dat (.int j))) p1 p2 rfl p3
      refine ⟨_, ρ₂, _, rfl, q1, ⟨q3.trans p1, q4.trans p2, q5.trans p3⟩, rs ++ [r], by simp [p4], fun x hx => ?_, by simp⟩
      rcases List.mem_append.mp hx with h | h
      · exact p5 x h
      · rw [List.mem_singleton.mp h]; exact q2) ⟨⟨rfl, rfl, rfl⟩, [], rfl, (fun _ h => nomatch h), rfl⟩
  subst h5
  rw [List.length_map, List.length_range, Nat.zero_add] at h3
  refine ⟨rs, by omega, h4, ?_⟩
  have hb : evSs N (tabAt tab5 N (k + 1)) c__law_ranges (Rho.set (fun _ => none) 15 (.dat (.int c))) σ = some (.ret (.dat (.tuple (rs.map pairD))), σ ++ [(.live, rs.map pairD)]) := by
    refine (r_assign (hpk _ rfl)).trans ((r_newcell (ds := []) (σ₁ := σ) (by simp [es_nil, es_cons, es_assign, es_newcell, es_unpack, es_append, es_extend, es_insert, es_ite, es_ret, el_nil, el_cons, eb_nil, eb_cons, ev_const, ev_var, ev_bin, ev_neg, ev_nott, ev_bop, ev_cmp, ev_ite, ev_idx, ev_tup, ev_lst, ev_call, ev_prim, ev_isin, runF, bindArgsR, Rho.set, rd, rdAll, bi_add, bi_sub, bi_mod, bi_fdiv, cm_lt, cm_le, cm_gt, cm_ge, cm_eqi, cm_nei, cm_eqb, cm_neb, pi_bool, ix_t0, ix_t1, ix_t2, ix_l0, ix_l1, ix_l2, bo_or, bo_and, boolA, settle, leave, ownAll, own])).trans ?_)
    refine (r_forS (vs := [.dat (.int m)]) (ds := [.int m]) (by simp [es_nil, es_cons, es_assign, es_newcell, es_unpack, es_append, es_extend, es_insert, es_ite, es_ret, el_nil, el_cons, eb_nil, eb_cons, ev_const, ev_var, ev_bin, ev_neg, ev_nott, ev_bop, ev_cmp, ev_ite, ev_idx, ev_tup, ev_lst, ev_call, ev_prim, ev_isin, runF, bindArgsR, Rho.set, rd, rdAll, bi_add, bi_sub, bi_mod, bi_fdiv, cm_lt, cm_le, cm_gt, cm_ge, cm_eqi, cm_nei, cm_eqb, cm_neb, pi_bool, ix_t0, ix_t1, ix_t2, ix_l0, ix_l1, ix_l2, bo_or, bo_and, boolA, settle, leave, ownAll, own]) rfl rfl (range_it (by omega)) h1).trans (r_ret ?_)
    have hp := pt_list (xs := rs.map pairD) (le_lim (m := 3) (by rw [List.length_map]; omega) (by decide))
    simp [es_nil, es_cons, es_assign, es_newcell, es_unpack, es_append, es_extend, es_insert, es_ite, es_ret, el_nil, el_cons, eb_nil, eb_cons, ev_const, ev_var, ev_bin, ev_neg, ev_nott, ev_bop, ev_cmp, ev_ite, ev_idx, ev_tup, ev_lst, ev_call, ev_prim, ev_isin, runF, bindArgsR, Rho.set, rd, rdAll, bi_add, bi_sub, bi_mod, bi_fdiv, cm_lt, cm_le, cm_gt, cm_ge, cm_eqi, cm_nei, cm_eqb, cm_neb, pi_bool, ix_t0, ix_t1, ix_t2, ix_l0, ix_l1, ix_l2, bo_or, bo_and, boolA, settle, leave, ownAll, own, h2, hp]
  simp only [runF, bindArgsR, hb, leave, List.take_left']
theorem s_expression (N k : Nat) (c : Int) (rs : List (Int × Int)) (hl : rs.length ≤ 3) (σ : Store) : ∃ (a : Int) (fs : List Int) (o : PyData), fs.length = rs.length ∧ (∀ f ∈ fs, f.natAbs ≤ 3) ∧
    tabAt tab5 N (k + 2) 10 [.dat (.int c), .dat (.tuple [.int rs.length, .int 1]), .dat (.tuple (rs.map pairD))] σ = some (.ret (.dat (.tuple [.int a, .tuple (fs.map .int), o])), σ) := by
  rw [tab_step (by rfl : tab5[10]? = some ([15, 22, 18], c__law_expression))]
  generalize hn : rs.length = n at hl
  have hrl : (List.range n).length ≤ lim := le_lim (m := 3) (by simpa using hl) (by decide)
  have i7 := fun j : Nat => fmod_nat (mixed c j) (b := 7) (by decide)
  have i6 := fun j : Nat => fmod_nat ((mixed c (7 + j)).fdiv 5) (b := 6) (by decide)
  have hF := fun (ρ : Rho) (h15 : ρ 15 = some (.dat (.int c))) (h22 : ρ 22 = some (.dat (.tuple [.int n, .int 1]))) => ev_comp (Φ := tabAt tab5 N (k + 1)) (ρ := ρ) (σ := σ) (ce := (.idx (.lst [(.const (.int (0))), (.const (.int (1))), (.neg (.const (.int (1)))), (.const (.int (2))), (.neg (.const (.int (3)))), (.const (.int (1))), (.const (.int (0)))]) (.bin .Mod (.call 7 [(.var 15), (.var 14)]) (.const (.int (7)))))) (t := .one 14) (k := .range1) (its := [(.idx (.var 22) (.const (.int (0))))])
    (vs := [.dat (.int n)]) (ds := [.int n]) (List.range n) (fun k => .int (k : Nat)) (fun j => .int (([0, 1, -1, 2, -3, 1, 0] : List Int).getD ((mixed c j).fmod 7).toNat 0)) (by simp [es_nil, es_cons, es_assign, es_newcell, es_unpack, es_append, es_extend, es_insert, es_ite, es_ret, el_nil, el_cons, eb_nil, eb_cons, ev_const, ev_var, ev_bin, ev_neg, ev_nott, ev_bop, ev_cmp, ev_ite, ev_idx, ev_tup, ev_lst, ev_call, ev_prim, ev_isin, runF, bindArgsR, Rho.set, rd, rdAll, bi_add, bi_sub, bi_mod, bi_fdiv, cm_lt, cm_le, cm_gt, cm_ge, cm_eqi, cm_nei, cm_eqb, cm_neb, pi_bool, ix_t0, ix_t1, ix_t2, ix_l0, ix_l1, ix_l2, bo_or, bo_and, boolA, settle, leave, ownAll, own, h22]) rfl rfl (range_it (by omega)) hrl (fun j hj => ⟨_, rfl, by
      have hj' := List.mem_range.mp hj
      obtain ⟨i, hi, e⟩ := i7 j
      have e' : (mixed c j).fmod 7 = (i : Int) := e
      rw [e', Int.toNat_natCast]
      exact ev_pick [0, 1, -1, 2, -3, 1, 0] i (by simp [es_nil, es_cons, es_assign, es_newcell, es_unpack, es_append, es_extend, es_insert, es_ite, es_ret, el_nil, el_cons, eb_nil, eb_cons, ev_const, ev_var, ev_bin, ev_neg, ev_nott, ev_bop, ev_cmp, ev_ite, ev_idx, ev_tup, ev_lst, ev_call, ev_prim, ev_isin, runF, bindArgsR, Rho.set, rd, rdAll, bi_add, bi_sub, bi_mod, bi_fdiv, cm_lt, cm_le, cm_gt, cm_ge, cm_eqi, cm_nei, cm_eqb, cm_neb, pi_bool, ix_t0, ix_t1, ix_t2, ix_l0, ix_l1, ix_l2, bo_or, bo_and, boolA, settle, leave, ownAll, own]) (by simp [es_nil, es_cons, es_assign, es_newcell, es_unpack, es_append, es_extend, es_insert, es_ite, es_ret, el_nil, el_cons, eb_nil, eb_cons, ev_const, ev_var, ev_bin, ev_neg, ev_nott, ev_bop, ev_cmp, ev_ite, ev_idx, ev_tup, ev_lst, ev_call, ev_prim, ev_isin, runF, bindArgsR, Rho.set, rd, rdAll, bi_add, bi_sub, bi_mod, bi_fdiv, cm_lt, cm_le, cm_gt, cm_ge, cm_eqi, cm_nei, cm_eqb, cm_neb, pi_bool, ix_t0, ix_t1, ix_t2, ix_l0, ix_l1, ix_l2, bo_or, bo_and, boolA, settle, leave, ownAll, own, h15, s_mixed N k c j (by omega) σ, e']) hi (by simp)⟩)
  have hO := fun (ρ : Rho) (h15 : ρ 15 = some (.dat (.int c))) (h22 : ρ 22 = some (.dat (.tuple [.int n, .int 1]))) => ev_comp (Φ := tabAt tab5 N (k + 1)) (ρ := ρ) (σ := σ) (ce := (.idx (.lst [(.const (.int (0))), (.const (.int (1))), (.const (.int (0))), (.neg (.const (.int (1)))), (.const (.int (2))), (.const (.int (0)))]) (.bin .Mod (.bin .FloorDiv (.call 7 [(.var 15), (.bin .Add (.const (.int (7))) (.var 14))]) (.const (.int (5)))) (.const (.int (6)))))) (t := .one 14) (k := .range1) (its := [(.idx (.var 22) (.const (.int (1))))])
    (vs := [.dat (.int 1)]) (ds := [.int 1]) (List.range 1) (fun k => .int (k : Nat)) (fun j => .int (([0, 1, 0, -1, 2, 0] : List Int).getD (((mixed c (7 + j)).fdiv 5).fmod 6).toNat 0)) (by simp [es_nil, es_cons, es_assign, es_newcell, es_unpack, es_append, es_extend, es_insert, es_ite, es_ret, el_nil, el_cons, eb_nil, eb_cons, ev_const, ev_var, ev_bin, ev_neg, ev_nott, ev_bop, ev_cmp, ev_ite, ev_idx, ev_tup, ev_lst, ev_call, ev_prim, ev_isin, runF, bindArgsR, Rho.set, rd, rdAll, bi_add, bi_sub, bi_mod, bi_fdiv, cm_lt, cm_le, cm_gt, cm_ge, cm_eqi, cm_nei, cm_eqb, cm_neb, pi_bool, ix_t0, ix_t1, ix_t2, ix_l0, ix_l1, ix_l2, bo_or, bo_and, boolA, settle, leave, ownAll, own, h22]) rfl rfl rfl (by decide) (fun j hj => ⟨_, rfl, by
      have hj' := List.mem_range.mp hj
      obtain ⟨i, hi, e⟩ := i6 j
      have e' : ((mixed c (7 + j)).fdiv 5).fmod 6 = (i : Int) := e
      rw [e', Int.toNat_natCast]
      have hm : tabAt tab5 N (k + 1) 7 [.dat (.int c), .dat (.int (7 + j))] σ = some (.ret (.dat (.int (mixed c (7 + j)))), σ) := s_mixed N k c (7 + j) (by omega) σ
      exact ev_pick [0, 1, 0, -1, 2, 0] i (by simp [es_nil, es_cons, es_assign, es_newcell, es_unpack, es_append, es_extend, es_insert, es_ite, es_ret, el_nil, el_cons, eb_nil, eb_cons, ev_const, ev_var, ev_bin, ev_neg, ev_nott, ev_bop, ev_cmp, ev_ite, ev_idx, ev_tup, ev_lst, ev_call, ev_prim, ev_isin, runF, bindArgsR, Rho.set, rd, rdAll, bi_add, bi_sub, bi_mod, bi_fdiv, cm_lt, cm_le, cm_gt, cm_ge, cm_eqi, cm_nei, cm_eqb, cm_neb, pi_bool, ix_t0, ix_t1, ix_t2, ix_l0, ix_l1, ix_l2, bo_or, bo_and, boolA, settle, leave, ownAll, own]) (by simp [es_nil, es_cons, es_assign, es_newcell, es_unpack, es_append, es_extend, es_insert, es_ite, es_ret, el_nil, el_cons, eb_nil, eb_cons, ev_const, ev_var, ev_bin, ev_neg, ev_nott, ev_bop, ev_cmp, ev_ite, ev_idx, ev_tup, ev_lst, ev_call, ev_prim, ev_isin, runF, bindArgsR, Rho.set, rd, rdAll, bi_add, bi_sub, bi_mod, bi_fdiv, cm_lt, cm_le, cm_gt, cm_ge, cm_eqi, cm_nei, cm_eqb, cm_neb, pi_bool, ix_t0, ix_t1, ix_t2, ix_l0, ix_l1, ix_l2, bo_or, bo_and, boolA, settle, leave, ownAll, own, h15, hm, e']) hi (by simp)⟩)
  have hz : (List.range n).map (fun j : Nat => PyData.int (([0, 1, -1, 2, -3, 1, 0] : List Int).getD ((mixed c j).fmod 7).toNat 0)) = ((List.range n).map fun j : Nat => ([0, 1, -1, 2, -3, 1, 0] : List Int).getD ((mixed c j).fmod 7).toNat 0).map .int := by rw [List.map_map]; rfl
  simp only [hz] at hF
  have hlen : ((List.range n).map fun j : Nat => ([0, 1, -1, 2, -3, 1, 0] : List Int).getD ((mixed c j).fmod 7).toNat 0).length = n := by simp
  have hsm : ∀ f ∈ (List.range n).map fun j : Nat => ([0, 1, -1, 2, -3, 1, 0] : List Int).getD ((mixed c j).fmod 7).toNat 0, f.natAbs ≤ 3 := fun f hf => by
    obtain ⟨j, _, rfl⟩ := List.mem_map.mp hf
    obtain ⟨i, hi, e⟩ := i7 j
    have e' : (mixed c j).fmod 7 = (i : Int) := e
    rw [e', Int.toNat_natCast]
    have := getD_mem (l := [0, 1, -1, 2, -3, 1, 0]) (j := i) hi
    generalize ([0, 1, -1, 2, -3, 1, 0] : List Int).getD i 0 = y at this
    simp only [List.mem_cons, List.not_mem_nil, or_false] at this
    omega
  generalize ((List.range n).map fun j : Nat => ([0, 1, -1, 2, -3, 1, 0] : List Int).getD ((mixed c j).fmod 7).toNat 0) = fs at hF hlen hsm
  generalize hos : ((List.range 1).map fun j : Nat => PyData.int (([0, 1, 0, -1, 2, 0] : List Int).getD (((mixed c (7 + j)).fdiv 5).fmod 6).toNat 0)) = os at hO
  have hol : os.length ≤ lim := by rw [← hos, List.length_map, List.length_range]; decide
  have hc1 := fun (ρ : Rho) (h15 : ρ 15 = some (.dat (.int c))) (h22 : ρ 22 = some (.dat (.tuple [.int n, .int 1]))) => ev_and2 (Φ := tabAt tab5 N (k + 1)) (ρ := ρ) (σ := σ) (a := (.cmp .Eq (.bin .Mod (.bin .FloorDiv (.var 15) (.const (.int (13)))) (.const (.int (3)))) (.const (.int (1))))) (b := (.cmp .Gt (.idx (.var 22) (.const (.int (0)))) (.const (.int (0))))) (p := (c.fdiv 13).fmod 3 == 1) (q := decide (0 < (n : Int))) (by simp [es_nil, es_cons, es_assign, es_newcell, es_unpack, es_append, es_extend, es_insert, es_ite, es_ret, el_nil, el_cons, eb_nil, eb_cons, ev_const, ev_var, ev_bin, ev_neg, ev_nott, ev_bop, ev_cmp, ev_ite, ev_idx, ev_tup, ev_lst, ev_call, ev_prim, ev_isin, runF, bindArgsR, Rho.set, rd, rdAll, bi_add, bi_sub, bi_mod, bi_fdiv, cm_lt, cm_le, cm_gt, cm_ge, cm_eqi, cm_nei, cm_eqb, cm_neb, pi_bool, ix_t0, ix_t1, ix_t2, ix_l0, ix_l1, ix_l2, bo_or, bo_and, boolA, settle, leave, ownAll, own, h15]) (fun _ => by simp [es_nil, es_cons, es_assign, es_newcell, es_unpack, es_append, es_extend, es_insert, es_ite, es_ret, el_nil, el_cons, eb_nil, eb_cons, ev_const, ev_var, ev_bin, ev_neg, ev_nott, ev_bop, ev_cmp, ev_ite, ev_idx, ev_tup, ev_lst, ev_call, ev_prim, ev_isin, runF, bindArgsR, Rho.set, rd, rdAll, bi_add, bi_sub, bi_mod, bi_fdiv, cm_lt, cm_le, cm_gt, cm_ge, cm_eqi, cm_nei, cm_eqb, cm_neb, pi_bool, ix_t0, ix_t1, ix_t2, ix_l0, ix_l1, ix_l2, bo_or, bo_and, boolA, settle, leave, ownAll, own, h22])
  have hp18 : binD .Pow (.int 10) (.int 18) = some (.dat (.int (10 ^ 18))) := r_pow (b := 18) (by decide)
  have hfl := pt_list (xs := fs.map PyData.int) (le_lim (m := 3) (by rw [List.length_map]; omega) (by decide))
  have hosl := pt_list (xs := os) hol
  -- the end
  have hend : ∀ (ρ : Rho) (a : Int), ρ 15 = some (.dat (.int c)) → ρ 23 = some (.dat (.list (fs.map .int))) → ρ 24 = some (.dat (.list os)) → ρ 25 = some (.dat (.int a)) → ∃ a', evSs N (tabAt tab5 N (k + 1)) [.ite (.cmp .Eq (.bin .Mod (.bin .FloorDiv (.var 15) (.const (.int (39)))) (.const (.int (9)))) (.const (.int (1)))) [.assign 25 (.bin .Mult (.var 25) (.bin .Pow (.const (.int (10))) (.const (.int (18)))))] [], .ret (.tup [(.var 25), (.prim .tuple [(.var 23)]), (.prim .tuple [(.var 24)])])] ρ σ = some (.ret (.dat (.tuple [.int a', .tuple (fs.map .int), .tuple os])), σ) := fun ρ a h15 h23 h24 h25 => by
    have he : evE (tabAt tab5 N (k + 1)) (.cmp .Eq (.bin .Mod (.bin .FloorDiv (.var 15) (.const (.int (39)))) (.const (.int (9)))) (.const (.int (1)))) ρ σ = some (.dat (.bool ((c.fdiv 39).fmod 9 == 1)), σ) := by simp [es_nil, es_cons, es_assign, es_newcell, es_unpack, es_append, es_extend, es_insert, es_ite, es_ret, el_nil, el_cons, eb_nil, eb_cons, ev_const, ev_var, ev_bin, ev_neg, ev_nott, ev_bop, ev_cmp, ev_ite, ev_idx, ev_tup, ev_lst, ev_call, ev_prim, ev_isin, runF, bindArgsR, Rho.set, rd, rdAll, bi_add, bi_sub, bi_mod, bi_fdiv, cm_lt, cm_le, cm_gt, cm_ge, cm_eqi, cm_nei, cm_eqb, cm_neb, pi_bool, ix_t0, ix_t1, ix_t2, ix_l0, ix_l1, ix_l2, bo_or, bo_and, boolA, settle, leave, ownAll, own, h15]
    cases hb : (c.fdiv 39).fmod 9 == 1 with
    | false =>
      rw [hb] at he
      exact ⟨a, (r_skip he).trans (r_ret (by simp [es_nil, es_cons, es_assign, es_newcell, es_unpack, es_append, es_extend, es_insert, es_ite, es_ret, el_nil, el_cons, eb_nil, eb_cons, ev_const, ev_var, ev_bin, ev_neg, ev_nott, ev_bop, ev_cmp, ev_ite, ev_idx, ev_tup, ev_lst, ev_call, ev_prim, ev_isin, runF, bindArgsR, Rho.set, rd, rdAll, bi_add, bi_sub, bi_mod, bi_fdiv, cm_lt, cm_le, cm_gt, cm_ge, cm_eqi, cm_nei, cm_eqb, cm_neb, pi_bool, ix_t0, ix_t1, ix_t2, ix_l0, ix_l1, ix_l2, bo_or, bo_and, boolA, settle, leave, ownAll, own, h23, h24, h25, hfl, hosl]))⟩
    | true =>
      rw [hb] at he
      have hm : binD .Mult (.int a) (.int (10 ^ 18)) = some (.dat (.int (a * 10 ^ 18))) := bi_mul (mulOk_r (by decide))
      refine ⟨a * 10 ^ 18, (r_next (ρ₁ := Rho.set ρ 25 (.dat (.int (a * 10 ^ 18)))) (σ₁ := σ) ((r_true he).trans ((r_assign (v := .dat (.int (a * 10 ^ 18))) (σ₁ := σ) ?_).trans es_nil))).trans (r_ret (by simp [es_nil, es_cons, es_assign, es_newcell, es_unpack, es_append, es_extend, es_insert, es_ite, es_ret, el_nil, el_cons, eb_nil, eb_cons, ev_const, ev_var, ev_bin, ev_neg, ev_nott, ev_bop, ev_cmp, ev_ite, ev_idx, ev_tup, ev_lst, ev_call, ev_prim, ev_isin, runF, bindArgsR, Rho.set, rd, rdAll, bi_add, bi_sub, bi_mod, bi_fdiv, cm_lt, cm_le, cm_gt, cm_ge, cm_eqi, cm_nei, cm_eqb, cm_neb, pi_bool, ix_t0, ix_t1, ix_t2, ix_l0, ix_l1, ix_l2, bo_or, bo_and, boolA, settle, leave, ownAll, own, h23, h24, hfl, hosl]))⟩
      simp only [ev_bin, ev_var, h25, ev_const, rd, hp18, hm]
  have ha25 : ∀ ρ : Rho, ρ 15 = some (.dat (.int c)) → evE (tabAt tab5 N (k + 1)) (.bin .Sub (.bin .Mod (.var 15) (.const (.int (13)))) (.const (.int (6)))) ρ σ = some (.dat (.int (c.fmod 13 - 6)), σ) := fun ρ h => by simp [es_nil, es_cons, es_assign, es_newcell, es_unpack, es_append, es_extend, es_insert, es_ite, es_ret, el_nil, el_cons, eb_nil, eb_cons, ev_const, ev_var, ev_bin, ev_neg, ev_nott, ev_bop, ev_cmp, ev_ite, ev_idx, ev_tup, ev_lst, ev_call, ev_prim, ev_isin, runF, bindArgsR, Rho.set, rd, rdAll, bi_add, bi_sub, bi_mod, bi_fdiv, cm_lt, cm_le, cm_gt, cm_ge, cm_eqi, cm_nei, cm_eqb, cm_neb, pi_bool, ix_t0, ix_t1, ix_t2, ix_l0, ix_l1, ix_l2, bo_or, bo_and, boolA, settle, leave, ownAll, own, h]
  have hfs : ∃ a', evSs N (tabAt tab5 N (k + 1)) c__law_expression (Rho.set (Rho.set (Rho.set (fun _ => none) 15 (.dat (.int c))) 22 (.dat (.tuple [.int n, .int 1]))) 18 (.dat (.tuple (rs.map pairD)))) σ = some (.ret (.dat (.tuple [.int a', .tuple (fs.map .int), .tuple os])), σ) := by
    cases hb : (c.fdiv 13).fmod 3 == 1 && decide (0 < (n : Int)) with
    | false =>
      simp only [hb] at hc1
      obtain ⟨a', h⟩ := hend (Rho.set (Rho.set (Rho.set (Rho.set (Rho.set (Rho.set (fun _ => none) 15 (.dat (.int c))) 22 (.dat (.tuple [.int n, .int 1]))) 18 (.dat (.tuple (rs.map pairD)))) 23 (.dat (.list (fs.map .int)))) 24 (.dat (.list os))) 25 (.dat (.int (c.fmod 13 - 6)))) _ rfl rfl rfl rfl
      exact ⟨a', (r_assign (hF _ rfl rfl)).trans ((r_assign (hO _ rfl rfl)).trans ((r_assign (ha25 _ rfl)).trans ((r_skip (hc1 _ rfl rfl)).trans h)))⟩
    | true =>
      simp only [hb] at hc1
      have hn0 : 0 < n := by
        have := (Bool.and_eq_true_iff.mp hb).2
        simpa using this
      obtain ⟨r, rs', hrs⟩ : ∃ r rs', rs = r :: rs' := by
        cases rs with
        | nil => simp at hn; omega
        | cons r rs' => exact ⟨r, rs', rfl⟩
      obtain ⟨f, fs', hff⟩ : ∃ f fs', fs = f :: fs' := by
        cases fs with
        | nil => simp at hlen; omega
        | cons f fs' => exact ⟨f, fs', rfl⟩
      have hm : binD .Mult (.int f) (.int r.1) = some (.dat (.int (f * r.1))) := bi_mul (mulOk_l (by
        have := hsm f (by rw [hff]; exact .head _)
        omega))
      obtain ⟨a', h⟩ := hend (Rho.set (Rho.set (Rho.set (Rho.set (Rho.set (Rho.set (Rho.set (fun _ => none) 15 (.dat (.int c))) 22 (.dat (.tuple [.int n, .int 1]))) 18 (.dat (.tuple (rs.map pairD)))) 23 (.dat (.list (fs.map .int)))) 24 (.dat (.list os))) 25 (.dat (.int (c.fmod 13 - 6)))) 25 (.dat (.int (c.fmod 13 - 6 - f * r.1)))) _ rfl rfl rfl rfl
      refine ⟨a', (r_assign (hF _ rfl rfl)).trans ((r_assign (hO _ rfl rfl)).trans ((r_assign (ha25 _ rfl)).trans ((r_next (σ₁ := σ) ((r_true (hc1 _ rfl rfl)).trans ((r_assign (v := .dat (.int (c.fmod 13 - 6 - f * r.1))) (σ₁ := σ) ?_).trans es_nil))).trans h)))⟩
      simp [es_nil, es_cons, es_assign, es_newcell, es_unpack, es_append, es_extend, es_insert, es_ite, es_ret, el_nil, el_cons, eb_nil, eb_cons, ev_const, ev_var, ev_bin, ev_neg, ev_nott, ev_bop, ev_cmp, ev_ite, ev_idx, ev_tup, ev_lst, ev_call, ev_prim, ev_isin, runF, bindArgsR, Rho.set, rd, rdAll, bi_add, bi_sub, bi_mod, bi_fdiv, cm_lt, cm_le, cm_gt, cm_ge, cm_eqi, cm_nei, cm_eqb, cm_neb, pi_bool, ix_t0, ix_t1, ix_t2, ix_l0, ix_l1, ix_l2, bo_or, bo_and, boolA, settle, leave, ownAll, own, hrs, hff, hm, pairD]
  obtain ⟨a', h⟩ := hfs
  exact ⟨a', fs, .tuple os, hlen, hsm, r_runD rfl h⟩
/-! ## the questions asked -/
theorem canLay_map {α : Type} (f : α → PyData) (h : ∀ x, PyData.canLay0 (f x) = true) (l : List α) : PyData.canLayAll0 (l.map f) = true := by
  induction l with
  | nil => rfl
  | cons x l ih => simp [PyData.canLayAll0, h, ih]
theorem depth_map {α : Type} (f : α → PyData) {m : Nat} (h : ∀ x, PyData.depth (f x) ≤ m) (l : List α) : PyData.depthAll (l.map f) ≤ m := by
  induction l with
  | nil => exact Nat.zero_le _
  | cons x l ih => rw [List.map_cons, PyData.depthAll]; exact Nat.max_le.mpr ⟨h x, ih⟩
theorem shaped_list {α : Type} (f : α → PyData) {m : Nat} (hm : m ≤ 60) (h : ∀ x, PyData.canLay0 (f x) = true) (h' : ∀ x, PyData.depth (f x) ≤ m) (l : List α) : SeqAt.shaped (.list (l.map f)) = true := by
  have hd := depth_map f h' l
  have := canLay_map f h l
  simp only [SeqAt.shaped, PyData.canLay0, PyData.depth, this, Bool.true_and, decide_eq_true_eq]
  exact decide_eq_true (Nat.le_trans (Nat.succ_le_succ (Nat.le_trans hd hm)) (show 61 ≤ 64 by decide))
theorem shaped_tup {α : Type} (f : α → PyData) {m : Nat} (hm : m ≤ 60) (h : ∀ x, PyData.canLay0 (f x) = true) (h' : ∀ x, PyData.depth (f x) ≤ m) (l : List α) : SeqAt.shaped (.tuple (l.map f)) = true := by
  have hd := depth_map f h' l
  have := canLay_map f h l
  simp only [SeqAt.shaped, PyData.canLay0, PyData.depth, this, Bool.true_and, decide_eq_true_eq]
  exact decide_eq_true (Nat.le_trans (Nat.succ_le_succ (Nat.le_trans hd hm)) (show 61 ≤ 64 by decide))
theorem q_lay (q : Que) : PyData.canLay0 (qD q) = true := by
  simp [qD, sumD, PyData.canLay0, PyData.canLayAll0, canLay_ints]
theorem q_depth (q : Que) : PyData.depth (qD q) ≤ 3 := by
  simp [qD, sumD, PyData.depth, PyData.depthAll, depth_ints]
theorem ne_nil {α : Type} (f : α → PyData) {m : Nat} (hm : m ≤ 60) (h : ∀ x, PyData.canLay0 (f x) = true) (h' : ∀ x, PyData.depth (f x) ≤ m) (l : List α) : cmpD .NotEq (.list (l.map f)) (.list []) = some (!l.isEmpty) := by
  show (if (SeqAt.shaped (.list (l.map f)) && SeqAt.shaped (.list [])) = true then some (!PyData.eqv (.list (l.map f)) (.list [])) else none) = _
  rw [shaped_list f hm h h' l]
  cases l <;> rfl
theorem eq_nil {α : Type} (f : α → PyData) {m : Nat} (hm : m ≤ 60) (h : ∀ x, PyData.canLay0 (f x) = true) (h' : ∀ x, PyData.depth (f x) ≤ m) (l : List α) : cmpD .Eq (.list (l.map f)) (.list []) = some l.isEmpty := by
  show (if (SeqAt.shaped (.list (l.map f)) && SeqAt.shaped (.list [])) = true then some (PyData.eqv (.list (l.map f)) (.list [])) else none) = _
  rw [shaped_list f hm h h' l]
  cases l <;> rfl
noncomputable def qBody : List CS := [.assign 15 (.call 7 [(.call 6 [(.var 13), (.bin .Add (.const (.int (2))) (.var 14))]), (.var 14)]), .assign 32 (.call 10 [(.bin .FloorDiv (.var 15) (.const (.int (2)))), (.tup [(.prim .len [(.var 18)]), (.const (.int (1)))]), (.var 18)]), .append 31 (.tup [(.tup [(.idx (.var 32) (.const (.int (0)))), (.idx (.var 32) (.const (.int (1))))]), (.cmp .Eq (.bin .Mod (.var 15) (.const (.int (2)))) (.const (.int (1))))])]
theorem q_body (N k : Nat) (xs : List Int) (hx : xs.length ≤ 63) (rs : List (Int × Int)) (hl : rs.length ≤ 3) (j : Nat) (hj : j < 100) (σ : Store) (qs : List Que) (hq : qs.length < 100) (ρ : Rho) (h13 : ρ 13 = some (.dat (.list (xs.map .int)))) (h18 : ρ 18 = some (.dat (.tuple (rs.map pairD)))) (h14 : ρ 14 = some (.dat (.int j))) (h31 : ρ 31 = some (.cell σ.length)) :
    ∃ ρ₂ q, evSs N (tabAt tab5 N (k + 2)) qBody ρ (σ ++ [(.live, qs.map qD)]) = some (.next ρ₂, σ ++ [(.live, (qs ++ [q]).map qD)]) ∧ OkQ rs.length q ∧ ρ₂ 13 = ρ 13 ∧ ρ₂ 18 = ρ 18 ∧ ρ₂ 31 = ρ 31 := by
  generalize hσ : σ ++ [(Flag.live, qs.map qD)] = σ'
  have hget : σ'[σ.length]? = some (.live, qs.map qD) := by rw [← hσ]; simp
  have hset : ∀ es, σ'.set σ.length (.live, es) = σ ++ [(.live, es)] := fun es => by rw [← hσ]; simp
  have hc := s_cell_at N (k + 1) xs hx (2 + j) (by omega) σ'
  rw [Int.natCast_add] at hc
  have h7 := s_mixed N (k + 1) (cellAt xs (2 + j)) j (by omega) σ'
  generalize mixed (cellAt xs (2 + j)) j = y at h7
  obtain ⟨a, fs, o, hf, hs, he⟩ := s_expression N k (y.fdiv 2) rs hl σ'
  have hp := pl_tuple (xs := rs.map pairD) (le_lim (m := 3) (by simpa using hl) (by decide))
  rw [List.length_map] at hp
  refine ⟨(ρ.set 15 (.dat (.int y))).set 32 (.dat (.tuple [.int a, .tuple (fs.map .int), o])), ⟨a, fs, y.fmod 2 == 1⟩, Eq.trans (r_assign (v := .dat (.int y)) (σ₁ := σ') ?_) (Eq.trans (r_assign (v := .dat (.tuple [.int a, .tuple (fs.map .int), o])) (σ₁ := σ') ?_) (Eq.trans (r_append (c := σ.length) (d := qD ⟨a, fs, y.fmod 2 == 1⟩) (ds := qs.map qD) (by exact h31) ?_ hget (Nat.lt_of_lt_of_le (m := 100) (by rw [List.length_map]; exact hq) (by decide))) ?_)), ⟨hf, hs⟩, rfl, rfl, rfl⟩
  · have hc' : tabAt tab5 N (k + 2) 6 [.dat (.list (xs.map .int)), .dat (.int (2 + j))] σ' = _ := hc
    simp [es_nil, es_cons, es_assign, es_newcell, es_unpack, es_append, es_extend, es_insert, es_ite, es_ret, el_nil, el_cons, eb_nil, eb_cons, ev_const, ev_var, ev_bin, ev_neg, ev_nott, ev_bop, ev_cmp, ev_ite, ev_idx, ev_tup, ev_lst, ev_call, ev_prim, ev_isin, runF, bindArgsR, Rho.set, rd, rdAll, bi_add, bi_sub, bi_mod, bi_fdiv, cm_lt, cm_le, cm_gt, cm_ge, cm_eqi, cm_nei, cm_eqb, cm_neb, pi_bool, ix_t0, ix_t1, ix_t2, ix_l0, ix_l1, ix_l2, bo_or, bo_and, boolA, settle, leave, ownAll, own, h13, h14, hc', h7]
  · simp [es_nil, es_cons, es_assign, es_newcell, es_unpack, es_append, es_extend, es_insert, es_ite, es_ret, el_nil, el_cons, eb_nil, eb_cons, ev_const, ev_var, ev_bin, ev_neg, ev_nott, ev_bop, ev_cmp, ev_ite, ev_idx, ev_tup, ev_lst, ev_call, ev_prim, ev_isin, runF, bindArgsR, Rho.set, rd, rdAll, bi_add, bi_sub, bi_mod, bi_fdiv, cm_lt, cm_le, cm_gt, cm_ge, cm_eqi, cm_nei, cm_eqb, cm_neb, pi_bool, ix_t0, ix_t1, ix_t2, ix_l0, ix_l1, ix_l2, bo_or, bo_and, boolA, settle, leave, ownAll, own, h18, hp, he]
  · simp [es_nil, es_cons, es_assign, es_newcell, es_unpack, es_append, es_extend, es_insert, es_ite, es_ret, el_nil, el_cons, eb_nil, eb_cons, ev_const, ev_var, ev_bin, ev_neg, ev_nott, ev_bop, ev_cmp, ev_ite, ev_idx, ev_tup, ev_lst, ev_call, ev_prim, ev_isin, runF, bindArgsR, Rho.set, rd, rdAll, bi_add, bi_sub, bi_mod, bi_fdiv, cm_lt, cm_le, cm_gt, cm_ge, cm_eqi, cm_nei, cm_eqb, cm_neb, pi_bool, ix_t0, ix_t1, ix_t2, ix_l0, ix_l1, ix_l2, bo_or, bo_and, boolA, settle, leave, ownAll, own, qD, sumD]
  · rw [es_nil, hset, List.map_append]; rfl
theorem s_asked (N k : Nat) (xs : List Int) (hx : xs.length ≤ 63) (rs : List (Int × Int)) (hl : rs.length ≤ 3) (σ : Store) : ∃ qs : List Que, qs.length ≤ 7 ∧ (∀ q ∈ qs, OkQ rs.length q) ∧ tabAt tab5 N (k + 3) 14 [.dat (.list (xs.map .int)), .dat (.tuple (rs.map pairD))] σ = some (.ret (.fresh (qs.map qD)), σ) := by
  rw [tab_step (by rfl : tab5[14]? = some ([13, 18], c__law_asked))]
  have c1 : ∀ σ', tabAt tab5 N (k + 2) 6 [.dat (.list (xs.map .int)), .dat (.int 1)] σ' = some (.ret (.dat (.int (cellAt xs 1))), σ') := fun σ' => s_cell_at N (k + 1) xs hx 1 (by decide) σ'
  have c9 : ∀ σ', tabAt tab5 N (k + 2) 6 [.dat (.list (xs.map .int)), .dat (.int 9)] σ' = some (.ret (.dat (.int (cellAt xs 9))), σ') := fun σ' => s_cell_at N (k + 1) xs hx 9 (by decide) σ'
  generalize cellAt xs 1 = c at c1
  generalize cellAt xs 9 = d at c9
  obtain ⟨m, hm, em⟩ := fmod_nat c (b := 7) (by decide)
  have em' : c.fmod 7 = (m : Int) := em
  obtain ⟨ρ', σ', h1, ⟨p13, p18, p31⟩, qs, h3, h4, h5⟩ := forGo_cnt (t := .one 14) (body := fun ρ' σ' => evSs N (tabAt tab5 N (k + 2)) qBody ρ' σ') (fun i ρ σ' => (ρ 13 = some (.dat (.list (xs.map .int))) ∧ ρ 18 = some (.dat (.tuple (rs.map pairD))) ∧ ρ 31 = some (.cell σ.length)) ∧ ∃ qs : List Que, qs.length = i ∧ (∀ q ∈ qs, OkQ rs.length q) ∧ σ' = σ ++ [(.live, qs.map qD)])
    ((List.range m).map fun k => PyData.int (k : Nat)) 0 (Rho.set (Rho.set (Rho.set (fun _ => none) 13 (.dat (.list (xs.map .int)))) 18 (.dat (.tuple (rs.map pairD)))) 31 (.cell σ.length)) (σ ++ [(.live, [])]) (fun j d hd ρ σ' hP => by
      obtain ⟨⟨p1, p2, p3⟩, qs, p4, p5, rfl⟩ := hP
      have hj : j < m := by
        have := (List.getElem?_eq_some_iff.mp hd).1
        simpa using this
      have hd' : d = .int j := by
        rw [List.getElem?_map, List.getElem?_range hj] at hd
        simpa using hd.symm
      subst hd'
      obtain ⟨ρ₂, q, q1, q2, q3, q4, q5⟩ := q_body N k xs hx rs hl j (by omega) σ qs (by omega) (Rho.set ρ 14 (.dat (.int j))) p1 p2 rfl p3
      refine ⟨_, ρ₂, _, rfl, q1, ⟨q3.trans p1, q4.trans p2, q5.trans p3⟩, qs ++ [q], by simp [p4], fun x hx => ?_, rfl⟩
      rcases List.mem_append.mp hx with h | h
      · exact p5 x h
      · rw [List.mem_singleton.mp h]; exact q2) ⟨⟨rfl, rfl, rfl⟩, [], rfl, (fun _ h => nomatch h), rfl⟩
  subst h5
  rw [List.length_map, List.length_range, Nat.zero_add] at h3
  have hfor : ∀ cs, evSs N (tabAt tab5 N (k + 2)) (.newcell 31 (.lst []) :: .forr (.one 14) .range1 [(.bin .Mod (.call 6 [(.var 13), (.const (.int (1)))]) (.const (.int (7))))] qBody :: cs) (Rho.set (Rho.set (fun _ => none) 13 (.dat (.list (xs.map .int)))) 18 (.dat (.tuple (rs.map pairD)))) σ = evSs N (tabAt tab5 N (k + 2)) cs ρ' (σ ++ [(.live, qs.map qD)]) := fun cs => by
    refine (r_newcell (ds := []) (σ₁ := σ) (by simp [es_nil, es_cons, es_assign, es_newcell, es_unpack, es_append, es_extend, es_insert, es_ite, es_ret, el_nil, el_cons, eb_nil, eb_cons, ev_const, ev_var, ev_bin, ev_neg, ev_nott, ev_bop, ev_cmp, ev_ite, ev_idx, ev_tup, ev_lst, ev_call, ev_prim, ev_isin, runF, bindArgsR, Rho.set, rd, rdAll, bi_add, bi_sub, bi_mod, bi_fdiv, cm_lt, cm_le, cm_gt, cm_ge, cm_eqi, cm_nei, cm_eqb, cm_neb, pi_bool, ix_t0, ix_t1, ix_t2, ix_l0, ix_l1, ix_l2, bo_or, bo_and, boolA, settle, leave, ownAll, own])).trans ?_
    exact r_forS (vs := [.dat (.int m)]) (ds := [.int m]) (by simp [es_nil, es_cons, es_assign, es_newcell, es_unpack, es_append, es_extend, es_insert, es_ite, es_ret, el_nil, el_cons, eb_nil, eb_cons, ev_const, ev_var, ev_bin, ev_neg, ev_nott, ev_bop, ev_cmp, ev_ite, ev_idx, ev_tup, ev_lst, ev_call, ev_prim, ev_isin, runF, bindArgsR, Rho.set, rd, rdAll, bi_add, bi_sub, bi_mod, bi_fdiv, cm_lt, cm_le, cm_gt, cm_ge, cm_eqi, cm_nei, cm_eqb, cm_neb, pi_bool, ix_t0, ix_t1, ix_t2, ix_l0, ix_l1, ix_l2, bo_or, bo_and, boolA, settle, leave, ownAll, own, c1, em']) rfl rfl (range_it (by omega)) h1
  have hrun : ∀ (ρ₂ : Rho) (rs' : List Que) (cs : List CS), c__law_asked = .newcell 31 (.lst []) :: .forr (.one 14) .range1 [(.bin .Mod (.call 6 [(.var 13), (.const (.int (1)))]) (.const (.int (7))))] qBody :: cs → evSs N (tabAt tab5 N (k + 2)) cs ρ' (σ ++ [(.live, qs.map qD)]) = some (.ret (.cell σ.length), σ ++ [(.live, rs'.map qD)]) → runF N (tabAt tab5 N (k + 2)) [13, 18] c__law_asked [.dat (.list (xs.map .int)), .dat (.tuple (rs.map pairD))] σ = some (.ret (.fresh (rs'.map qD)), σ) := fun _ rs' cs hcs h => by
    have hb := (hfor cs).trans h
    rw [← hcs] at hb
    simp only [runF, bindArgsR, hb]
    simp [leave]
  have hne := ne_nil qD (m := 3) (by decide) q_lay q_depth qs
  have hc := ev_and2 (Φ := tabAt tab5 N (k + 2)) (ρ := ρ') (σ := σ ++ [(.live, qs.map qD)]) (a := (.cmp .Eq (.bin .Mod (.bin .FloorDiv (.call 6 [(.var 13), (.const (.int (1)))]) (.const (.int (7)))) (.const (.int (3)))) (.const (.int (1))))) (b := (.cmp .NotEq (.var 31) (.lst []))) (p := (c.fdiv 7).fmod 3 == 1) (q := !qs.isEmpty) (by simp [es_nil, es_cons, es_assign, es_newcell, es_unpack, es_append, es_extend, es_insert, es_ite, es_ret, el_nil, el_cons, eb_nil, eb_cons, ev_const, ev_var, ev_bin, ev_neg, ev_nott, ev_bop, ev_cmp, ev_ite, ev_idx, ev_tup, ev_lst, ev_call, ev_prim, ev_isin, runF, bindArgsR, Rho.set, rd, rdAll, bi_add, bi_sub, bi_mod, bi_fdiv, cm_lt, cm_le, cm_gt, cm_ge, cm_eqi, cm_nei, cm_eqb, cm_neb, pi_bool, ix_t0, ix_t1, ix_t2, ix_l0, ix_l1, ix_l2, bo_or, bo_and, boolA, settle, leave, ownAll, own, p13, c1]) (fun _ => by simp [es_nil, es_cons, es_assign, es_newcell, es_unpack, es_append, es_extend, es_insert, es_ite, es_ret, el_nil, el_cons, eb_nil, eb_cons, ev_const, ev_var, ev_bin, ev_neg, ev_nott, ev_bop, ev_cmp, ev_ite, ev_idx, ev_tup, ev_lst, ev_call, ev_prim, ev_isin, runF, bindArgsR, Rho.set, rd, rdAll, bi_add, bi_sub, bi_mod, bi_fdiv, cm_lt, cm_le, cm_gt, cm_ge, cm_eqi, cm_nei, cm_eqb, cm_neb, pi_bool, ix_t0, ix_t1, ix_t2, ix_l0, ix_l1, ix_l2, bo_or, bo_and, boolA, settle, leave, ownAll, own, p31, hne])
  cases hb : (c.fdiv 7).fmod 3 == 1 && !qs.isEmpty with
  | false =>
    rw [hb] at hc
    exact ⟨qs, by omega, h4, hrun ρ' qs _ rfl ((r_skip hc).trans (r_ret (by simp [es_nil, es_cons, es_assign, es_newcell, es_unpack, es_append, es_extend, es_insert, es_ite, es_ret, el_nil, el_cons, eb_nil, eb_cons, ev_const, ev_var, ev_bin, ev_neg, ev_nott, ev_bop, ev_cmp, ev_ite, ev_idx, ev_tup, ev_lst, ev_call, ev_prim, ev_isin, runF, bindArgsR, Rho.set, rd, rdAll, bi_add, bi_sub, bi_mod, bi_fdiv, cm_lt, cm_le, cm_gt, cm_ge, cm_eqi, cm_nei, cm_eqb, cm_neb, pi_bool, ix_t0, ix_t1, ix_t2, ix_l0, ix_l1, ix_l2, bo_or, bo_and, boolA, settle, leave, ownAll, own, p31])))⟩
  | true =>
    rw [hb] at hc
    have hq0 : 0 < qs.length := by
      have := (Bool.and_eq_true_iff.mp hb).2
      cases qs with
      | nil => simp at this
      | cons _ _ => simp
    generalize hσ : σ ++ [(Flag.live, qs.map qD)] = σ' at hc
    have hget : σ'[σ.length]? = some (.live, qs.map qD) := by rw [← hσ]; simp
    have hset : ∀ es, σ'.set σ.length (.live, es) = σ ++ [(.live, es)] := fun es => by rw [← hσ]; simp
    have hpl : primD .len [.list (qs.map qD)] = some (.dat (.int qs.length)) := by
      rw [pl_list (le_lim (m := 7) (by rw [List.length_map]; omega) (by decide)), List.length_map]
    obtain ⟨i, hi, ei⟩ := fmod_nat d (b := qs.length) hq0
    obtain ⟨u, hu, eu⟩ := fmod_nat (d.fdiv 7) (b := qs.length + 1) (by omega)
    rw [Int.natCast_add] at eu
    have hix : idxD (.list (qs.map qD)) (.int i) = some (qD (qAt qs i)) := ix_list (by omega) (qs_map hi)
    have hok := qAt_ok h4 hi
    generalize hqi : qAt qs i = q at hix hok
    have hmod : binD .Mod (.int d) (.int qs.length) = some (.dat (.int i)) := by rw [bi_mod (by omega), ei]
    have hmod' : binD .Mod (.int (d.fdiv 7)) (.int ((qs.length : Int) + 1)) = some (.dat (.int u)) := by
      have : (d.fdiv 7).fmod ((qs.length : Int) + 1) = u := eu
      rw [bi_mod (by omega), this]
    have hrd : rd σ' (.cell σ.length) = some (.list (qs.map qD)) := by simp only [rd, hget]
    have hlen : ∀ ρ : Rho, ρ 31 = some (.cell σ.length) → evE (tabAt tab5 N (k + 2)) (.prim .len [(.var 31)]) ρ σ' = some (.dat (.int qs.length), σ') := fun ρ h => by
      simp only [ev_prim, el_cons, el_nil, ev_var, h, settle, rdAll, hrd, hpl]
    have hcl : ∀ ρ : Rho, ρ 13 = some (.dat (.list (xs.map .int))) → evE (tabAt tab5 N (k + 2)) (.call 6 [(.var 13), (.const (.int (9)))]) ρ σ' = some (.dat (.int d), σ') := fun ρ h => by
      simp only [ev_call, el_cons, el_nil, ev_var, ev_const, h, settle, c9]
    refine ⟨qs.take u ++ ⟨q.a, q.fs, !q.b⟩ :: qs.drop u, by simp; omega, fun x hx => ?_, hrun ρ' _ _ rfl ?_⟩
    · rcases List.mem_append.mp hx with h | h
      · exact h4 x (List.mem_of_mem_take h)
      · rcases List.mem_cons.mp h with rfl | h
        · exact ⟨hok.len, hok.small⟩
        · exact h4 x (List.mem_of_mem_drop h)
    · rw [hσ]
      refine (r_next (ρ₁ := Rho.set (Rho.set ρ' 28 (.dat (sumD q.a q.fs))) 33 (.dat (.bool q.b))) (σ₁ := σ ++ [(.live, (qs.take u ++ ⟨q.a, q.fs, !q.b⟩ :: qs.drop u).map qD)]) ((r_true hc).trans ?_)).trans (r_ret (by rw [ev_var]; show (match ρ' 31 with | some v => _ | none => _) = _; rw [p31]))
      refine (r_next (ρ₁ := Rho.set (Rho.set ρ' 28 (.dat (sumD q.a q.fs))) 33 (.dat (.bool q.b))) (σ₁ := σ') ?_).trans ?_
      · rw [es_unpack, ev_idx, ev_var, p31]
        dsimp only
        rw [ev_bin, hcl _ p13]
        dsimp only
        rw [hlen _ p31]
        dsimp only [rd]
        rw [hmod]
        dsimp only
        rw [hget]
        dsimp only
        rw [hix]
        rfl
      · refine Eq.trans (r_insert (c := σ.length) (k := u) (d := qD ⟨q.a, q.fs, !q.b⟩) (ds := qs.map qD) (by exact p31) ?_ ?_ hget (by rw [List.length_map]; omega) (Nat.lt_of_lt_of_le (m := 100) (by rw [List.length_map]; omega) (by decide))) ?_
        · exact ev_binR (ev_binR (hcl _ (by exact p13)) (ev_const _) rfl rfl (bi_fdiv (by decide) (by decide))) (ev_binR (hlen _ (by exact p31)) (ev_const _) rfl rfl (bi_add _ _)) rfl rfl hmod'
        · simp [es_nil, es_cons, es_assign, es_newcell, es_unpack, es_append, es_extend, es_insert, es_ite, es_ret, el_nil, el_cons, eb_nil, eb_cons, ev_const, ev_var, ev_bin, ev_neg, ev_nott, ev_bop, ev_cmp, ev_ite, ev_idx, ev_tup, ev_lst, ev_call, ev_prim, ev_isin, runF, bindArgsR, Rho.set, rd, rdAll, bi_add, bi_sub, bi_mod, bi_fdiv, cm_lt, cm_le, cm_gt, cm_ge, cm_eqi, cm_nei, cm_eqb, cm_neb, pi_bool, ix_t0, ix_t1, ix_t2, ix_l0, ix_l1, ix_l2, bo_or, bo_and, boolA, settle, leave, ownAll, own, qD]
        · rw [es_nil, hset]
          simp [List.map_take, List.map_drop]
/-! ## the law -/
theorem ev_or3 {Φ : Phi} {ρ : Rho} {σ : Store} {a b c : CE} (h1 : evE Φ a ρ σ = some (.dat (.bool false), σ)) (h2 : evE Φ b ρ σ = some (.dat (.bool false), σ)) (h3 : evE Φ c ρ σ = some (.dat (.bool false), σ)) : evE Φ (.bop .Or [a, b, c]) ρ σ = some (.dat (.bool false), σ) := by
  simp only [ev_bop, eb_cons, eb_nil, h1, h2, h3, boolA, bo_or, BEq.rfl, if_true]
theorem head_nat {qs : List Que} {xs : List Int} : idxD (.list (((List.range qs.length).filter fun i => !holdsB (qAt qs i) xs).map (fun i : Nat => PyData.int (i : Int)) ++ [.none])) (.int 0) = some (natD (fwN qs xs)) := by
  unfold fwN
  rw [← List.head?_filter]
  cases (List.range qs.length).filter fun i => !holdsB (qAt qs i) xs <;> rfl
theorem empty_nat {qs : List Que} {xs : List Int} : ((List.range qs.length).filter fun i => !holdsB (qAt qs i) xs).isEmpty = (fwN qs xs).isNone := by
  unfold fwN
  rw [← List.head?_filter]
  cases (List.range qs.length).filter fun i => !holdsB (qAt qs i) xs <;> rfl
theorem none_in (o : Option (List Int)) : cmpD .Is (inD' o) .none = some o.isNone := by cases o <;> rfl
theorem notnone_in (o : Option (List Int)) : cmpD .IsNot (inD' o) .none = some o.isSome := by cases o <;> rfl
noncomputable def lBody : List CS := [.assign 36 (.comp (.var 14) (.one 14) .range1 [(.prim .len [(.var 31)])] [(.nott (.call 13 [(.idx (.var 31) (.var 14)), (.var 29)]))]), .append 34 (.idx (.bin .Add (.var 36) (.lst [(.const .none)])) (.const (.int (0)))), .ite (.bop .And [(.cmp .Eq (.var 36) (.lst [])), (.cmp .Is (.var 35) (.const .none))]) [.assign 35 (.var 29)] []]
theorem l_body (N k n : Nat) (hn : n ≤ 3) (qs : List Que) (hl : qs.length ≤ 7) (hq : ∀ q ∈ qs, OkQ n q) (xs : List Int) (hx : xs.length = n) (br : List PyData) (hb : br.length < 100000) (o : Option (List Int)) (ρ : Rho) (h31 : ρ 31 = some (.cell 0)) (h34 : ρ 34 = some (.cell 1)) (h35 : ρ 35 = some (.dat (inD' o))) (h29 : ρ 29 = some (.dat (inT xs))) :
    ∃ ρ₂, evSs N (tabAt tab5 N (k + 2)) lBody ρ [(.live, qs.map qD), (.live, br)] = some (.next ρ₂, [(.live, qs.map qD), (.live, br ++ [natD (fwN qs xs)])]) ∧ ρ₂ 18 = ρ 18 ∧ ρ₂ 31 = ρ 31 ∧ ρ₂ 34 = ρ 34 ∧ ρ₂ 35 = some (.dat (inD' (o.or (if (fwN qs xs).isNone then some xs else none)))) := by
  have hlr : (List.range qs.length).length ≤ lim := le_lim (m := 7) (by simpa using hl) (by decide)
  have hpl : primD .len [.list (qs.map qD)] = some (.dat (.int qs.length)) := by
    rw [pl_list (le_lim (m := 7) (by rw [List.length_map]; omega) (by decide)), List.length_map]
  have hc := ev_compF (Φ := tabAt tab5 N (k + 2)) (ρ := ρ) (σ := [(.live, qs.map qD), (.live, br)]) (ce := .var 14) (t := .one 14) (k := .range1) (its := [(.prim .len [(.var 31)])]) (ifs := [(.nott (.call 13 [(.idx (.var 31) (.var 14)), (.var 29)]))])
    (vs := [.dat (.int qs.length)]) (ds := [.int qs.length]) (List.range qs.length) (fun i => .int (i : Nat)) (fun i => .int (i : Nat)) (fun i => !holdsB (qAt qs i) xs)
    (by simp [es_nil, es_cons, es_assign, es_newcell, es_unpack, es_append, es_extend, es_insert, es_ite, es_ret, el_nil, el_cons, eb_nil, eb_cons, ev_const, ev_var, ev_bin, ev_neg, ev_nott, ev_bop, ev_cmp, ev_ite, ev_idx, ev_tup, ev_lst, ev_call, ev_prim, ev_isin, runF, bindArgsR, Rho.set, rd, rdAll, bi_add, bi_sub, bi_mod, bi_fdiv, cm_lt, cm_le, cm_gt, cm_ge, cm_eqi, cm_nei, cm_eqb, cm_neb, pi_bool, ix_t0, ix_t1, ix_t2, ix_l0, ix_l1, ix_l2, bo_or, bo_and, boolA, settle, leave, ownAll, own, h31, hpl]) rfl rfl (range_it (by omega)) hlr (fun i hi => ⟨_, rfl, by
      have hi' := List.mem_range.mp hi
      have hix : idxD (.list (qs.map qD)) (.int i) = some (qD (qAt qs i)) := ix_list (by omega) (qs_map hi')
      have hh := s_law_holds N k n hn (qAt qs i) (qAt_ok hq hi') xs hx [(.live, qs.map qD), (.live, br)]
      cases hv : holdsB (qAt qs i) xs <;> simp [es_nil, es_cons, es_assign, es_newcell, es_unpack, es_append, es_extend, es_insert, es_ite, es_ret, el_nil, el_cons, eb_nil, eb_cons, ev_const, ev_var, ev_bin, ev_neg, ev_nott, ev_bop, ev_cmp, ev_ite, ev_idx, ev_tup, ev_lst, ev_call, ev_prim, ev_isin, runF, bindArgsR, Rho.set, rd, rdAll, bi_add, bi_sub, bi_mod, bi_fdiv, cm_lt, cm_le, cm_gt, cm_ge, cm_eqi, cm_nei, cm_eqb, cm_neb, pi_bool, ix_t0, ix_t1, ix_t2, ix_l0, ix_l1, ix_l2, bo_or, bo_and, boolA, settle, leave, ownAll, own, h31, h29, hix, hh, hv], fun _ => by simp [es_nil, es_cons, es_assign, es_newcell, es_unpack, es_append, es_extend, es_insert, es_ite, es_ret, el_nil, el_cons, eb_nil, eb_cons, ev_const, ev_var, ev_bin, ev_neg, ev_nott, ev_bop, ev_cmp, ev_ite, ev_idx, ev_tup, ev_lst, ev_call, ev_prim, ev_isin, runF, bindArgsR, Rho.set, rd, rdAll, bi_add, bi_sub, bi_mod, bi_fdiv, cm_lt, cm_le, cm_gt, cm_ge, cm_eqi, cm_nei, cm_eqb, cm_neb, pi_bool, ix_t0, ix_t1, ix_t2, ix_l0, ix_l1, ix_l2, bo_or, bo_and, boolA, settle, leave, ownAll, own]⟩)
  have hfl : ((List.range qs.length).filter fun i => !holdsB (qAt qs i) xs).length ≤ 7 := Nat.le_trans (List.length_filter_le _ _) (by simpa using hl)
  have hadd : binD .Add (.list (((List.range qs.length).filter fun i => !holdsB (qAt qs i) xs).map (fun i : Nat => PyData.int (i : Int)))) (.list [.none]) = some (.fresh (((List.range qs.length).filter fun i => !holdsB (qAt qs i) xs).map (fun i : Nat => PyData.int (i : Int)) ++ [.none])) := bi_addL (le_lim (m := 8) (by rw [List.length_map]; simp; omega) (by decide))
  have heq := eq_nil (fun i : Nat => PyData.int (i : Int)) (m := 0) (by decide) (fun _ => rfl) (fun _ => Nat.le_refl _) ((List.range qs.length).filter fun i => !holdsB (qAt qs i) xs)
  rw [empty_nat] at heq
  have hhd := head_nat (qs := qs) (xs := xs)
  generalize ((List.range qs.length).filter fun i => !holdsB (qAt qs i) xs).map (fun i : Nat => PyData.int (i : Int)) = pl at hc hadd heq hhd
  generalize fwN qs xs = fw at heq hhd
  have s1 := fun cs => r_assign (N := N) (i := 36) (cs := cs) hc
  have s2 := fun cs => r_append (N := N) (Φ := tabAt tab5 N (k + 2)) (ρ := ρ.set 36 (.dat (.list pl))) (σ := [(.live, qs.map qD), (.live, br)]) (x := 34) (c := 1) (e := (.idx (.bin .Add (.var 36) (.lst [(.const .none)])) (.const (.int (0))))) (cs := cs) (d := natD fw) (ds := br) h34 (by simp [es_nil, es_cons, es_assign, es_newcell, es_unpack, es_append, es_extend, es_insert, es_ite, es_ret, el_nil, el_cons, eb_nil, eb_cons, ev_const, ev_var, ev_bin, ev_neg, ev_nott, ev_bop, ev_cmp, ev_ite, ev_idx, ev_tup, ev_lst, ev_call, ev_prim, ev_isin, runF, bindArgsR, Rho.set, rd, rdAll, bi_add, bi_sub, bi_mod, bi_fdiv, cm_lt, cm_le, cm_gt, cm_ge, cm_eqi, cm_nei, cm_eqb, cm_neb, pi_bool, ix_t0, ix_t1, ix_t2, ix_l0, ix_l1, ix_l2, bo_or, bo_and, boolA, settle, leave, ownAll, own, hadd, hhd]) rfl (Nat.lt_of_lt_of_le (m := 100000) hb (by decide))
  have hcond := ev_and2 (Φ := tabAt tab5 N (k + 2)) (ρ := ρ.set 36 (.dat (.list pl))) (σ := [(.live, qs.map qD), (.live, br ++ [natD fw])]) (a := (.cmp .Eq (.var 36) (.lst []))) (b := (.cmp .Is (.var 35) (.const .none))) (p := fw.isNone) (q := o.isNone) (by simp [es_nil, es_cons, es_assign, es_newcell, es_unpack, es_append, es_extend, es_insert, es_ite, es_ret, el_nil, el_cons, eb_nil, eb_cons, ev_const, ev_var, ev_bin, ev_neg, ev_nott, ev_bop, ev_cmp, ev_ite, ev_idx, ev_tup, ev_lst, ev_call, ev_prim, ev_isin, runF, bindArgsR, Rho.set, rd, rdAll, bi_add, bi_sub, bi_mod, bi_fdiv, cm_lt, cm_le, cm_gt, cm_ge, cm_eqi, cm_nei, cm_eqb, cm_neb, pi_bool, ix_t0, ix_t1, ix_t2, ix_l0, ix_l1, ix_l2, bo_or, bo_and, boolA, settle, leave, ownAll, own, heq]) (fun _ => by simp [es_nil, es_cons, es_assign, es_newcell, es_unpack, es_append, es_extend, es_insert, es_ite, es_ret, el_nil, el_cons, eb_nil, eb_cons, ev_const, ev_var, ev_bin, ev_neg, ev_nott, ev_bop, ev_cmp, ev_ite, ev_idx, ev_tup, ev_lst, ev_call, ev_prim, ev_isin, runF, bindArgsR, Rho.set, rd, rdAll, bi_add, bi_sub, bi_mod, bi_fdiv, cm_lt, cm_le, cm_gt, cm_ge, cm_eqi, cm_nei, cm_eqb, cm_neb, pi_bool, ix_t0, ix_t1, ix_t2, ix_l0, ix_l1, ix_l2, bo_or, bo_and, boolA, settle, leave, ownAll, own, h35, none_in])
  cases hb : fw.isNone && o.isNone with
  | false =>
    rw [hb] at hcond
    refine ⟨_, (s1 _).trans ((s2 _).trans ((r_skip hcond).trans es_nil)), rfl, rfl, rfl, ?_⟩
    show ρ 35 = _
    rw [h35]
    cases o <;> cases fw <;> first | rfl | (cases hb)
  | true =>
    rw [hb] at hcond
    refine ⟨_, (s1 _).trans ((s2 _).trans ((r_next ((r_true hcond).trans ((r_assign (v := .dat (inT xs)) (σ₁ := [(.live, qs.map qD), (.live, br ++ [natD fw])]) (by simp [es_nil, es_cons, es_assign, es_newcell, es_unpack, es_append, es_extend, es_insert, es_ite, es_ret, el_nil, el_cons, eb_nil, eb_cons, ev_const, ev_var, ev_bin, ev_neg, ev_nott, ev_bop, ev_cmp, ev_ite, ev_idx, ev_tup, ev_lst, ev_call, ev_prim, ev_isin, runF, bindArgsR, Rho.set, rd, rdAll, bi_add, bi_sub, bi_mod, bi_fdiv, cm_lt, cm_le, cm_gt, cm_ge, cm_eqi, cm_nei, cm_eqb, cm_neb, pi_bool, ix_t0, ix_t1, ix_t2, ix_l0, ix_l1, ix_l2, bo_or, bo_and, boolA, settle, leave, ownAll, own, h29])).trans es_nil))).trans es_nil)), rfl, rfl, rfl, ?_⟩
    cases o <;> cases fw <;> first | rfl | (cases hb)
theorem shaped_in (o : Option (List Int)) : SeqAt.shaped (inD' o) = true := by
  cases o with
  | none => rfl
  | some xs => exact shaped_tup (fun x : Int => PyData.int x) (m := 0) (by decide) (fun _ => rfl) (fun _ => Nat.le_refl _) xs
theorem nat_lay (o : Option Nat) : PyData.canLay0 (natD o) = true := by cases o <;> rfl
theorem nat_depth (o : Option Nat) : PyData.depth (natD o) ≤ 0 := by cases o <;> exact Nat.le_refl _
noncomputable def tBody : List CS := [.assign 16 (.call 4 [(.var 18), (.var 38)]), .ite (.bop .Or [(.cmp .NotEq (.var 16) (.var 35)), (.bop .And [(.cmp .IsNot (.var 35) (.const .none)), (.nott (.isin (.var 16) .tuple))])]) [.ret (.const (.bool false))] [], .ite (.bop .And [(.cmp .IsNot (.var 35) (.const .none)), (.nott (.prim .all [(.comp (.call 8 [(.var 40)]) (.one 40) .seq [(.var 16)] [])]))]) [.ret (.const (.bool false))] [], .ite (.cmp .Is (.var 35) (.const .none)) [.assign 39 (.call 5 [(.var 18), (.var 38)]), .ite (.bop .Or [(.nott (.isin (.var 39) .tuple)), (.cmp .NotEq (.var 39) (.prim .tuple [(.var 34)])), (.nott (.prim .all [(.comp (.call 8 [(.var 41)]) (.one 41) .seq [(.var 39)] [])]))]) [.ret (.const (.bool false))] []] []]
theorem all_whole {N k : Nat} {ρ : Rho} {σ : Store} {x y : Nat} {α : Type} (g : α → PyData) (l : List α) (hl : l.length ≤ 100000) (hg : ∀ a ∈ l, ∃ i : Int, g a = .int i) (h : ρ x = some (.dat (.tuple (l.map g)))) : evE (tabAt tab5 N (k + 1)) (.nott (.prim .all [(.comp (.call 8 [(.var y)]) (.one y) .seq [(.var x)] [])])) ρ σ = some (.dat (.bool false), σ) := by
  have hc := ev_comp (Φ := tabAt tab5 N (k + 1)) (ρ := ρ) (σ := σ) (ce := (.call 8 [(.var y)])) (t := .one y) (k := .seq) (its := [(.var x)]) (vs := [.dat (.tuple (l.map g))]) (ds := [.tuple (l.map g)]) l g (fun _ => .bool true) (by simp [es_nil, es_cons, es_assign, es_newcell, es_unpack, es_append, es_extend, es_insert, es_ite, es_ret, el_nil, el_cons, eb_nil, eb_cons, ev_const, ev_var, ev_bin, ev_neg, ev_nott, ev_bop, ev_cmp, ev_ite, ev_idx, ev_tup, ev_lst, ev_call, ev_prim, ev_isin, runF, bindArgsR, Rho.set, rd, rdAll, bi_add, bi_sub, bi_mod, bi_fdiv, cm_lt, cm_le, cm_gt, cm_ge, cm_eqi, cm_nei, cm_eqb, cm_neb, pi_bool, ix_t0, ix_t1, ix_t2, ix_l0, ix_l1, ix_l2, bo_or, bo_and, boolA, settle, leave, ownAll, own, h]) rfl rfl rfl (le_lim hl (by decide)) (fun a ha => ⟨_, rfl, by
    obtain ⟨i, hi⟩ := hg a ha
    simp [es_nil, es_cons, es_assign, es_newcell, es_unpack, es_append, es_extend, es_insert, es_ite, es_ret, el_nil, el_cons, eb_nil, eb_cons, ev_const, ev_var, ev_bin, ev_neg, ev_nott, ev_bop, ev_cmp, ev_ite, ev_idx, ev_tup, ev_lst, ev_call, ev_prim, ev_isin, runF, bindArgsR, Rho.set, rd, rdAll, bi_add, bi_sub, bi_mod, bi_fdiv, cm_lt, cm_le, cm_gt, cm_ge, cm_eqi, cm_nei, cm_eqb, cm_neb, pi_bool, ix_t0, ix_t1, ix_t2, ix_l0, ix_l1, ix_l2, bo_or, bo_and, boolA, settle, leave, ownAll, own, s_whole, hi]⟩)
  have hz : l.map (fun _ => PyData.bool true) = (l.map fun _ => true).map .bool := by rw [List.map_map]; rfl
  have hall : ((l.map fun _ => true).all id) = true := by simp
  rw [hz] at hc
  simp only [ev_nott, ev_prim, el_cons, el_nil, hc, settle, rdAll, rd, pa_all, hall, boolA, Bool.not_true]
theorem t_body (N k n : Nat) (hn : n ≤ 3) (rs : List (Int × Int)) (hrl : rs.length ≤ 3) (hr : ∀ r ∈ rs, okR r) (qs : List Que) (hl : qs.length ≤ 7) (hq : ∀ q ∈ qs, OkQ n q) (b : Bool) (ρ : Rho) (h18 : ρ 18 = some (.dat (.tuple (rs.map pairD)))) (h34 : ρ 34 = some (.cell 1)) (h35 : ρ 35 = some (.dat (inD' (exN rs qs)))) (h38 : ρ 38 = some (.dat (qsD b qs))) :
    ∃ ρ₂, evSs N (tabAt tab5 N (k + 4)) tBody ρ [(.live, qs.map qD), (.live, (allIn rs).map fun xs => natD (fwN qs xs))] = some (.next ρ₂, [(.live, qs.map qD), (.live, (allIn rs).map fun xs => natD (fwN qs xs))]) ∧ ρ₂ 18 = ρ 18 ∧ ρ₂ 31 = ρ 31 ∧ ρ₂ 34 = ρ 34 ∧ ρ₂ 35 = ρ 35 ∧ ρ₂ 37 = ρ 37 := by
  generalize hσ : ([(.live, qs.map qD), (.live, (allIn rs).map fun xs => natD (fwN qs xs))] : Store) = σ
  have h4 := s_example N k n hn b rs hrl hr qs hl hq σ
  have h5 := s_table N k n hn b rs hrl hr qs hl hq σ
  have hal := all_len hrl hr
  have s1 : ∀ cs, evSs N (tabAt tab5 N (k + 4)) (.assign 16 (.call 4 [(.var 18), (.var 38)]) :: cs) ρ σ = evSs N (tabAt tab5 N (k + 4)) cs (ρ.set 16 (.dat (inD' (exN rs qs)))) σ := fun cs => r_assign (v := .dat (inD' (exN rs qs))) (by simp [es_nil, es_cons, es_assign, es_newcell, es_unpack, es_append, es_extend, es_insert, es_ite, es_ret, el_nil, el_cons, eb_nil, eb_cons, ev_const, ev_var, ev_bin, ev_neg, ev_nott, ev_bop, ev_cmp, ev_ite, ev_idx, ev_tup, ev_lst, ev_call, ev_prim, ev_isin, runF, bindArgsR, Rho.set, rd, rdAll, bi_add, bi_sub, bi_mod, bi_fdiv, cm_lt, cm_le, cm_gt, cm_ge, cm_eqi, cm_nei, cm_eqb, cm_neb, pi_bool, ix_t0, ix_t1, ix_t2, ix_l0, ix_l1, ix_l2, bo_or, bo_and, boolA, settle, leave, ownAll, own, h18, h38, h4])
  have hns := cm_ne_self (shaped_in (exN rs qs))
  cases ho : exN rs qs with
  | none =>
    rw [ho] at s1 hns h35
    have hd : inD' none = .none := rfl
    rw [hd] at s1 hns h35
    have hi : cmpD .IsNot .none .none = some false := rfl
    have hi' : cmpD .Is .none .none = some true := rfl
    have hno : ∀ xs ∈ allIn rs, ∃ i : Int, natD (fwN qs xs) = .int i := fun xs hx => by
      have := List.find?_eq_none.mp ho xs hx
      cases hf : fwN qs xs with
      | none => rw [hf] at this; exact absurd rfl this
      | some i => exact ⟨i, rfl⟩
    have hpt : primD .tuple [.list ((allIn rs).map fun xs => natD (fwN qs xs))] = some (.dat (.tuple ((allIn rs).map fun xs => natD (fwN qs xs)))) := pt_list (le_lim (m := 10000) (by simpa using hal) (by decide))
    have hne : cmpD .NotEq (.tuple ((allIn rs).map fun xs => natD (fwN qs xs))) (.tuple ((allIn rs).map fun xs => natD (fwN qs xs))) = some false := cm_ne_self (shaped_tup (fun xs => natD (fwN qs xs)) (m := 0) (by decide) (fun _ => nat_lay _) (fun _ => nat_depth _) _)
    have hrd : rd σ (.cell 1) = some (.list ((allIn rs).map fun xs => natD (fwN qs xs))) := by rw [← hσ]; rfl
    have haw := all_whole (N := N) (k := k + 3) (ρ := (ρ.set 16 (.dat .none)).set 39 (.dat (.tuple ((allIn rs).map fun xs => natD (fwN qs xs))))) (σ := σ) (x := 39) (y := 41) (fun xs => natD (fwN qs xs)) (allIn rs) (by omega) hno rfl
    generalize (allIn rs).map (fun xs => natD (fwN qs xs)) = told at h5 hpt hne hrd haw
    have hit : isinD .tuple (.tuple told) = true := rfl
    refine ⟨(ρ.set 16 (.dat .none)).set 39 (.dat (.tuple told)), (s1 _).trans ((r_skip (σ₁ := σ) (by simp [es_nil, es_cons, es_assign, es_newcell, es_unpack, es_append, es_extend, es_insert, es_ite, es_ret, el_nil, el_cons, eb_nil, eb_cons, ev_const, ev_var, ev_bin, ev_neg, ev_nott, ev_bop, ev_cmp, ev_ite, ev_idx, ev_tup, ev_lst, ev_call, ev_prim, ev_isin, runF, bindArgsR, Rho.set, rd, rdAll, bi_add, bi_sub, bi_mod, bi_fdiv, cm_lt, cm_le, cm_gt, cm_ge, cm_eqi, cm_nei, cm_eqb, cm_neb, pi_bool, ix_t0, ix_t1, ix_t2, ix_l0, ix_l1, ix_l2, bo_or, bo_and, boolA, settle, leave, ownAll, own, h35, hns, hi])).trans ((r_skip (σ₁ := σ) (by simp [es_nil, es_cons, es_assign, es_newcell, es_unpack, es_append, es_extend, es_insert, es_ite, es_ret, el_nil, el_cons, eb_nil, eb_cons, ev_const, ev_var, ev_bin, ev_neg, ev_nott, ev_bop, ev_cmp, ev_ite, ev_idx, ev_tup, ev_lst, ev_call, ev_prim, ev_isin, runF, bindArgsR, Rho.set, rd, rdAll, bi_add, bi_sub, bi_mod, bi_fdiv, cm_lt, cm_le, cm_gt, cm_ge, cm_eqi, cm_nei, cm_eqb, cm_neb, pi_bool, ix_t0, ix_t1, ix_t2, ix_l0, ix_l1, ix_l2, bo_or, bo_and, boolA, settle, leave, ownAll, own, h35, hi])).trans ((r_next (σ₁ := σ) ((r_true (σ₁ := σ) (by simp [es_nil, es_cons, es_assign, es_newcell, es_unpack, es_append, es_extend, es_insert, es_ite, es_ret, el_nil, el_cons, eb_nil, eb_cons, ev_const, ev_var, ev_bin, ev_neg, ev_nott, ev_bop, ev_cmp, ev_ite, ev_idx, ev_tup, ev_lst, ev_call, ev_prim, ev_isin, runF, bindArgsR, Rho.set, rd, rdAll, bi_add, bi_sub, bi_mod, bi_fdiv, cm_lt, cm_le, cm_gt, cm_ge, cm_eqi, cm_nei, cm_eqb, cm_neb, pi_bool, ix_t0, ix_t1, ix_t2, ix_l0, ix_l1, ix_l2, bo_or, bo_and, boolA, settle, leave, ownAll, own, h35, hi'])).trans ((r_assign (v := .dat (.tuple told)) (σ₁ := σ) (by simp [es_nil, es_cons, es_assign, es_newcell, es_unpack, es_append, es_extend, es_insert, es_ite, es_ret, el_nil, el_cons, eb_nil, eb_cons, ev_const, ev_var, ev_bin, ev_neg, ev_nott, ev_bop, ev_cmp, ev_ite, ev_idx, ev_tup, ev_lst, ev_call, ev_prim, ev_isin, runF, bindArgsR, Rho.set, rd, rdAll, bi_add, bi_sub, bi_mod, bi_fdiv, cm_lt, cm_le, cm_gt, cm_ge, cm_eqi, cm_nei, cm_eqb, cm_neb, pi_bool, ix_t0, ix_t1, ix_t2, ix_l0, ix_l1, ix_l2, bo_or, bo_and, boolA, settle, leave, ownAll, own, h18, h38, h5])).trans ((r_skip (σ₁ := σ) ?_).trans es_nil)))).trans es_nil))), rfl, rfl, rfl, rfl, rfl⟩
    have hpe : evE (tabAt tab5 N (k + 4)) (.prim .tuple [(.var 34)]) ((ρ.set 16 (.dat .none)).set 39 (.dat (.tuple told))) σ = some (.dat (.tuple told), σ) := by
      have h34' : ((ρ.set 16 (.dat .none)).set 39 (.dat (.tuple told))) 34 = some (.cell 1) := h34
      simp only [ev_prim, el_cons, el_nil, ev_var, h34', settle, rdAll, hrd, hpt]
    have h39 : ((ρ.set 16 (.dat .none)).set 39 (.dat (.tuple told))) 39 = some (.dat (.tuple told)) := rfl
    have e1 : evE (tabAt tab5 N (k + 4)) (.nott (.isin (.var 39) .tuple)) ((ρ.set 16 (.dat .none)).set 39 (.dat (.tuple told))) σ = some (.dat (.bool false), σ) := by simp only [ev_nott, ev_isin, ev_var, h39, rd, hit, boolA, Bool.not_true]
    have e2 : evE (tabAt tab5 N (k + 4)) (.cmp .NotEq (.var 39) (.prim .tuple [(.var 34)])) ((ρ.set 16 (.dat .none)).set 39 (.dat (.tuple told))) σ = some (.dat (.bool false), σ) := by simp only [ev_cmp, ev_var, h39, hpe, rd, hne]
    exact ev_or3 e1 e2 haw
  | some ys =>
    rw [ho] at s1 hns h35
    have hd : inD' (some ys) = inT ys := rfl
    rw [hd] at s1 hns h35
    have hi : cmpD .IsNot (inT ys) .none = some true := rfl
    have hi' : cmpD .Is (inT ys) .none = some false := rfl
    have hit : isinD .tuple (inT ys) = true := rfl
    have hmem : ys ∈ allIn rs := List.mem_of_find?_eq_some ho
    have haw := all_whole (N := N) (k := k + 3) (ρ := (ρ.set 16 (.dat (inT ys)))) (σ := σ) (x := 16) (y := 40) (fun x : Int => PyData.int x) ys (by have := all_mem hmem; omega) (fun a _ => ⟨a, rfl⟩) rfl
    refine ⟨ρ.set 16 (.dat (inT ys)), (s1 _).trans ((r_skip (σ₁ := σ) (by simp [es_nil, es_cons, es_assign, es_newcell, es_unpack, es_append, es_extend, es_insert, es_ite, es_ret, el_nil, el_cons, eb_nil, eb_cons, ev_const, ev_var, ev_bin, ev_neg, ev_nott, ev_bop, ev_cmp, ev_ite, ev_idx, ev_tup, ev_lst, ev_call, ev_prim, ev_isin, runF, bindArgsR, Rho.set, rd, rdAll, bi_add, bi_sub, bi_mod, bi_fdiv, cm_lt, cm_le, cm_gt, cm_ge, cm_eqi, cm_nei, cm_eqb, cm_neb, pi_bool, ix_t0, ix_t1, ix_t2, ix_l0, ix_l1, ix_l2, bo_or, bo_and, boolA, settle, leave, ownAll, own, h35, hns, hi, hit])).trans ((r_skip (σ₁ := σ) ?_).trans ((r_skip (σ₁ := σ) (by simp [es_nil, es_cons, es_assign, es_newcell, es_unpack, es_append, es_extend, es_insert, es_ite, es_ret, el_nil, el_cons, eb_nil, eb_cons, ev_const, ev_var, ev_bin, ev_neg, ev_nott, ev_bop, ev_cmp, ev_ite, ev_idx, ev_tup, ev_lst, ev_call, ev_prim, ev_isin, runF, bindArgsR, Rho.set, rd, rdAll, bi_add, bi_sub, bi_mod, bi_fdiv, cm_lt, cm_le, cm_gt, cm_ge, cm_eqi, cm_nei, cm_eqb, cm_neb, pi_bool, ix_t0, ix_t1, ix_t2, ix_l0, ix_l1, ix_l2, bo_or, bo_and, boolA, settle, leave, ownAll, own, h35, hi'])).trans es_nil))), rfl, rfl, rfl, rfl, rfl⟩
    have := ev_and2 (Φ := tabAt tab5 N (k + 4)) (ρ := ρ.set 16 (.dat (inT ys))) (σ := σ) (a := (.cmp .IsNot (.var 35) (.const .none))) (b := (.nott (.prim .all [(.comp (.call 8 [(.var 40)]) (.one 40) .seq [(.var 16)] [])]))) (p := true) (q := false) (by simp [es_nil, es_cons, es_assign, es_newcell, es_unpack, es_append, es_extend, es_insert, es_ite, es_ret, el_nil, el_cons, eb_nil, eb_cons, ev_const, ev_var, ev_bin, ev_neg, ev_nott, ev_bop, ev_cmp, ev_ite, ev_idx, ev_tup, ev_lst, ev_call, ev_prim, ev_isin, runF, bindArgsR, Rho.set, rd, rdAll, bi_add, bi_sub, bi_mod, bi_fdiv, cm_lt, cm_le, cm_gt, cm_ge, cm_eqi, cm_nei, cm_eqb, cm_neb, pi_bool, ix_t0, ix_t1, ix_t2, ix_l0, ix_l1, ix_l2, bo_or, bo_and, boolA, settle, leave, ownAll, own, h35, hi]) (fun _ => haw)
    exact this
theorem law5 (N k : Nat) (xs : List Int) (hx : xs.length ≤ 63) : tabAt tab5 N (k + 5) 15 [.dat (.list (xs.map .int))] [] = some (.ret (.dat (.bool true)), []) := by
  rw [tab_step (by rfl : tab5[15]? = some ([13], c_law))]
  have c0 : tabAt tab5 N (k + 4) 6 [.dat (.list (xs.map .int)), .dat (.int 0)] [] = some (.ret (.dat (.int (cellAt xs 0))), []) := s_cell_at N (k + 3) xs hx 0 (by decide) []
  obtain ⟨rs, hrl, hr, h9⟩ := s_ranges N (k + 2) (cellAt xs 0) []
  obtain ⟨qs, hql, hq, h14⟩ := s_asked N (k + 1) xs hx rs hrl []
  have hal := all_len hrl hr
  obtain ⟨ρ₁, σ₁, g1, ⟨p18, p31, p34, p35⟩, rfl⟩ := forGo_cnt (t := .one 29) (body := fun ρ' σ' => evSs N (tabAt tab5 N (k + 4)) lBody ρ' σ') (fun i ρ σ' => (ρ 18 = some (.dat (.tuple (rs.map pairD))) ∧ ρ 31 = some (.cell 0) ∧ ρ 34 = some (.cell 1) ∧ ρ 35 = some (.dat (inD' (((allIn rs).take i).find? fun xs => (fwN qs xs).isNone)))) ∧ σ' = [(.live, qs.map qD), (.live, ((allIn rs).take i).map fun xs => natD (fwN qs xs))])
    ((allIn rs).map inT) 0 (Rho.set (Rho.set (Rho.set (Rho.set (Rho.set (fun _ => none) 13 (.dat (.list (xs.map .int)))) 18 (.dat (.tuple (rs.map pairD)))) 31 (.cell 0)) 34 (.cell 1)) 35 (.dat .none)) [(.live, qs.map qD), (.live, [])] (fun j d hd ρ σ' hP => by
      obtain ⟨⟨p18, p31, p34, p35⟩, rfl⟩ := hP
      rw [Nat.zero_add] at p35 ⊢
      rw [List.getElem?_map] at hd
      cases hj : (allIn rs)[j]? with
      | none => rw [hj] at hd; cases hd
      | some ys =>
        rw [hj] at hd
        cases hd
        have hmem : ys ∈ allIn rs := List.mem_of_getElem? hj
        obtain ⟨ρ₂, q1, q2, q3, q4, q5⟩ := l_body N (k + 2) rs.length hrl qs hql hq ys (all_mem hmem) (((allIn rs).take j).map fun xs => natD (fwN qs xs)) (by rw [List.length_map, List.length_take]; omega) _ (Rho.set ρ 29 (.dat (inT ys))) p31 p34 p35 rfl
        have htk : (allIn rs).take (j + 1) = (allIn rs).take j ++ [ys] := by rw [List.take_add_one, hj]; rfl
        refine ⟨_, ρ₂, _, rfl, q1, ⟨q2.trans p18, q3.trans p31, q4.trans p34, ?_⟩, by rw [htk, List.map_append]; rfl⟩
        rw [q5, htk, List.find?_append]
        cases hf : (fwN qs ys).isNone <;> simp [hf]) ⟨⟨rfl, rfl, rfl, rfl⟩, rfl⟩
  rw [List.length_map, Nat.zero_add, List.take_length] at p35 g1
  have hex : ((allIn rs).find? fun xs => (fwN qs xs).isNone) = exN rs qs := rfl
  rw [hex] at p35
  obtain ⟨ρ₂, g2, ⟨p18', p31', p34', p35', p37⟩⟩ := forGo_inv (σ := [(.live, qs.map qD), (.live, (allIn rs).map fun xs => natD (fwN qs xs))]) (t := .one 38) (body := fun ρ' σ' => evSs N (tabAt tab5 N (k + 4)) tBody ρ' σ') (fun ρ => ρ 18 = some (.dat (.tuple (rs.map pairD))) ∧ ρ 31 = some (.cell 0) ∧ ρ 34 = some (.cell 1) ∧ ρ 35 = some (.dat (inD' (exN rs qs))) ∧ ρ 37 = some (.dat (.list (qs.map qD))))
    [qsD true qs, qsD false qs, qsD true qs] (Rho.set ρ₁ 37 (.dat (.list (qs.map qD)))) (fun d hd ρ hP => by
      obtain ⟨b, rfl⟩ : ∃ b, d = qsD b qs := by
        rcases List.mem_cons.mp hd with e | hd
        · exact ⟨_, e⟩
        rcases List.mem_cons.mp hd with e | hd
        · exact ⟨_, e⟩
        exact ⟨_, List.mem_singleton.mp hd⟩
      obtain ⟨a1, a2, a3, a4, a5⟩ := hP
      obtain ⟨ρ₂, b1, b2, b3, b4, b5, b6⟩ := t_body N k rs.length hrl rs hrl hr qs hql hq b (Rho.set ρ 38 (.dat (qsD b qs))) a1 a3 a4 rfl
      exact ⟨_, ρ₂, rfl, b1, b2.trans a1, b3.trans a2, b4.trans a3, b5.trans a4, b6.trans a5⟩) ⟨p18, p31, p34, p35, rfl⟩
  have hpk : primD .list [.list (qs.map qD)] = some (.fresh (qs.map qD)) := pk_list (le_lim (m := 7) (by simpa using hql) (by decide))
  have hpt : primD .tuple [.list (qs.map qD)] = some (.dat (.tuple (qs.map qD))) := pt_list (le_lim (m := 7) (by simpa using hql) (by decide))
  have hself := cm_eq_self (shaped_list qD (m := 3) (by decide) q_lay q_depth qs)
  have h11 := s_law_inputs N (k + 3) rs hrl hr [(.live, qs.map qD), (.live, [])]
  have hb : evSs N (tabAt tab5 N (k + 4)) c_law (Rho.set (fun _ => none) 13 (.dat (.list (xs.map .int)))) [] = some (.ret (.dat (.bool true)), [(.live, qs.map qD), (.live, (allIn rs).map fun xs => natD (fwN qs xs))]) := by
    refine (r_newdat (d := .tuple (rs.map pairD)) (σ₁ := []) (by simp [es_nil, es_cons, es_assign, es_newcell, es_unpack, es_append, es_extend, es_insert, es_ite, es_ret, el_nil, el_cons, eb_nil, eb_cons, ev_const, ev_var, ev_bin, ev_neg, ev_nott, ev_bop, ev_cmp, ev_ite, ev_idx, ev_tup, ev_lst, ev_call, ev_prim, ev_isin, runF, bindArgsR, Rho.set, rd, rdAll, bi_add, bi_sub, bi_mod, bi_fdiv, cm_lt, cm_le, cm_gt, cm_ge, cm_eqi, cm_nei, cm_eqb, cm_neb, pi_bool, ix_t0, ix_t1, ix_t2, ix_l0, ix_l1, ix_l2, bo_or, bo_and, boolA, settle, leave, ownAll, own, c0, h9])).trans ?_
    refine (r_newcell (ds := qs.map qD) (σ₁ := []) (by simp [es_nil, es_cons, es_assign, es_newcell, es_unpack, es_append, es_extend, es_insert, es_ite, es_ret, el_nil, el_cons, eb_nil, eb_cons, ev_const, ev_var, ev_bin, ev_neg, ev_nott, ev_bop, ev_cmp, ev_ite, ev_idx, ev_tup, ev_lst, ev_call, ev_prim, ev_isin, runF, bindArgsR, Rho.set, rd, rdAll, bi_add, bi_sub, bi_mod, bi_fdiv, cm_lt, cm_le, cm_gt, cm_ge, cm_eqi, cm_nei, cm_eqb, cm_neb, pi_bool, ix_t0, ix_t1, ix_t2, ix_l0, ix_l1, ix_l2, bo_or, bo_and, boolA, settle, leave, ownAll, own, h14])).trans ?_
    refine (r_newcell (ds := []) (σ₁ := [(.live, qs.map qD)]) (by simp [es_nil, es_cons, es_assign, es_newcell, es_unpack, es_append, es_extend, es_insert, es_ite, es_ret, el_nil, el_cons, eb_nil, eb_cons, ev_const, ev_var, ev_bin, ev_neg, ev_nott, ev_bop, ev_cmp, ev_ite, ev_idx, ev_tup, ev_lst, ev_call, ev_prim, ev_isin, runF, bindArgsR, Rho.set, rd, rdAll, bi_add, bi_sub, bi_mod, bi_fdiv, cm_lt, cm_le, cm_gt, cm_ge, cm_eqi, cm_nei, cm_eqb, cm_neb, pi_bool, ix_t0, ix_t1, ix_t2, ix_l0, ix_l1, ix_l2, bo_or, bo_and, boolA, settle, leave, ownAll, own])).trans ?_
    refine (r_assign (v := .dat .none) (σ₁ := [(.live, qs.map qD), (.live, [])]) (by simp [es_nil, es_cons, es_assign, es_newcell, es_unpack, es_append, es_extend, es_insert, es_ite, es_ret, el_nil, el_cons, eb_nil, eb_cons, ev_const, ev_var, ev_bin, ev_neg, ev_nott, ev_bop, ev_cmp, ev_ite, ev_idx, ev_tup, ev_lst, ev_call, ev_prim, ev_isin, runF, bindArgsR, Rho.set, rd, rdAll, bi_add, bi_sub, bi_mod, bi_fdiv, cm_lt, cm_le, cm_gt, cm_ge, cm_eqi, cm_nei, cm_eqb, cm_neb, pi_bool, ix_t0, ix_t1, ix_t2, ix_l0, ix_l1, ix_l2, bo_or, bo_and, boolA, settle, leave, ownAll, own])).trans ?_
    refine (r_forS (vs := [.dat (.list ((allIn rs).map inT))]) (ds := [.list ((allIn rs).map inT)]) (by simp [es_nil, es_cons, es_assign, es_newcell, es_unpack, es_append, es_extend, es_insert, es_ite, es_ret, el_nil, el_cons, eb_nil, eb_cons, ev_const, ev_var, ev_bin, ev_neg, ev_nott, ev_bop, ev_cmp, ev_ite, ev_idx, ev_tup, ev_lst, ev_call, ev_prim, ev_isin, runF, bindArgsR, Rho.set, rd, rdAll, bi_add, bi_sub, bi_mod, bi_fdiv, cm_lt, cm_le, cm_gt, cm_ge, cm_eqi, cm_nei, cm_eqb, cm_neb, pi_bool, ix_t0, ix_t1, ix_t2, ix_l0, ix_l1, ix_l2, bo_or, bo_and, boolA, settle, leave, ownAll, own]; simp [es_nil, es_cons, es_assign, es_newcell, es_unpack, es_append, es_extend, es_insert, es_ite, es_ret, el_nil, el_cons, eb_nil, eb_cons, ev_const, ev_var, ev_bin, ev_neg, ev_nott, ev_bop, ev_cmp, ev_ite, ev_idx, ev_tup, ev_lst, ev_call, ev_prim, ev_isin, runF, bindArgsR, Rho.set, rd, rdAll, bi_add, bi_sub, bi_mod, bi_fdiv, cm_lt, cm_le, cm_gt, cm_ge, cm_eqi, cm_nei, cm_eqb, cm_neb, pi_bool, ix_t0, ix_t1, ix_t2, ix_l0, ix_l1, ix_l2, bo_or, bo_and, boolA, settle, leave, ownAll, own, h11]) rfl rfl rfl g1).trans ?_
    refine (r_assign (v := .fresh (qs.map qD)) (σ₁ := [(.live, qs.map qD), (.live, (allIn rs).map fun xs => natD (fwN qs xs))]) (by simp [es_nil, es_cons, es_assign, es_newcell, es_unpack, es_append, es_extend, es_insert, es_ite, es_ret, el_nil, el_cons, eb_nil, eb_cons, ev_const, ev_var, ev_bin, ev_neg, ev_nott, ev_bop, ev_cmp, ev_ite, ev_idx, ev_tup, ev_lst, ev_call, ev_prim, ev_isin, runF, bindArgsR, Rho.set, rd, rdAll, bi_add, bi_sub, bi_mod, bi_fdiv, cm_lt, cm_le, cm_gt, cm_ge, cm_eqi, cm_nei, cm_eqb, cm_neb, pi_bool, ix_t0, ix_t1, ix_t2, ix_l0, ix_l1, ix_l2, bo_or, bo_and, boolA, settle, leave, ownAll, own, p31, hpk])).trans ?_
    refine (r_for (vs := [.dat (.tuple [qsD true qs, qsD false qs, qsD true qs])]) (ds := [.tuple [qsD true qs, qsD false qs, qsD true qs]]) (by simp [es_nil, es_cons, es_assign, es_newcell, es_unpack, es_append, es_extend, es_insert, es_ite, es_ret, el_nil, el_cons, eb_nil, eb_cons, ev_const, ev_var, ev_bin, ev_neg, ev_nott, ev_bop, ev_cmp, ev_ite, ev_idx, ev_tup, ev_lst, ev_call, ev_prim, ev_isin, runF, bindArgsR, Rho.set, rd, rdAll, bi_add, bi_sub, bi_mod, bi_fdiv, cm_lt, cm_le, cm_gt, cm_ge, cm_eqi, cm_nei, cm_eqb, cm_neb, pi_bool, ix_t0, ix_t1, ix_t2, ix_l0, ix_l1, ix_l2, bo_or, bo_and, boolA, settle, leave, ownAll, own, p31, hpt, qsD]) rfl rfl rfl g2).trans ?_
    exact r_ret (by simp [es_nil, es_cons, es_assign, es_newcell, es_unpack, es_append, es_extend, es_insert, es_ite, es_ret, el_nil, el_cons, eb_nil, eb_cons, ev_const, ev_var, ev_bin, ev_neg, ev_nott, ev_bop, ev_cmp, ev_ite, ev_idx, ev_tup, ev_lst, ev_call, ev_prim, ev_isin, runF, bindArgsR, Rho.set, rd, rdAll, bi_add, bi_sub, bi_mod, bi_fdiv, cm_lt, cm_le, cm_gt, cm_ge, cm_eqi, cm_nei, cm_eqb, cm_neb, pi_bool, ix_t0, ix_t1, ix_t2, ix_l0, ix_l1, ix_l2, bo_or, bo_and, boolA, settle, leave, ownAll, own, p37, p31', hself])
  simp only [runF, bindArgsR, hb, leave, List.length_nil, List.take_zero]
noncomputable def V5 : List Str := [("ranges" : Str), ("found" : Str), ("low" : Str), ("high" : Str), ("longer" : Str), ("ahead" : Str), ("number" : Str), ("one" : Str), ("inputs" : Str), ("factor" : Str), ("question" : Str), ("questions" : Str), ("place" : Str), ("_law_script" : Str), ("_law_k" : Str), ("_law_cell" : Str), ("_law_found" : Str), ("_law_many" : Str), ("_law_ranges_here" : Str), ("_law_more" : Str), ("_law_low" : Str), ("_law_wide" : Str), ("_law_sizes" : Str), ("_law_factors" : Str), ("_law_others" : Str), ("_law_const" : Str), ("_law_high" : Str), ("_law_ahead" : Str), ("_law_whole_here" : Str), ("_law_inputs_here" : Str), ("_law_question" : Str), ("_law_questions" : Str), ("_law_e" : Str), ("_law_truth" : Str), ("_law_broken" : Str), ("_law_first" : Str), ("_law_places" : Str), ("_law_handed" : Str), ("_law_some" : Str), ("_law_told" : Str), ("_law_number" : Str), ("_law_place" : Str)]
noncomputable def G5 : Cfg := { V := V5, fns := [("all_inputs", 19), ("comes_to", 24), ("holds", 31), ("first_wrong", 38), ("example", 45), ("table", 50), ("_law_cell_at", 57), ("_law_mixed", 64), ("_law_whole", 71), ("_law_ranges", 78), ("_law_expression", 83), ("_law_inputs", 112), ("_law_comes", 117), ("_law_holds", 124), ("_law_asked", 131), ("law", 136)], excs := [], consts := [], cells := ["longer", "_law_ranges_here", "_law_questions", "_law_broken"] }
end Mine
namespace Mine
noncomputable def top5.tw1005400413287126709 : Nat := 0
noncomputable def top5.tw10224180596797824409 : Nat := 0
noncomputable def top5.tw10756461730613971382 : Nat := 0
noncomputable def top5.tw10895574343833104701 : Nat := 0
noncomputable def top5.tw10896933684558022027 : Nat := 0
noncomputable def top5.tw10959685046838268952 : Nat := 0
noncomputable def top5.tw11024245669945820204 : Nat := 0
noncomputable def top5.tw11137997361174758815 : Nat := 0
noncomputable def top5.tw111398132509249911 : Nat := 0
noncomputable def top5.tw11274306929702257991 : Nat := 0
noncomputable def top5.tw11315677363742315422 : Nat := 0
noncomputable def top5.tw11521797901357626413 : Nat := 0
noncomputable def top5.tw11545309827541009316 : Nat := 0
noncomputable def top5.tw1154545329953267120 : Nat := 0
noncomputable def top5.tw11642755732230573360 : Nat := 0
noncomputable def top5.tw11684803189771877679 : Nat := 0
noncomputable def top5.tw11687801428215239874 : Nat := 0
noncomputable def top5.tw11876332000464166289 : Nat := 0
noncomputable def top5.tw11914516824303415792 : Nat := 0
noncomputable def top5.tw11967373146997540818 : Nat := 0
noncomputable def top5.tw1208358160258695640 : Nat := 0
noncomputable def top5.tw12096732285189649553 : Nat := 0
noncomputable def top5.tw12627007464843757567 : Nat := 0
noncomputable def top5.tw12737837460032461777 : Nat := 0
noncomputable def top5.tw13264468522620276912 : Nat := 0
noncomputable def top5.tw13315516860793806675 : Nat := 0
noncomputable def top5.tw13495939132923195763 : Nat := 0
noncomputable def top5.tw13708858262995171198 : Nat := 0
noncomputable def top5.tw1372306697480045441 : Nat := 0
noncomputable def top5.tw13786337731361037046 : Nat := 0
noncomputable def top5.tw14016417863311292446 : Nat := 0
noncomputable def top5.tw14202850686539009283 : Nat := 0
noncomputable def top5.tw14265203854334943794 : Nat := 0
noncomputable def top5.tw14435668148213543029 : Nat := 0
noncomputable def top5.tw14591915889926558926 : Nat := 0
noncomputable def top5.tw14676581684208159532 : Nat := 0
noncomputable def top5.tw14806084314671791961 : Nat := 0
noncomputable def top5.tw14861076816994453449 : Nat := 0
noncomputable def top5.tw14920631441694567932 : Nat := 0
noncomputable def top5.tw15011991072967992160 : Nat := 0
noncomputable def top5.tw15200071607553001942 : Nat := 0
noncomputable def top5.tw15211929490731517169 : Nat := 0
noncomputable def top5.tw15256521665874175830 : Nat := 0
noncomputable def top5.tw1535417413661494110 : Nat := 0
noncomputable def top5.tw15590446133832508783 : Nat := 0
noncomputable def top5.tw159655984566051761 : Nat := 0
noncomputable def top5.tw16013304425583321363 : Nat := 0
noncomputable def top5.tw16062955832551295405 : Nat := 0
noncomputable def top5.tw1640808578129219555 : Nat := 0
noncomputable def top5.tw16628344930479883467 : Nat := 0
noncomputable def top5.tw16742800440065327592 : Nat := 0
noncomputable def top5.tw17178850763980409950 : Nat := 0
noncomputable def top5.tw1719600553236602477 : Nat := 0
noncomputable def top5.tw17468764313189939022 : Nat := 0
noncomputable def top5.tw17820650364618401132 : Nat := 0
noncomputable def top5.tw17966511493752228823 : Nat := 0
noncomputable def top5.tw18021274083997351911 : Nat := 0
noncomputable def top5.tw18203343037161309329 : Nat := 0
noncomputable def top5.tw18311521429304280213 : Nat := 0
noncomputable def top5.tw234719201143062991 : Nat := 0
noncomputable def top5.tw2389770951506199624 : Nat := 0
noncomputable def top5.tw2448751394387573581 : Nat := 0
noncomputable def top5.tw2950156968789858527 : Nat := 0
noncomputable def top5.tw3127689081567436526 : Nat := 0
noncomputable def top5.tw3165019107363781454 : Nat := 0
noncomputable def top5.tw3182776331013491044 : Nat := 0
noncomputable def top5.tw3480115948104945370 : Nat := 0
noncomputable def top5.tw3507222637663889965 : Nat := 0
noncomputable def top5.tw3928033969284291697 : Nat := 0
noncomputable def top5.tw4027216874246024172 : Nat := 0
noncomputable def top5.tw4162854655826668852 : Nat := 0
noncomputable def top5.tw4207362547164181168 : Nat := 0
noncomputable def top5.tw4211876307873403422 : Nat := 0
noncomputable def top5.tw439311290294227965 : Nat := 0
noncomputable def top5.tw4546328630139343874 : Nat := 0
noncomputable def top5.tw4901971198430361670 : Nat := 0
noncomputable def top5.tw4977825315228906444 : Nat := 0
noncomputable def top5.tw5384949577345754616 : Nat := 0
noncomputable def top5.tw550568374789634059 : Nat := 0
noncomputable def top5.tw5518634984445118581 : Nat := 0
noncomputable def top5.tw552765845233960728 : Nat := 0
noncomputable def top5.tw5660086735934691865 : Nat := 0
noncomputable def top5.tw5757423949020774586 : Nat := 0
noncomputable def top5.tw5837863661490637696 : Nat := 0
noncomputable def top5.tw5963746267235462151 : Nat := 0
noncomputable def top5.tw6006995056577862455 : Nat := 0
noncomputable def top5.tw6023746865287931788 : Nat := 0
noncomputable def top5.tw6050622321418496634 : Nat := 0
noncomputable def top5.tw608408831778495591 : Nat := 0
noncomputable def top5.tw6105875443108576010 : Nat := 0
noncomputable def top5.tw6169637128323640919 : Nat := 0
noncomputable def top5.tw6184219837532118465 : Nat := 0
noncomputable def top5.tw6318631509870697877 : Nat := 0
noncomputable def top5.tw6348260742847495334 : Nat := 0
noncomputable def top5.tw6419934757726062556 : Nat := 0
noncomputable def top5.tw7065700389780762659 : Nat := 0
noncomputable def top5.tw7445327416705035231 : Nat := 0
noncomputable def top5.tw7575770511839337502 : Nat := 0
noncomputable def top5.tw7658646511756779655 : Nat := 0
noncomputable def top5.tw8040648057614304181 : Nat := 0
noncomputable def top5.tw8205036746432296365 : Nat := 0
noncomputable def top5.tw8235288436584906331 : Nat := 0
noncomputable def top5.tw8378975112535772325 : Nat := 0
noncomputable def top5.tw8561738740754147955 : Nat := 0
noncomputable def top5.tw8563088483891533835 : Nat := 0
noncomputable def top5.tw8618712805920343330 : Nat := 0
noncomputable def top5.tw873590148099986022 : Nat := 0
noncomputable def top5.tw8985828323786437254 : Nat := 0
noncomputable def top5.tw9229161488250170400 : Nat := 0
noncomputable def top5.tw9238693440793155502 : Nat := 0
noncomputable def top5.tw9289483510377677502 : Nat := 0
noncomputable def top5.tw9435251150779082439 : Nat := 0
noncomputable def top5.tw9571957682049163128 : Nat := 0
noncomputable def top5.tw9625344073926397688 : Nat := 0
noncomputable def top5.tw9680483823524294425 : Nat := 0
noncomputable def top5.tw975814052481110665 : Nat := 0
noncomputable def top5.tw9871471344028472340 : Nat := 0
noncomputable def top5.tw995204419146846889 : Nat := 0
noncomputable def top5.tw998714646590481323 : Nat := 0
end Mine
open PySem PySem.Calls PySem.W PyProof.Rows Mine in
set_option Elab.async true in
set_option maxHeartbeats 16000000 in
theorem Mine.top5 : PySem.Challenge.rw_uf010029_05.Holds := by
  w_on; o_law; k_head; (case hw => w_witness2)
  intro w s₀ s₁ mg mb G Y fa o pm cd doc dV kV ho hd hcd hD hmg hg args vals as hpre hlay hrd hwl hlo
  have KX := kIn_of Y
  have fn_all_inputs : FnIn (Mine.top5.heap_1_39 w.params) G5 "all_inputs" 19 [0] c_all_inputs := ⟨by kernel_rfl, _, _, _, _, _, _, _, ["ranges"], rfl, rfl, rfl, rfl, rfl, rfl, rfl, rfl, rfl, rfl, rfl, rfl, rfl, (fun vals h => by rcases vals with _ | ⟨a, _ | ⟨q, r⟩⟩ <;> first | rfl | (simp at h)), by kernel_rfl, by kernel_rfl, by kernel_rfl, by kernel_rfl⟩
  have fn_comes_to : FnIn (Mine.top5.heap_1_39 w.params) G5 "comes_to" 24 [7, 8] c_comes_to := ⟨by kernel_rfl, _, _, _, _, _, _, _, ["one", "inputs"], rfl, rfl, rfl, rfl, rfl, rfl, rfl, rfl, rfl, rfl, rfl, rfl, rfl, (fun vals h => by rcases vals with _ | ⟨a, _ | ⟨b, _ | ⟨q, r⟩⟩⟩ <;> first | rfl | (simp at h)), by kernel_rfl, by kernel_rfl, by kernel_rfl, by kernel_rfl⟩
  have fn_holds : FnIn (Mine.top5.heap_1_39 w.params) G5 "holds" 31 [10, 8] c_holds := ⟨by kernel_rfl, _, _, _, _, _, _, _, ["question", "inputs"], rfl, rfl, rfl, rfl, rfl, rfl, rfl, rfl, rfl, rfl, rfl, rfl, rfl, (fun vals h => by rcases vals with _ | ⟨a, _ | ⟨b, _ | ⟨q, r⟩⟩⟩ <;> first | rfl | (simp at h)), by kernel_rfl, by kernel_rfl, by kernel_rfl, by kernel_rfl⟩
  have fn_first_wrong : FnIn (Mine.top5.heap_1_39 w.params) G5 "first_wrong" 38 [11, 8] c_first_wrong := ⟨by kernel_rfl, _, _, _, _, _, _, _, ["questions", "inputs"], rfl, rfl, rfl, rfl, rfl, rfl, rfl, rfl, rfl, rfl, rfl, rfl, rfl, (fun vals h => by rcases vals with _ | ⟨a, _ | ⟨b, _ | ⟨q, r⟩⟩⟩ <;> first | rfl | (simp at h)), by kernel_rfl, by kernel_rfl, by kernel_rfl, by kernel_rfl⟩
  have fn_example : FnIn (Mine.top5.heap_1_39 w.params) G5 "example" 45 [0, 11] c_example := ⟨by kernel_rfl, _, _, _, _, _, _, _, ["ranges", "questions"], rfl, rfl, rfl, rfl, rfl, rfl, rfl, rfl, rfl, rfl, rfl, rfl, rfl, (fun vals h => by rcases vals with _ | ⟨a, _ | ⟨b, _ | ⟨q, r⟩⟩⟩ <;> first | rfl | (simp at h)), by kernel_rfl, by kernel_rfl, by kernel_rfl, by kernel_rfl⟩
  have fn_table : FnIn (Mine.top5.heap_1_39 w.params) G5 "table" 50 [0, 11] c_table := ⟨by kernel_rfl, _, _, _, _, _, _, _, ["ranges", "questions"], rfl, rfl, rfl, rfl, rfl, rfl, rfl, rfl, rfl, rfl, rfl, rfl, rfl, (fun vals h => by rcases vals with _ | ⟨a, _ | ⟨b, _ | ⟨q, r⟩⟩⟩ <;> first | rfl | (simp at h)), by kernel_rfl, by kernel_rfl, by kernel_rfl, by kernel_rfl⟩
  have fn__law_cell_at : FnIn (Mine.top5.heap_1_39 w.params) G5 "_law_cell_at" 57 [13, 14] c__law_cell_at := ⟨by kernel_rfl, _, _, _, _, _, _, _, ["_law_script", "_law_k"], rfl, rfl, rfl, rfl, rfl, rfl, rfl, rfl, rfl, rfl, rfl, rfl, rfl, (fun vals h => by rcases vals with _ | ⟨a, _ | ⟨b, _ | ⟨q, r⟩⟩⟩ <;> first | rfl | (simp at h)), by kernel_rfl, by kernel_rfl, by kernel_rfl, by kernel_rfl⟩
  have fn__law_mixed : FnIn (Mine.top5.heap_1_39 w.params) G5 "_law_mixed" 64 [15, 14] c__law_mixed := ⟨by kernel_rfl, _, _, _, _, _, _, _, ["_law_cell", "_law_k"], rfl, rfl, rfl, rfl, rfl, rfl, rfl, rfl, rfl, rfl, rfl, rfl, rfl, (fun vals h => by rcases vals with _ | ⟨a, _ | ⟨b, _ | ⟨q, r⟩⟩⟩ <;> first | rfl | (simp at h)), by kernel_rfl, by kernel_rfl, by kernel_rfl, by kernel_rfl⟩
  have fn__law_whole : FnIn (Mine.top5.heap_1_39 w.params) G5 "_law_whole" 71 [16] c__law_whole := ⟨by kernel_rfl, _, _, _, _, _, _, _, ["_law_found"], rfl, rfl, rfl, rfl, rfl, rfl, rfl, rfl, rfl, rfl, rfl, rfl, rfl, (fun vals h => by rcases vals with _ | ⟨a, _ | ⟨q, r⟩⟩ <;> first | rfl | (simp at h)), by kernel_rfl, by kernel_rfl, by kernel_rfl, by kernel_rfl⟩
  have fn__law_ranges : FnIn (Mine.top5.heap_1_39 w.params) G5 "_law_ranges" 78 [15] c__law_ranges := ⟨by kernel_rfl, _, _, _, _, _, _, _, ["_law_cell"], rfl, rfl, rfl, rfl, rfl, rfl, rfl, rfl, rfl, rfl, rfl, rfl, rfl, (fun vals h => by rcases vals with _ | ⟨a, _ | ⟨q, r⟩⟩ <;> first | rfl | (simp at h)), by kernel_rfl, by kernel_rfl, by kernel_rfl, by kernel_rfl⟩
  have fn__law_expression : FnIn (Mine.top5.heap_1_39 w.params) G5 "_law_expression" 83 [15, 22, 18] c__law_expression := ⟨by kernel_rfl, _, _, _, _, _, _, _, ["_law_cell", "_law_sizes", "_law_ranges_here"], rfl, rfl, rfl, rfl, rfl, rfl, rfl, rfl, rfl, rfl, rfl, rfl, rfl, (fun vals h => by rcases vals with _ | ⟨a, _ | ⟨b, _ | ⟨c, _ | ⟨q, r⟩⟩⟩⟩ <;> first | rfl | (simp at h)), by kernel_rfl, by kernel_rfl, by kernel_rfl, by kernel_rfl⟩
  have fn__law_inputs : FnIn (Mine.top5.heap_1_39 w.params) G5 "_law_inputs" 112 [18] c__law_inputs := ⟨by kernel_rfl, _, _, _, _, _, _, _, ["_law_ranges_here"], rfl, rfl, rfl, rfl, rfl, rfl, rfl, rfl, rfl, rfl, rfl, rfl, rfl, (fun vals h => by rcases vals with _ | ⟨a, _ | ⟨q, r⟩⟩ <;> first | rfl | (simp at h)), by kernel_rfl, by kernel_rfl, by kernel_rfl, by kernel_rfl⟩
  have fn__law_comes : FnIn (Mine.top5.heap_1_39 w.params) G5 "_law_comes" 117 [28, 29] c__law_comes := ⟨by kernel_rfl, _, _, _, _, _, _, _, ["_law_whole_here", "_law_inputs_here"], rfl, rfl, rfl, rfl, rfl, rfl, rfl, rfl, rfl, rfl, rfl, rfl, rfl, (fun vals h => by rcases vals with _ | ⟨a, _ | ⟨b, _ | ⟨q, r⟩⟩⟩ <;> first | rfl | (simp at h)), by kernel_rfl, by kernel_rfl, by kernel_rfl, by kernel_rfl⟩
  have fn__law_holds : FnIn (Mine.top5.heap_1_39 w.params) G5 "_law_holds" 124 [30, 29] c__law_holds := ⟨by kernel_rfl, _, _, _, _, _, _, _, ["_law_question", "_law_inputs_here"], rfl, rfl, rfl, rfl, rfl, rfl, rfl, rfl, rfl, rfl, rfl, rfl, rfl, (fun vals h => by rcases vals with _ | ⟨a, _ | ⟨b, _ | ⟨q, r⟩⟩⟩ <;> first | rfl | (simp at h)), by kernel_rfl, by kernel_rfl, by kernel_rfl, by kernel_rfl⟩
  have fn__law_asked : FnIn (Mine.top5.heap_1_39 w.params) G5 "_law_asked" 131 [13, 18] c__law_asked := ⟨by kernel_rfl, _, _, _, _, _, _, _, ["_law_script", "_law_ranges_here"], rfl, rfl, rfl, rfl, rfl, rfl, rfl, rfl, rfl, rfl, rfl, rfl, rfl, (fun vals h => by rcases vals with _ | ⟨a, _ | ⟨b, _ | ⟨q, r⟩⟩⟩ <;> first | rfl | (simp at h)), by kernel_rfl, by kernel_rfl, by kernel_rfl, by kernel_rfl⟩
  have fn_law : FnIn (Mine.top5.heap_1_39 w.params) G5 "law" 136 [13] c_law := ⟨by kernel_rfl, _, _, _, _, _, _, _, ["_law_script"], rfl, rfl, rfl, rfl, rfl, rfl, rfl, rfl, rfl, rfl, rfl, rfl, rfl, (fun vals h => by rcases vals with _ | ⟨a, _ | ⟨q, r⟩⟩ <;> first | rfl | (simp at h)), by kernel_rfl, by kernel_rfl, by kernel_rfl, by kernel_rfl⟩
  have Tfn : ∀ (k : Nat) f a, G5.fns[k]? = some (f, a) → ∃ is cs, tab5[k]? = some (is, cs) ∧ FnIn (Mine.top5.heap_1_39 w.params) G5 f a is cs := by
    intro k f a e
    match k, e with
    | 0, e => cases e; exact ⟨_, _, rfl, fn_all_inputs⟩
    | 1, e => cases e; exact ⟨_, _, rfl, fn_comes_to⟩
    | 2, e => cases e; exact ⟨_, _, rfl, fn_holds⟩
    | 3, e => cases e; exact ⟨_, _, rfl, fn_first_wrong⟩
    | 4, e => cases e; exact ⟨_, _, rfl, fn_example⟩
    | 5, e => cases e; exact ⟨_, _, rfl, fn_table⟩
    | 6, e => cases e; exact ⟨_, _, rfl, fn__law_cell_at⟩
    | 7, e => cases e; exact ⟨_, _, rfl, fn__law_mixed⟩
    | 8, e => cases e; exact ⟨_, _, rfl, fn__law_whole⟩
    | 9, e => cases e; exact ⟨_, _, rfl, fn__law_ranges⟩
    | 10, e => cases e; exact ⟨_, _, rfl, fn__law_expression⟩
    | 11, e => cases e; exact ⟨_, _, rfl, fn__law_inputs⟩
    | 12, e => cases e; exact ⟨_, _, rfl, fn__law_comes⟩
    | 13, e => cases e; exact ⟨_, _, rfl, fn__law_holds⟩
    | 14, e => cases e; exact ⟨_, _, rfl, fn__law_asked⟩
    | 15, e => cases e; exact ⟨_, _, rfl, fn_law⟩
    | k + 16, e => simp [G5] at e
  have Tblt : ∀ f v, (f, v) ∈ bltL → nsIn (Mine.top5.heap_1_39 w.params) mainGlobals f = some none ∧ bootBuiltins f = some v ∧ f ≠ "__name__" := by
    intro f v h
    simp only [bltL, List.mem_cons, List.not_mem_nil, or_false, Prod.mk.injEq] at h
    rcases h with ⟨rfl, rfl⟩ | ⟨rfl, rfl⟩ | ⟨rfl, rfl⟩ | ⟨rfl, rfl⟩ | ⟨rfl, rfl⟩ | ⟨rfl, rfl⟩ | ⟨rfl, rfl⟩ | ⟨rfl, rfl⟩ | ⟨rfl, rfl⟩ | ⟨rfl, rfl⟩ | ⟨rfl, rfl⟩ | ⟨rfl, rfl⟩ | ⟨rfl, rfl⟩ <;> exact ⟨by kernel_rfl, by decide +kernel, by decide +kernel⟩
  have T : TabIn (Mine.top5.heap_1_39 w.params) G5 tab5 := ⟨Tfn, Tblt, fun x d e => by cases e⟩
  obtain ⟨is, rfl, hlen⟩ := Mine.law_args rfl rfl hpre
  obtain ⟨l, vs, rfl, hl, hv⟩ := Mine.well_list hwl
  have hfa : fa = 136 := by
    have e := hmg.symm.trans (mg_of KX G.T.g fn_law.glob)
    cases e
    rfl
  subst hfa
  exact Mine.run_law (ec := fun _ => 0) (N := 0) (k := 5) (f := 15) KX G.T.g G.T.b G.T.builtins G.T.nolimit T (fun x c e => by cases e) (by decide) rfl hl hv (Mine.law5 0 0 is hlen) fun h' tk hk => Mine.law_good hg hk
theorem PySem.Challenge.cw_uf010029_05_holds : PySem.Challenge.rw_uf010029_05.Holds :=
  Mine.top5
