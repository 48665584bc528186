import PyProof.Rows.All
import Wide.All
import OpenK.AllK
import Wide.FinOn
import PySem.Challenge.RW_uf010029_03
set_option Elab.async false
set_option maxRecDepth 100000
set_option linter.unusedSimpArgs false
set_option linter.unusedVariables false
set_option genSizeOf false
set_option genSizeOfSpec false
namespace Mine
open PySem
inductive AV where
  | dat (d : PyData)
  | fresh (ds : List PyData)
  | cell (i : Nat)
  | exc (c : Nat)
inductive Flag where
  | live | locked | frozen
  deriving DecidableEq
abbrev Store := List (Flag × List PyData)
abbrev Rho := Nat → Option AV
noncomputable def Rho.set (ρ : Rho) (i : Nat) (v : AV) : Rho := fun j => if j = i then some v else ρ j
inductive Ty where
  | int | bool | tuple | list | str
  deriving DecidableEq
inductive Prim where
  | len | all | any | sum | tuple | list | int | max | join
  deriving DecidableEq
inductive Tgt where
  | one (i : Nat)
  | many (is : List Nat)
inductive ItK where
  | seq | range1 | range2 | zip
  deriving DecidableEq
inductive CE where
  | const (d : PyData)
  | var (i : Nat)
  | bin (op : Operator) (a b : CE)
  | neg (a : CE)
  | nott (a : CE)
  | bop (op : BoolOp) (es : List CE)
  | cmp (op : CmpOp) (a b : CE)
  | cmp2 (o1 o2 : CmpOp) (a b c : CE)
  | ite (c a b : CE)
  | idx (a i : CE)
  | slice (a lo hi : CE)
  | rev (a : CE)
  | tup (es : List CE)
  | lst (es : List CE)
  | call (f : Nat) (es : List CE)
  | prim (p : Prim) (es : List CE)
  | isin (e : CE) (t : Ty)
  | isexc (e : CE) (cs : List Nat)
  | pop (x : Nat)
  | pop0 (x : Nat)
  | comp (elt : CE) (t : Tgt) (k : ItK) (its : List CE) (ifs : List CE)
inductive CS where
  | assign (i : Nat) (e : CE)
  | newcell (i : Nat) (e : CE)
  | unpack (is : List Nat) (e : CE)
  | setItem (x : Nat) (i e : CE)
  | expr (e : CE)
  | append (x : Nat) (e : CE)
  | extend (x : Nat) (e : CE)
  | insert (x : Nat) (i e : CE)
  | ite (c : CE) (a b : List CS)
  | whil (c : CE) (body : List CS)
  | forr (t : Tgt) (k : ItK) (its : List CE) (body : List CS)
  | ret (e : CE)
  | raise (c : Nat)
  | tryy (wr : Bool) (f : Nat) (es : List CE) (x : Nat) (h : List CS)
noncomputable def rd (σ : Store) : AV → Option PyData
  | .dat d => some d
  | .fresh ds => some (.list ds)
  | .cell i => σ[i]?.bind fun p => some (.list p.2)
  | .exc _ => none
noncomputable def settle : AV → AV
  | .fresh ds => .dat (.list ds)
  | .dat d => .dat d
  | .cell i => .cell i
  | .exc c => .exc c
noncomputable def liveAt (σ : Store) (i : Nat) : Option (List PyData) := match σ[i]? with
  | some (.live, ds) => some ds
  | _ => none
noncomputable def own (σ : Store) : AV → Option (PyData × Store)
  | .dat d => some (d, σ)
  | .fresh ds => some (.list ds, σ)
  | .cell i => match σ[i]? with
    | some (.live, ds) => some (.list ds, σ.set i (.frozen, ds))
    | some (.frozen, ds) => some (.list ds, σ)
    | _ => none
  | .exc _ => none
noncomputable def ownAll : List AV → Store → Option (List PyData × Store)
  | [], σ => some ([], σ)
  | v :: vs, σ => (own σ v).bind fun p => (ownAll vs p.2).bind fun q => some (p.1 :: q.1, q.2)
noncomputable def lim : Nat := 16777216
noncomputable def mulOk (a b : Int) : Bool := decide (a.natAbs < 2 ^ 64) || decide (b.natAbs < 2 ^ 64) || (decide (a.natAbs < 2 ^ 30000) && decide (b.natAbs < 2 ^ 30000))
noncomputable def listD : PyData → Option (List PyData)
  | .list xs => some xs
  | _ => none
noncomputable def strD : PyData → Option Str
  | .str x => some x
  | _ => none
noncomputable def intD : PyData → Option Int
  | .int x => some x
  | _ => none
noncomputable def boolD : PyData → Option Bool
  | .bool b => some b
  | _ => none
noncomputable def tupD : PyData → Option (List PyData)
  | .tuple ds => some ds
  | _ => none
noncomputable def intOp (f : Int → Int → Option AV) (x y : PyData) : Option AV := (intD x).bind fun a => (intD y).bind fun b => f a b
noncomputable def addD (x y : PyData) : Option AV := match x with
  | .int a => (intD y).bind fun b => some (.dat (.int (a + b)))
  | .tuple xs => (tupD y).bind fun ys => if xs.length + ys.length ≤ lim then some (.dat (.tuple (xs ++ ys))) else none
  | .list xs => (listD y).bind fun ys => if xs.length + ys.length ≤ lim then some (.fresh (xs ++ ys)) else none
  | .str _ => none
  | _ => none
noncomputable def mulD (x y : PyData) : Option AV := match x with
  | .int a => (intD y).bind fun b => if mulOk a b then some (.dat (.int (a * b))) else none
  | .tuple xs => (intD y).bind fun n => if n.natAbs * xs.length ≤ 65536 ∧ n.natAbs ≤ 65536 then some (.dat (.tuple ((List.replicate n.toNat xs).flatten))) else none
  | .list xs => (intD y).bind fun n => if n.natAbs * xs.length ≤ 65536 ∧ n.natAbs ≤ 65536 then some (.fresh ((List.replicate n.toNat xs).flatten)) else none
  | .str _ => none
  | _ => none
noncomputable def binD (op : Operator) (a b : PyData) : Option AV := match op with
  | .Add => addD a b
  | .Sub => intOp (fun a b => some (.dat (.int (a - b)))) a b
  | .Mult => mulD a b
  | .FloorDiv => intOp (fun a b => if b ≠ 0 ∧ b.natAbs < 1073741824 then some (.dat (.int (a.fdiv b))) else none) a b
  | .Mod => intOp (fun a b => if b ≠ 0 then some (.dat (.int (a.fmod b))) else none) a b
  | .Pow => intOp (fun a b => if 0 ≤ b ∧ b ≤ 1000000 ∧ a.natAbs < 2 ^ 64 then some (.dat (.int (a ^ b.toNat))) else none) a b
  | _ => none
noncomputable def intCmp (f : Int → Int → Bool) (x y : PyData) : Option Bool := (intD x).bind fun a => (intD y).bind fun b => some (f a b)
noncomputable def noneD : PyData → Bool
  | .none => true
  | _ => false
noncomputable def inD (x y : PyData) : Option Bool := (strD x).bind fun s => match y with
  | .tuple ys => if SeqAt.shaped (.tuple ys) && SeqAt.shaped (.str s) then some (ys.any fun y => PyData.eqv y (.str s)) else none
  | .str z => some (!(Builtin.Str.occurrences z s 0 z.length 1).isEmpty)
  | _ => none
noncomputable def cmpD (op : CmpOp) (a b : PyData) : Option Bool := match op with
  | .Eq => if SeqAt.shaped a && SeqAt.shaped b then some (PyData.eqv a b) else none
  | .NotEq => if SeqAt.shaped a && SeqAt.shaped b then some (!PyData.eqv a b) else none
  | .Lt => intCmp (fun a b => decide (a < b)) a b
  | .LtE => intCmp (fun a b => decide (a ≤ b)) a b
  | .Gt => intCmp (fun a b => decide (b < a)) a b
  | .GtE => intCmp (fun a b => decide (b ≤ a)) a b
  | .Is => none
  | .IsNot => none
  | .In => inD a b
  | _ => none
noncomputable def atD (x : PyData) (i : Nat) : Option PyData := match x with
  | .tuple xs => xs[i]?
  | .list xs => xs[i]?
  | .str x => x.cps[i]?.bind fun c => some (.str ⟨#[c]⟩)
  | _ => none
noncomputable def idxD (x y : PyData) : Option PyData := (intD y).bind fun i => if 0 ≤ i ∧ i.toNat < 4611686018427387904 then atD x i.toNat else none
noncomputable def partD : PyData → Option (Option Nat)
  | .none => some none
  | .int i => if 0 ≤ i ∧ i.toNat < 4611686018427387904 then some (some i.toNat) else none
  | _ => none
noncomputable def cutL (xs : List PyData) (lo hi : Option Nat) : List PyData :=
  (xs.take (hi.getD xs.length)).drop (lo.getD 0)
noncomputable def sliceD (x lo hi : PyData) : Option AV := (partD lo).bind fun l => (partD hi).bind fun h => match x with
  | .tuple xs => if xs.length ≤ lim then some (.dat (.tuple (cutL xs l h))) else none
  | .list xs => if xs.length ≤ lim then some (.fresh (cutL xs l h)) else none
  | _ => none
noncomputable def revD : PyData → Option AV
  | .tuple xs => if xs.length ≤ lim then some (.dat (.tuple xs.reverse)) else none
  | _ => none
noncomputable def seqD : PyData → Option (List PyData)
  | .tuple xs => some xs
  | .list xs => some xs
  | _ => none
noncomputable def boolsD : List PyData → Option (List Bool)
  | [] => some []
  | d :: r => (boolD d).bind fun b => (boolsD r).bind fun bs => some (b :: bs)
noncomputable def intsD : List PyData → Option (List Int)
  | [] => some []
  | d :: r => (intD d).bind fun b => (intsD r).bind fun bs => some (b :: bs)
noncomputable def strsD : List PyData → Option (List Str)
  | [] => some []
  | d :: r => (strD d).bind fun b => (strsD r).bind fun bs => some (b :: bs)
noncomputable def lenD : PyData → Option AV
  | .tuple xs => if xs.length ≤ lim then some (.dat (.int xs.length)) else none
  | .list xs => if xs.length ≤ lim then some (.dat (.int xs.length)) else none
  | .str x => if x.length ≤ lim then some (.dat (.int x.length)) else none
  | _ => none
noncomputable def one : List PyData → Option PyData
  | [d] => some d
  | _ => none
noncomputable def two : List PyData → Option (PyData × PyData)
  | [d, e] => some (d, e)
  | _ => none
noncomputable def joinD (x : Str) (ss : List Str) : Option AV := if (ss.map (·.length)).sum + ss.length * x.length ≤ 16777216 then some (.dat (.str (Str.join x ss))) else none
noncomputable def primD (p : Prim) (ds : List PyData) : Option AV := match p with
  | .len => (one ds).bind lenD
  | .all => (one ds).bind fun d => (listD d).bind fun xs => (boolsD xs).bind fun bs => some (.dat (.bool (bs.all id)))
  | .any => none
  | .sum => (one ds).bind fun d => (listD d).bind fun xs => (intsD xs).bind fun is => some (.dat (.int is.sum))
  | .tuple => (one ds).bind fun d => (seqD d).bind fun xs => if xs.length ≤ lim then some (.dat (.tuple xs)) else none
  | .list => (one ds).bind fun d => (seqD d).bind fun xs => if xs.length ≤ lim then some (.fresh xs) else none
  | .int => (one ds).bind fun d => (boolD d).bind fun b => some (.dat (.int (if b then 1 else 0)))
  | .max => none
  | .join => (two ds).bind fun p => (strD p.1).bind fun x => (listD p.2).bind fun ys => (strsD ys).bind fun ss => joinD x ss
noncomputable def isinD : Ty → PyData → Bool
  | .int, .int _ => true
  | .int, .bool _ => true
  | .bool, .bool _ => true
  | .tuple, .tuple _ => true
  | .list, .list _ => true
  | .str, .str _ => true
  | _, _ => false
noncomputable def datA : AV → Option PyData
  | .dat d => some d
  | _ => none
noncomputable def boolA (v : AV) : Option Bool := (datA v).bind boolD
noncomputable def intA (v : AV) : Option Int := (datA v).bind intD
noncomputable def tupA (v : AV) : Option (List PyData) := (datA v).bind tupD
noncomputable def cellA : AV → Option Nat
  | .cell i => some i
  | _ => none
noncomputable def excA : AV → Option Nat
  | .exc c => some c
  | _ => none
noncomputable def rangeL (a b : Int) : List PyData := (List.range (b - a).toNat).map fun (k : Nat) => .int (a + (k : Int))
noncomputable def charsD (x : Str) : List PyData := x.cps.toList.map fun c => .str ⟨#[c]⟩
noncomputable def iterD : PyData → Option (List PyData)
  | .str x => if x.cps.all (· < 128) = true then some (charsD x) else none
  | d => seqD d
noncomputable def itemsD (k : ItK) (ds : List PyData) : Option (List PyData) := match k with
  | .seq => (one ds).bind iterD
  | .range1 => (one ds).bind fun d => (intD d).bind fun b => if b.toNat < 1048576 then some (rangeL 0 b) else none
  | .range2 => (two ds).bind fun p => (intD p.1).bind fun a => (intD p.2).bind fun b => if (b - a).toNat < 1048576 then some (rangeL a b) else none
  | .zip => (two ds).bind fun p => (seqD p.1).bind fun xs => (seqD p.2).bind fun ys => some ((xs.zip ys).map fun p => .tuple [p.1, p.2])
noncomputable def liveOf (σ : Store) : List AV → List Nat
  | [] => []
  | .cell i :: r => (match σ[i]? with | some (.live, _) => [i] | _ => []) ++ liveOf σ r
  | _ :: r => liveOf σ r
noncomputable def flagAll (f : Flag) : List Nat → Store → Store
  | [], σ => σ
  | i :: r, σ => flagAll f r (match σ[i]? with | some p => σ.set i (f, p.2) | none => σ)
noncomputable def rdAll (σ : Store) : List AV → Option (List PyData)
  | [] => some []
  | v :: vs => (rd σ v).bind fun d => (rdAll σ vs).bind fun ds => some (d :: ds)
noncomputable def bindMany : List Nat → List PyData → Rho → Option Rho
  | [], [], ρ => some ρ
  | i :: is, d :: ds, ρ => bindMany is ds (ρ.set i (.dat d))
  | _, _, _ => none
noncomputable def bindT (t : Tgt) (d : PyData) (ρ : Rho) : Option Rho := match t with
  | .one i => some (ρ.set i (.dat d))
  | .many is => (tupD d).bind fun ds => bindMany is ds ρ
noncomputable def compGo (elt : Rho → Store → Option (AV × Store)) (tests : Rho → Store → Option (Bool × Store)) (t : Tgt) (ρ : Rho) : List PyData → Store → Option (List PyData × Store)
  | [], σ => some ([], σ)
  | d :: ds, σ => (bindT t d ρ).bind fun ρ' => (tests ρ' σ).bind fun p =>
    if p.1 = true then (elt ρ' p.2).bind fun q => (own q.2 (settle q.1)).bind fun r => (compGo elt tests t ρ ds r.2).bind fun z => some (r.1 :: z.1, z.2)
    else compGo elt tests t ρ ds p.2
inductive CR where
  | ret (v : AV)
  | exc (c : Nat)
noncomputable def retC : CR → Option AV
  | .ret v => some v
  | _ => none
abbrev Phi := Nat → List AV → Store → Option (CR × Store)
noncomputable def excSub (c d : Nat) : Bool := c == d || d == 0 || d == 99
noncomputable def cellIn (ρ : Rho) (x : Nat) : Option Nat := (ρ x).bind cellA
mutual
noncomputable def evE (Φ : Phi) : CE → Rho → Store → Option (AV × Store)
  | .const d, _, σ => some (.dat d, σ)
  | .var i, ρ, σ => (ρ i).bind fun v => some (v, σ)
  | .bin op a b, ρ, σ => (evE Φ a ρ σ).bind fun p => (evE Φ b ρ p.2).bind fun q => (rd q.2 p.1).bind fun dx => (rd q.2 q.1).bind fun dy => (binD op dx dy).bind fun r => some (r, q.2)
  | .neg a, ρ, σ => (evE Φ a ρ σ).bind fun p => (intA p.1).bind fun i => some (.dat (.int (-i)), p.2)
  | .nott a, ρ, σ => (evE Φ a ρ σ).bind fun p => (boolA p.1).bind fun b => some (.dat (.bool (!b)), p.2)
  | .bop op es, ρ, σ => (evB Φ op es ρ σ).bind fun p => some (.dat (.bool p.1), p.2)
  | .cmp op a b, ρ, σ => (evE Φ a ρ σ).bind fun p => (evE Φ b ρ p.2).bind fun q => (rd q.2 p.1).bind fun dx => (rd q.2 q.1).bind fun dy => (cmpD op dx dy).bind fun r => some (.dat (.bool r), q.2)
  | .cmp2 o1 o2 a b c, ρ, σ => (evE Φ a ρ σ).bind fun p => (evE Φ b ρ p.2).bind fun q => (rd q.2 p.1).bind fun dx => (rd q.2 q.1).bind fun dy => (cmpD o1 dx dy).bind fun r =>
    if r = true then (evE Φ c ρ q.2).bind fun t => (rd t.2 q.1).bind fun dy' => (rd t.2 t.1).bind fun dz => (cmpD o2 dy' dz).bind fun r => some (.dat (.bool r), t.2)
    else some (.dat (.bool false), q.2)
  | .ite c a b, ρ, σ => (evE Φ c ρ σ).bind fun p => (boolA p.1).bind fun t => if t = true then evE Φ a ρ p.2 else evE Φ b ρ p.2
  | .idx a i, ρ, σ => (evE Φ a ρ σ).bind fun p => (evE Φ i ρ p.2).bind fun q => (rd q.2 p.1).bind fun dx => (rd q.2 q.1).bind fun dy => (idxD dx dy).bind fun r => some (.dat r, q.2)
  | .slice a lo hi, ρ, σ => (evE Φ a ρ σ).bind fun p => (evE Φ lo ρ p.2).bind fun l => (evE Φ hi ρ l.2).bind fun u => (rd u.2 p.1).bind fun dx => (rd u.2 l.1).bind fun dl => (rd u.2 u.1).bind fun du => (sliceD dx dl du).bind fun r => some (r, u.2)
  | .rev a, ρ, σ => (evE Φ a ρ σ).bind fun p => (rd p.2 p.1).bind fun dx => (revD dx).bind fun r => some (r, p.2)
  | .tup es, ρ, σ => (evEs Φ es ρ σ).bind fun p => (ownAll p.1 p.2).bind fun q => some (.dat (.tuple q.1), q.2)
  | .lst es, ρ, σ => (evEs Φ es ρ σ).bind fun p => (ownAll p.1 p.2).bind fun q => some (.fresh q.1, q.2)
  | .call f es, ρ, σ => (evEs Φ es ρ σ).bind fun p => (Φ f p.1 p.2).bind fun r => (retC r.1).bind fun v => some (v, r.2)
  | .prim k es, ρ, σ => (evEs Φ es ρ σ).bind fun p => (rdAll p.2 p.1).bind fun ds => (primD k ds).bind fun r => some (r, p.2)
  | .isin e t, ρ, σ => (evE Φ e ρ σ).bind fun p => (rd p.2 p.1).bind fun d => some (.dat (.bool (isinD t d)), p.2)
  | .isexc e cs, ρ, σ => (evE Φ e ρ σ).bind fun p => (excA p.1).bind fun c => if c < 5 then some (.dat (.bool (cs.any (excSub c))), p.2) else none
  | .pop x, ρ, σ => (cellIn ρ x).bind fun i => (liveAt σ i).bind fun ds => if ds.length ≤ lim then ds.getLast?.bind fun d => some (.dat d, σ.set i (.live, ds.dropLast)) else none
  | .pop0 x, ρ, σ => (cellIn ρ x).bind fun i => (liveAt σ i).bind fun ds => if ds.length ≤ lim then ds.head?.bind fun d => some (.dat d, σ.set i (.live, ds.tail)) else none
  | .comp elt t k its ifs, ρ, σ => (evEs Φ its ρ σ).bind fun p => (rdAll p.2 p.1).bind fun ds => (itemsD k ds).bind fun xs =>
    if xs.length ≤ lim then (compGo (fun ρ' σ' => evE Φ elt ρ' σ') (fun ρ' σ' => evB Φ .And ifs ρ' σ') t ρ xs (flagAll .locked (liveOf p.2 p.1) p.2)).bind fun r => some (.fresh r.1, flagAll .live (liveOf p.2 p.1) r.2) else none
noncomputable def evB (Φ : Phi) : BoolOp → List CE → Rho → Store → Option (Bool × Store)
  | op, [], _, σ => some (op == .And, σ)
  | op, e :: es, ρ, σ => (evE Φ e ρ σ).bind fun p => (boolA p.1).bind fun b => if (b == (op == .And)) = true then evB Φ op es ρ p.2 else some (b, p.2)
noncomputable def evEs (Φ : Phi) : List CE → Rho → Store → Option (List AV × Store)
  | [], _, σ => some ([], σ)
  | e :: es, ρ, σ => (evE Φ e ρ σ).bind fun p => (evEs Φ es ρ p.2).bind fun q => some (settle p.1 :: q.1, q.2)
end
inductive Fl where
  | next (ρ : Rho)
  | ret (v : AV)
  | exc (c : Nat)
noncomputable def Fl.on (k : Rho → Store → Option (Fl × Store)) : Fl × Store → Option (Fl × Store)
  | (.next ρ, σ) => k ρ σ
  | (.ret v, σ) => some (.ret v, σ)
  | (.exc c, σ) => some (.exc c, σ)
noncomputable def retF : Fl → Option AV
  | .ret v => some v
  | _ => none
noncomputable def tryC (wr : Bool) (ρ : Rho) (k : Nat → Store → Option (Fl × Store)) : CR × Store → Option (Fl × Store)
  | (.ret v, σ) => if wr = true then (own σ (settle v)).bind fun q => some (.ret (.fresh [q.1]), q.2) else some (.next ρ, σ)
  | (.exc c, σ) => if c < 5 then (k c σ).bind fun q => (retF q.1).bind fun v => some (.ret v, q.2) else none
noncomputable def flC (ρ : Rho) : CR → Fl
  | .ret _ => .next ρ
  | .exc c => .exc c
noncomputable def newc (i : Nat) (ρ : Rho) (σ : Store) : AV → Fl × Store
  | .fresh ds => (.next (ρ.set i (.cell σ.length)), σ ++ [(.live, ds)])
  | .dat d => (.next (ρ.set i (.dat d)), σ)
  | .cell j => (.next (ρ.set i (.cell j)), σ)
  | .exc c => (.next (ρ.set i (.exc c)), σ)
noncomputable def forGo (t : Tgt) (body : Rho → Store → Option (Fl × Store)) : List PyData → Rho → Store → Option (Fl × Store)
  | [], ρ, σ => some (.next ρ, σ)
  | d :: ds, ρ, σ => (bindT t d ρ).bind fun ρ₁ => (body ρ₁ σ).bind (Fl.on fun ρ₂ σ₂ => forGo t body ds ρ₂ σ₂)
noncomputable def whileGo (test : Rho → Store → Option (AV × Store)) (body : Rho → Store → Option (Fl × Store)) : Nat → Rho → Store → Option (Fl × Store)
  | 0, _, _ => none
  | n + 1, ρ, σ => (test ρ σ).bind fun p => (boolA p.1).bind fun b => if b = true then (body ρ p.2).bind (Fl.on fun ρ₂ σ₂ => whileGo test body n ρ₂ σ₂) else some (.next ρ, p.2)
noncomputable def callOf : CE → Option (Nat × List CE)
  | .call f es => some (f, es)
  | _ => none
mutual
noncomputable def evS (N : Nat) (Φ : Phi) : CS → Rho → Store → Option (Fl × Store)
  | .assign i e, ρ, σ => (evE Φ e ρ σ).bind fun p => some (.next (ρ.set i (settle p.1)), p.2)
  | .newcell i e, ρ, σ => (evE Φ e ρ σ).bind fun p => some (newc i ρ p.2 p.1)
  | .unpack is e, ρ, σ => (evE Φ e ρ σ).bind fun p => (tupA p.1).bind fun ds => (bindMany is ds ρ).bind fun ρ' => some (.next ρ', p.2)
  | .setItem x i e, ρ, σ => (cellIn ρ x).bind fun c => (evE Φ e ρ σ).bind fun p => (own p.2 (settle p.1)).bind fun q => (evE Φ i ρ q.2).bind fun r => (intA r.1).bind fun k => (liveAt r.2 c).bind fun ds =>
    if 0 ≤ k ∧ k.toNat < ds.length ∧ ds.length ≤ lim then some (.next ρ, r.2.set c (.live, ds.set k.toNat q.1)) else none
  | .expr e, ρ, σ => (callOf e).bind fun f => (evEs Φ f.2 ρ σ).bind fun p => (Φ f.1 p.1 p.2).bind fun r => some (flC ρ r.1, r.2)
  | .append x e, ρ, σ => (cellIn ρ x).bind fun c => (evE Φ e ρ σ).bind fun p => (own p.2 (settle p.1)).bind fun q => (liveAt q.2 c).bind fun ds => if ds.length < lim then some (.next ρ, q.2.set c (.live, ds ++ [q.1])) else none
  | .extend x e, ρ, σ => (cellIn ρ x).bind fun c => (evE Φ e ρ σ).bind fun p => (rd p.2 (settle p.1)).bind fun d => (listD d).bind fun es => (liveAt p.2 c).bind fun ds => if ds.length + es.length ≤ lim then some (.next ρ, p.2.set c (.live, ds ++ es)) else none
  | .insert x i e, ρ, σ => (cellIn ρ x).bind fun c => (evE Φ i ρ σ).bind fun r => (intA r.1).bind fun k => (evE Φ e ρ r.2).bind fun p => (own p.2 (settle p.1)).bind fun q => (liveAt q.2 c).bind fun ds =>
    if 0 ≤ k ∧ k.toNat ≤ ds.length ∧ ds.length < lim then some (.next ρ, q.2.set c (.live, ds.take k.toNat ++ q.1 :: ds.drop k.toNat)) else none
  | .ite c a b, ρ, σ => (evE Φ c ρ σ).bind fun p => (boolA p.1).bind fun t => if t = true then evSs N Φ a ρ p.2 else evSs N Φ b ρ p.2
  | .whil c body, ρ, σ => whileGo (fun ρ' σ' => evE Φ c ρ' σ') (fun ρ' σ' => evSs N Φ body ρ' σ') N ρ σ
  | .forr t k its body, ρ, σ => (evEs Φ its ρ σ).bind fun p => (rdAll p.2 p.1).bind fun ds => (itemsD k ds).bind fun xs =>
    (forGo t (fun ρ' σ' => evSs N Φ body ρ' σ') xs ρ (flagAll .locked (liveOf p.2 p.1) p.2)).bind fun r => some (r.1, flagAll .live (liveOf p.2 p.1) r.2)
  | .ret e, ρ, σ => (evE Φ e ρ σ).bind fun p => some (.ret p.1, p.2)
  | .raise c, _, σ => some (.exc c, σ)
  | .tryy wr f es x h, ρ, σ => (evEs Φ es ρ σ).bind fun p => (Φ f p.1 p.2).bind (tryC wr ρ fun c σ₂ => evSs N Φ h (ρ.set x (.exc c)) σ₂)
noncomputable def evSs (N : Nat) (Φ : Phi) : List CS → Rho → Store → Option (Fl × Store)
  | [], ρ, σ => some (.next ρ, σ)
  | c :: cs, ρ, σ => (evS N Φ c ρ σ).bind (Fl.on fun ρ₁ σ₁ => evSs N Φ cs ρ₁ σ₁)
end
noncomputable def leaveC : Flag × List PyData → Option AV
  | (.live, ds) => some (.fresh ds)
  | (.frozen, ds) => some (.dat (.list ds))
  | _ => none
noncomputable def leave (n : Nat) (σ : Store) : AV → Option AV
  | .cell i => if i < n then some (.cell i) else σ[i]?.bind leaveC
  | .exc _ => none
  | .dat d => some (.dat d)
  | .fresh ds => some (.fresh ds)
noncomputable def bindArgsR : List Nat → List AV → Rho → Option Rho
  | [], [], ρ => some ρ
  | i :: is, v :: vs, ρ => bindArgsR is vs (ρ.set i v)
  | [], _ :: _, _ => none
  | _ :: _, [], _ => none
noncomputable def endF (n : Nat) : Fl × Store → Option (CR × Store)
  | (.next _, σ) => some (.ret (.dat .none), σ.take n)
  | (.ret v, σ) => (leave n σ v).bind fun r => some (.ret r, σ.take n)
  | (.exc c, σ) => some (.exc c, σ.take n)
noncomputable def runF (N : Nat) (Φ : Phi) (params : List Nat) (body : List CS) (args : List AV) (σ : Store) : Option (CR × Store) :=
  (bindArgsR params args (fun _ => none)).bind fun ρ => (evSs N Φ body ρ σ).bind (endF σ.length)
noncomputable def tabAt (tab : List (List Nat × List CS)) (N : Nat) : Nat → Phi
  | 0 => fun _ _ _ => none
  | k + 1 => fun f args σ => tab[f]?.bind fun p => runF N (tabAt tab N k) p.1 p.2 args σ
theorem ob {α β : Type} {o : Option α} {f : α → Option β} {b : β} {P : Prop} (h : o.bind f = some b) (k : ∀ a, o = some a → f a = some b → P) : P :=
  (Option.bind_eq_some_iff.mp h).elim fun a q => k a q.1 q.2
theorem og {α : Type} {c : Prop} [Decidable c] {o : Option α} {b : α} {P : Prop} (h : (if c then o else none) = some b) (k : c → o = some b → P) : P := by
  by_cases q : c
  · rw [if_pos q] at h; exact k q h
  · rw [if_neg q] at h; cases h
theorem os {α : Type} {a c : α} {P : α → Prop} (h : some a = some c) (k : P a) : P c := by cases h; exact k
theorem ox {α β : Type} {a c : α} {b d : β} {P : α → β → Prop} (h : some (a, b) = some (c, d)) (k : P a b) : P c d := by cases h; exact k
theorem nsm {α : Type} {a : α} {P : Prop} (h : (none : Option α) = some a) : P := by cases h
theorem bft {P : Prop} (h : false = true) : P := by cases h
theorem ba {a b : Bool} {P : Prop} (h : (a && b) = true) (k : a = true → b = true → P) : P := by cases a <;> cases b <;> first | exact k rfl rfl | cases h
theorem bnd {α β : Type} {o : Option α} {f : α → Option β} {b : β} (h : o.bind f = some b) : ∃ a, o = some a ∧ f a = some b := Option.bind_eq_some_iff.mp h
theorem gd {α : Type} {c : Prop} [Decidable c] {o : Option α} {b : α} (h : (if c then o else none) = some b) : c ∧ o = some b := by
  by_cases q : c
  · rw [if_pos q] at h; exact ⟨q, h⟩
  · rw [if_neg q] at h; cases h
theorem pr {α β : Type} {a c : α} {b d : β} (h : some (a, b) = some (c, d)) : a = c ∧ b = d := Prod.mk.inj (Option.some.inj h)
theorem datA_eq {v : AV} {d : PyData} (h : datA v = some d) : v = .dat d := by cases v <;> cases h; rfl
theorem boolD_eq {v : PyData} {d : Bool} (h : boolD v = some d) : v = .bool d := by cases v <;> cases h; rfl
theorem intD_eq {v : PyData} {d : Int} (h : intD v = some d) : v = .int d := by cases v <;> cases h; rfl
theorem strD_eq {v : PyData} {d : Str} (h : strD v = some d) : v = .str d := by cases v <;> cases h; rfl
theorem listD_eq {v : PyData} {d : List PyData} (h : listD v = some d) : v = .list d := by cases v <;> cases h; rfl
theorem tupD_eq {v : PyData} {d : List PyData} (h : tupD v = some d) : v = .tuple d := by cases v <;> cases h; rfl
theorem boolA_eq {v : AV} {b : Bool} (h : boolA v = some b) : v = .dat (.bool b) := by
  obtain ⟨d, e, q⟩ := bnd h
  rw [datA_eq e, boolD_eq q]
theorem intA_eq {v : AV} {b : Int} (h : intA v = some b) : v = .dat (.int b) := by
  obtain ⟨d, e, q⟩ := bnd h
  rw [datA_eq e, intD_eq q]
theorem tupA_eq {v : AV} {b : List PyData} (h : tupA v = some b) : v = .dat (.tuple b) := by
  obtain ⟨d, e, q⟩ := bnd h
  rw [datA_eq e, tupD_eq q]
theorem cellA_eq {v : AV} {b : Nat} (h : cellA v = some b) : v = .cell b := by cases v <;> cases h; rfl
theorem excA_eq {v : AV} {b : Nat} (h : excA v = some b) : v = .exc b := by cases v <;> cases h; rfl
theorem retC_eq {v : CR} {b : AV} (h : retC v = some b) : v = .ret b := by cases v <;> cases h; rfl
theorem cellIn_eq {ρ : Rho} {x c : Nat} (h : cellIn ρ x = some c) : ρ x = some (.cell c) := by
  obtain ⟨v, e, q⟩ := bnd h
  rw [e, cellA_eq q]
theorem liveAt_eq {σ : Store} {i : Nat} {ds : List PyData} (h : liveAt σ i = some ds) : σ[i]? = some (.live, ds) := by
  unfold liveAt at h
  cases e : σ[i]? with
  | none => rw [e] at h; cases h
  | some p =>
    obtain ⟨f, es⟩ := p
    rw [e] at h
    cases f <;> cases h
    rfl
theorem one_eq {ds : List PyData} {d : PyData} (h : one ds = some d) : ds = [d] := by
  rcases ds with _ | ⟨a, _ | ⟨b, r⟩⟩ <;> cases h
  rfl
theorem two_eq {ds : List PyData} {p : PyData × PyData} (h : two ds = some p) : ds = [p.1, p.2] := by
  rcases ds with _ | ⟨a, _ | ⟨b, _ | ⟨c, r⟩⟩⟩ <;> cases h
  rfl
theorem ev_const {Φ : Phi} {ρ : Rho} {σ : Store} (d : PyData) : evE Φ (.const d) ρ σ = some (.dat d, σ) := rfl
theorem ev_var {Φ : Phi} {ρ : Rho} {σ : Store} (i : Nat) : evE Φ (.var i) ρ σ = (ρ i).bind fun v => some (v, σ) := rfl
theorem ev_bin {Φ : Phi} {ρ : Rho} {σ : Store} (op : Operator) (a b : CE) : evE Φ (.bin op a b) ρ σ = (evE Φ a ρ σ).bind fun p => (evE Φ b ρ p.2).bind fun q => (rd q.2 p.1).bind fun dx => (rd q.2 q.1).bind fun dy => (binD op dx dy).bind fun r => some (r, q.2) := rfl
theorem ev_neg {Φ : Phi} {ρ : Rho} {σ : Store} (a : CE) : evE Φ (.neg a) ρ σ = (evE Φ a ρ σ).bind fun p => (intA p.1).bind fun i => some (.dat (.int (-i)), p.2) := rfl
theorem ev_nott {Φ : Phi} {ρ : Rho} {σ : Store} (a : CE) : evE Φ (.nott a) ρ σ = (evE Φ a ρ σ).bind fun p => (boolA p.1).bind fun b => some (.dat (.bool (!b)), p.2) := rfl
theorem ev_bop {Φ : Phi} {ρ : Rho} {σ : Store} (op : BoolOp) (es : List CE) : evE Φ (.bop op es) ρ σ = (evB Φ op es ρ σ).bind fun p => some (.dat (.bool p.1), p.2) := rfl
theorem ev_cmp {Φ : Phi} {ρ : Rho} {σ : Store} (op : CmpOp) (a b : CE) : evE Φ (.cmp op a b) ρ σ = (evE Φ a ρ σ).bind fun p => (evE Φ b ρ p.2).bind fun q => (rd q.2 p.1).bind fun dx => (rd q.2 q.1).bind fun dy => (cmpD op dx dy).bind fun r => some (.dat (.bool r), q.2) := rfl
theorem ev_cmp2 {Φ : Phi} {ρ : Rho} {σ : Store} (o1 o2 : CmpOp) (a b c : CE) : evE Φ (.cmp2 o1 o2 a b c) ρ σ = (evE Φ a ρ σ).bind fun p => (evE Φ b ρ p.2).bind fun q => (rd q.2 p.1).bind fun dx => (rd q.2 q.1).bind fun dy => (cmpD o1 dx dy).bind fun r =>
    if r = true then (evE Φ c ρ q.2).bind fun t => (rd t.2 q.1).bind fun dy' => (rd t.2 t.1).bind fun dz => (cmpD o2 dy' dz).bind fun r => some (.dat (.bool r), t.2)
    else some (.dat (.bool false), q.2) := rfl
theorem ev_ite {Φ : Phi} {ρ : Rho} {σ : Store} (c a b : CE) : evE Φ (.ite c a b) ρ σ = (evE Φ c ρ σ).bind fun p => (boolA p.1).bind fun t => if t = true then evE Φ a ρ p.2 else evE Φ b ρ p.2 := rfl
theorem ev_idx {Φ : Phi} {ρ : Rho} {σ : Store} (a i : CE) : evE Φ (.idx a i) ρ σ = (evE Φ a ρ σ).bind fun p => (evE Φ i ρ p.2).bind fun q => (rd q.2 p.1).bind fun dx => (rd q.2 q.1).bind fun dy => (idxD dx dy).bind fun r => some (.dat r, q.2) := rfl
theorem ev_slice {Φ : Phi} {ρ : Rho} {σ : Store} (a lo hi : CE) : evE Φ (.slice a lo hi) ρ σ = (evE Φ a ρ σ).bind fun p => (evE Φ lo ρ p.2).bind fun l => (evE Φ hi ρ l.2).bind fun u => (rd u.2 p.1).bind fun dx => (rd u.2 l.1).bind fun dl => (rd u.2 u.1).bind fun du => (sliceD dx dl du).bind fun r => some (r, u.2) := rfl
theorem ev_rev {Φ : Phi} {ρ : Rho} {σ : Store} (a : CE) : evE Φ (.rev a) ρ σ = (evE Φ a ρ σ).bind fun p => (rd p.2 p.1).bind fun dx => (revD dx).bind fun r => some (r, p.2) := rfl
theorem ev_tup {Φ : Phi} {ρ : Rho} {σ : Store} (es : List CE) : evE Φ (.tup es) ρ σ = (evEs Φ es ρ σ).bind fun p => (ownAll p.1 p.2).bind fun q => some (.dat (.tuple q.1), q.2) := rfl
theorem ev_lst {Φ : Phi} {ρ : Rho} {σ : Store} (es : List CE) : evE Φ (.lst es) ρ σ = (evEs Φ es ρ σ).bind fun p => (ownAll p.1 p.2).bind fun q => some (.fresh q.1, q.2) := rfl
theorem ev_call {Φ : Phi} {ρ : Rho} {σ : Store} (f : Nat) (es : List CE) : evE Φ (.call f es) ρ σ = (evEs Φ es ρ σ).bind fun p => (Φ f p.1 p.2).bind fun r => (retC r.1).bind fun v => some (v, r.2) := rfl
theorem ev_prim {Φ : Phi} {ρ : Rho} {σ : Store} (k : Prim) (es : List CE) : evE Φ (.prim k es) ρ σ = (evEs Φ es ρ σ).bind fun p => (rdAll p.2 p.1).bind fun ds => (primD k ds).bind fun r => some (r, p.2) := rfl
theorem ev_isin {Φ : Phi} {ρ : Rho} {σ : Store} (e : CE) (t : Ty) : evE Φ (.isin e t) ρ σ = (evE Φ e ρ σ).bind fun p => (rd p.2 p.1).bind fun d => some (.dat (.bool (isinD t d)), p.2) := rfl
theorem ev_pop {Φ : Phi} {ρ : Rho} {σ : Store} (x : Nat) : evE Φ (.pop x) ρ σ = (cellIn ρ x).bind fun i => (liveAt σ i).bind fun ds => if ds.length ≤ lim then ds.getLast?.bind fun d => some (.dat d, σ.set i (.live, ds.dropLast)) else none := rfl
theorem ev_pop0 {Φ : Phi} {ρ : Rho} {σ : Store} (x : Nat) : evE Φ (.pop0 x) ρ σ = (cellIn ρ x).bind fun i => (liveAt σ i).bind fun ds => if ds.length ≤ lim then ds.head?.bind fun d => some (.dat d, σ.set i (.live, ds.tail)) else none := rfl
theorem ev_comp {Φ : Phi} {ρ : Rho} {σ : Store} (elt : CE) (t : Tgt) (k : ItK) (its ifs : List CE) : evE Φ (.comp elt t k its ifs) ρ σ = (evEs Φ its ρ σ).bind fun p => (rdAll p.2 p.1).bind fun ds => (itemsD k ds).bind fun xs =>
    if xs.length ≤ lim then (compGo (fun ρ' σ' => evE Φ elt ρ' σ') (fun ρ' σ' => evB Φ .And ifs ρ' σ') t ρ xs (flagAll .locked (liveOf p.2 p.1) p.2)).bind fun r => some (.fresh r.1, flagAll .live (liveOf p.2 p.1) r.2) else none := rfl
theorem eb_nil {Φ : Phi} {ρ : Rho} {σ : Store} (op : BoolOp) : evB Φ op [] ρ σ = some (op == .And, σ) := rfl
theorem eb_cons {Φ : Phi} {ρ : Rho} {σ : Store} (op : BoolOp) (e : CE) (es : List CE) : evB Φ op (e :: es) ρ σ = (evE Φ e ρ σ).bind fun p => (boolA p.1).bind fun b => if (b == (op == .And)) = true then evB Φ op es ρ p.2 else some (b, p.2) := rfl
theorem el_nil {Φ : Phi} {ρ : Rho} {σ : Store} : evEs Φ [] ρ σ = some ([], σ) := rfl
theorem el_cons {Φ : Phi} {ρ : Rho} {σ : Store} (e : CE) (es : List CE) : evEs Φ (e :: es) ρ σ = (evE Φ e ρ σ).bind fun p => (evEs Φ es ρ p.2).bind fun q => some (settle p.1 :: q.1, q.2) := rfl
theorem es_assign {N : Nat} {Φ : Phi} {ρ : Rho} {σ : Store} (i : Nat) (e : CE) : evS N Φ (.assign i e) ρ σ = (evE Φ e ρ σ).bind fun p => some (.next (ρ.set i (settle p.1)), p.2) := rfl
theorem es_newcell {N : Nat} {Φ : Phi} {ρ : Rho} {σ : Store} (i : Nat) (e : CE) : evS N Φ (.newcell i e) ρ σ = (evE Φ e ρ σ).bind fun p => some (newc i ρ p.2 p.1) := rfl
theorem es_unpack {N : Nat} {Φ : Phi} {ρ : Rho} {σ : Store} (is : List Nat) (e : CE) : evS N Φ (.unpack is e) ρ σ = (evE Φ e ρ σ).bind fun p => (tupA p.1).bind fun ds => (bindMany is ds ρ).bind fun ρ' => some (.next ρ', p.2) := rfl
theorem es_setItem {N : Nat} {Φ : Phi} {ρ : Rho} {σ : Store} (x : Nat) (i e : CE) : evS N Φ (.setItem x i e) ρ σ = (cellIn ρ x).bind fun c => (evE Φ e ρ σ).bind fun p => (own p.2 (settle p.1)).bind fun q => (evE Φ i ρ q.2).bind fun r => (intA r.1).bind fun k => (liveAt r.2 c).bind fun ds =>
    if 0 ≤ k ∧ k.toNat < ds.length ∧ ds.length ≤ lim then some (.next ρ, r.2.set c (.live, ds.set k.toNat q.1)) else none := rfl
theorem es_expr {N : Nat} {Φ : Phi} {ρ : Rho} {σ : Store} (e : CE) : evS N Φ (.expr e) ρ σ = (callOf e).bind fun f => (evEs Φ f.2 ρ σ).bind fun p => (Φ f.1 p.1 p.2).bind fun r => some (flC ρ r.1, r.2) := rfl
theorem es_append {N : Nat} {Φ : Phi} {ρ : Rho} {σ : Store} (x : Nat) (e : CE) : evS N Φ (.append x e) ρ σ = (cellIn ρ x).bind fun c => (evE Φ e ρ σ).bind fun p => (own p.2 (settle p.1)).bind fun q => (liveAt q.2 c).bind fun ds => if ds.length < lim then some (.next ρ, q.2.set c (.live, ds ++ [q.1])) else none := rfl
theorem es_extend {N : Nat} {Φ : Phi} {ρ : Rho} {σ : Store} (x : Nat) (e : CE) : evS N Φ (.extend x e) ρ σ = (cellIn ρ x).bind fun c => (evE Φ e ρ σ).bind fun p => (rd p.2 (settle p.1)).bind fun d => (listD d).bind fun es => (liveAt p.2 c).bind fun ds => if ds.length + es.length ≤ lim then some (.next ρ, p.2.set c (.live, ds ++ es)) else none := rfl
theorem es_insert {N : Nat} {Φ : Phi} {ρ : Rho} {σ : Store} (x : Nat) (i e : CE) : evS N Φ (.insert x i e) ρ σ = (cellIn ρ x).bind fun c => (evE Φ i ρ σ).bind fun r => (intA r.1).bind fun k => (evE Φ e ρ r.2).bind fun p => (own p.2 (settle p.1)).bind fun q => (liveAt q.2 c).bind fun ds =>
    if 0 ≤ k ∧ k.toNat ≤ ds.length ∧ ds.length < lim then some (.next ρ, q.2.set c (.live, ds.take k.toNat ++ q.1 :: ds.drop k.toNat)) else none := rfl
theorem es_ite {N : Nat} {Φ : Phi} {ρ : Rho} {σ : Store} (c : CE) (a b : List CS) : evS N Φ (.ite c a b) ρ σ = (evE Φ c ρ σ).bind fun p => (boolA p.1).bind fun t => if t = true then evSs N Φ a ρ p.2 else evSs N Φ b ρ p.2 := rfl
theorem es_whil {N : Nat} {Φ : Phi} {ρ : Rho} {σ : Store} (c : CE) (body : List CS) : evS N Φ (.whil c body) ρ σ = whileGo (fun ρ' σ' => evE Φ c ρ' σ') (fun ρ' σ' => evSs N Φ body ρ' σ') N ρ σ := rfl
theorem es_forr {N : Nat} {Φ : Phi} {ρ : Rho} {σ : Store} (t : Tgt) (k : ItK) (its : List CE) (body : List CS) : evS N Φ (.forr t k its body) ρ σ = (evEs Φ its ρ σ).bind fun p => (rdAll p.2 p.1).bind fun ds => (itemsD k ds).bind fun xs =>
    (forGo t (fun ρ' σ' => evSs N Φ body ρ' σ') xs ρ (flagAll .locked (liveOf p.2 p.1) p.2)).bind fun r => some (r.1, flagAll .live (liveOf p.2 p.1) r.2) := rfl
theorem es_ret {N : Nat} {Φ : Phi} {ρ : Rho} {σ : Store} (e : CE) : evS N Φ (.ret e) ρ σ = (evE Φ e ρ σ).bind fun p => some (.ret p.1, p.2) := rfl
theorem es_tryy {N : Nat} {Φ : Phi} {ρ : Rho} {σ : Store} (wr : Bool) (f : Nat) (es : List CE) (x : Nat) (h : List CS) : evS N Φ (.tryy wr f es x h) ρ σ = (evEs Φ es ρ σ).bind fun p => (Φ f p.1 p.2).bind (tryC wr ρ fun c σ₂ => evSs N Φ h (ρ.set x (.exc c)) σ₂) := rfl
theorem es_nil {N : Nat} {Φ : Phi} {ρ : Rho} {σ : Store} : evSs N Φ [] ρ σ = some (.next ρ, σ) := rfl
theorem es_cons {N : Nat} {Φ : Phi} {ρ : Rho} {σ : Store} (c : CS) (cs : List CS) : evSs N Φ (c :: cs) ρ σ = (evS N Φ c ρ σ).bind (Fl.on fun ρ₁ σ₁ => evSs N Φ cs ρ₁ σ₁) := rfl
theorem int_of {β : Type} {o : Option (AV × β)} {p : AV × β} {i : Int} (h : o = some p) (h' : intA p.1 = some i) : o = some (.dat (.int i), p.2) := by rw [h, ← intA_eq h']
theorem bool_of {β : Type} {o : Option (AV × β)} {p : AV × β} {i : Bool} (h : o = some p) (h' : boolA p.1 = some i) : o = some (.dat (.bool i), p.2) := by rw [h, ← boolA_eq h']
theorem tup_of {β : Type} {o : Option (AV × β)} {p : AV × β} {i : List PyData} (h : o = some p) (h' : tupA p.1 = some i) : o = some (.dat (.tuple i), p.2) := by rw [h, ← tupA_eq h']
section
variable {N : Nat} {Φ : Phi} {ρ : Rho} {σ σ' : Store} {av : AV} {fl : Fl} {R : Prop}
theorem i_var {i : Nat} (q : evE Φ (.var i) ρ σ = some (av, σ')) : ρ i = some av ∧ σ' = σ :=
  ob q fun v h q => by cases q; exact ⟨h, rfl⟩
theorem i_bin {op : Operator} {a b : CE} (q : evE Φ (.bin op a b) ρ σ = some (av, σ')) (k : ∀ x σ₁ y dx dy, evE Φ a ρ σ = some (x, σ₁) → evE Φ b ρ σ₁ = some (y, σ') → rd σ' x = some dx → rd σ' y = some dy → binD op dx dy = some av → R) : R :=
  ob q fun x h1 q => ob q fun y h2 q => ob q fun dx h3 q => ob q fun dy h4 q => ob q fun r h5 q => by cases q; exact k x.1 x.2 y.1 dx dy h1 h2 h3 h4 h5
theorem i_neg {a : CE} (q : evE Φ (.neg a) ρ σ = some (av, σ')) (k : ∀ i, evE Φ a ρ σ = some (.dat (.int i), σ') → av = .dat (.int (-i)) → R) : R :=
  ob q fun x h1 q => ob q fun i h2 q => by cases q; exact k i (int_of h1 h2) rfl
theorem i_nott {a : CE} (q : evE Φ (.nott a) ρ σ = some (av, σ')) (k : ∀ b, evE Φ a ρ σ = some (.dat (.bool b), σ') → av = .dat (.bool (!b)) → R) : R :=
  ob q fun x h1 q => ob q fun i h2 q => by cases q; exact k i (bool_of h1 h2) rfl
theorem i_bop {op : BoolOp} {es : List CE} (q : evE Φ (.bop op es) ρ σ = some (av, σ')) (k : ∀ b, evB Φ op es ρ σ = some (b, σ') → av = .dat (.bool b) → R) : R :=
  ob q fun x h1 q => by cases q; exact k x.1 h1 rfl
theorem i_cmp {op : CmpOp} {a b : CE} (q : evE Φ (.cmp op a b) ρ σ = some (av, σ')) (k : ∀ x σ₁ y dx dy r, evE Φ a ρ σ = some (x, σ₁) → evE Φ b ρ σ₁ = some (y, σ') → rd σ' x = some dx → rd σ' y = some dy → cmpD op dx dy = some r → av = .dat (.bool r) → R) : R :=
  ob q fun x h1 q => ob q fun y h2 q => ob q fun dx h3 q => ob q fun dy h4 q => ob q fun r h5 q => by cases q; exact k x.1 x.2 y.1 dx dy r h1 h2 h3 h4 h5 rfl
theorem i_cmp2 {o1 o2 : CmpOp} {a b c : CE} (q : evE Φ (.cmp2 o1 o2 a b c) ρ σ = some (av, σ')) (k : ∀ x σ₁ y σ₂ dx dy r, evE Φ a ρ σ = some (x, σ₁) → evE Φ b ρ σ₁ = some (y, σ₂) → rd σ₂ x = some dx → rd σ₂ y = some dy → cmpD o1 dx dy = some r →
    (if r = true then (evE Φ c ρ σ₂).bind fun t => (rd t.2 y).bind fun dy' => (rd t.2 t.1).bind fun dz => (cmpD o2 dy' dz).bind fun r => some (.dat (.bool r), t.2) else some (.dat (.bool false), σ₂)) = some (av, σ') → R) : R :=
  ob q fun x h1 q => ob q fun y h2 q => ob q fun dx h3 q => ob q fun dy h4 q => ob q fun r h5 q => k x.1 x.2 y.1 y.2 dx dy r h1 h2 h3 h4 h5 q
theorem i_ite {c a b : CE} (q : evE Φ (.ite c a b) ρ σ = some (av, σ')) (k : ∀ t σ₁, evE Φ c ρ σ = some (.dat (.bool t), σ₁) → (if t = true then evE Φ a ρ σ₁ else evE Φ b ρ σ₁) = some (av, σ') → R) : R :=
  ob q fun x h1 q => ob q fun i h2 q => k i x.2 (bool_of h1 h2) q
theorem i_idx {a b : CE} (q : evE Φ (.idx a b) ρ σ = some (av, σ')) (k : ∀ x σ₁ y dx dy d, evE Φ a ρ σ = some (x, σ₁) → evE Φ b ρ σ₁ = some (y, σ') → rd σ' x = some dx → rd σ' y = some dy → idxD dx dy = some d → av = .dat d → R) : R :=
  ob q fun x h1 q => ob q fun y h2 q => ob q fun dx h3 q => ob q fun dy h4 q => ob q fun r h5 q => by cases q; exact k x.1 x.2 y.1 dx dy r h1 h2 h3 h4 h5 rfl
theorem i_tup {es : List CE} (q : evE Φ (.tup es) ρ σ = some (av, σ')) (k : ∀ vs σ₁ ds, evEs Φ es ρ σ = some (vs, σ₁) → ownAll vs σ₁ = some (ds, σ') → av = .dat (.tuple ds) → R) : R :=
  ob q fun x h1 q => ob q fun y h2 q => by cases q; exact k x.1 x.2 y.1 h1 h2 rfl
theorem i_lst {es : List CE} (q : evE Φ (.lst es) ρ σ = some (av, σ')) (k : ∀ vs σ₁ ds, evEs Φ es ρ σ = some (vs, σ₁) → ownAll vs σ₁ = some (ds, σ') → av = .fresh ds → R) : R :=
  ob q fun x h1 q => ob q fun y h2 q => by cases q; exact k x.1 x.2 y.1 h1 h2 rfl
theorem ret_of {β : Type} {o : Option (CR × β)} {p : CR × β} {v : AV} (h : o = some p) (h' : retC p.1 = some v) : o = some (.ret v, p.2) := by rw [h, ← retC_eq h']
theorem i_call {f : Nat} {es : List CE} (q : evE Φ (.call f es) ρ σ = some (av, σ')) (k : ∀ vs σ₁, evEs Φ es ρ σ = some (vs, σ₁) → Φ f vs σ₁ = some (.ret av, σ') → R) : R :=
  ob q fun x h1 q => ob q fun y h2 q => ob q fun v h3 q => by cases q; exact k x.1 x.2 h1 (ret_of h2 h3)
theorem i_prim {p : Prim} {es : List CE} (q : evE Φ (.prim p es) ρ σ = some (av, σ')) (k : ∀ vs ds, evEs Φ es ρ σ = some (vs, σ') → rdAll σ' vs = some ds → primD p ds = some av → R) : R :=
  ob q fun x h1 q => ob q fun ds h2 q => ob q fun r h3 q => by cases q; exact k x.1 ds h1 h2 h3
theorem i_isin {e : CE} {t : Ty} (q : evE Φ (.isin e t) ρ σ = some (av, σ')) (k : ∀ x d, evE Φ e ρ σ = some (x, σ') → rd σ' x = some d → av = .dat (.bool (isinD t d)) → R) : R :=
  ob q fun x h1 q => ob q fun d h2 q => by cases q; exact k x.1 d h1 h2 rfl
theorem i_comp {elt : CE} {t : Tgt} {j : ItK} {its ifs : List CE} (q : evE Φ (.comp elt t j its ifs) ρ σ = some (av, σ')) (k : ∀ vs σ₁ ds xs ys σ₂, evEs Φ its ρ σ = some (vs, σ₁) → rdAll σ₁ vs = some ds → itemsD j ds = some xs → xs.length ≤ lim →
    compGo (fun ρ' σ' => evE Φ elt ρ' σ') (fun ρ' σ' => evB Φ .And ifs ρ' σ') t ρ xs (flagAll .locked (liveOf σ₁ vs) σ₁) = some (ys, σ₂) → av = .fresh ys → σ' = flagAll .live (liveOf σ₁ vs) σ₂ → R) : R :=
  ob q fun x h1 q => ob q fun ds h2 q => ob q fun xs h3 q => og q fun h4 q => ob q fun y h5 q => k x.1 x.2 ds xs y.1 y.2 h1 h2 h3 h4 h5 (pr q).1.symm (pr q).2.symm
theorem i_bcons {op : BoolOp} {e : CE} {es : List CE} {b : Bool} (q : evB Φ op (e :: es) ρ σ = some (b, σ')) (k : ∀ b₁ σ₁, evE Φ e ρ σ = some (.dat (.bool b₁), σ₁) → (if (b₁ == (op == .And)) = true then evB Φ op es ρ σ₁ else some (b₁, σ₁)) = some (b, σ') → R) : R :=
  ob q fun x h1 q => ob q fun i h2 q => k i x.2 (bool_of h1 h2) q
theorem i_lcons {e : CE} {es : List CE} {avs : List AV} (q : evEs Φ (e :: es) ρ σ = some (avs, σ')) (k : ∀ v σ₁ vs, evE Φ e ρ σ = some (v, σ₁) → evEs Φ es ρ σ₁ = some (vs, σ') → avs = settle v :: vs → R) : R :=
  ob q fun x h1 q => ob q fun y h2 q => by cases q; exact k x.1 x.2 y.1 h1 h2 rfl
theorem i_lnil {avs : List AV} (q : evEs Φ [] ρ σ = some (avs, σ')) : avs = [] ∧ σ' = σ := ⟨(pr q).1.symm, (pr q).2.symm⟩
theorem fl_on {f : Rho → Store → Option (Fl × Store)} {p : Fl × Store} (q : Fl.on f p = some (fl, σ')) (k1 : ∀ ρ₁, p.1 = .next ρ₁ → f ρ₁ p.2 = some (fl, σ') → R) (k2 : p = (fl, σ') → (∀ ρ₁, fl ≠ .next ρ₁) → R) : R := by
  rcases p with ⟨_ | _ | _, σ₁⟩
  · exact k1 _ rfl q
  · exact k2 (Option.some.inj q) fun _ e => by rw [← (pr q).1] at e; cases e
  · exact k2 (Option.some.inj q) fun _ e => by rw [← (pr q).1] at e; cases e
theorem nx {o : Option (Fl × Store)} {p : Fl × Store} {ρ : Rho} (h : o = some p) (e : p.1 = .next ρ) : o = some (.next ρ, p.2) := by rw [h, ← e]
theorem i_scons {c : CS} {cs : List CS} (q : evSs N Φ (c :: cs) ρ σ = some (fl, σ')) (k1 : ∀ ρ₁ σ₁, evS N Φ c ρ σ = some (.next ρ₁, σ₁) → evSs N Φ cs ρ₁ σ₁ = some (fl, σ') → R) (k2 : evS N Φ c ρ σ = some (fl, σ') → (∀ ρ₁, fl ≠ .next ρ₁) → R) : R :=
  ob q fun p h q => fl_on q (fun ρ₁ e q => k1 ρ₁ p.2 (nx h e) q) fun e n => k2 (h.trans (congrArg some e)) n
theorem i_ret {e : CE} (q : evS N Φ (.ret e) ρ σ = some (fl, σ')) (k : ∀ v, evE Φ e ρ σ = some (v, σ') → fl = .ret v → R) : R :=
  ob q fun x h1 q => by cases q; exact k x.1 h1 rfl
theorem i_site {c : CE} {a b : List CS} (q : evS N Φ (.ite c a b) ρ σ = some (fl, σ')) (k : ∀ t σ₁, evE Φ c ρ σ = some (.dat (.bool t), σ₁) → (if t = true then evSs N Φ a ρ σ₁ else evSs N Φ b ρ σ₁) = some (fl, σ') → R) : R :=
  ob q fun x h1 q => ob q fun i h2 q => k i x.2 (bool_of h1 h2) q
theorem i_assign {i : Nat} {e : CE} (q : evS N Φ (.assign i e) ρ σ = some (fl, σ')) (k : ∀ v, evE Φ e ρ σ = some (v, σ') → fl = .next (ρ.set i (settle v)) → R) : R :=
  ob q fun x h1 q => by cases q; exact k x.1 h1 rfl
theorem i_newcell {i : Nat} {e : CE} (q : evS N Φ (.newcell i e) ρ σ = some (fl, σ')) (k : ∀ v σ₁, evE Φ e ρ σ = some (v, σ₁) → newc i ρ σ₁ v = (fl, σ') → R) : R :=
  ob q fun x h1 q => k x.1 x.2 h1 (Option.some.inj q)
theorem i_unpack {is : List Nat} {e : CE} (q : evS N Φ (.unpack is e) ρ σ = some (fl, σ')) (k : ∀ ds ρ', evE Φ e ρ σ = some (.dat (.tuple ds), σ') → bindMany is ds ρ = some ρ' → fl = .next ρ' → R) : R :=
  ob q fun x h1 q => ob q fun ds h2 q => ob q fun ρ' h3 q => by cases q; exact k ds ρ' (tup_of h1 h2) h3 rfl
theorem i_append {x : Nat} {e : CE} (q : evS N Φ (.append x e) ρ σ = some (fl, σ')) (k : ∀ c v σ₁ d σ₂ ds, ρ x = some (.cell c) → evE Φ e ρ σ = some (v, σ₁) → own σ₁ (settle v) = some (d, σ₂) → σ₂[c]? = some (.live, ds) → ds.length < lim → fl = .next ρ → σ' = σ₂.set c (.live, ds ++ [d]) → R) : R :=
  ob q fun c h1 q => ob q fun x h2 q => ob q fun y h3 q => ob q fun ds h4 q => og q fun h5 q => k c x.1 x.2 y.1 y.2 ds (cellIn_eq h1) h2 h3 (liveAt_eq h4) h5 (pr q).1.symm (pr q).2.symm
theorem i_extend {x : Nat} {e : CE} (q : evS N Φ (.extend x e) ρ σ = some (fl, σ')) (k : ∀ c v σ₁ es ds, ρ x = some (.cell c) → evE Φ e ρ σ = some (v, σ₁) → rd σ₁ (settle v) = some (.list es) → σ₁[c]? = some (.live, ds) → ds.length + es.length ≤ lim → fl = .next ρ → σ' = σ₁.set c (.live, ds ++ es) → R) : R :=
  ob q fun c h1 q => ob q fun x h2 q => ob q fun d h3 q => ob q fun es h3' q => ob q fun ds h4 q => og q fun h5 q => k c x.1 x.2 es ds (cellIn_eq h1) h2 (h3.trans (congrArg some (listD_eq h3'))) (liveAt_eq h4) h5 (pr q).1.symm (pr q).2.symm
theorem i_setItem {x : Nat} {i e : CE} (q : evS N Φ (.setItem x i e) ρ σ = some (fl, σ')) (k : ∀ c v σ₁ d σ₂ j σ₃ ds, ρ x = some (.cell c) → evE Φ e ρ σ = some (v, σ₁) → own σ₁ (settle v) = some (d, σ₂) → evE Φ i ρ σ₂ = some (.dat (.int j), σ₃) → σ₃[c]? = some (.live, ds) → (0 ≤ j ∧ j.toNat < ds.length ∧ ds.length ≤ lim) → fl = .next ρ → σ' = σ₃.set c (.live, ds.set j.toNat d) → R) : R :=
  ob q fun c h1 q => ob q fun x h3 q => ob q fun y h4 q => ob q fun u h2 q => ob q fun j h2' q => ob q fun ds h5 q => og q fun h6 q => k c x.1 x.2 y.1 y.2 j u.2 ds (cellIn_eq h1) h3 h4 (int_of h2 h2') (liveAt_eq h5) h6 (pr q).1.symm (pr q).2.symm
theorem i_forr {t : Tgt} {j : ItK} {its : List CE} {body : List CS} (q : evS N Φ (.forr t j its body) ρ σ = some (fl, σ')) (k : ∀ vs σ₁ ds xs σ₂, evEs Φ its ρ σ = some (vs, σ₁) → rdAll σ₁ vs = some ds → itemsD j ds = some xs →
    forGo t (fun ρ' σ' => evSs N Φ body ρ' σ') xs ρ (flagAll .locked (liveOf σ₁ vs) σ₁) = some (fl, σ₂) → σ' = flagAll .live (liveOf σ₁ vs) σ₂ → R) : R :=
  ob q fun x h1 q => ob q fun ds h2 q => ob q fun xs h3 q => ob q fun y h4 q => k x.1 x.2 ds xs y.2 h1 h2 h3 (by rw [h4, ← (pr q).1]) (pr q).2.symm
theorem call_inv {e : CE} {f : Nat × List CE} {P : CE → Prop} (h : callOf e = some f) (k : P (.call f.1 f.2)) : P e := by
  cases e <;> first | exact nsm h | (cases h; exact k)
theorem i_expr {e : CE} (q : evS N Φ (.expr e) ρ σ = some (fl, σ')) (k : ∀ f es vs σ₁ r, e = .call f es → evEs Φ es ρ σ = some (vs, σ₁) → Φ f vs σ₁ = some (r, σ') → fl = flC ρ r → R) : R :=
  ob q fun f h0 q => ob q fun x h1 q => ob q fun y h2 q => by cases q; exact k f.1 f.2 x.1 x.2 y.1 (call_inv (P := fun e => e = .call f.1 f.2) h0 rfl) h1 h2 rfl
end
end Mine
namespace Mine
open PySem
abbrev tupO (vs : List Value) (n : Nat) : Obj := { cls := .type "tuple", data := .seq vs.toArray n }
abbrev lstO (vs : List Value) (n : Nat) : Obj := { cls := .type "list", data := .seq vs.toArray n }
mutual
inductive Rd (h : Heap) (S : Addr → Prop) : Value → PyData → Prop
  | none : Rd h S .none .none
  | bool (b : Bool) : Rd h S (.bool b) (.bool b)
  | int (i : Int) (t : Tok) : Rd h S (.int i t) (.int i)
  | str (x : Str) (t : Tok) : Rd h S (.str x t) (.str x)
  | tuple {a : Addr} {vs : List Value} {n : Nat} {ds : List PyData} : S a → h.get? a = some (tupO vs n) → RdL h S vs ds → Rd h S (.ref a) (.tuple ds)
  | list {a : Addr} {vs : List Value} {n : Nat} {ds : List PyData} : S a → h.get? a = some (lstO vs n) → RdL h S vs ds → Rd h S (.ref a) (.list ds)
inductive RdL (h : Heap) (S : Addr → Prop) : List Value → List PyData → Prop
  | nil : RdL h S [] []
  | cons {v : Value} {vs : List Value} {d : PyData} {ds : List PyData} : Rd h S v d → RdL h S vs ds → RdL h S (v :: vs) (d :: ds)
end
mutual
theorem Rd.mono {h h' : Heap} {S S' : Addr → Prop} (hk : ∀ a o, S a → h.get? a = some o → h'.get? a = some o) (hs : ∀ a, S a → S' a) : ∀ {v : Value} {d : PyData}, Rd h S v d → Rd h' S' v d
  | _, _, .none => .none
  | _, _, .bool b => .bool b
  | _, _, .int i t => .int i t
  | _, _, .str x t => .str x t
  | _, _, .tuple a e r => .tuple (hs _ a) (hk _ _ a e) (RdL.mono hk hs r)
  | _, _, .list a e r => .list (hs _ a) (hk _ _ a e) (RdL.mono hk hs r)
theorem RdL.mono {h h' : Heap} {S S' : Addr → Prop} (hk : ∀ a o, S a → h.get? a = some o → h'.get? a = some o) (hs : ∀ a, S a → S' a) : ∀ {vs : List Value} {ds : List PyData}, RdL h S vs ds → RdL h' S' vs ds
  | _, _, .nil => .nil
  | _, _, .cons x r => .cons (Rd.mono hk hs x) (RdL.mono hk hs r)
end
mutual
theorem Rd.reads {h : Heap} {S : Addr → Prop} : ∀ {v : Value} {d : PyData}, Rd h S v d → ∃ as, Reads h v d as
  | _, _, .none => ⟨_, .none⟩
  | _, _, .bool b => ⟨_, .bool b⟩
  | _, _, .int i t => ⟨_, .int i t⟩
  | _, _, .str x t => ⟨_, .str x t⟩
  | _, _, .tuple _ e r => let ⟨as, q⟩ := RdL.reads r; ⟨as, .tuple e rfl rfl (by simpa using q)⟩
  | _, _, .list _ e r => let ⟨as, q⟩ := RdL.reads r; ⟨_, .list e rfl rfl (by simpa using q)⟩
theorem RdL.reads {h : Heap} {S : Addr → Prop} : ∀ {vs : List Value} {ds : List PyData}, RdL h S vs ds → ∃ as, ReadsAll h vs ds as
  | _, _, .nil => ⟨_, .nil⟩
  | _, _, .cons x r => let ⟨as, q⟩ := Rd.reads x; let ⟨bs, p⟩ := RdL.reads r; ⟨_, .cons q p⟩
end
theorem RdL.length {h : Heap} {S : Addr → Prop} {vs : List Value} {ds : List PyData} (r : RdL h S vs ds) : vs.length = ds.length := by
  induction vs generalizing ds with
  | nil => cases r; rfl
  | cons v vs ih => cases r with | cons _ r => simp [ih r]
theorem RdL.append {h : Heap} {S : Addr → Prop} {vs ws : List Value} {ds es : List PyData} (r : RdL h S vs ds) (q : RdL h S ws es) : RdL h S (vs ++ ws) (ds ++ es) := by
  induction vs generalizing ds with
  | nil => cases r; exact q
  | cons v vs ih => cases r with | cons x r => exact .cons x (ih r)
theorem RdL.get {h : Heap} {S : Addr → Prop} {vs : List Value} {ds : List PyData} (r : RdL h S vs ds) {k : Nat} {d : PyData} (hk : ds[k]? = some d) : ∃ v, vs[k]? = some v ∧ Rd h S v d := by
  induction vs generalizing ds k with
  | nil => cases r; simp at hk
  | cons v vs ih =>
    cases r with
    | cons x r =>
      cases k with
      | zero => simp at hk; subst hk; exact ⟨v, rfl, x⟩
      | succ k => simp at hk; simpa using ih r hk
theorem RdL.take {h : Heap} {S : Addr → Prop} {vs : List Value} {ds : List PyData} (r : RdL h S vs ds) (n : Nat) : RdL h S (vs.take n) (ds.take n) := by
  induction vs generalizing ds n with
  | nil => cases r; simpa using RdL.nil
  | cons v vs ih =>
    cases r with
    | cons x r => cases n with
      | zero => exact .nil
      | succ n => exact .cons x (ih r n)
theorem RdL.drop {h : Heap} {S : Addr → Prop} {vs : List Value} {ds : List PyData} (r : RdL h S vs ds) (n : Nat) : RdL h S (vs.drop n) (ds.drop n) := by
  induction vs generalizing ds n with
  | nil => cases r; simpa using RdL.nil
  | cons v vs ih =>
    cases r with
    | cons x r => cases n with
      | zero => exact .cons x r
      | succ n => exact ih r n
theorem RdL.one {h : Heap} {S : Addr → Prop} {v : Value} {d : PyData} (x : Rd h S v d) : RdL h S [v] [d] := .cons x .nil
theorem RdL.reverse {h : Heap} {S : Addr → Prop} {vs : List Value} {ds : List PyData} (r : RdL h S vs ds) : RdL h S vs.reverse ds.reverse := by
  induction vs generalizing ds with
  | nil => cases r; exact .nil
  | cons v vs ih => cases r with | cons x r => simpa using (ih r).append (.one x)
theorem RdL.replicate {h : Heap} {S : Addr → Prop} {vs : List Value} {ds : List PyData} (r : RdL h S vs ds) (n : Nat) : RdL h S (List.replicate n vs).flatten (List.replicate n ds).flatten := by
  induction n with
  | zero => exact .nil
  | succ n ih => simpa [List.replicate_succ] using r.append ih
theorem RdL.set {h : Heap} {S : Addr → Prop} {vs : List Value} {ds : List PyData} (r : RdL h S vs ds) {v : Value} {d : PyData} (x : Rd h S v d) (k : Nat) : RdL h S (vs.set k v) (ds.set k d) := by
  induction vs generalizing ds k with
  | nil => cases r; simpa using RdL.nil
  | cons w vs ih =>
    cases r with
    | cons y r => cases k with
      | zero => exact .cons x r
      | succ k => exact .cons y (ih r k)
inductive Rt (h : Heap) (S : Addr → Prop) : Value → PyData → Prop
  | dat {v : Value} {d : PyData} : Rd h S v d → Rt h S v d
  | lst {a : Addr} {vs : List Value} {n : Nat} {ds : List PyData} : h.get? a = some (lstO vs n) → RdL h S vs ds → Rt h S (.ref a) (.list ds)
theorem Rt.reads {h : Heap} {S : Addr → Prop} {v : Value} {d : PyData} (r : Rt h S v d) : ∃ as, Reads h v d as := by
  cases r with
  | dat r => exact r.reads
  | lst e r => obtain ⟨as, q⟩ := r.reads; exact ⟨_, .list e rfl rfl (by simpa using q)⟩
theorem Rt.lstD {h : Heap} {S : Addr → Prop} {v : Value} {ds : List PyData} (r : Rt h S v (.list ds)) : ∃ a vs n, v = .ref a ∧ h.get? a = some (lstO vs n) ∧ RdL h S vs ds := by
  cases r with
  | dat r => cases r with | list _ e q => exact ⟨_, _, _, rfl, e, q⟩
  | lst e q => exact ⟨_, _, _, rfl, e, q⟩
theorem Rt.tupD {h : Heap} {S : Addr → Prop} {v : Value} {ds : List PyData} (r : Rt h S v (.tuple ds)) : ∃ a vs n, v = .ref a ∧ S a ∧ h.get? a = some (tupO vs n) ∧ RdL h S vs ds := by
  cases r with
  | dat r => cases r with | tuple s e q => exact ⟨_, _, _, rfl, s, e, q⟩
theorem Rt.intD {h : Heap} {S : Addr → Prop} {v : Value} {i : Int} (r : Rt h S v (.int i)) : ∃ t, v = .int i t := by
  cases r with
  | dat r => cases r with | int i t => exact ⟨t, rfl⟩
theorem Rt.strD {h : Heap} {S : Addr → Prop} {v : Value} {x : Str} (r : Rt h S v (.str x)) : ∃ t, v = .str x t := by
  cases r with
  | dat r => cases r with | str i t => exact ⟨t, rfl⟩
theorem Rt.boolD {h : Heap} {S : Addr → Prop} {v : Value} {x : Bool} (r : Rt h S v (.bool x)) : v = .bool x := by
  cases r with
  | dat r => cases r with | bool i => rfl
theorem Rt.noneD {h : Heap} {S : Addr → Prop} {v : Value} (r : Rt h S v .none) : v = .none := by
  cases r with
  | dat r => cases r with | none => rfl
noncomputable def Plainly (o : Obj) : Prop := (∀ es n, o.data ≠ .dict es n) ∧ ∀ v, o.data ≠ .cell v
theorem lst_plain (vs : List Value) (n : Nat) : Plainly (lstO vs n) := by constructor <;> (intros; intro q; cases q)
theorem tup_plain (vs : List Value) (n : Nat) : Plainly (tupO vs n) := by constructor <;> (intros; intro q; cases q)
noncomputable def Live (μ : List Addr) (σ : Store) (a : Addr) : Prop := ∃ (i : Nat) (ds : List PyData), μ[i]? = some a ∧ σ[i]? = some (Flag.live, ds)
structure Bs where
  hp : Heap
  Z : Addr → Prop
  hot : Bool
abbrev Bs.get? (b : Bs) (a : Addr) : Option Obj := b.hp.get? a
noncomputable def IsD (r : Option Obj) : Prop := ∃ o es n, r = some o ∧ o.data = .dict es n
theorem IsD.grow {r r' : Option Obj} (x : IsD r) (k : ∀ o, r = some o → r' = some o) : IsD r' := let ⟨o, es, n, e, d⟩ := x; ⟨o, es, n, k o e, d⟩
theorem IsD.plain {r : Option Obj} {o : Obj} (x : IsD r) (e : r = some o) (p : ∀ es n, o.data ≠ .dict es n) : False := by
  obtain ⟨o', es, n, e', d⟩ := x
  rw [e] at e'; cases e'
  exact p es n d
structure Inv (base : Bs) (S : Addr → Prop) (μ : List Addr) (σ : Store) (h : Heap) : Prop where
  keepB : ∀ b o, base.get? b = some o → h.get? b = some o
  len : μ.length = σ.length
  cells : ∀ (i : Nat) (a : Addr) (f : Flag) (ds : List PyData), μ[i]? = some a → σ[i]? = some (f, ds) → ∃ vs n, h.get? a = some (lstO vs n) ∧ RdL h S vs ds ∧ (f = Flag.frozen → S a) ∧ (f ≠ Flag.frozen → ¬ S a)
  nodup : ∀ (i j : Nat) (a : Addr), μ[i]? = some a → μ[j]? = some a → i = j
  new : ∀ a ∈ μ, base.get? a = none
  inS : ∀ a, S a → ∃ o, h.get? a = some o ∧ Plainly o
  zs : ∀ L, base.Z L → base.get? L = none ∧ IsD (h.get? L)
noncomputable def Lk (o : Obj) (r : Option Obj) : Prop := r = some o ∨ ((∃ es n, o.data = .dict es n) ∧ ∃ sl, r = some { o with slots := sl })
theorem Lk.has {o : Obj} {r : Option Obj} (x : Lk o r) : ∃ o', r = some o' := by
  rcases x with x | ⟨_, sl, x⟩
  · exact ⟨_, x⟩
  · exact ⟨_, x⟩
theorem Lk.of {o : Obj} {r : Option Obj} (x : Lk o r) (p : ∀ es n, o.data ≠ .dict es n) : r = some o := by
  rcases x with x | ⟨⟨es, n, d⟩, _⟩
  · exact x
  · exact absurd d (p es n)
theorem Lk.trans {o : Obj} {h h' : Heap} {b : Addr} (x : Lk o (h.get? b)) (y : ∀ o', h.get? b = some o' → Lk o' (h'.get? b)) : Lk o (h'.get? b) := by
  rcases x with x | ⟨⟨es, n, d⟩, sl, x⟩
  · exact y o x
  · rcases y _ x with y | ⟨_, sl', y⟩
    · exact .inr ⟨⟨es, n, d⟩, sl, y⟩
    · exact .inr ⟨⟨es, n, d⟩, sl', y⟩
noncomputable def Keep (W : Addr → Prop) (h h' : Heap) : Prop := ∀ b o, ¬ W b → h.get? b = some o → Lk o (h'.get? b)
structure Ev (base : Bs) (μ : List Addr) (S S' : Addr → Prop) (σ σ' : Store) (h h' : Heap) : Prop where
  sub : ∀ a, S a → S' a
  new : ∀ a, S' a → S a ∨ h.get? a = none ∨ Live μ σ a
  inv : Inv base S' μ σ' h'
  keep : Keep (Live μ σ) h h'
  live : ∀ a, Live μ σ' a → Live μ σ a
theorem Inv.cell {base : Bs} {S : Addr → Prop} {μ : List Addr} {σ : Store} {h : Heap} (I : Inv base S μ σ h) {i : Nat} {f : Flag} {ds : List PyData} (e : σ[i]? = some (f, ds)) : ∃ a, μ[i]? = some a := by
  have : i < μ.length := by
    rw [I.len]
    rcases Nat.lt_or_ge i σ.length with q | q
    · exact q
    · rw [List.getElem?_eq_none q] at e; cases e
  exact ⟨_, List.getElem?_eq_getElem this⟩
theorem Inv.cellS {base : Bs} {S : Addr → Prop} {μ : List Addr} {σ : Store} {h : Heap} (I : Inv base S μ σ h) {i : Nat} {a : Addr} (e : μ[i]? = some a) : ∃ f ds, σ[i]? = some (f, ds) := by
  have : i < σ.length := by
    rw [← I.len]
    rcases Nat.lt_or_ge i μ.length with q | q
    · exact q
    · rw [List.getElem?_eq_none q] at e; cases e
  exact ⟨_, _, List.getElem?_eq_getElem this⟩
theorem Live.obj {base : Bs} {S : Addr → Prop} {μ : List Addr} {σ : Store} {h : Heap} {a : Addr} (I : Inv base S μ σ h) (l : Live μ σ a) : ∃ vs n, h.get? a = some (lstO vs n) := by
  obtain ⟨i, ds, e1, e2⟩ := l
  obtain ⟨vs, n, e, _⟩ := I.cells i a _ ds e1 e2
  exact ⟨vs, n, e⟩
theorem Live.notS {base : Bs} {S : Addr → Prop} {μ : List Addr} {σ : Store} {h : Heap} {a : Addr} (I : Inv base S μ σ h) (l : Live μ σ a) : ¬ S a := by
  obtain ⟨i, ds, e1, e2⟩ := l
  obtain ⟨vs, n, e, _, _, q⟩ := I.cells i a _ ds e1 e2
  exact q (by intro x; cases x)
theorem Inv.mem {base : Bs} {S : Addr → Prop} {μ : List Addr} {σ : Store} {h : Heap} (I : Inv base S μ σ h) {a : Addr} (m : a ∈ μ) : ∃ vs n, h.get? a = some (lstO vs n) := by
  obtain ⟨i, hi, rfl⟩ := List.getElem_of_mem m
  obtain ⟨f, ds, e⟩ := I.cellS (List.getElem?_eq_getElem hi)
  obtain ⟨vs, n, e, _⟩ := I.cells i _ f ds (List.getElem?_eq_getElem hi) e
  exact ⟨vs, n, e⟩
theorem Ev.keepS {base : Bs} {μ : List Addr} {S S' : Addr → Prop} {σ σ' : Store} {h h' : Heap} (I : Inv base S μ σ h) (x : Ev base μ S S' σ σ' h h') : ∀ a o, S a → h.get? a = some o → h'.get? a = some o :=
  fun a o hs e => (x.keep a o (fun l => l.notS I hs) e).of (by
    obtain ⟨o', e', p⟩ := I.inS a hs
    rw [e] at e'; cases e'
    exact p.1)
theorem Ev.refl {base : Bs} {μ : List Addr} {S : Addr → Prop} {σ : Store} {h : Heap} (I : Inv base S μ σ h) : Ev base μ S S σ σ h h :=
  ⟨fun _ x => x, fun _ x => .inl x, I, fun _ _ _ e => .inl e, fun _ x => x⟩
theorem Ev.stays {base : Bs} {μ : List Addr} {S S' : Addr → Prop} {σ σ' : Store} {h h' : Heap} (x : Ev base μ S S' σ σ' h h') {a : Addr} {o : Obj} (e : h.get? a = some o) : ∃ o', h'.get? a = some o' := by
  by_cases l : Live μ σ a
  · obtain ⟨i, ds, e1, _⟩ := l
    obtain ⟨vs, n, q⟩ := x.inv.mem (List.mem_of_getElem? e1)
    exact ⟨_, q⟩
  · exact (x.keep a o l e).has
theorem Ev.gone {base : Bs} {μ : List Addr} {S S' : Addr → Prop} {σ σ' : Store} {h h' : Heap} (x : Ev base μ S S' σ σ' h h') {a : Addr} (e : h'.get? a = none) : h.get? a = none := by
  cases q : h.get? a with
  | none => rfl
  | some o => obtain ⟨o', q'⟩ := x.stays q; rw [q'] at e; cases e
theorem Ev.trans {base : Bs} {μ : List Addr} {S S' S'' : Addr → Prop} {σ σ' σ'' : Store} {h h' h'' : Heap} (x : Ev base μ S S' σ σ' h h') (y : Ev base μ S' S'' σ' σ'' h' h'') : Ev base μ S S'' σ σ'' h h'' where
  sub := fun a s => y.sub a (x.sub a s)
  new := fun a s => by
    rcases y.new a s with q | q | q
    · exact x.new a q
    · exact .inr (.inl (x.gone q))
    · exact .inr (.inr (x.live a q))
  inv := y.inv
  keep := fun b o hb e => (x.keep b o hb e).trans fun o' e' => y.keep b o' (fun l => hb (x.live b l)) e'
  live := fun a l => x.live a (y.live a l)
abbrev ExcCls := Nat → Addr
inductive RdA (ec : ExcCls) (h : Heap) (S : Addr → Prop) (μ : List Addr) : Value → AV → Prop
  | dat {v : Value} {d : PyData} : Rd h S v d → RdA ec h S μ v (.dat d)
  | cell {i : Nat} {a : Addr} : μ[i]? = some a → RdA ec h S μ (.ref a) (.cell i)
  | exc {a : Addr} {o : Obj} {c : Nat} : S a → h.get? a = some o → (o.cls = .ref (ec c) ∧ o.dict = Option.none ∧ ∃ vs, o.data = .fields vs) → RdA ec h S μ (.ref a) (.exc c)
inductive RdR (ec : ExcCls) (h₀ h : Heap) (S : Addr → Prop) (μ : List Addr) : Value → AV → Prop
  | old {v : Value} {av : AV} : RdA ec h S μ v av → RdR ec h₀ h S μ v av
  | fresh {a : Addr} {vs : List Value} {n : Nat} {ds : List PyData} : h.get? a = some (lstO vs n) → RdL h S vs ds → ¬ S a → h₀.get? a = none → RdR ec h₀ h S μ (.ref a) (.fresh ds)
inductive RdAs (ec : ExcCls) (h : Heap) (S : Addr → Prop) (μ : List Addr) : List Value → List AV → Prop
  | nil : RdAs ec h S μ [] []
  | cons {v : Value} {vs : List Value} {av : AV} {avs : List AV} : RdA ec h S μ v av → RdAs ec h S μ vs avs → RdAs ec h S μ (v :: vs) (av :: avs)
section
variable {ec : ExcCls} {base : Bs} {μ : List Addr} {S S' : Addr → Prop} {σ σ' : Store} {h h' h₀ : Heap}
theorem RdA.mono {μ' : List Addr} (hk : ∀ a o, S a → h.get? a = some o → h'.get? a = some o) (hs : ∀ a, S a → S' a) (hm : ∀ (i : Nat) (a : Addr), μ[i]? = some a → μ'[i]? = some a) {v : Value} {av : AV} (r : RdA ec h S μ v av) : RdA ec h' S' μ' v av := by
  cases r with
  | dat r => exact .dat (r.mono hk hs)
  | cell e => exact .cell (hm _ _ e)
  | exc s e q => exact .exc (hs _ s) (hk _ _ s e) q
theorem RdA.ev (I : Inv base S μ σ h) (x : Ev base μ S S' σ σ' h h') {v : Value} {av : AV} (r : RdA ec h S μ v av) : RdA ec h' S' μ v av := r.mono (x.keepS I) x.sub fun _ _ q => q
theorem RdAs.ev (I : Inv base S μ σ h) (x : Ev base μ S S' σ σ' h h') {vs : List Value} {avs : List AV} (r : RdAs ec h S μ vs avs) : RdAs ec h' S' μ vs avs := by
  induction vs generalizing avs with
  | nil => cases r; exact .nil
  | cons v vs ih => cases r with | cons a r => exact .cons (a.ev I x) (ih r)
theorem RdA.rt (I : Inv base S μ σ h) {v : Value} {av : AV} {d : PyData} (r : RdA ec h S μ v av) (e : rd σ av = some d) : Rt h S v d := by
  cases r with
  | dat r => cases e; exact .dat r
  | @cell i a hi =>
    simp only [rd] at e
    obtain ⟨f, ds, q⟩ := I.cellS hi
    rw [q] at e; cases e
    obtain ⟨vs, n, e1, e2, _⟩ := I.cells i a f ds hi q
    exact .lst e1 e2
  | exc _ _ _ => cases e
end
end Mine
namespace Mine
open PySem
structure Step (S S' : Addr → Prop) (h h' : Heap) : Prop where
  grow : ∀ b o, h.get? b = some o → h'.get? b = some o
  sub : ∀ a, S a → S' a
  new : ∀ a, S' a → S a ∨ h.get? a = none
  inS : ∀ a, S' a → S a ∨ ∃ o, h'.get? a = some o ∧ Plainly o
theorem Step.refl {S : Addr → Prop} {h : Heap} : Step S S h h := ⟨fun _ _ e => e, fun _ x => x, fun _ x => .inl x, fun _ x => .inl x⟩
theorem Step.grown {S : Addr → Prop} {h h' : Heap} (g : ∀ b o, h.get? b = some o → h'.get? b = some o) : Step S S h h' := ⟨g, fun _ x => x, fun _ x => .inl x, fun _ x => .inl x⟩
theorem Step.add {S : Addr → Prop} {h h' : Heap} (g : ∀ b o, h.get? b = some o → h'.get? b = some o) {a : Addr} {o : Obj} (n : h.get? a = none) (e : h'.get? a = some o) (pl : Plainly o) : Step S (fun b => S b ∨ b = a) h h' :=
  ⟨g, fun _ x => .inl x, fun b x => x.elim .inl fun q => .inr (q ▸ n), fun b x => x.elim .inl fun q => .inr ⟨o, q ▸ e, pl⟩⟩
theorem Step.ev {base : Bs} {μ : List Addr} {S S' : Addr → Prop} {σ : Store} {h h' : Heap} (I : Inv base S μ σ h) (x : Step S S' h h') : Ev base μ S S' σ σ h h' where
  sub := x.sub
  new := fun a s => (x.new a s).elim .inl fun q => .inr (.inl q)
  inv := {
    keepB := fun b o e => x.grow b o (I.keepB b o e)
    len := I.len
    cells := fun i a f ds e1 e2 => by
      obtain ⟨vs, n, e, r, q1, q2⟩ := I.cells i a f ds e1 e2
      refine ⟨vs, n, x.grow _ _ e, r.mono (fun b o _ => x.grow b o) x.sub, fun hf => x.sub _ (q1 hf), fun hf s => ?_⟩
      rcases x.new a s with s | s
      · exact q2 hf s
      · rw [e] at s; cases s
    nodup := I.nodup
    new := I.new
    inS := fun a s => (x.inS a s).elim (fun s => let ⟨o, e, q⟩ := I.inS a s; ⟨o, x.grow _ _ e, q⟩) id
    zs := fun L z => ⟨(I.zs L z).1, (I.zs L z).2.grow fun o e => x.grow L o e⟩ }
  keep := fun b o _ e => .inl (x.grow b o e)
  live := fun _ l => l
theorem Step.trans {S S' S'' : Addr → Prop} {h h' h'' : Heap} (x : Step S S' h h') (y : Step S' S'' h' h'') : Step S S'' h h'' where
  grow := fun b o e => y.grow b o (x.grow b o e)
  sub := fun a s => y.sub a (x.sub a s)
  new := fun a s => (y.new a s).elim (x.new a) fun q => .inr (by
    cases e : h.get? a with
    | none => rfl
    | some o => rw [x.grow _ _ e] at q; cases q)
  inS := fun a s => (y.inS a s).elim (fun s => (x.inS a s).elim .inl fun ⟨o, e, q⟩ => .inr ⟨o, y.grow _ _ e, q⟩) .inr
noncomputable def PPost (ec : ExcCls) (s : Shared) (S : Addr → Prop) (μ : List Addr) (r : AV) (Q : Value → Shared → Prop) : Prop :=
  ∀ v h' tk S', Step S S' s.heap h' → RdR ec s.heap h' S' μ v r → Q v { s with heap := h', toks := tk }
section
variable {ec : ExcCls} {μ : List Addr} {S : Addr → Prop} {s : Shared} {r : AV} {Q : Value → Shared → Prop}
theorem PPost.same (p : PPost ec s S μ r Q) {v : Value} (x : RdA ec s.heap S μ v r) (tk : Nat) : Q v { s with toks := tk } := p v s.heap tk S Step.refl (.old x)
theorem PPost.dat {d : PyData} (p : PPost ec s S μ (.dat d) Q) {v : Value} (x : Rd s.heap S v d) (tk : Nat) : Q v { s with toks := tk } := p.same (.dat x) tk
theorem PPost.tup {ds : List PyData} (p : PPost ec s S μ (.dat (.tuple ds)) Q) {h' : Heap} {a : Addr} {vs : List Value} {n : Nat} (g : ∀ b o, s.heap.get? b = some o → h'.get? b = some o) (hn : s.heap.get? a = none)
    (e : h'.get? a = some (tupO vs n)) (x : RdL s.heap S vs ds) (tk : Nat) : Q (.ref a) { s with heap := h', toks := tk } :=
  p _ h' tk _ (Step.add g hn e (tup_plain _ _)) (.old (.dat (.tuple (.inr rfl) e (x.mono (fun b o _ => g b o) fun _ => .inl))))
theorem PPost.lst {ds : List PyData} (p : PPost ec s S μ (.fresh ds) Q) (hS : ∀ a, S a → ∃ o, s.heap.get? a = some o) {h' : Heap} {a : Addr} {vs : List Value} {n : Nat} (g : ∀ b o, s.heap.get? b = some o → h'.get? b = some o) (hn : s.heap.get? a = none)
    (e : h'.get? a = some (lstO vs n)) (x : RdL s.heap S vs ds) (tk : Nat) : Q (.ref a) { s with heap := h', toks := tk } :=
  p _ h' tk _ (Step.grown g) (.fresh e (x.mono (fun b o _ => g b o) fun _ q => q) (fun q => by obtain ⟨o, q⟩ := hS _ q; rw [hn] at q; cases q) hn)
end
theorem fresh_none (h : Heap) : h.get? h.objs.size = none := by
  cases e : h.get? h.objs.size with
  | none => rfl
  | some o => exact absurd (Heap.lt_size e) (Nat.lt_irrefl _)
theorem push_grow (h : Heap) (o : Obj) : ∀ b o', h.get? b = some o' → (h.push o).get? b = some o' := fun _ _ e => Heap.get?_push_of_some o e
theorem noFill_tuple_mul : fillsNumberSlot (.type "tuple") "mul" = pure false :=
  fillsNumberSlot_seq (id := "tuple.__mul__") (r := some (.builtin "tuple.__rmul__")) F.slot_tuple_mul.lookup (by decide +kernel) F.slot_tuple_rmul.lookup (by decide +kernel)
theorem repeat_tuple : seqRepeat? (.type "tuple") = pure (some (.builtin "tuple.__mul__")) := by
  unfold seqRepeat?
  rw [seqSlot_of (T := "tuple") (name := "__mul__") (id := "tuple.__mul__") F.slot_tuple_mul.lookup (by decide +kernel), seqSlot_of (T := "tuple") (name := "__rmul__") (id := "tuple.__rmul__") F.slot_tuple_rmul.lookup (by decide +kernel)]
  rfl
theorem int_rmul_tuple (a : Int) (t : Tok) (l : Addr) (items : Array Value) (n : Nat) :
    Meets (Builtin.«int.__rmul__» ⟨[.int a t, .ref l], []⟩) (fun _ R s => s.heap.get? l = some { cls := .type "tuple", dict := none, data := .seq items n, slots := #[] } ∧ R (.ok (.ret Value.notImplemented)) s) :=
  .of_wp fun prog w A R s h => by obtain ⟨hp, g, d, tk, os⟩ := s; obtain ⟨hl, h⟩ := h; wp_walk; exact ⟨_, rfl, h⟩
theorem tuple_mul_same (l : Addr) (items : Array Value) (n : Nat) (x : Int) (u : Tok) (hx : ¬ (decide (x < -(2 ^ 63)) || decide (x ≥ 2 ^ 63)) = true) (h1 : (items.isEmpty || x == 1) = true) :
    Meets (Builtin.«tuple.__mul__» ⟨[.ref l, .int x u], []⟩) (fun _ R s => s.heap.get? l = some { cls := .type "tuple", dict := none, data := .seq items n, slots := #[] } ∧ R (.ok (.ret (Value.ref l))) s) :=
  .of_wp fun prog w A R s h => by
    obtain ⟨hp, g, d, tk, os⟩ := s; obtain ⟨hl, h⟩ := h
    wp_walk
    refine wpAny_ite_false (decide_eq_false hx) ?_
    wp_walk
    exact ⟨_, rfl, h⟩
theorem tuple_mul_none (l : Addr) (items : Array Value) (n : Nat) (x : Int) (u : Tok) (hx : ¬ (decide (x < -(2 ^ 63)) || decide (x ≥ 2 ^ 63)) = true) (h1 : ¬ (items.isEmpty || x == 1) = true) (h2 : (decide (x ≤ 0) || items.isEmpty) = true) :
    Meets (Builtin.«tuple.__mul__» ⟨[.ref l, .int x u], []⟩) (fun _ R s => s.heap.get? l = some { cls := .type "tuple", dict := none, data := .seq items n, slots := #[] } ∧ R (.ok (.ret (Value.ref s.heap.objs.size))) { s with heap := s.heap.push { cls := Value.type "tuple", data := Data.seq #[] } }) :=
  .of_wp fun prog w A R s h => by
    obtain ⟨hp, g, d, tk, os⟩ := s; obtain ⟨hl, h⟩ := h
    wp_walk
    refine wpAny_ite_false (decide_eq_false hx) ?_
    wp_walk
    exact ⟨_, rfl, h⟩
theorem tuple_mul_many (l : Addr) (items : Array Value) (n : Nat) (x : Int) (u : Tok) (hx : ¬ (decide (x < -(2 ^ 63)) || decide (x ≥ 2 ^ 63)) = true) (h1 : ¬ (items.isEmpty || x == 1) = true) (h2 : ¬ (decide (x ≤ 0) || items.isEmpty) = true) (h3 : ¬ (items.size * x > (2 ^ 63 - 1) / 8)) (h4 : ¬ Builtin.Tuple.tupleTooMany (items.size * x) = true) (h5 : ¬ (List.foldl (fun x1 x2 => x1 ++ x2) #[] (List.replicate x.toNat items)).size > sizeLine) :
    Meets (Builtin.«tuple.__mul__» ⟨[.ref l, .int x u], []⟩) (fun _ R s => s.heap.get? l = some { cls := .type "tuple", dict := none, data := .seq items n, slots := #[] } ∧ R (.ok (.ret (Value.ref s.heap.objs.size))) { s with heap := s.heap.push { cls := Value.type "tuple", data := Data.seq (List.foldl (fun x1 x2 => x1 ++ x2) #[] (List.replicate x.toNat items)) } }) :=
  .of_wp fun prog w A R s h => by
    obtain ⟨hp, g, d, tk, os⟩ := s; obtain ⟨hl, h⟩ := h
    wp_walk
    refine wpAny_ite_false (decide_eq_false hx) ?_
    wp_walk
    refine wpAny_ite_false (decide_eq_false h3) ?_
    wp_walk
    exact ⟨_, rfl, h⟩
theorem foldl_app {α : Type} (xs : List α) : ∀ (n : Nat) (acc : Array α), List.foldl (fun x1 x2 => x1 ++ x2) acc (List.replicate n xs.toArray) = acc ++ ((List.replicate n xs).flatten).toArray := by
  intro n
  induction n with
  | zero => intro acc; simp
  | succ n ih => intro acc; simp only [List.replicate_succ, List.foldl_cons, ih, List.flatten_cons]; simp
theorem RdL.rep {h : Heap} {S : Addr → Prop} {vs : List Value} {ds : List PyData} (r : RdL h S vs ds) (n : Nat) : RdL h S ((List.replicate n vs).flatten) ((List.replicate n ds).flatten) := by
  induction n with
  | zero => exact .nil
  | succ n ih => simp only [List.replicate_succ, List.flatten_cons]; exact r.append ih
theorem flat_len {α : Type} (n : Nat) (xs : List α) : ((List.replicate n xs).flatten).length = n * xs.length := by simp
theorem lim_eq : lim = sizeLine := by decide
section
variable {ec : ExcCls} {μ : List Addr} {S : Addr → Prop} {prog : Program} {w : World} {A : Around} {E : Value → Shared → Prop} {s : Shared} {Q : Value → Shared → Prop}
theorem intBits_of_lt {a : Int} {k : Nat} (h : a.natAbs < 2 ^ k) : Builtin.Int.intBits a ≤ k := by
  unfold Builtin.Int.intBits
  split
  · exact Nat.zero_le _
  · rename_i h0
    have : a.natAbs ≠ 0 := by simpa using h0
    have := (Nat.log2_lt this).mpr h
    omega
theorem mulOk_ok {a b : Int} (h : mulOk a b = true) : IntMulOk a b := by
  unfold mulOk at h
  simp only [Bool.or_eq_true, decide_eq_true_eq, Bool.and_eq_true] at h
  rcases h with (h | h) | h
  · exact .of_left (intBits_of_lt h)
  · exact .of_right (intBits_of_lt h)
  · exact .of_bits (Nat.le_trans (intBits_of_lt h.1) (by decide)) (Nat.le_trans (intBits_of_lt h.2) (by decide))
theorem tup_add {l b : Addr} {xs ys : List Value} {n m : Nat} {ds es : List PyData} (s1 : S l) (e1 : s.heap.get? l = some (tupO xs n)) (r1 : RdL s.heap S xs ds) (s2 : S b) (e2 : s.heap.get? b = some (tupO ys m)) (r2 : RdL s.heap S ys es)
    (hz : ds.length + es.length ≤ lim) (p : PPost ec s S μ (.dat (.tuple (ds ++ es))) Q) : wpAny (model prog w) A (binaryOp .Add (.ref l) (.ref b)) Q E s := by
  by_cases h1 : xs = []
  · subst h1
    cases r1
    refine concat_meets ⟨_, e1, rfl⟩ ⟨_, e2, rfl⟩ noFill_tuple_add seq_tuple_add F.slot_tuple_add F.entry_tuple_add (F.args_tuple_add_2 _ _) (AutoSeq1.tuple___add___tuple_tuple_0 l _ n b _ m rfl) ⟨e1, e2, ?_⟩
    exact p.dat (.tuple s2 e2 r2) s.toks
  · by_cases h2 : ys = []
    · subst h2
      cases r2
      refine concat_meets ⟨_, e1, rfl⟩ ⟨_, e2, rfl⟩ noFill_tuple_add seq_tuple_add F.slot_tuple_add F.entry_tuple_add (F.args_tuple_add_2 _ _) (AutoSeq1.tuple___add___tuple_tuple_1 l _ n b _ m (by simpa using h1) rfl) ⟨e1, e2, ?_⟩
      exact p.dat (.tuple s1 e1 (by simpa using r1)) s.toks
    · refine P.add_tuple e1 e2 (by simpa using h1) (by simpa using h2) ?_ (by rw [← lim_eq]; simpa [r1.length, r2.length] using hz)
      exact p.tup (push_grow _ _) (fresh_none _) (vs := xs ++ ys) (n := 0) (by simpa using Heap.get?_push_size s.heap (o := tupO (xs ++ ys) 0) rfl) (r1.append r2) s.toks
theorem tup_mul {l : Addr} {xs : List Value} {n : Nat} {ds : List PyData} {x : Int} {u : Tok} (s1 : S l) (e1 : s.heap.get? l = some (tupO xs n)) (r1 : RdL s.heap S xs ds) (hz : x.natAbs * ds.length ≤ 65536 ∧ x.natAbs ≤ 65536) (p : PPost ec s S μ (.dat (.tuple ((List.replicate x.toNat ds).flatten))) Q) :
    wpAny (model prog w) A (binaryOp .Mult (.ref l) (.int x u)) Q E s := by
  have hl := r1.length
  have hx : ¬ (decide (x < -(2 ^ 63)) || decide (x ≥ 2 ^ 63)) = true := by simp; omega
  have go : ∀ (v : Value) (s' : Shared), Meets (Builtin.«tuple.__mul__» ⟨[.ref l, .int x u], []⟩) (fun _ R s₀ => s₀.heap.get? l = some (tupO xs n) ∧ s₀ = s ∧ R (.ok (.ret v)) s') → Q v s' → wpAny (model prog w) A (binaryOp .Mult (.ref l) (.int x u)) Q E s := fun v s' M hq =>
    wpAny_binaryOp_repeat_ref (T := "tuple") (U := "int") (by decide) ⟨_, e1, rfl⟩ (fun s' => typeIs_int s' x u) noFill_tuple_mul F.fills_int_mul F.slot_int_rmul repeat_tuple F.slot_int_index.lookup
      (call_meets F.slot_int_rmul (typeIs_int s x u) F.entry_int_rmul (F.args_int_rmul_2 _ _) (int_rmul_tuple x u l xs.toArray n)
        ⟨e1, rfl, ⟨_, e1, rfl⟩, call_meets F.slot_tuple_mul ⟨_, e1, rfl⟩ F.entry_tuple_mul (F.args_tuple_mul_2 _ _) M ⟨e1, rfl, hq⟩⟩)
  by_cases h1 : (xs.toArray.isEmpty || x == 1) = true
  · refine go (.ref l) s (fun prog w A R s₀ h => tuple_mul_same l xs.toArray n x u hx h1 prog w A R s₀ ⟨h.1, by rw [h.2.1]; exact h.2.2⟩) ?_
    have e : (List.replicate x.toNat ds).flatten = ds := by
      rcases Bool.or_eq_true_iff.mp h1 with q | q
      · have : xs = [] := by simpa using q
        subst this
        cases r1; simp
      · rw [beq_iff_eq.mp q]; simp
    rw [e] at p
    exact p.dat (.tuple s1 e1 r1) s.toks
  · have hne : xs ≠ [] := fun q => h1 (by rw [q]; rfl)
    by_cases h2 : (decide (x ≤ 0) || xs.toArray.isEmpty) = true
    · refine go (.ref s.heap.objs.size) { s with heap := s.heap.push (tupO [] 0) } (fun prog w A R s₀ h => tuple_mul_none l xs.toArray n x u hx h1 h2 prog w A R s₀ ⟨h.1, by rw [h.2.1]; exact h.2.2⟩) ?_
      have hx0 : x.toNat = 0 := by
        have : x ≤ 0 := by
          rcases Bool.or_eq_true_iff.mp h2 with q | q
          · exact of_decide_eq_true q
          · exact absurd (by simpa using q) hne
        omega
      rw [hx0] at p
      exact p.tup (push_grow _ _) (fresh_none _) (vs := []) (n := 0) (Heap.get?_push_size s.heap rfl) .nil s.toks
    · have hb : ((xs.toArray.size : Int)) * x ≤ 65536 := by
        have h0 : 0 ≤ x := by
          have : ¬ x ≤ 0 := fun q => h2 (by rw [decide_eq_true q]; rfl)
          omega
        obtain ⟨k, rfl⟩ := Int.eq_ofNat_of_zero_le h0
        have h3 := hz.1
        rw [← hl] at h3
        rw [Int.natAbs_natCast, Nat.mul_comm] at h3
        rw [List.size_toArray, ← Int.natCast_mul]
        exact Int.ofNat_le.mpr h3
      have hsz : ((List.replicate x.toNat xs).flatten).length ≤ 65536 := by
        rw [flat_len, hl]
        exact Nat.le_trans (Nat.mul_le_mul_right _ (by omega)) hz.1
      have h4 : ¬ Builtin.Tuple.tupleTooMany (xs.toArray.size * x) = true := by
        unfold Builtin.Tuple.tupleTooMany
        rw [decide_eq_true_eq]
        have : (sizeLine : Int) = 16777216 := by decide
        omega
      have h5 : ¬ (List.foldl (fun x1 x2 => x1 ++ x2) #[] (List.replicate x.toNat xs.toArray)).size > sizeLine := by
        rw [foldl_app, Array.size_append, List.size_toArray, List.size_toArray, List.length_nil]
        have : sizeLine = 16777216 := by decide
        omega
      refine go (.ref s.heap.objs.size) { s with heap := s.heap.push (tupO ((List.replicate x.toNat xs).flatten) 0) } (fun prog w A R s₀ h => tuple_mul_many l xs.toArray n x u hx h1 h2 (by omega) h4 h5 prog w A R s₀ ⟨h.1, by rw [h.2.1, foldl_app]; simpa using h.2.2⟩) ?_
      exact p.tup (push_grow _ _) (fresh_none _) (vs := (List.replicate x.toNat xs).flatten) (n := 0) (Heap.get?_push_size s.heap rfl) (r1.rep x.toNat) s.toks
theorem add_ok (hS : ∀ a, S a → ∃ o, s.heap.get? a = some o) {dx dy : PyData} {r : AV} {x y : Value} (e : addD dx dy = some r) (rx : Rt s.heap S x dx) (ry : Rt s.heap S y dy) (p : PPost ec s S μ r Q) :
    wpAny (model prog w) A (binaryOp .Add x y) Q E s := by
  cases dx <;> first | (cases e; done) | skip
  case int a =>
    obtain ⟨b, h, e₁⟩ := bnd e
    cases intD_eq h
    cases e₁; obtain ⟨t, rfl⟩ := rx.intD; obtain ⟨u, rfl⟩ := ry.intD
    exact P.add_int (p.dat (.int _ _) _)
  case list xs =>
    obtain ⟨ys, h, e₁⟩ := bnd e
    obtain ⟨hz, e₂⟩ := gd e₁
    cases listD_eq h
    cases e₂
    obtain ⟨a, vs, n, rfl, e1, r1⟩ := rx.lstD
    obtain ⟨b, ws, m, rfl, e2, r2⟩ := ry.lstD
    refine P.add_list e1 e2 ?_ (by rw [← lim_eq]; simpa [r1.length, r2.length] using hz)
    exact p.lst hS (push_grow _ _) (fresh_none _) (vs := vs ++ ws) (n := 0) (by simpa using Heap.get?_push_size s.heap (o := lstO (vs ++ ws) 0) rfl) (r1.append r2) s.toks
  case tuple xs =>
    obtain ⟨ys, h, e₁⟩ := bnd e
    obtain ⟨hz, e₂⟩ := gd e₁
    cases tupD_eq h
    cases e₂
    obtain ⟨a, vs, n, rfl, s1, e1, r1⟩ := rx.tupD
    obtain ⟨b, ws, m, rfl, s2, e2, r2⟩ := ry.tupD
    exact tup_add s1 e1 r1 s2 e2 r2 hz p
theorem lst_mul (hS : ∀ a, S a → ∃ o, s.heap.get? a = some o) {l : Addr} {xs : List Value} {n : Nat} {ds : List PyData} {x : Int} {u : Tok} (e1 : s.heap.get? l = some (lstO xs n)) (r1 : RdL s.heap S xs ds) (hz : x.natAbs * ds.length ≤ 65536 ∧ x.natAbs ≤ 65536) (p : PPost ec s S μ (.fresh ((List.replicate x.toNat ds).flatten)) Q) :
    wpAny (model prog w) A (binaryOp .Mult (.ref l) (.int x u)) Q E s := by
  have hb : xs.toArray.size * x.toNat ≤ 65536 := by
    rw [List.size_toArray, r1.length, Nat.mul_comm]
    exact Nat.le_trans (Nat.mul_le_mul_right _ (by omega)) hz.1
  refine wpAny_binaryOp_repeat_ref (T := "list") (U := "int") (by decide) ⟨_, e1, rfl⟩ (fun s' => typeIs_int s' x u) noFill_list_mul F.fills_int_mul F.slot_int_rmul repeat_list F.slot_int_index.lookup
    (call_meets F.slot_int_rmul (typeIs_int s x u) F.entry_int_rmul (F.args_int_rmul_2 _ _) (int___rmul___int_list x u l xs.toArray n)
      ⟨e1, rfl, ⟨_, e1, rfl⟩, call_meets F.slot_list_mul ⟨_, e1, rfl⟩ F.entry_list_mul (F.args_list_mul_2 _ _)
        (AutoListH.list___mul___list_int_3 l xs.toArray n x u (by simp [Builtin.List.listFitsIndex]; omega) (by omega) (by rw [List.size_toArray] at hb; simp [Builtin.List.listTooLong, sizeLine]; omega)) ⟨e1, ?_⟩⟩)
  exact p.lst hS (push_grow _ _) (fresh_none _) (vs := (List.replicate x.toNat xs).flatten) (n := 0) (by rw [PyProof.Rows.listMul_foldl_if]; exact Heap.get?_push_size s.heap rfl) (r1.rep _) s.toks
theorem mul_ok (hS : ∀ a, S a → ∃ o, s.heap.get? a = some o) {dx dy : PyData} {r : AV} {x y : Value} (e : mulD dx dy = some r) (rx : Rt s.heap S x dx) (ry : Rt s.heap S y dy) (p : PPost ec s S μ r Q) :
    wpAny (model prog w) A (binaryOp .Mult x y) Q E s := by
  cases dx <;> first | (cases e; done) | skip
  case int a =>
    obtain ⟨b, h, e₁⟩ := bnd e
    obtain ⟨hm, e₂⟩ := gd e₁
    cases intD_eq h
    cases e₂; obtain ⟨t, rfl⟩ := rx.intD; obtain ⟨u, rfl⟩ := ry.intD
    exact P.mul_int (p.dat (.int _ _) _) (mulOk_ok hm)
  case tuple xs =>
    obtain ⟨b, h, e₁⟩ := bnd e
    obtain ⟨hm, e₂⟩ := gd e₁
    cases intD_eq h
    cases e₂
    obtain ⟨a, vs, n, rfl, s1, e1, r1⟩ := rx.tupD
    obtain ⟨u, rfl⟩ := ry.intD
    exact tup_mul s1 e1 r1 hm p
  case list xs =>
    refine ob e fun b h e' => og e' fun hm e'' => ?_
    cases intD_eq h
    cases e''
    obtain ⟨a, vs, n, rfl, e1, r1⟩ := rx.lstD
    obtain ⟨u, rfl⟩ := ry.intD
    exact lst_mul hS e1 r1 hm p
theorem int2 {M : Value → Value → Prop} {h : Heap} {f : Int → Int → Option AV} {dx dy : PyData} {r : AV} {x y : Value} (e : intOp f dx dy = some r) (rx : Rt h S x dx) (ry : Rt h S y dy) (k : ∀ a b t u, f a b = some r → M (.int a t) (.int b u)) : M x y := by
  refine ob e fun a h1 e => ob e fun b h2 e => ?_
  cases intD_eq h1
  cases intD_eq h2
  obtain ⟨t, rfl⟩ := rx.intD
  obtain ⟨u, rfl⟩ := ry.intD
  exact k a b t u e
theorem bin_ok (hS : ∀ a, S a → ∃ o, s.heap.get? a = some o) {op : Operator} {dx dy : PyData} {r : AV} {x y : Value} (e : binD op dx dy = some r) (rx : Rt s.heap S x dx) (ry : Rt s.heap S y dy) (p : PPost ec s S μ r Q) :
    wpAny (model prog w) A (binaryOp op x y) Q E s := by
  cases op <;> first | exact nsm e | skip
  case Add => exact add_ok hS e rx ry p
  case Sub => exact int2 (M := fun x y => wpAny (model prog w) A (binaryOp .Sub x y) Q E s) e rx ry fun a b t u e => os (P := fun r => PPost ec s S μ r Q → _) e (fun p => P.sub_int (p.dat (.int _ _) _)) p
  case Mult => exact mul_ok hS e rx ry p
  case FloorDiv => exact int2 (M := fun x y => wpAny (model prog w) A (binaryOp .FloorDiv x y) Q E s) e rx ry fun a b t u e => og e fun hb e => os (P := fun r => PPost ec s S μ r Q → _) e (fun p => PyProof.Rows.floordiv_int hb.1 (p.dat (.int _ _) _) (.inl (PyProof.noPylong_small hb.2))) p
  case Mod => exact int2 (M := fun x y => wpAny (model prog w) A (binaryOp .Mod x y) Q E s) e rx ry fun a b t u e => og e fun hb e => os (P := fun r => PPost ec s S μ r Q → _) e (fun p => PyProof.Rows.mod_int hb (p.dat (.int _ _) _)) p
  case Pow => exact int2 (M := fun x y => wpAny (model prog w) A (binaryOp .Pow x y) Q E s) e rx ry fun a b t u e => og e fun hb e => os (P := fun r => PPost ec s S μ r Q → _) e (fun p => PyProof.Rows.pow_int_small hb.1 hb.2.1 hb.2.2 (p.dat (.int _ _) _)) p
theorem int2c {M : Value → Value → Prop} {h : Heap} {f : Int → Int → Bool} {dx dy : PyData} {r : Bool} {x y : Value} (e : intCmp f dx dy = some r) (rx : Rt h S x dx) (ry : Rt h S y dy) (k : ∀ a b t u, some (f a b) = some r → M (.int a t) (.int b u)) : M x y := by
  refine ob e fun a h1 e => ob e fun b h2 e => ?_
  cases intD_eq h1
  cases intD_eq h2
  obtain ⟨t, rfl⟩ := rx.intD
  obtain ⟨u, rfl⟩ := ry.intD
  exact k a b t u e
theorem in_ok {dx dy : PyData} {b : Bool} {x y : Value} (hu : A.units + 200 < cLine) (e : inD dx dy = some b) (rx : Rt s.heap S x dx) (ry : Rt s.heap S y dy) (p : ∀ tk, Q (.bool b) { s with toks := tk }) :
    wpAny (model prog w) A (compareOp .In x y) Q E s := by
  refine ob e fun z h1 e => ?_
  cases strD_eq h1
  cases dy <;> first | exact nsm e | skip
  · obtain ⟨t, rfl⟩ := rx.strD
    obtain ⟨u, rfl⟩ := ry.strD
    exact os (P := fun b => (∀ tk, Q (.bool b) { s with toks := tk }) → _) e (fun p => P.in_str (p s.toks)) p
  · obtain ⟨as, qx⟩ := rx.reads
    obtain ⟨bs, qy⟩ := ry.reads
    refine og e fun hs e => ba hs fun hs1 hs2 => ?_
    have h2 := SeqAt.depth_of_shaped hs1
    refine SeqAt.in_tuple_reads qy qx (SeqAt.canLay_of_shaped hs1) (SeqAt.canLay_of_shaped hs2) ?_ (os (P := fun b => (∀ tk, Q (.bool b) { s with toks := tk }) → Q (.bool _) s) e (fun p => p s.toks) p)
    simp only [PyData.depth, Nat.min_zero]; omega
theorem cmp_ok {op : CmpOp} {dx dy : PyData} {b : Bool} {x y : Value} (hu : A.units + 200 < cLine) (e : cmpD op dx dy = some b) (rx : Rt s.heap S x dx) (ry : Rt s.heap S y dy) (p : ∀ tk, Q (.bool b) { s with toks := tk }) :
    wpAny (model prog w) A (compareOp op x y) Q E s := by
  obtain ⟨as, qx⟩ := rx.reads
  obtain ⟨bs, qy⟩ := ry.reads
  cases op <;> first | exact nsm e | skip
  case Eq => exact og e fun hs e => ba hs fun h1 h2 => os (P := fun b => (∀ tk, Q (.bool b) { s with toks := tk }) → _) e (fun p => SeqAt.compareEq_shaped qx qy h1 h2 (Nat.lt_of_le_of_lt (Nat.add_le_add_left (by decide) _) hu) (p s.toks)) p
  case NotEq => exact og e fun hs e => ba hs fun h1 h2 => os (P := fun b => (∀ tk, Q (.bool b) { s with toks := tk }) → _) e (fun p => SeqAt.compareNe_shaped qx qy h1 h2 (Nat.lt_of_le_of_lt (Nat.add_le_add_left (by decide) _) hu) (p s.toks)) p
  case Lt => exact int2c (M := fun x y => wpAny (model prog w) A (compareOp .Lt x y) Q E s) e rx ry fun a b t u e => os (P := fun b => (∀ tk, Q (.bool b) { s with toks := tk }) → _) e (fun p => P.lt_int (p s.toks)) p
  case LtE => exact int2c (M := fun x y => wpAny (model prog w) A (compareOp .LtE x y) Q E s) e rx ry fun a b t u e => os (P := fun b => (∀ tk, Q (.bool b) { s with toks := tk }) → _) e (fun p => P.le_int (p s.toks)) p
  case Gt => exact int2c (M := fun x y => wpAny (model prog w) A (compareOp .Gt x y) Q E s) e rx ry fun a b t u e => os (P := fun b => (∀ tk, Q (.bool b) { s with toks := tk }) → _) e (fun p => P.gt_int (p s.toks)) p
  case GtE => exact int2c (M := fun x y => wpAny (model prog w) A (compareOp .GtE x y) Q E s) e rx ry fun a b t u e => os (P := fun b => (∀ tk, Q (.bool b) { s with toks := tk }) → _) e (fun p => P.ge_int (p s.toks)) p
  case In => exact in_ok hu e rx ry p
theorem idx_ok {dx dy d : PyData} {x y : Value} (e : idxD dx dy = some d) (rx : Rt s.heap S x dx) (ry : Rt s.heap S y dy) (p : ∀ v tk, Rd s.heap S v d → Q v { s with toks := tk }) :
    wpAny (model prog w) A (getItem x y) Q E s := by
  obtain ⟨i, h, e₁⟩ := bnd e
  obtain ⟨hb, e₂⟩ := gd e₁
  cases intD_eq h
  cases dx <;> first | (cases e₂; done) | skip
  case str x =>
    obtain ⟨t, rfl⟩ := rx.strD
    obtain ⟨u, rfl⟩ := ry.intD
    obtain ⟨c, hc, e₃⟩ := bnd e₂
    cases e₃
    have hlt : i.toNat < x.cps.size := (Array.getElem?_eq_some_iff.mp hc).1
    refine PyProof.Rows.getItem_str (c := c) (by simp; omega) ?_ (p _ _ (.str _ _))
    have hl : x.length = x.cps.size := rfl
    rw [seqIndex_of hb.1 (by rw [hl]; omega)]
    exact hc
  case list xs =>
    obtain ⟨a, vs, n, rfl, e1, r1⟩ := rx.lstD
    obtain ⟨u, rfl⟩ := ry.intD
    obtain ⟨v, hv, rv⟩ := r1.get e₂
    exact wpAny_getItem_list ⟨_, e1, rfl, n, rfl⟩ hb.1 (by omega) (by simpa using hv) (p v s.toks rv)
  case tuple xs =>
    obtain ⟨a, vs, n, rfl, s1, e1, r1⟩ := rx.tupD
    obtain ⟨u, rfl⟩ := ry.intD
    obtain ⟨v, hv, rv⟩ := r1.get e₂
    have hlt : (_ : Int).toNat < vs.length := (List.getElem?_eq_some_iff.mp hv).1
    exact P.getItem_tuple e1 (by omega) (by omega) (seqIndex_of hb.1 (by simp; omega)) (by simpa using hv) (p v s.toks rv)
theorem isin_ok {ty : Ty} {d : PyData} {x : Value} {T : String} (hT : T = (match ty with | .int => "int" | .bool => "bool" | .tuple => "tuple" | .list => "list" | .str => "str")) (hd : ∀ kvs, d ≠ .dict kvs) (rx : Rt s.heap S x d) (p : ∀ tk, Q (.bool (isinD ty d)) { s with toks := tk }) :
    wpAny (model prog w) A (call (.builtin "isinstance") [x, .type T]) Q E s := by
  subst hT
  cases d with
  | none =>
    obtain rfl := rx.noneD
    cases ty
    · exact IsiPair.NoneType_int (p _)
    · exact IsiPair.NoneType_bool (p _)
    · exact IsiPair.NoneType_tuple (p _)
    · exact IsiPair.NoneType_list (p _)
    · exact IsiPair.NoneType_str (p _)
  | bool b =>
    obtain rfl := rx.boolD
    cases ty
    · exact IsiPair.bool_int (p s.toks)
    · exact IsiPair.bool_bool (p s.toks)
    · exact IsiPair.bool_tuple (p _)
    · exact IsiPair.bool_list (p _)
    · exact IsiPair.bool_str (p _)
  | int b =>
    obtain ⟨t, rfl⟩ := rx.intD
    cases ty
    · exact IsiPair.int_int (p s.toks)
    · exact IsiPair.int_bool (p _)
    · exact IsiPair.int_tuple (p _)
    · exact IsiPair.int_list (p _)
    · exact IsiPair.int_str (p _)
  | str b =>
    obtain ⟨t, rfl⟩ := rx.strD
    cases ty
    · exact IsiPair.str_int (p _)
    · exact IsiPair.str_bool (p _)
    · exact IsiPair.str_tuple (p _)
    · exact IsiPair.str_list (p _)
    · exact IsiPair.str_str (p s.toks)
  | list ds =>
    obtain ⟨a, vs, n, rfl, e, _⟩ := rx.lstD
    cases ty
    · exact IsiPair.list_int e rfl (p _)
    · exact IsiPair.list_bool e rfl (p _)
    · exact IsiPair.list_tuple e rfl (p _)
    · exact IsiPair.list_list e rfl (p s.toks)
    · exact IsiPair.list_str e rfl (p _)
  | tuple ds =>
    obtain ⟨a, vs, n, rfl, _, e, _⟩ := rx.tupD
    cases ty
    · exact IsiPair.tuple_int e rfl (p _)
    · exact IsiPair.tuple_bool e rfl (p _)
    · exact IsiPair.tuple_tuple e rfl (p s.toks)
    · exact IsiPair.tuple_list e rfl (p _)
    · exact IsiPair.tuple_str e rfl (p _)
  | dict kvs => exact absurd rfl (hd kvs)
theorem boolsD_ok : ∀ {ds : List PyData} {bs : List Bool} {h : Heap} {vs : List Value}, boolsD ds = some bs → RdL h S vs ds → vs = bs.map .bool
  | [], bs, h, vs, e, r => by cases e; cases r; rfl
  | d :: ds, bs, h, vs, e, r => by
    cases r with
    | cons x r =>
      cases d with
      | bool b =>
        simp only [boolsD] at e
        cases q : boolsD ds with
        | none => rw [q] at e; cases e
        | some cs => rw [q] at e; cases e; cases x; rw [boolsD_ok q r]; rfl
      | _ => cases e
theorem intsD_ok : ∀ {ds : List PyData} {bs : List Int} {h : Heap} {vs : List Value}, intsD ds = some bs → RdL h S vs ds → ∃ ts : List (Int × Tok), vs = ts.map (fun q => .int q.1 q.2) ∧ bs = ts.map (·.1)
  | [], bs, h, vs, e, r => by cases e; cases r; exact ⟨[], rfl, rfl⟩
  | d :: ds, bs, h, vs, e, r => by
    cases r with
    | cons x r =>
      cases d with
      | int b =>
        simp only [intsD] at e
        cases q : intsD ds with
        | none => rw [q] at e; cases e
        | some cs =>
          rw [q] at e; cases e
          cases x with
          | int i t =>
            obtain ⟨ts, e1, e2⟩ := intsD_ok q r
            exact ⟨(b, t) :: ts, by rw [e1]; rfl, by rw [e2]; rfl⟩
      | _ => cases e
theorem iter_lst {l : Addr} {vs : List Value} {n : Nat} {Q : Value → Shared → Prop} (e : s.heap.get? l = some (lstO vs n))
    (h : ∀ s₂ : Shared, s₂ = { s with heap := s.heap.push { cls := .type "list_iterator", data := .fields #[.ref l, .int 0 0] } } →
      (s₂.heap.IsListIter s.heap.objs.size l 0 ∧ s₂.heap.IsList l vs.toArray) → (∀ b ∈ [s.heap.objs.size, l], b < s₂.heap.objs.size) → l ≠ s.heap.objs.size → Q (.ref s.heap.objs.size) s₂) :
    wpAny (model prog w) A (pyIter (.ref l)) Q E s := by
  have hl : s.heap.IsList l vs.toArray := ⟨_, e, rfl, n, rfl⟩
  have hlt : l < s.heap.objs.size := Heap.lt_size e
  refine wpAny_pyIter_list hl (h _ rfl ⟨⟨_, Heap.get?_push_size _ rfl, rfl, rfl⟩, hl.push _⟩ (fun b hb => ?_) (Nat.ne_of_lt hlt))
  show b < (s.heap.push _).objs.size
  rw [Heap.size_push]
  simp only [List.mem_cons, List.not_mem_nil, or_false] at hb
  rcases hb with rfl | rfl
  · exact Nat.lt_succ_self _
  · exact Nat.lt_succ_of_lt hlt
theorem kept_iter {l : Addr} {h' : Heap} {o : Obj} (hk : ∀ b o', b ∉ [s.heap.objs.size] → (s.heap.push o).get? b = some o' → h'.get? b = some o') : ∀ b o', s.heap.get? b = some o' → h'.get? b = some o' := fun b o' e => by
  refine hk b o' (fun hm => ?_) (Heap.get?_push_of_some _ e)
  simp only [List.mem_cons, List.not_mem_nil, or_false] at hm
  subst hm
  rw [fresh_none] at e; cases e
theorem truth_bools (bs : List Bool) : TruthOf prog w A (fun i v => ((bs.map Value.bool).toArray)[i]? = some v) (fun i => (bs[i]?).getD true) := by
  intro i v s Q E hv hq
  have : ∃ b, bs[i]? = some b ∧ v = .bool b := by
    simp only [List.getElem?_toArray, List.getElem?_map] at hv
    cases q : bs[i]? with
    | none => rw [q] at hv; cases hv
    | some b => rw [q] at hv; exact ⟨b, rfl, (Option.some.inj hv).symm⟩
  obtain ⟨b, e, rfl⟩ := this
  refine wpAny_truthy_bool ?_
  simpa only [e, Option.getD_some] using hq
theorem all_range_bools (bs : List Bool) : (List.range bs.length).all (fun i => (bs[i]?).getD true) = bs.all id := by
  rw [Bool.eq_iff_iff]
  simp only [List.all_eq_true, List.mem_range, id]
  constructor
  · intro h b hb
    obtain ⟨i, hi, rfl⟩ := List.getElem_of_mem hb
    simpa [List.getElem?_eq_getElem hi] using h i hi
  · intro h i hi
    rw [List.getElem?_eq_getElem hi]
    exact h _ (List.getElem_mem hi)
theorem all_ok (hh : A.handled = none) {ds : List PyData} {bs : List Bool} {x : Value} (e : boolsD ds = some bs) (rx : Rt s.heap S x (.list ds)) (p : PPost ec s S μ (.dat (.bool (bs.all id))) Q) : wpAny (model prog w) A (call (.builtin "all") [x]) Q E s := by
  obtain ⟨a, vs, n, rfl, e1, r1⟩ := rx.lstD
  obtain rfl := boolsD_ok e r1
  refine call_all_walk (iter_lst e1 fun s₂ es st _ hne => ?_)
  subst es
  refine ⟨_, _, _, _, _, _, _, rfl, Walks.list (A := A.in1) hh _ a hne _, st, truth_bools bs, fun h' tk hk => ?_⟩
  rw [show (bs.map Value.bool).toArray.size = bs.length by simp, all_range_bools]
  exact p _ h' tk S (.grown (kept_iter (l := a) hk)) (.old (.dat (.bool _)))
theorem sum_ok (hh : A.handled = none) {ds : List PyData} {is : List Int} {x : Value} (e : intsD ds = some is) (rx : Rt s.heap S x (.list ds)) (p : PPost ec s S μ (.dat (.int is.sum)) Q) : wpAny (model prog w) A (call (.builtin "sum") [x]) Q E s := by
  obtain ⟨a, vs, n, rfl, e1, r1⟩ := rx.lstD
  obtain ⟨ts, rfl, rfl⟩ := intsD_ok e r1
  have hl : s.heap.IsList a (intItems ts.toArray) := ⟨_, e1, rfl, n, by simp [intItems]⟩
  refine sum_intListG hh hl fun h' tk t' hk => ?_
  rw [preSum_eq, List.take_of_length_le (by simp)]
  exact p _ h' tk S (.grown hk) (.old (.dat (.int _ _)))
theorem tuple_ok {ds : List PyData} {d : PyData} {x : Value} (e : seqD d = some ds) (hz : ds.length ≤ lim) (rx : Rt s.heap S x d) (p : PPost ec s S μ (.dat (.tuple ds)) Q) : wpAny (model prog w) A (call (.type "tuple") [x]) Q E s := by
  cases d with
  | tuple xs =>
    cases e
    obtain ⟨a, vs, n, rfl, s1, e1, r1⟩ := rx.tupD
    exact call_tuple_same ⟨_, e1, rfl, n, rfl⟩ (p.dat (.tuple s1 e1 r1) s.toks)
  | list xs =>
    cases e
    obtain ⟨a, vs, n, rfl, e1, r1⟩ := rx.lstD
    refine call_tuple_list ⟨_, e1, rfl, n, rfl⟩ (fun h' hk => ?_) (by rw [← lim_eq]; simpa [r1.length] using hz)
    refine p.tup (fun b o q => Heap.get?_push_of_some _ (hk b o q)) ?_ (Heap.get?_push_size h' (o := tupO vs 0) rfl) r1 s.toks
    cases q : s.heap.get? h'.objs.size with
    | none => rfl
    | some o => have := hk _ _ q; rw [fresh_none] at this; cases this
  | _ => cases e
theorem list_ok (hS : ∀ a, S a → ∃ o, s.heap.get? a = some o) {ds : List PyData} {d : PyData} {x : Value} (e : seqD d = some ds) (hz : ds.length ≤ lim) (rx : Rt s.heap S x d) (p : PPost ec s S μ (.fresh ds) Q) : wpAny (model prog w) A (call (.type "list") [x]) Q E s := by
  cases d with
  | tuple xs =>
    cases e
    obtain ⟨a, vs, n, rfl, s1, e1, r1⟩ := rx.tupD
    exact call_list_seq a (.inr rfl) e1 rfl rfl (fun h' c' hk hq => p.lst hS hk (fresh_none _) hq r1 s.toks) (by rw [← lim_eq]; simpa [r1.length] using hz)
  | list xs =>
    cases e
    obtain ⟨a, vs, n, rfl, e1, r1⟩ := rx.lstD
    exact call_list_seq a (.inl rfl) e1 rfl rfl (fun h' c' hk hq => p.lst hS hk (fresh_none _) hq r1 s.toks) (by rw [← lim_eq]; simpa [r1.length] using hz)
  | _ => cases e
inductive RtL (h : Heap) (S : Addr → Prop) : List Value → List PyData → Prop
  | nil : RtL h S [] []
  | cons {v : Value} {vs : List Value} {d : PyData} {ds : List PyData} : Rt h S v d → RtL h S vs ds → RtL h S (v :: vs) (d :: ds)
noncomputable def primF : Prim → Value
  | .len => .builtin "len"
  | .all => .builtin "all"
  | .any => .builtin "any"
  | .sum => .builtin "sum"
  | .tuple => .type "tuple"
  | .list => .type "list"
  | .int => .type "int"
  | .max => .builtin "max"
  | .join => .none
theorem one_v {M : List Value → Prop} {h : Heap} {vs : List Value} {ds : List PyData} {d : PyData} (e : one ds = some d) (rx : RtL h S vs ds) (k : ∀ x, Rt h S x d → M [x]) : M vs := by
  cases one_eq e
  cases rx with
  | cons x rx => cases rx with
    | nil => exact k _ x
theorem lim_63 {k : Nat} (h : k ≤ lim) : (k : Int) < 2 ^ 63 := by unfold lim at h; omega
theorem len_ok {d : PyData} {r : AV} {x : Value} (e : lenD d = some r) (rd : Rt s.heap S x d) (p : PPost ec s S μ r Q) : wpAny (model prog w) A (call (.builtin "len") [x]) Q E s := by
  cases d <;> first | exact nsm e | skip
  case str x =>
    obtain ⟨t, rfl⟩ := rd.strD
    exact og e fun hz e => os (P := fun r => PPost ec s S μ r Q → _) e (fun p => PyProof.Rows.len_str (Int.not_le.mpr (lim_63 hz)) (p.dat (.int _ _) _)) p
  case list xs =>
    obtain ⟨a, us, n, rfl, e1, r1⟩ := rd.lstD
    refine og e fun hz e => os (P := fun r => PPost ec s S μ r Q → _) e (fun p => Calls.call_len_list ⟨_, e1, rfl, n, rfl⟩ (by rw [List.size_toArray, r1.length]; exact lim_63 hz) ?_) p
    rw [List.size_toArray, r1.length]
    exact p.dat (.int _ _) _
  case tuple xs =>
    obtain ⟨a, us, n, rfl, s1, e1, r1⟩ := rd.tupD
    refine og e fun hz e => os (P := fun r => PPost ec s S μ r Q → _) e (fun p => P.len_tuple e1 (by rw [List.size_toArray, r1.length]; exact Int.not_le.mpr (lim_63 hz)) ?_) p
    rw [List.size_toArray, r1.length]
    exact p.dat (.int _ _) _
theorem prim_ok (hh : A.handled = none) (hS : ∀ a, S a → ∃ o, s.heap.get? a = some o) {q : Prim} {ds : List PyData} {r : AV} {vs : List Value} (hq : q ≠ .join) (e : primD q ds = some r) (rx : RtL s.heap S vs ds) (p : PPost ec s S μ r Q) :
    wpAny (model prog w) A (call (primF q) vs) Q E s := by
  cases q with
  | join => exact absurd rfl hq
  | len => exact ob e fun d h1 e => one_v (M := fun vs => wpAny (model prog w) A (call (.builtin "len") vs) Q E s) h1 rx fun x rd => len_ok e rd p
  | all => exact ob e fun d h1 e => ob e fun xs h2 e => ob e fun bs hb e => one_v (M := fun vs => wpAny (model prog w) A (call (.builtin "all") vs) Q E s) h1 rx fun x rd => os (P := fun r => PPost ec s S μ r Q → _) e (fun p => all_ok hh hb (listD_eq h2 ▸ rd) p) p
  | any => cases e
  | sum => exact ob e fun d h1 e => ob e fun xs h2 e => ob e fun bs hb e => one_v (M := fun vs => wpAny (model prog w) A (call (.builtin "sum") vs) Q E s) h1 rx fun x rd => os (P := fun r => PPost ec s S μ r Q → _) e (fun p => sum_ok hh hb (listD_eq h2 ▸ rd) p) p
  | tuple => exact ob e fun d h1 e => ob e fun xs hb e => og e fun hz e => one_v (M := fun vs => wpAny (model prog w) A (call (.type "tuple") vs) Q E s) h1 rx fun x rd => os (P := fun r => PPost ec s S μ r Q → _) e (fun p => tuple_ok hb hz rd p) p
  | list => exact ob e fun d h1 e => ob e fun xs hb e => og e fun hz e => one_v (M := fun vs => wpAny (model prog w) A (call (.type "list") vs) Q E s) h1 rx fun x rd => os (P := fun r => PPost ec s S μ r Q → _) e (fun p => list_ok hS hb hz rd p) p
  | int =>
    refine ob e fun d h1 e => ob e fun b h2 e => one_v (M := fun vs => wpAny (model prog w) A (call (.type "int") vs) Q E s) h1 rx fun x rd => ?_
    obtain rfl := (boolD_eq h2 ▸ rd : Rt s.heap S x (.bool b)).boolD
    exact os (P := fun r => PPost ec s S μ r Q → _) e (fun p => call_int_bool (p.dat (.int _ _) _)) p
  | max => cases e
end
end Mine
namespace Mine
open PySem
structure Mv (wr S S' : Addr → Prop) (h h' : Heap) : Prop where
  keep : ∀ b o, ¬ wr b → h.get? b = some o → h'.get? b = some o
  sub : ∀ a, S a → S' a
  new : ∀ a, S' a → S a ∨ h.get? a = none
  inS : ∀ a, S' a → S a ∨ ∃ o, h'.get? a = some o ∧ Plainly o
theorem Mv.same {wr S : Addr → Prop} {h h' : Heap} (k : ∀ b o, ¬ wr b → h.get? b = some o → h'.get? b = some o) : Mv wr S S h h' := ⟨k, fun _ x => x, fun _ x => .inl x, fun _ x => .inl x⟩
noncomputable def isTupT : Expr → Bool
  | .Tuple .. => true
  | _ => false
noncomputable def isNameT : Expr → Bool
  | .Name .. => true
  | _ => false
structure Src (prog : Program) (w : World) (A : Around) (I : Addr) (fp wr : Addr → Prop) (xs : List PyData) (T : Expr → Prop) (St : Nat → Heap → Prop) (Mid : Nat → Value → Heap → Prop) (Ok : (Addr → Prop) → Heap → Prop) : Prop where
  sub : ∀ b, wr b → fp b
  frame : ∀ i h h', St i h → (∀ b o, fp b → h.get? b = some o → h'.get? b = some o) → St i h'
  alloc : ∀ i h b, St i h → fp b → ∃ o, h.get? b = some o ∧ Plainly o
  mono : ∀ (S S' : Addr → Prop) (h h' : Heap), Ok S h → (∀ a, S a → S' a) → (∀ a o, S a → h.get? a = some o → h'.get? a = some o) → Ok S' h'
  next : ∀ (i : Nat) (d : PyData) (S : Addr → Prop) (s : Shared) (Q : Option Value → Shared → Prop) (E : Value → Shared → Prop), xs[i]? = some d → St i s.heap → Ok S s.heap → (∀ a, S a → ¬ wr a) →
    (∀ v h' tk S', Mv wr S S' s.heap h' → Rd h' S' v d → Mid i v h' → Q (some v) { s with heap := h', toks := tk }) → wpAny (model prog w) A (pyNext (.ref I)) Q E s
  go : ∀ (i : Nat) (v : Value) (t : Expr) (s : Shared) (Q : Unit → Shared → Prop) (E : Value → Shared → Prop), T t → Mid i v s.heap →
    (∀ h', (∀ b o, ¬ wr b → s.heap.get? b = some o → h'.get? b = some o) → St (i + 1) h' → Q () { s with heap := h' }) → wpAny (model prog w) A (letOwnedTupleGo t (.ref I) v) Q E s
  done : ∀ (S : Addr → Prop) (s : Shared) (Q : Option Value → Shared → Prop) (E : Value → Shared → Prop), St xs.length s.heap → Ok S s.heap →
    (∀ h' tk, (∀ b o, ¬ wr b → s.heap.get? b = some o → h'.get? b = some o) → Q none { s with heap := h', toks := tk }) → wpAny (model prog w) A (pyNext (.ref I)) Q E s
  self : ∀ (i : Nat) (s : Shared) (Q : Value → Shared → Prop) (E : Value → Shared → Prop), St i s.heap → Q (.ref I) s → wpAny (model prog w) A (pyIter (.ref I)) Q E s
theorem go_name {prog : Program} {w : World} {A : Around} {E : Value → Shared → Prop} {s : Shared} {t : Expr} {it v : Value} {Q : Unit → Shared → Prop} (ht : isNameT t = true) (h : Q () s) : wpAny (model prog w) A (letOwnedTupleGo t it v) Q E s := by
  cases t <;> first | (cases ht; done) | exact wpAny_pure h
theorem go_plain {prog : Program} {w : World} {A : Around} {E : Value → Shared → Prop} {s : Shared} {t : Expr} {I : Addr} {o : Obj} {n : String} {v : Value} {Q : Unit → Shared → Prop} (ht : isNameT t = true ∨ isTupT t = true) (ho : s.heap.get? I = some o) (hc : o.cls = .type n)
    (hn : (["enumerate", "zip", "dict_itemiterator", "dict_reverseitemiterator", "odict_iterator", "itertools.zip_longest", "itertools.pairwise"].contains n) = false) (h : Q () s) :
    wpAny (model prog w) A (letOwnedTupleGo t (.ref I) v) Q E s := by
  rcases ht with ht | ht
  · exact go_name ht h
  · cases t <;> first | (cases ht; done) | skip
    unfold letOwnedTupleGo
    cases v <;> first | exact wpAny_pure h | skip
    refine wpAny_bind (wpAny_load ho ?_)
    rw [hc]
    cases o.data <;> first | exact wpAny_pure h | skip
    dsimp only
    rw [hn, Bool.false_and, if_neg Bool.false_ne_true]
    exact wpAny_pure h
section
variable {prog : Program} {w : World} {A : Around}
theorem Src.list (hh : A.handled = none) (I l : Addr) (hne : l ≠ I) (vs : List Value) (n : Nat) (xs : List PyData) :
    Src prog w A I (fun b => b = I ∨ b = l) (fun b => b = I) xs (fun t => isNameT t = true ∨ isTupT t = true)
      (fun i h => h.IsListIter I l i ∧ h.get? l = some (lstO vs n)) (fun i _ h => h.IsListIter I l (i + 1) ∧ h.get? l = some (lstO vs n)) (fun S h => RdL h S vs xs) where
  sub := fun _ hb => .inl hb
  frame := fun i h h' st hk => ⟨st.1.at fun o e => hk I o (.inl rfl) e, hk l _ (.inr rfl) st.2⟩
  alloc := fun i h b st hb => by
    rcases hb with rfl | rfl
    · obtain ⟨o, e, _, hd⟩ := st.1
      exact ⟨o, e, by constructor <;> (intros; rw [hd]; intro q; cases q)⟩
    · exact ⟨_, st.2, by constructor <;> (intros; intro q; cases q)⟩
  mono := fun S S' h h' r hs hk => r.mono hk hs
  next := fun i d S s Q E hd st r hw hQ => by
    obtain ⟨v, hv, rv⟩ := RdL.get r hd
    refine wpAny_pyNext_list_item st.1 ⟨_, st.2, rfl, n, rfl⟩ (x := v) (by simpa using hv) fun h' hit hs => ?_
    refine hQ v h' s.toks S (.same fun b o hb e => hs.extBut b o hb e) (rv.mono (fun a o ha e => hs.extBut a o (fun q => hw a ha q) e) fun _ q => q) ⟨hit, hs.extBut _ _ hne st.2⟩
  go := fun i v t s Q E ht hm hQ => by
    obtain ⟨o, ho, hc, _⟩ := id hm.1
    exact go_plain ht ho hc (by decide) (hQ s.heap (fun _ _ _ e => e) hm)
  done := fun S s Q E st r hQ =>
    wpAny_pyNext_list_end hh st.1 ⟨_, st.2, rfl, n, rfl⟩ (by simp [RdL.length r]) fun h' he => hQ h' s.toks fun b o hb e => he b o hb e
  self := fun i s Q E st hQ => wpAny_pyIter_listiter st.1 hQ
theorem Src.tuple (hh : A.handled = none) (I l : Addr) (hne : l ≠ I) (vs : List Value) (n : Nat) (xs : List PyData) :
    Src prog w A I (fun b => b = I ∨ b = l) (fun b => b = I) xs (fun t => isNameT t = true ∨ isTupT t = true)
      (fun i h => h.IsTupleIter I l i ∧ h.get? l = some (tupO vs n)) (fun i _ h => h.IsTupleIter I l (i + 1) ∧ h.get? l = some (tupO vs n)) (fun S h => RdL h S vs xs) where
  sub := fun _ hb => .inl hb
  frame := fun i h h' st hk => ⟨st.1.at fun o e => hk I o (.inl rfl) e, hk l _ (.inr rfl) st.2⟩
  alloc := fun i h b st hb => by
    rcases hb with rfl | rfl
    · obtain ⟨o, e, _, hd⟩ := st.1
      exact ⟨o, e, by constructor <;> (intros; rw [hd]; intro q; cases q)⟩
    · exact ⟨_, st.2, by constructor <;> (intros; intro q; cases q)⟩
  mono := fun S S' h h' r hs hk => r.mono hk hs
  next := fun i d S s Q E hd st r hw hQ => by
    obtain ⟨v, hv, rv⟩ := RdL.get r hd
    refine wpAny_pyNext_tuple_item st.1 ⟨_, st.2, rfl, n, rfl⟩ (x := v) (by simpa using hv) fun h' hit hs => ?_
    refine hQ v h' s.toks S (.same fun b o hb e => hs.extBut b o hb e) (rv.mono (fun a o ha e => hs.extBut a o (fun q => hw a ha q) e) fun _ q => q) ⟨hit, hs.extBut _ _ hne st.2⟩
  go := fun i v t s Q E ht hm hQ => by
    obtain ⟨o, ho, hc, _⟩ := id hm.1
    exact go_plain ht ho hc (by decide) (hQ s.heap (fun _ _ _ e => e) hm)
  done := fun S s Q E st r hQ =>
    wpAny_pyNext_tuple_end hh st.1 ⟨_, st.2, rfl, n, rfl⟩ (by simp [RdL.length r]) fun h' he => hQ h' s.toks fun b o hb e => he b o hb e
  self := fun i s Q E st hQ => wpAny_pyIter_tupleiter st.1 hQ
theorem Src.strA (hh : A.handled = none) (I : Addr) (x : Str) (t : Tok) :
    Src prog w A I (fun b => b = I) (fun b => b = I) (charsD x) (fun t => isNameT t = true ∨ isTupT t = true)
      (fun i h => h.IsStrIter I "str_ascii_iterator" x t i) (fun i _ h => h.IsStrIter I "str_ascii_iterator" x t (i + 1)) (fun _ _ => True) where
  sub := fun _ hb => hb
  frame := fun i h h' st hk => let ⟨o, ho, r⟩ := st; ⟨o, hk I o rfl ho, r⟩
  alloc := fun i h b st hb => by
    subst hb
    obtain ⟨o, e, _, hd⟩ := st
    exact ⟨o, e, by constructor <;> (intros; rw [hd]; intro q; cases q)⟩
  mono := fun _ _ _ _ _ _ _ => trivial
  next := fun i d S s Q E hd st r hw hQ => by
    have hd' : (x.cps.toList[i]?).map (fun c => PyData.str ⟨#[c]⟩) = some d := by rw [← List.getElem?_map]; exact hd
    obtain ⟨c, hc, rfl⟩ := Option.map_eq_some_iff.mp hd'
    refine wpAny_pyNext_ascii_item st (c := c) (by rw [← Array.getElem?_toList]; exact hc) fun h' hit hs => ?_
    exact hQ _ h' _ S (.same fun b o hb e => hs.extBut b o hb e) (.str _ _) hit
  go := fun i v t s Q E ht hm hQ => by
    obtain ⟨o, ho, hc, _⟩ := id hm
    exact go_plain ht ho hc (by decide) (hQ s.heap (fun _ _ _ e => e) hm)
  done := fun S s Q E st r hQ =>
    wpAny_pyNext_ascii_end hh st (by rw [← Array.getElem?_toList, List.getElem?_eq_none]; simp [charsD]) fun h' he => hQ h' s.toks fun b o hb e => he b o hb e
  self := fun i s Q E st hQ => wpAny_pyIter_striter_ascii st hQ
theorem rangeL_get {a b : Int} {i : Nat} {d : PyData} (h : (rangeL a b)[i]? = some d) : i < (b - a).toNat ∧ d = .int (a + i) := by
  unfold rangeL at h
  rw [List.getElem?_map] at h
  cases q : (List.range (b - a).toNat)[i]? with
  | none => rw [q] at h; cases h
  | some k =>
    rw [q] at h
    obtain ⟨h1, h2⟩ := List.getElem?_eq_some_iff.mp q
    simp at h1 h2
    subst h2
    exact ⟨by omega, (Option.some.inj h).symm⟩
theorem rangeL_len (a b : Int) : (rangeL a b).length = (b - a).toNat := by simp [rangeL]
theorem Src.range (hh : A.handled = none) (I : Addr) (a b : Int) :
    Src prog w A I (fun c => c = I) (fun c => c = I) (rangeL a b) (fun t => isNameT t = true)
      (fun i h => IsRangeIter h I (a + (i : Nat) * 1) ((((b - a).toNat : Nat) : Int) - (i : Nat)) 1) (fun i _ h => IsRangeIter h I (a + ((i + 1 : Nat) : Int) * 1) ((((b - a).toNat : Nat) : Int) - ((i + 1 : Nat) : Int)) 1) (fun _ _ => True) where
  sub := fun _ hb => hb
  frame := fun i h h' st hk => hk I _ rfl st
  alloc := fun i h c st hc => by
    subst hc
    exact ⟨_, st, by constructor <;> (intros; intro q; cases q)⟩
  mono := fun _ _ _ _ _ _ _ => trivial
  next := fun i d S s Q E hd st r hw hQ => by
    obtain ⟨hi, rfl⟩ := rangeL_get hd
    refine wpAny_pyNext_range_item st (by omega) fun h' hit hs => ?_
    rw [Int.mul_one] at *
    refine hQ _ h' _ S (.same fun b o hb e => hs.extBut b o hb e) (.int _ _) ?_
    have e1 : a + ((i + 1 : Nat) : Int) = a + (i : Int) + 1 := by omega
    have e2 : (((b - a).toNat : Nat) : Int) - ((i + 1 : Nat) : Int) = (((b - a).toNat : Nat) : Int) - (i : Int) - 1 := by omega
    rw [e1, e2]; exact hit
  go := fun i v t s Q E ht hm hQ => go_name ht (hQ s.heap (fun _ _ _ e => e) hm)
  done := fun S s Q E st r hQ => wpAny_pyNext_range_end hh st (by rw [rangeL_len]; omega) fun h' he => hQ h' s.toks fun b o hb e => he b o hb e
  self := fun i s Q E st hQ => wpAny_pyIter_rangeiter st hQ
end
noncomputable def itAt (k : Bool) (h : Heap) (it l : Addr) (i : Nat) : Prop := if k then h.IsListIter it l i else h.IsTupleIter it l i
noncomputable def seqO (k : Bool) (vs : List Value) (n : Nat) : Obj := if k then lstO vs n else tupO vs n
theorem itAt.ext {k : Bool} {h h' : Heap} {it l b : Addr} {i : Nat} (x : itAt k h it l i) (hs : Heap.ExtBut b h h') (hne : it ≠ b) : itAt k h' it l i := by
  cases k
  · exact Heap.IsTupleIter.extBut x hs hne
  · exact Heap.IsListIter.extBut x hs hne
theorem itAt.at {k : Bool} {h h' : Heap} {it l : Addr} {i : Nat} (x : itAt k h it l i) (hs : ∀ o, h.get? it = some o → h'.get? it = some o) : itAt k h' it l i := by
  cases k
  · exact Heap.IsTupleIter.at x hs
  · exact Heap.IsListIter.at x hs
theorem itAt.obj {k : Bool} {h : Heap} {it l : Addr} {i : Nat} (x : itAt k h it l i) : ∃ o, h.get? it = some o ∧ Plainly o := by
  cases k <;> (obtain ⟨o, e, _, hd⟩ := x; exact ⟨o, e, by constructor <;> (intros; rw [hd]; intro q; cases q)⟩)
section
variable {prog : Program} {w : World} {A : Around} {E : Value → Shared → Prop} {s : Shared}
theorem nextOf_item {k : Bool} {it l : Addr} {i n : Nat} {vs : List Value} {x : Value} {Q : Value → Shared → Prop} (hit : itAt k s.heap it l i) (hl : s.heap.get? l = some (seqO k vs n)) (hx : vs[i]? = some x)
    (hQ : ∀ h', itAt k h' it l (i + 1) → Heap.SameBut it s.heap h' → Q x { s with heap := h' }) : wpAny (model prog w) A (Builtin.SmallTypes.nextOf (.ref it)) Q E s := by
  cases k with
  | true => exact wpAny_nextOf_list_item hit ⟨_, hl, rfl, n, rfl⟩ (by simpa using hx) hQ
  | false =>
    obtain ⟨o, ho, hc, hd⟩ := id hit
    have hty : s.TypeIs (.ref it) "tuple_iterator" := ⟨o, ho, hc⟩
    unfold Builtin.SmallTypes.nextOf
    refine wpAny_bind (wpAny_callSpecial?_slot (name := Str.ofString "__next__") hty F.slot_tuple_iterator_next
      (wpAny_call_entry F.slot_tuple_iterator_next hty F.entry_tuple_iterator_next ?_ (F.args_tuple_iterator_next_1 _)))
    show wpAny _ _ (field (.ref it) 0 >>= _) _ _ s
    refine wpAny_bind (wpAny_field ho hd (x := .ref l) rfl ?_)
    show wpAny _ _ (if (Value.ref l == Value.none) = true then _ else _) _ _ s
    rw [if_neg (show ¬ ((Value.ref l == Value.none) = true) from Bool.false_ne_true)]
    show wpAny _ _ (field (.ref it) 1 >>= _) _ _ s
    refine wpAny_bind (wpAny_field ho hd (x := .int i 0) rfl ?_)
    show wpAny _ _ (seqItems? (.ref l) >>= _) _ _ s
    refine wpAny_bind (wpAny_seqItems hl rfl ?_)
    simp only [Int.toNat_natCast, List.getElem?_toArray, hx]
    refine wpAny_bind (wpAny_setField ho hd (by simp) (wpAny_pure ⟨x, rfl, wpAny_pure (hQ _ ?_ (Heap.SameBut.update ..))⟩))
    exact ⟨_, Heap.get?_update_self _ ho (Obj.isFreed_of_fields (Obj.data_mapFields hd _)), (Obj.cls_mapFields ..).trans hc, by
      rw [Obj.data_mapFields hd]; simp [rawInt]⟩
theorem nextOf_end {k : Bool} {it l : Addr} {i n : Nat} {vs : List Value} {Q : Value → Shared → Prop} (hh : A.handled = none) (hit : itAt k s.heap it l i) (hl : s.heap.get? l = some (seqO k vs n)) (hx : vs[i]? = none)
    (hE : ∀ h' e, Heap.ExtBut it s.heap h' → (∃ o, h'.get? e = some o ∧ o.cls = .type "StopIteration") → E (.ref e) { s with heap := h' }) : wpAny (model prog w) A (Builtin.SmallTypes.nextOf (.ref it)) Q E s := by
  cases k with
  | true => exact wpAny_nextOf_list_end hh hit ⟨_, hl, rfl, n, rfl⟩ (by simpa using hx) hE
  | false =>
    obtain ⟨o, ho, hc, hd⟩ := id hit
    have hty : s.TypeIs (.ref it) "tuple_iterator" := ⟨o, ho, hc⟩
    unfold Builtin.SmallTypes.nextOf
    refine wpAny_bind (wpAny_callSpecial?_slot (name := Str.ofString "__next__") hty F.slot_tuple_iterator_next
      (wpAny_call_entry F.slot_tuple_iterator_next hty F.entry_tuple_iterator_next ?_ (F.args_tuple_iterator_next_1 _)))
    show wpAny _ _ (field (.ref it) 0 >>= _) _ _ s
    refine wpAny_bind (wpAny_field ho hd (x := .ref l) rfl ?_)
    show wpAny _ _ (if (Value.ref l == Value.none) = true then _ else _) _ _ s
    rw [if_neg (show ¬ ((Value.ref l == Value.none) = true) from Bool.false_ne_true)]
    show wpAny _ _ (field (.ref it) 1 >>= _) _ _ s
    refine wpAny_bind (wpAny_field ho hd (x := .int i 0) rfl ?_)
    show wpAny _ _ (seqItems? (.ref l) >>= _) _ _ s
    refine wpAny_bind (wpAny_seqItems hl rfl ?_)
    simp only [Int.toNat_natCast, List.getElem?_toArray, hx]
    refine wpAny_bind (wpAny_rule (wpAny_bind (wpAny_setField ho hd (by simp) ?_)))
    show wpAny _ _ (newExc (.type "StopIteration") [] >>= _) _ _ _
    refine wpAny_bind ?_
    simp only [newExc, newTuple]
    refine wpAny_bind (wpAny_newObj_type ?_ (by size_fits))
    refine wpAny_bind (m := firstArgMember _ _) (wpAny_of_eq (a := Value.none) (by first | rfl | (simp only [firstArgMember]; rfl)) ?_)
    refine wpAny_newObj_type ?_ (by size_fits)
    simp only [raiseNew]
    refine wpAny_bind (wpAny_handled ?_)
    first | rw [show A.in1.handled = none from hh] | rw [hh]
    refine wpAny_bind (wpAny_pure (wpAny_throw ?_))
    exact hE _ _ (((Heap.SameBut.update ..).extBut.push _).push _) ⟨_, Heap.get?_push_size _ rfl, rfl⟩
structure ZA (z TI TO i1 i2 l1 l2 : Addr) : Prop where
  TIz : TI ≠ z
  TOz : TO ≠ z
  i1z : i1 ≠ z
  i2z : i2 ≠ z
  TITO : TI ≠ TO
  TIi1 : TI ≠ i1
  TIi2 : TI ≠ i2
  TOi1 : TO ≠ i1
  TOi2 : TO ≠ i2
  i12 : i1 ≠ i2
  l1z : l1 ≠ z
  l1TO : l1 ≠ TO
  l1i1 : l1 ≠ i1
  l1i2 : l1 ≠ i2
  l2z : l2 ≠ z
  l2TO : l2 ≠ TO
  l2i1 : l2 ≠ i1
  l2i2 : l2 ≠ i2
theorem zip_item {k1 k2 : Bool} {z TI TO i1 i2 l1 l2 : Addr} {j n1 n2 : Nat} {xs ys : List Value} {x y a b : Value} {Q : Value → Shared → Prop} (D : ZA z TI TO i1 i2 l1 l2)
    (hz : IsZip s.heap z TI TO .none) (hTI : IsPair s.heap TI (.ref i1) (.ref i2)) (hTO : IsPair s.heap TO a b)
    (h1 : itAt k1 s.heap i1 l1 j) (h2 : itAt k2 s.heap i2 l2 j) (hl1 : s.heap.get? l1 = some (seqO k1 xs n1)) (hl2 : s.heap.get? l2 = some (seqO k2 ys n2)) (hx : xs[j]? = some x) (hy : ys[j]? = some y)
    (hQ : ∀ h', IsZip h' z TI TO (rawInt s.heap.objs.size) → IsPair h' TO x y → itAt k1 h' i1 l1 (j + 1) → itAt k2 h' i2 l2 (j + 1) → IsPair h' s.heap.objs.size x y → h'.objs.size = s.heap.objs.size + 1 →
      (∀ c o, c ≠ z → c ≠ TO → c ≠ i1 → c ≠ i2 → s.heap.get? c = some o → h'.get? c = some o) → Q (.ref s.heap.objs.size) { s with heap := h' }) :
    wpAny (model prog w) A (Builtin.«zip.__next__» ⟨[.ref z], []⟩) (fun fin s' => ∃ v, fin = .done (.ret v) ∧ Q v s') E s := by
  show wpAny _ _ (field (.ref z) 2 >>= _) _ _ _
  refine wpAny_bind (wpAny_field hz rfl (x := .bool false) rfl ?_)
  show wpAny _ _ (field (.ref z) 3 >>= _) _ _ _
  refine wpAny_bind (wpAny_field hz rfl (x := .ref TI) rfl ?_)
  refine wpAny_bind (wpAny_seqItems hTI rfl ?_)
  show wpAny _ _ (Builtin.SmallTypes.ownedTupleIsFree (.ref z) >>= _) _ _ _
  refine wpAny_bind ?_
  unfold Builtin.SmallTypes.ownedTupleIsFree
  refine wpAny_bind (wpAny_field hz rfl (x := .none) rfl (wpAny_pure ?_))
  simp only [if_true]
  refine wpAny_bind (wpAny_rule ?_)
  refine wpAny_bind (wpAny_field hz rfl (x := .ref TO) rfl ?_)
  refine wpAny_bind (wpAny_setField_rec hz (by simp) fun g₁ hz₁ hs₁ => ?_)
  replace hz₁ : IsZip g₁ z TI TO .ellipsis := hz₁
  refine wpAny_bind ?_
  simp only [List.zipIdx_cons, List.zipIdx_nil, List.forIn_cons, List.forIn_nil]
  refine wpAny_bind (wpAny_bind (wpAny_onRaise ?_))
  show wpAny _ _ (Builtin.SmallTypes.nextOf (.ref i1) >>= _) _ _ _
  refine wpAny_bind (nextOf_item (h1.ext hs₁.extBut D.i1z) (hs₁.extBut _ _ D.l1z hl1) hx fun g₂ h1₂ hs₂ => wpAny_pure ?_)
  have hTO₂ : IsPair g₂ TO a b := hs₂.extBut _ _ D.TOi1 (hs₁.extBut _ _ D.TOz hTO)
  refine wpAny_bind (wpAny_seqItems hTO₂ rfl ?_)
  refine wpAny_bind (wpAny_updateSeq_pair hTO₂ fun g₃ hTO₃ hs₃ => ?_)
  replace hTO₃ : IsPair g₃ TO x b := hTO₃
  refine wpAny_bind (wpAny_letGo (wpAny_pure ?_))
  refine wpAny_bind (wpAny_bind (wpAny_onRaise ?_))
  show wpAny _ _ (Builtin.SmallTypes.nextOf (.ref i2) >>= _) _ _ _
  refine wpAny_bind (nextOf_item (((h2.ext hs₁.extBut D.i2z).ext hs₂.extBut D.i12.symm).ext hs₃.extBut D.TOi2.symm)
    (hs₃.extBut _ _ D.l2TO (hs₂.extBut _ _ D.l2i1 (hs₁.extBut _ _ D.l2z hl2))) hy fun g₄ h2₄ hs₄ => wpAny_pure ?_)
  have hTO₄ : IsPair g₄ TO x b := hs₄.extBut _ _ D.TOi2 hTO₃
  refine wpAny_bind (wpAny_seqItems hTO₄ rfl ?_)
  refine wpAny_bind (wpAny_updateSeq_pair hTO₄ fun g₅ hTO₅ hs₅ => ?_)
  replace hTO₅ : IsPair g₅ TO x y := hTO₅
  refine wpAny_bind (wpAny_letGo (wpAny_pure (wpAny_pure ?_)))
  refine wpAny_bind (wpAny_seqItems hTO₅ rfl ?_)
  refine wpAny_bind (wpAny_newTuple ?_)
  have hsz : g₅.objs.size = s.heap.objs.size := by rw [hs₅.1, hs₄.1, hs₃.1, hs₂.1, hs₁.1]
  have hz₅ : IsZip g₅ z TI TO .ellipsis := hs₅.extBut _ _ D.TOz.symm (hs₄.extBut _ _ D.i2z.symm (hs₃.extBut _ _ D.TOz.symm (hs₂.extBut _ _ D.i1z.symm hz₁)))
  have hk₅ : ∀ c o, c ≠ z → c ≠ TO → c ≠ i1 → c ≠ i2 → s.heap.get? c = some o → g₅.get? c = some o := fun c o c1 c2 c3 c4 e =>
    hs₅.extBut _ _ c2 (hs₄.extBut _ _ c4 (hs₃.extBut _ _ c2 (hs₂.extBut _ _ c3 (hs₁.extBut _ _ c1 e))))
  have h1₅ : itAt k1 g₅ i1 l1 (j + 1) := ((h1₂.ext hs₃.extBut D.TOi1.symm).ext hs₄.extBut D.i12).ext hs₅.extBut D.TOi1.symm
  have h2₅ : itAt k2 g₅ i2 l2 (j + 1) := h2₄.ext hs₅.extBut D.TOi2.symm
  have hzlt : z < g₅.objs.size := Heap.lt_size hz₅
  show wpAny _ _ (Builtin.SmallTypes.ownedTupleHandOut (.ref z) (.ref g₅.objs.size) >>= _) _ _ _
  refine wpAny_bind ?_
  unfold Builtin.SmallTypes.ownedTupleHandOut
  have hz₆ : IsZip (g₅.push { cls := .type "tuple", data := .seq #[x, y] }) z TI TO .ellipsis := Heap.get?_push_of_some _ hz₅
  refine wpAny_bind (wpAny_setField_rec hz₆ (by simp) fun g₇ hz₇ hs₇ => ?_)
  replace hz₇ : IsZip g₇ z TI TO (rawInt g₅.objs.size) := hz₇
  refine wpAny_setField_rec hz₇ (by simp) fun g₈ hz₈ hs₈ => ?_
  replace hz₈ : IsZip g₈ z TI TO (rawInt g₅.objs.size) := hz₈
  have up : ∀ c o, c ≠ z → g₅.get? c = some o → g₈.get? c = some o := fun c o c1 e => hs₈.extBut _ _ c1 (hs₇.extBut _ _ c1 (Heap.get?_push_of_some _ e))
  have hT₈ : IsPair g₈ g₅.objs.size x y := hs₈.extBut _ _ (Nat.ne_of_gt hzlt) (hs₇.extBut _ _ (Nat.ne_of_gt hzlt) (Heap.get?_push_size _ rfl))
  have hz8 : g₈.objs.size = g₅.objs.size + 1 := by rw [hs₈.1, hs₇.1, Heap.size_push]
  rw [hsz] at hz₈ hT₈ hz8
  refine wpAny_pure ⟨_, rfl, ?_⟩
  show Q (.ref g₅.objs.size) _
  rw [hsz]
  exact hQ g₈ hz₈ (up _ _ D.TOz hTO₅) (h1₅.at fun o e => up _ o D.i1z e) (h2₅.at fun o e => up _ o D.i2z e) hT₈ hz8 fun c o c1 c2 c3 c4 e => up c o c1 (hk₅ c o c1 c2 c3 c4 e)
theorem zip_end {k1 k2 : Bool} {z TI TO i1 i2 l1 l2 : Addr} {j n1 n2 : Nat} {xs ys : List Value} {a b : Value} {Q : Fin → Shared → Prop} (hh : A.handled = none) (D : ZA z TI TO i1 i2 l1 l2)
    (hz : IsZip s.heap z TI TO .none) (hTI : IsPair s.heap TI (.ref i1) (.ref i2)) (hTO : IsPair s.heap TO a b)
    (h1 : itAt k1 s.heap i1 l1 j) (h2 : itAt k2 s.heap i2 l2 j) (hl1 : s.heap.get? l1 = some (seqO k1 xs n1)) (hl2 : s.heap.get? l2 = some (seqO k2 ys n2)) (hend : xs[j]? = none ∨ ys[j]? = none)
    (hE : ∀ h' e, (∀ c o, c ≠ z → c ≠ TO → c ≠ i1 → c ≠ i2 → s.heap.get? c = some o → h'.get? c = some o) → (∃ o, h'.get? e = some o ∧ o.cls = .type "StopIteration") → E (.ref e) { s with heap := h' }) :
    wpAny (model prog w) A (Builtin.«zip.__next__» ⟨[.ref z], []⟩) Q E s := by
  show wpAny _ _ (field (.ref z) 2 >>= _) _ _ _
  refine wpAny_bind (wpAny_field hz rfl (x := .bool false) rfl ?_)
  show wpAny _ _ (field (.ref z) 3 >>= _) _ _ _
  refine wpAny_bind (wpAny_field hz rfl (x := .ref TI) rfl ?_)
  refine wpAny_bind (wpAny_seqItems hTI rfl ?_)
  show wpAny _ _ (Builtin.SmallTypes.ownedTupleIsFree (.ref z) >>= _) _ _ _
  refine wpAny_bind ?_
  unfold Builtin.SmallTypes.ownedTupleIsFree
  refine wpAny_bind (wpAny_field hz rfl (x := .none) rfl (wpAny_pure ?_))
  simp only [if_true]
  refine wpAny_bind (wpAny_rule ?_)
  refine wpAny_bind (wpAny_field hz rfl (x := .ref TO) rfl ?_)
  refine wpAny_bind (wpAny_setField_rec hz (by simp) fun g₁ hz₁ hs₁ => ?_)
  replace hz₁ : IsZip g₁ z TI TO .ellipsis := hz₁
  refine wpAny_bind ?_
  simp only [List.zipIdx_cons, List.zipIdx_nil, List.forIn_cons, List.forIn_nil]
  refine wpAny_bind (wpAny_bind (wpAny_onRaise ?_))
  show wpAny _ _ (Builtin.SmallTypes.nextOf (.ref i1) >>= _) _ _ _
  cases hx : xs[j]? with
  | none =>
    refine wpAny_bind (nextOf_end hh (h1.ext hs₁.extBut D.i1z) (hs₁.extBut _ _ D.l1z hl1) hx fun g₂ e hs₂ he => ?_)
    obtain ⟨oe, hoe, hce⟩ := he
    have hz₂ : IsZip g₂ z TI TO .ellipsis := hs₂ _ _ D.i1z.symm hz₁
    have hez : e ≠ z := fun x => by subst x; rw [hz₂] at hoe; cases hoe; simp at hce
    refine wpAny_setField_rec hz₂ (by simp) fun g₃ _ hs₃ => hE g₃ e (fun c o c1 _ c3 _ x => hs₃.extBut _ _ c1 (hs₂ _ _ c3 (hs₁.extBut _ _ c1 x))) ⟨oe, hs₃.extBut _ _ hez hoe, hce⟩
  | some x =>
    have hy : ys[j]? = none := by rcases hend with h | h; rw [hx] at h; cases h; exact h
    refine wpAny_bind (nextOf_item (h1.ext hs₁.extBut D.i1z) (hs₁.extBut _ _ D.l1z hl1) hx fun g₂ h1₂ hs₂ => wpAny_pure ?_)
    have hTO₂ : IsPair g₂ TO a b := hs₂.extBut _ _ D.TOi1 (hs₁.extBut _ _ D.TOz hTO)
    refine wpAny_bind (wpAny_seqItems hTO₂ rfl ?_)
    refine wpAny_bind (wpAny_updateSeq_pair hTO₂ fun g₃ hTO₃ hs₃ => ?_)
    refine wpAny_bind (wpAny_letGo (wpAny_pure ?_))
    refine wpAny_bind (wpAny_bind (wpAny_onRaise ?_))
    show wpAny _ _ (Builtin.SmallTypes.nextOf (.ref i2) >>= _) _ _ _
    refine wpAny_bind (nextOf_end hh (((h2.ext hs₁.extBut D.i2z).ext hs₂.extBut D.i12.symm).ext hs₃.extBut D.TOi2.symm)
      (hs₃.extBut _ _ D.l2TO (hs₂.extBut _ _ D.l2i1 (hs₁.extBut _ _ D.l2z hl2))) hy fun g₄ e hs₄ he => ?_)
    obtain ⟨oe, hoe, hce⟩ := he
    have hz₄ : IsZip g₄ z TI TO .ellipsis := hs₄ _ _ D.i2z.symm (hs₃.extBut _ _ D.TOz.symm (hs₂.extBut _ _ D.i1z.symm hz₁))
    have hez : e ≠ z := fun x => by subst x; rw [hz₄] at hoe; cases hoe; simp at hce
    refine wpAny_setField_rec hz₄ (by simp) fun g₅ _ hs₅ => hE g₅ e (fun c o c1 c2 c3 c4 x => hs₅.extBut _ _ c1 (hs₄ _ _ c4 (hs₃.extBut _ _ c2 (hs₂.extBut _ _ c3 (hs₁.extBut _ _ c1 x))))) ⟨oe, hs₅.extBut _ _ hez hoe, hce⟩
end
end Mine
namespace Mine
open PySem
abbrev iterO (k : Bool) (l : Addr) : Obj := { cls := .type (cond k "list_iterator" "tuple_iterator"), data := .fields #[.ref l, .int 0 0] }
section
variable {prog : Program} {w : World} {A : Around} {E : Value → Shared → Prop} {s : Shared}
theorem pyIter_k {k : Bool} {l : Addr} {vs : List Value} {n : Nat} {Q : Value → Shared → Prop} (hl : s.heap.get? l = some (seqO k vs n))
    (hQ : Q (.ref s.heap.objs.size) { s with heap := s.heap.push (iterO k l) }) : wpAny (model prog w) A (pyIter (.ref l)) Q E s := by
  cases k with
  | true => exact wpAny_pyIter_list ⟨_, hl, rfl, n, rfl⟩ hQ
  | false => exact wpAny_pyIter_tuple ⟨_, hl, rfl, n, rfl⟩ hQ
theorem itAt_new {k : Bool} {l : Addr} {h : Heap} {a : Addr} (e : h.get? a = some (iterO k l)) : itAt k h a l 0 := by
  cases k <;> exact ⟨_, e, rfl, rfl⟩
abbrev zH1 (k1 : Bool) (h : Heap) (l1 : Addr) : Heap := h.push (iterO k1 l1)
abbrev zH2 (k1 k2 : Bool) (h : Heap) (l1 l2 : Addr) : Heap := (zH1 k1 h l1).push (iterO k2 l2)
abbrev zH3 (k1 k2 : Bool) (h : Heap) (l1 l2 : Addr) : Heap := (zH2 k1 k2 h l1 l2).push { cls := .type "tuple", data := .seq #[.ref h.objs.size, .ref (zH1 k1 h l1).objs.size] }
abbrev zH4 (k1 k2 : Bool) (h : Heap) (l1 l2 : Addr) : Heap := (zH3 k1 k2 h l1 l2).push { cls := .type "tuple", data := .seq #[.none, .none] }
abbrev zH5 (k1 k2 : Bool) (h : Heap) (l1 l2 : Addr) : Heap := (zH4 k1 k2 h l1 l2).push { cls := .type "zip", data := .fields #[.none, .bool false, .bool false, .ref (zH2 k1 k2 h l1 l2).objs.size, .ref (zH3 k1 k2 h l1 l2).objs.size] }
theorem meets_zipK (k1 k2 : Bool) (l1 l2 : Addr) (xs ys : List Value) (n1 n2 : Nat) :
    Meets (Builtin.«zip.__new__» ⟨[.type "zip", .ref l1, .ref l2], []⟩) (fun _ R s => s.heap.get? l1 = some (seqO k1 xs n1) ∧ s.heap.get? l2 = some (seqO k2 ys n2) ∧
      R (.ok (.ret (.ref (zH4 k1 k2 s.heap l1 l2).objs.size))) { s with heap := zH5 k1 k2 s.heap l1 l2 }) :=
  .of_wp fun prog w A R s h => by
    obtain ⟨hp, g, d, tk, os⟩ := s; obtain ⟨hl1, hl2, h⟩ := h
    have hsub := sub_zip
    have hL1 : Heap.get? (Shared.heap ⟨hp, g, d, tk, os⟩) l1 = some (seqO k1 xs n1) := hl1
    have hL2 : Heap.get? (Shared.heap ⟨hp.push (iterO k1 l1), g, d, tk, os⟩) l2 = some (seqO k2 ys n2) := Heap.get?_push_of_some _ hl2
    wp_walk using pyIter_k hL1, pyIter_k hL2
    exact ⟨_, rfl, h⟩
theorem call_zipK {k1 k2 : Bool} {l1 l2 : Addr} {xs ys : List Value} {n1 n2 : Nat} {Q : Value → Shared → Prop} (hl1 : s.heap.get? l1 = some (seqO k1 xs n1)) (hl2 : s.heap.get? l2 = some (seqO k2 ys n2))
    (h : ∀ h', IsZip h' (s.heap.objs.size + 4) (s.heap.objs.size + 2) (s.heap.objs.size + 3) .none → IsPair h' (s.heap.objs.size + 2) (.ref s.heap.objs.size) (.ref (s.heap.objs.size + 1)) →
      IsPair h' (s.heap.objs.size + 3) .none .none → itAt k1 h' s.heap.objs.size l1 0 → itAt k2 h' (s.heap.objs.size + 1) l2 0 → h'.objs.size = s.heap.objs.size + 5 →
      (∀ c o, s.heap.get? c = some o → h'.get? c = some o) → Q (.ref (s.heap.objs.size + 4)) { s with heap := h' }) :
    wpAny (model prog w) A (call (.type "zip") [.ref l1, .ref l2]) Q E s := by
  refine callType_new F.called_zip (by decide) (F.typeCall_zip_2 _ _) (F.newCall_zip_2 _ _) (fun obj => F.args_object_init_3 obj _ _) F.entry_zip_new
    (meets_zipK k1 k2 l1 l2 xs ys n1 n2) ⟨hl1, hl2, ?_⟩
  have z1 : (zH1 k1 s.heap l1).objs.size = s.heap.objs.size + 1 := Heap.size_push ..
  have z2 : (zH2 k1 k2 s.heap l1 l2).objs.size = s.heap.objs.size + 2 := by rw [Heap.size_push, z1]
  have z3 : (zH3 k1 k2 s.heap l1 l2).objs.size = s.heap.objs.size + 3 := by rw [Heap.size_push, z2]
  have z4 : (zH4 k1 k2 s.heap l1 l2).objs.size = s.heap.objs.size + 4 := by rw [Heap.size_push, z3]
  have z5 : (zH5 k1 k2 s.heap l1 l2).objs.size = s.heap.objs.size + 5 := by rw [Heap.size_push, z4]
  have g5 : (zH5 k1 k2 s.heap l1 l2).get? (zH4 k1 k2 s.heap l1 l2).objs.size = some _ := Heap.get?_push_size _ rfl
  have g4 : (zH5 k1 k2 s.heap l1 l2).get? (zH3 k1 k2 s.heap l1 l2).objs.size = some _ := Heap.get?_push_of_some _ (Heap.get?_push_size _ rfl)
  have g3 : (zH5 k1 k2 s.heap l1 l2).get? (zH2 k1 k2 s.heap l1 l2).objs.size = some _ := Heap.get?_push_of_some _ (Heap.get?_push_of_some _ (Heap.get?_push_size _ rfl))
  have g2 : (zH5 k1 k2 s.heap l1 l2).get? (zH1 k1 s.heap l1).objs.size = some (iterO k2 l2) := Heap.get?_push_of_some _ (Heap.get?_push_of_some _ (Heap.get?_push_of_some _ (Heap.get?_push_size _ rfl)))
  have g1 : (zH5 k1 k2 s.heap l1 l2).get? s.heap.objs.size = some (iterO k1 l1) := Heap.get?_push_of_some _ (Heap.get?_push_of_some _ (Heap.get?_push_of_some _ (Heap.get?_push_of_some _ (Heap.get?_push_size _ rfl))))
  show _ ∧ _
  rw [z2, z3, z4] at g5
  rw [z1, z2] at g3
  rw [z3] at g4
  rw [z1] at g2
  rw [z4]
  exact ⟨⟨_, g5, rfl⟩, h _ g5 g3 g4 (itAt_new g1) (itAt_new g2) z5 fun c o x =>
    Heap.get?_push_of_some _ (Heap.get?_push_of_some _ (Heap.get?_push_of_some _ (Heap.get?_push_of_some _ (Heap.get?_push_of_some _ x))))⟩
theorem zipD_get {xs ys : List PyData} {i : Nat} {d : PyData} (h : ((xs.zip ys).map fun p => PyData.tuple [p.1, p.2])[i]? = some d) : ∃ x y, xs[i]? = some x ∧ ys[i]? = some y ∧ d = .tuple [x, y] := by
  rw [List.getElem?_map] at h
  cases q : (xs.zip ys)[i]? with
  | none => rw [q] at h; cases h
  | some p =>
    rw [q] at h
    obtain ⟨q1, q2⟩ := List.getElem?_zip_eq_some.mp q
    exact ⟨p.1, p.2, q1, q2, (Option.some.inj h).symm⟩
theorem seqO_plain (k : Bool) (vs : List Value) (n : Nat) : Plainly (seqO k vs n) := by
  cases k <;> (constructor <;> (intros; intro q; cases q))
theorem Src.zip (hh : A.handled = none) {k1 k2 : Bool} (z TI TO i1 i2 l1 l2 : Addr) (D : ZA z TI TO i1 i2 l1 l2) (us vs : List Value) (n1 n2 : Nat) (xs ys : List PyData) :
    Src prog w A z (fun b => b = z ∨ b = TI ∨ b = TO ∨ b = i1 ∨ b = i2 ∨ b = l1 ∨ b = l2) (fun b => b = z ∨ b = TO ∨ b = i1 ∨ b = i2) ((xs.zip ys).map fun p => PyData.tuple [p.1, p.2]) (fun t => isTupT t = true)
      (fun i h => IsZip h z TI TO .none ∧ IsPair h TI (.ref i1) (.ref i2) ∧ (∃ a b, IsPair h TO a b) ∧ itAt k1 h i1 l1 i ∧ itAt k2 h i2 l2 i ∧ h.get? l1 = some (seqO k1 us n1) ∧ h.get? l2 = some (seqO k2 vs n2))
      (fun i v h => ∃ T, v = .ref T ∧ IsZip h z TI TO (rawInt T) ∧ IsPair h TI (.ref i1) (.ref i2) ∧ (∃ a b, IsPair h TO a b) ∧ itAt k1 h i1 l1 (i + 1) ∧ itAt k2 h i2 l2 (i + 1) ∧ h.get? l1 = some (seqO k1 us n1) ∧ h.get? l2 = some (seqO k2 vs n2))
      (fun S h => RdL h S us xs ∧ RdL h S vs ys) where
  sub := fun b hb => by rcases hb with rfl | rfl | rfl | rfl <;> simp
  frame := fun i h h' st hk => by
    obtain ⟨hz, hTI, ⟨a, b, hTO⟩, h1, h2, hl1, hl2⟩ := st
    exact ⟨hk z _ (by simp) hz, hk TI _ (by simp) hTI, ⟨a, b, hk TO _ (by simp) hTO⟩, h1.at fun o e => hk i1 o (by simp) e, h2.at fun o e => hk i2 o (by simp) e, hk l1 _ (by simp) hl1, hk l2 _ (by simp) hl2⟩
  alloc := fun i h b st hb => by
    obtain ⟨hz, hTI, ⟨a, c, hTO⟩, h1, h2, hl1, hl2⟩ := st
    rcases hb with rfl | rfl | rfl | rfl | rfl | rfl | rfl
    · exact ⟨_, hz, by constructor <;> (intros; intro q; cases q)⟩
    · exact ⟨_, hTI, by constructor <;> (intros; intro q; cases q)⟩
    · exact ⟨_, hTO, by constructor <;> (intros; intro q; cases q)⟩
    · exact h1.obj
    · exact h2.obj
    · exact ⟨_, hl1, seqO_plain _ _ _⟩
    · exact ⟨_, hl2, seqO_plain _ _ _⟩
  mono := fun S S' h h' r hs hk => ⟨r.1.mono hk hs, r.2.mono hk hs⟩
  next := fun i d S s Q E hd st r hw hQ => by
    obtain ⟨hz, hTI, ⟨a, b, hTO⟩, h1, h2, hl1, hl2⟩ := st
    obtain ⟨x, y, hx, hy, rfl⟩ := zipD_get hd
    obtain ⟨u, hu, ru⟩ := r.1.get hx
    obtain ⟨v, hv, rv⟩ := r.2.get hy
    have hT : s.TypeIs (.ref z) "zip" := ⟨_, hz, rfl⟩
    unfold pyNext
    refine wpAny_bind (wpAny_attempt (wpAny_callSpecial?_slot (name := Str.ofString "__next__") hT F.slot_zip_next (wpAny_call_entry F.slot_zip_next hT F.entry_zip_next
      (zip_item D hz hTI hTO h1 h2 hl1 hl2 hu hv fun h' a1 a2 a3 a4 a5 a6 a7 => wpAny_pure ?_) (F.args_zip_next_1 _))))
    have keep : ∀ c o, ¬ (c = z ∨ c = TO ∨ c = i1 ∨ c = i2) → s.heap.get? c = some o → h'.get? c = some o := fun c o hc e => a7 c o (fun q => hc (.inl q)) (fun q => hc (.inr (.inl q))) (fun q => hc (.inr (.inr (.inl q)))) (fun q => hc (.inr (.inr (.inr q)))) e
    have kS : ∀ c o, S c → s.heap.get? c = some o → h'.get? c = some o := fun c o hc e => keep c o (hw c hc) e
    refine hQ _ h' s.toks (fun c => S c ∨ c = s.heap.objs.size) ⟨keep, fun _ q => .inl q, fun c hc => hc.elim .inl fun q => .inr (q ▸ fresh_none _), fun c hc => hc.elim .inl fun q => .inr ⟨_, q ▸ a5, tup_plain [u, v] 0⟩⟩ ?_ ?_
    · exact .tuple (vs := [u, v]) (n := 0) (.inr rfl) a5 (.cons (ru.mono kS fun _ => .inl) (.cons (rv.mono kS fun _ => .inl) .nil))
    · exact ⟨_, rfl, a1, a7 _ _ D.TIz D.TITO D.TIi1 D.TIi2 hTI, ⟨_, _, a2⟩, a3, a4, a7 _ _ D.l1z D.l1TO D.l1i1 D.l1i2 hl1, a7 _ _ D.l2z D.l2TO D.l2i1 D.l2i2 hl2⟩
  go := fun i v t s Q E ht hm hQ => by
    obtain ⟨T, rfl, hz, hTI, ⟨a, b, hTO⟩, h1, h2, hl1, hl2⟩ := hm
    cases t <;> first | (cases ht; done) | skip
    refine wpAny_letOwnedTupleGo_zip hz fun h' hz' hs' => hQ h' (fun c o hc e => hs'.extBut _ _ (fun q => hc (.inl q)) e) ⟨hz', hs'.extBut _ _ D.TIz hTI, ⟨a, b, hs'.extBut _ _ D.TOz hTO⟩, h1.ext hs'.extBut D.i1z, h2.ext hs'.extBut D.i2z,
      hs'.extBut _ _ D.l1z hl1, hs'.extBut _ _ D.l2z hl2⟩
  done := fun S s Q E st r hQ => by
    obtain ⟨hz, hTI, ⟨a, b, hTO⟩, h1, h2, hl1, hl2⟩ := st
    have hT : s.TypeIs (.ref z) "zip" := ⟨_, hz, rfl⟩
    unfold pyNext
    have hend : us[((xs.zip ys).map fun p => PyData.tuple [p.1, p.2]).length]? = none ∨ vs[((xs.zip ys).map fun p => PyData.tuple [p.1, p.2]).length]? = none := by
      simp only [List.length_map, List.length_zip]
      have := r.1.length
      have := r.2.length
      rcases Nat.le_total xs.length ys.length with q | q
      · exact .inl (List.getElem?_eq_none (by omega))
      · exact .inr (List.getElem?_eq_none (by omega))
    refine wpAny_bind (wpAny_attempt (wpAny_callSpecial?_slot (name := Str.ofString "__next__") hT F.slot_zip_next
      (wpAny_call_entry F.slot_zip_next hT F.entry_zip_next (zip_end hh D hz hTI hTO h1 h2 hl1 hl2 hend fun h' e hk he => ?_) (F.args_zip_next_1 _))))
    obtain ⟨o, ho, hc⟩ := he
    refine wpAny_bind (wpAny_isInstance (T := "StopIteration") (b := true) ⟨o, ho, hc⟩ isSubtype_stop ?_)
    exact wpAny_pure (hQ _ s.toks fun c o hc e => hk c o (fun q => hc (.inl q)) (fun q => hc (.inr (.inl q))) (fun q => hc (.inr (.inr (.inl q)))) (fun q => hc (.inr (.inr (.inr q)))) e)
  self := fun i s Q E st hQ => wpAny_pyIter_zip st.1 hQ
end
end Mine
namespace Mine
open PySem PySem.Calls
noncomputable def slotL : List Str → Nat → Str → Option Nat
  | [], _, _ => none
  | y :: ys, k, x => if x == y then some k else slotL ys (k + 1) x
theorem slotL_get : ∀ {V : List Str} {k i : Nat} {x : Str}, slotL V k x = some i → k ≤ i ∧ V[i - k]? = some x
  | [], _, _, _, h => by cases h
  | y :: ys, k, i, x, h => by
    unfold slotL at h
    split at h
    · rename_i q
      cases h
      exact ⟨Nat.le_refl _, by simp [beq_iff_eq.mp q]⟩
    · obtain ⟨h1, h2⟩ := slotL_get h
      refine ⟨by omega, ?_⟩
      have : i - k = (i - (k + 1)) + 1 := by omega
      rw [this]; simpa using h2
theorem slot_inj {V : List Str} {i : Nat} {x y : Str} (h1 : slotL V 0 x = some i) (h2 : slotL V 0 y = some i) : x = y := by
  have a := (slotL_get h1).2
  have b := (slotL_get h2).2
  rw [a] at b
  exact Option.some.inj b
abbrev Sc := List (Str × NameKind)
noncomputable def isVar (sc : Sc) (x : Str) : Bool := match sc.lookup x with
  | some .local => true
  | some .cell => true
  | some .free => true
  | _ => false
noncomputable def isGlob (sc : Sc) (x : Str) : Bool := match sc.lookup x with
  | some .globalImplicit => true
  | _ => false
noncomputable def okName (x : Str) : Bool := !(x == ("__debug__" : Str)) && !(x == ("__classdict__" : Str))
noncomputable def Glb (base : Bs) (x : Str) (v : Value) : Prop :=
  ∃ mg, base.hp.Ns mainGlobals mg ∧ (mg x = some v ∨ (mg x = none ∧ ∃ mb, base.hp.Ns builtinsNs mb ∧ mb x = some v))
noncomputable def Own (env : Env) (a : Addr) : Prop := a = env.locals ∨ ∃ x, env.cells.lookup x = some a
structure FrOk (base : Bs) (ec : ExcCls) (V : List Str) (S : Addr → Prop) (μ : List Addr) (env : Env) (ρ : Rho) (h : Heap) : Prop where
  kind : env.scope.kind = .function
  glob : env.globals = mainGlobals
  blt : env.builtins = builtinsNs
  ns : ∃ m, h.Ns env.locals m ∧ ∀ x i av, slotL V 0 x = some i → ρ i = some av → env.kindOf x = some .local → ∃ v, m x = some v ∧ RdA ec h S μ v av
  cell : ∀ x c, env.cells.lookup x = some c → ∃ vo, h.IsCell c vo
  val : ∀ x c i av, env.cells.lookup x = some c → slotL V 0 x = some i → ρ i = some av → (env.kindOf x = some .cell ∨ env.kindOf x = some .free) → ∃ v, h.IsCell c (some v) ∧ RdA ec h S μ v av
  has : ∀ x, env.kindOf x = some .cell ∨ env.kindOf x = some .free → ∃ c, env.cells.lookup x = some c
  apart : ∀ x y c, env.cells.lookup x = some c → env.cells.lookup y = some c → x = y
  newL : base.get? env.locals = none
  newC : ∀ x c, env.cells.lookup x = some c → base.get? c = none
section
variable {base : Bs} {ec : ExcCls} {V : List Str} {S S' : Addr → Prop} {μ : List Addr} {σ σ' : Store} {env : Env} {ρ ρ' : Rho} {h h' : Heap}
theorem IsCell.inj {c : Addr} {v u : Option Value} (x : h.IsCell c v) (y : h.IsCell c u) : v = u := by
  obtain ⟨o, e, d⟩ := x
  obtain ⟨o', e', d'⟩ := y
  rw [e] at e'; cases e'
  rw [d] at d'; exact Data.cell.inj d'
theorem Own.notList (F : FrOk base ec V S μ env ρ h) {a : Addr} (o : Own env a) {b : Obj} (e : h.get? a = some b) : ¬ Plainly b := by
  rintro ⟨p1, p2⟩
  rcases o with rfl | ⟨x, hx⟩
  · obtain ⟨m, ⟨o, es, ep, e', d, _⟩, _⟩ := F.ns
    rw [e] at e'; cases e'
    exact p1 es ep d
  · obtain ⟨vo, o, e', d⟩ := F.cell x a hx
    rw [e] at e'; cases e'
    exact p2 vo d
theorem Own.notLive (I : Inv base S μ σ h) (F : FrOk base ec V S μ env ρ h) {a : Addr} (o : Own env a) : ¬ Live μ σ a := fun l => by
  obtain ⟨vs, n, e⟩ := l.obj I
  exact o.notList F e (lst_plain vs n)
theorem Own.notMu (I : Inv base S μ σ h) (F : FrOk base ec V S μ env ρ h) {a : Addr} (o : Own env a) : a ∉ μ := fun l => by
  obtain ⟨vs, n, e⟩ := I.mem l
  exact o.notList F e (lst_plain vs n)
theorem FrOk.mono {μ' : List Addr} (F : FrOk base ec V S μ env ρ h) (hO : ∀ a o, Own env a → h.get? a = some o → Lk o (h'.get? a)) (hR : ∀ v av, RdA ec h S μ v av → RdA ec h' S' μ' v av) : FrOk base ec V S' μ' env ρ h' where
  kind := F.kind
  glob := F.glob
  blt := F.blt
  ns := by
    obtain ⟨m, hn, hv⟩ := F.ns
    have hn' : h'.Ns env.locals m := by
      obtain ⟨o, es, ep, ho, hd, r⟩ := hn
      rcases hO _ o (.inl rfl) ho with z | ⟨_, sl, z⟩
      · exact ⟨o, es, ep, z, hd, r⟩
      · exact ⟨_, es, ep, z, hd, r⟩
    refine ⟨m, hn', fun x i av h1 h2 h3 => ?_⟩
    obtain ⟨v, e, r⟩ := hv x i av h1 h2 h3
    exact ⟨v, e, hR v av r⟩
  cell := fun x c hc => by
    obtain ⟨vo, o, e, d⟩ := F.cell x c hc
    exact ⟨vo, o, (hO c o (.inr ⟨x, hc⟩) e).of (fun _ _ z => by rw [d] at z; cases z), d⟩
  val := fun x c i av h0 h1 h2 h3 => by
    obtain ⟨v, ⟨o, e, d⟩, r⟩ := F.val x c i av h0 h1 h2 h3
    exact ⟨v, ⟨o, (hO c o (.inr ⟨x, h0⟩) e).of (fun _ _ z => by rw [d] at z; cases z), d⟩, hR v av r⟩
  has := F.has
  apart := F.apart
  newL := F.newL
  newC := F.newC
theorem FrOk.ev (I : Inv base S μ σ h) (F : FrOk base ec V S μ env ρ h) (x : Ev base μ S S' σ σ' h h') : FrOk base ec V S' μ env ρ h' :=
  F.mono (fun a o ha e => x.keep a o (ha.notLive I F) e) fun _ _ r => r.ev I x
theorem FrOk.weaken (F : FrOk base ec V S μ env ρ h) (hw : ∀ i av, ρ' i = some av → ρ i = some av) : FrOk base ec V S μ env ρ' h where
  kind := F.kind
  glob := F.glob
  blt := F.blt
  ns := let ⟨m, hn, hv⟩ := F.ns; ⟨m, hn, fun x i av h1 h2 h3 => hv x i av h1 (hw i av h2) h3⟩
  cell := F.cell
  val := fun x c i av h0 h1 h2 h3 => F.val x c i av h0 h1 (hw i av h2) h3
  has := F.has
  apart := F.apart
  newL := F.newL
  newC := F.newC
end
section
variable {base : Bs} {ec : ExcCls} {V : List Str} {S S' : Addr → Prop} {μ : List Addr} {σ σ' : Store} {env : Env} {ρ ρ' : Rho} {M : Model} {A : Around} {E : Value → Shared → Prop} {s : Shared}
theorem eval_var {x : Str} {pos : Pos} {i : Nat} {av : AV} {Q : Value → Shared → Prop} (F : FrOk base ec V S μ env ρ s.heap) (hv : isVar env.scope.names x = true) (ho : okName x = true) (hx : slotL V 0 x = some i) (hi : ρ i = some av)
    (h : ∀ v, RdA ec s.heap S μ v av → Q v s) : wpAny M A (eval (.Name x pos) env) Q E s := by
  unfold okName at ho
  rw [Bool.and_eq_true, Bool.not_eq_true', Bool.not_eq_true'] at ho
  refine wpAny_Name ?_ ho.1
  unfold isVar at hv
  have hk : ∀ k, env.scope.names.lookup x = some k → env.kindOf x = some k := fun _ e => e
  split at hv
  · rename_i q
    obtain ⟨m, hn, hm⟩ := F.ns
    obtain ⟨v, e, r⟩ := hm x i av hx hi (hk _ q)
    exact wpAny_loadName_local F.kind (hk _ q) hn e (h v r)
  · rename_i q
    obtain ⟨c, hc⟩ := F.has x (.inl (hk _ q))
    obtain ⟨v, e, r⟩ := F.val x c i av hc hx hi (.inl (hk _ q))
    exact wpAny_loadName_cell F.kind (hk _ q) hc e (h v r)
  · rename_i q
    obtain ⟨c, hc⟩ := F.has x (.inr (hk _ q))
    obtain ⟨v, e, r⟩ := F.val x c i av hc hx hi (.inr (hk _ q))
    exact wpAny_loadName_free F.kind (hk _ q) hc e (h v r) ho.2
  · cases hv
theorem eval_glob {x : Str} {pos : Pos} {v : Value} {Q : Value → Shared → Prop} (F : FrOk base ec V S μ env ρ s.heap) (hb : ∀ b o, base.get? b = some o → s.heap.get? b = some o) (hv : isGlob env.scope.names x = true) (ho : okName x = true) (g : Glb base x v)
    (h : Q v s) : wpAny M A (eval (.Name x pos) env) Q E s := by
  unfold okName at ho
  rw [Bool.and_eq_true, Bool.not_eq_true', Bool.not_eq_true'] at ho
  have hk : env.kindOf x = some .globalImplicit := by
    unfold isGlob at hv
    split at hv
    · rename_i q; exact q
    · cases hv
  refine Name_function_global F.kind hk ?_ ho.1
  obtain ⟨mg, hn, hm⟩ := g
  have hn' : s.heap.Ns env.globals mg := by rw [F.glob]; exact hn.keeps hb
  rcases hm with hm | ⟨hm, mb, hnb, hmb⟩
  · exact loadGlobal_global hn' hm h
  · exact loadGlobal_builtin hn' hm (by rw [F.blt]; exact hnb.keeps hb) hmb h
theorem store_name {x : Str} {v : Value} {i : Nat} {av : AV} {Q : Unit → Shared → Prop} (I : Inv base S μ σ s.heap) (F : FrOk base ec V S μ env ρ s.heap) (hx : slotL V 0 x = some i)
    (hk : env.kindOf x = some .local ∨ env.kindOf x = some .cell) (r : RdA ec s.heap S μ v av)
    (h : ∀ h' tk c, Own env c → (env.kindOf x = some .local → c = env.locals) → Inv base S μ σ h' → FrOk base ec V S μ env (ρ.set i av) h' → (∀ b o, b ≠ c → s.heap.get? b = some o → h'.get? b = some o) → (∀ b o, s.heap.get? b = some o → ∃ o', h'.get? b = some o') → Q () { s with heap := h', toks := tk }) :
    wpAny M A (storeName env x v) Q E s := by
  have other : ∀ y j aw, slotL V 0 y = some j → (ρ.set i av) j = some aw → y ≠ x → ρ j = some aw := fun y j aw hy hj hne => by
    unfold Rho.set at hj
    split at hj
    · rename_i q; subst q; exact absurd (slot_inj hy hx) hne
    · exact hj
  have same : ∀ aw, (ρ.set i av) i = some aw → aw = av := fun aw hj => by simp [Rho.set] at hj; exact hj.symm
  have rest : ∀ a h', Own env a → Heap.SameBut a s.heap h' → (∃ o', h'.get? a = some o') → (IsD (s.heap.get? a) → IsD (h'.get? a)) → (∀ b o, b ≠ a → s.heap.get? b = some o → h'.get? b = some o) ∧ (∀ u aw, RdA ec s.heap S μ u aw → RdA ec h' S μ u aw) ∧ Inv base S μ σ h' ∧ (∀ b o, s.heap.get? b = some o → ∃ o', h'.get? b = some o') := by
    intro a h' ha hs hal hz
    have pl : ∀ b o, s.heap.get? b = some o → Plainly o → h'.get? b = some o := fun b o e p => hs.extBut b o (fun q => ha.notList F (q ▸ e) p) e
    have kS : ∀ b o, S b → s.heap.get? b = some o → h'.get? b = some o := fun b o hb e => by
      obtain ⟨o', e', p⟩ := I.inS b hb
      rw [e] at e'; cases e'
      exact pl b o e p
    have hna : base.get? a = none := by
      rcases ha with rfl | ⟨y, hy⟩
      · exact F.newL
      · exact F.newC y a hy
    refine ⟨fun b o hb e => hs.extBut b o hb e, fun u aw q => q.mono kS (fun _ x => x) fun _ _ x => x, ?_, ?_⟩
    · refine ⟨fun b o e => hs.extBut b o (fun q => by subst q; rw [hna] at e; cases e) (I.keepB b o e), I.len, fun j b f ds e1 e2 => ?_, I.nodup, I.new, fun b hb => ?_, fun L z => ⟨(I.zs L z).1, ?_⟩⟩
      · obtain ⟨vs, n, e, q, w1, w2⟩ := I.cells j b f ds e1 e2
        exact ⟨vs, n, pl b _ e (lst_plain vs n), q.mono kS fun _ x => x, w1, w2⟩
      · obtain ⟨o, e, p⟩ := I.inS b hb
        exact ⟨o, pl b o e p, p⟩
      · by_cases q : L = a
        · subst q; exact hz (I.zs L z).2
        · exact (I.zs L z).2.grow fun o e => hs.extBut L o q e
    · intro b o e
      by_cases q : b = a
      · subst q; exact hal
      · exact ⟨o, hs.extBut b o q e⟩
  rcases hk with hk | hk
  · obtain ⟨m, hn, hm⟩ := F.ns
    refine wpAny_storeName_local hk hn (fun h' hn' hs => ?_) (by rw [F.kind]; rfl)
    have hO : Own env env.locals := .inl rfl
    obtain ⟨k1, k2, k3, k4⟩ := rest _ h' hO hs (by obtain ⟨o, _, _, e, _⟩ := hn'; exact ⟨o, e⟩) (fun _ => by obtain ⟨o, es, ep, e, d, _⟩ := hn'; exact ⟨o, es, ep, e, d⟩)
    have hcl : ∀ y c, env.cells.lookup y = some c → c ≠ env.locals := fun y c hy q => by
      obtain ⟨vo, o, e, d⟩ := F.cell y c hy
      obtain ⟨o', es, ep, e', d', _⟩ := hn
      rw [q, e'] at e; cases e
      rw [d] at d'; cases d'
    refine h h' _ _ hO (fun _ => rfl) k3 ⟨F.kind, F.glob, F.blt, ⟨_, hn', fun y j aw hy hj hky => ?_⟩, fun y c hy => ?_, fun y c j aw h0 hy hj hky => ?_, F.has, F.apart, F.newL, F.newC⟩ k1 k4
    · by_cases q : y = x
      · subst q
        rw [hx] at hy; cases hy
        rw [same aw hj]
        exact ⟨v, by simp, k2 _ _ r⟩
      · obtain ⟨u, e, ru⟩ := hm y j aw hy (other y j aw hy hj q) hky
        exact ⟨u, by simp [q, e], k2 _ _ ru⟩
    · obtain ⟨vo, e⟩ := F.cell y c hy
      exact ⟨vo, e.sameBut hs (hcl y c hy)⟩
    · have q : y ≠ x := by
        rintro rfl
        rw [hk] at hky
        rcases hky with q | q <;> cases q
      obtain ⟨u, e, ru⟩ := F.val y c j aw h0 hy (other y j aw hy hj q) hky
      exact ⟨u, e.sameBut hs (hcl y c h0), k2 _ _ ru⟩
  · obtain ⟨c, hc⟩ := F.has x (.inl hk)
    obtain ⟨vo, hv⟩ := F.cell x c hc
    refine wpAny_storeName_cell F.kind hk hc hv fun h' hv' hs => ?_
    have hO : Own env c := .inr ⟨x, hc⟩
    obtain ⟨k1, k2, k3, k4⟩ := rest _ h' hO hs (by obtain ⟨o, e, _⟩ := hv'; exact ⟨o, e⟩) (fun z => by obtain ⟨o, e, d⟩ := hv; exact (z.plain e fun _ _ q => by rw [d] at q; cases q).elim)
    obtain ⟨m, hn, hm⟩ := F.ns
    have hcl : env.locals ≠ c := fun q => by
      obtain ⟨o, e, d⟩ := hv
      obtain ⟨o', es, ep, e', d', _⟩ := hn
      rw [q, e] at e'; cases e'
      rw [d] at d'; cases d'
    refine h h' _ _ hO (fun q => by rw [hk] at q; cases q) k3 ⟨F.kind, F.glob, F.blt, ⟨m, hn.sameBut hs hcl, fun y j aw hy hj hky => ?_⟩, fun y d hy => ?_, fun y d j aw h0 hy hj hky => ?_, F.has, F.apart, F.newL, F.newC⟩ k1 k4
    · have q : y ≠ x := by
        rintro rfl
        rw [hk] at hky; cases hky
      obtain ⟨u, e, ru⟩ := hm y j aw hy (other y j aw hy hj q) hky
      exact ⟨u, e, k2 _ _ ru⟩
    · by_cases q : d = c
      · subst q; exact ⟨_, hv'⟩
      · obtain ⟨uo, e⟩ := F.cell y d hy
        exact ⟨uo, e.sameBut hs q⟩
    · by_cases q : y = x
      · subst q
        rw [hc] at h0; cases h0
        rw [hx] at hy; cases hy
        rw [same aw hj]
        exact ⟨v, hv', k2 _ _ r⟩
      · obtain ⟨u, e, ru⟩ := F.val y d j aw h0 hy (other y j aw hy hj q) hky
        refine ⟨u, e.sameBut hs fun w => q ?_, k2 _ _ ru⟩
        subst w
        exact F.apart _ _ _ h0 hc
theorem store_var {x : Str} {v : Value} {i : Nat} {av : AV} {Q : Unit → Shared → Prop} (I : Inv base S μ σ s.heap) (F : FrOk base ec V S μ env ρ s.heap) (hx : slotL V 0 x = some i)
    (hk : env.kindOf x = some .local ∨ env.kindOf x = some .cell) (r : RdA ec s.heap S μ v av)
    (h : ∀ h' tk c, Own env c → (env.kindOf x = some .local → c = env.locals) → Inv base S μ σ h' → FrOk base ec V S μ env (ρ.set i av) h' → (∀ b o, b ≠ c → s.heap.get? b = some o → h'.get? b = some o) → (∀ b o, s.heap.get? b = some o → ∃ o', h'.get? b = some o') → Q () { s with heap := h', toks := tk }) :
    wpAny M A (bindName env x v) Q E s := wpAny_bindName (store_name I F hx hk r h)
end
end Mine
namespace Mine
open PySem PySem.Calls
structure Cfg where
  V : List Str
  fns : List (Str × Addr)
  excs : List (Str × Nat)
  consts : List (Str × PyData)
  cells : List Str
noncomputable def constD : Const → Option PyData
  | .none => some .none
  | .bool b => some (.bool b)
  | .int i => some (.int i)
  | .str x => some (.str x)
  | _ => none
noncomputable def primL : List (Str × Prim) := [("len", .len), ("all", .all), ("any", .any), ("sum", .sum), ("tuple", .tuple), ("list", .list), ("int", .int), ("max", .max)]
noncomputable def tyL : List (Str × Ty) := [("int", .int), ("bool", .bool), ("tuple", .tuple), ("list", .list), ("str", .str)]
noncomputable def primOf (f : Str) : Option Prim := primL.lookup f
noncomputable def tyOf (f : Str) : Option Ty := tyL.lookup f
noncomputable def tyName : Ty → String
  | .int => "int" | .bool => "bool" | .tuple => "tuple" | .list => "list" | .str => "str"
noncomputable def isOwnN (sc : Sc) (x : Str) : Bool := match sc.lookup x with
  | some .local => true
  | some .cell => true
  | _ => false
noncomputable def trL (f : Expr → Option CE) : List Expr → Option (List CE)
  | [] => some []
  | e :: es => (f e).bind fun c => (trL f es).bind fun cs => some (c :: cs)
noncomputable def nameOf : Expr → Option Str
  | .Name x _ => some x
  | _ => none
noncomputable def varOf (G : Cfg) (sc : Sc) (x : Str) : Option Nat := if isVar sc x && okName x then slotL G.V 0 x else none
noncomputable def ownOf (G : Cfg) (sc : Sc) (x : Str) : Option Nat := if isOwnN sc x && okName x then slotL G.V 0 x else none
noncomputable def ownsOf (G : Cfg) (sc : Sc) : List Expr → Option (List Nat)
  | [] => some []
  | e :: r => (nameOf e).bind fun x => (ownOf G sc x).bind fun i => (ownsOf G sc r).bind fun is => some (i :: is)
noncomputable def trT (G : Cfg) (sc : Sc) : Expr → Option Tgt
  | .Name x _ => (ownOf G sc x).bind fun i => some (.one i)
  | .Tuple es _ _ => (ownsOf G sc es).bind fun is => some (.many is)
  | _ => none
noncomputable def noSlice : Expr → Bool
  | .Slice .. => false
  | _ => true
noncomputable def noSet : Expr → Bool
  | .Set .. => false
  | _ => true
noncomputable def noStar : Expr → Bool
  | .Starred .. => false
  | _ => true
noncomputable def tgtFits : ItK → Tgt → Bool
  | .zip, .many _ => true
  | .zip, .one _ => false
  | .range1, .one _ => true
  | .range2, .one _ => true
  | .range1, .many _ => false
  | .range2, .many _ => false
  | .seq, _ => true
noncomputable def trI1 (sc : Sc) (f : Expr → Option CE) (e : Expr) : Option (ItK × List CE) := if noSet e = true then (f e).bind fun c => some (.seq, [c]) else none
noncomputable def args1 : List Expr → Option Expr
  | [] => none
  | a :: r => if r.isEmpty = true then (if noStar a = true then some a else none) else none
noncomputable def args2 : List Expr → Option (Expr × Expr)
  | [] => none
  | a :: r => (args1 r).bind fun b => if noStar a = true then some (a, b) else none
noncomputable def nameCall : Expr → Option (Str × List Expr)
  | .Call g args kws _ => if kws.isEmpty = true then (nameOf g).bind fun x => some (x, args) else none
  | _ => none
noncomputable def trI2 (f : Expr → Option CE) (k : ItK) (args : List Expr) : Option (ItK × List CE) := (args2 args).bind fun p => (f p.1).bind fun c => (f p.2).bind fun d => some (k, [c, d])
noncomputable def trIr (f : Expr → Option CE) (args : List Expr) : Option (ItK × List CE) := match args1 args with
  | some a => (f a).bind fun c => some (.range1, [c])
  | none => none
noncomputable def isG (sc : Sc) (g h : Str) : Bool := isGlob sc g && (okName g && (g == h))
noncomputable def trI (sc : Sc) (f : Expr → Option CE) (e : Expr) : Option (ItK × List CE) := match nameCall e with
  | some p => if isG sc p.1 "range" = true then trIr f p.2 else if isG sc p.1 "zip" = true then trI2 f .zip p.2 else trI1 sc f e
  | none => trI1 sc f e
noncomputable def kindIs (k : Option NameKind) (j : NameKind) : Bool := match k, j with
  | some .local, .local => true
  | some .cell, .cell => true
  | some .free, .free => true
  | _, _ => false
noncomputable def scopeFits (sc : Sc) (scope : Scope) : Bool :=
  (match scope.kind with | .function => true | _ => false) &&
  scope.names.all fun p => match p.2 with
    | .cell => false
    | .local => kindIs (scope.names.lookup p.1) .local
    | .free => kindIs (sc.lookup p.1) .cell || kindIs (sc.lookup p.1) .free
    | _ => true
noncomputable def localT (sc : Sc) : Expr → Bool
  | .Name x _ => kindIs (sc.lookup x) .local
  | .Tuple es _ _ => es.all fun e => match e with | .Name x _ => kindIs (sc.lookup x) .local | _ => false
  | _ => false
noncomputable def Tgt.has : Tgt → Nat → Bool
  | .one i, j => i == j
  | .many is, j => is.contains j
noncomputable def locsIn (G : Cfg) (scope : Scope) (tg : Tgt) : Bool := scope.names.all fun p => match p.2 with
  | .local => (match slotL G.V 0 p.1 with | none => true | some i => tg.has i)
  | _ => true
noncomputable def unE : UnaryOp → CE → Option CE
  | .USub, a => some (.neg a)
  | .Not, a => some (.nott a)
  | _, _ => none
noncomputable def trCmp1 (f : Expr → Option CE) (a : CE) (op : CmpOp) : List Expr → Option CE
  | [] => none
  | r :: t => if t.isEmpty = true then (f r).bind fun b => if noSet r = true then some (.cmp op a b) else none else none
noncomputable def trCmp2 (f : Expr → Option CE) (a : CE) (o1 o2 : CmpOp) : List Expr → Option CE
  | [] => none
  | m :: t => (f m).bind fun b => match t with
    | [] => none
    | r :: t => if t.isEmpty = true then (f r).bind fun c => if noSet r = true then some (.cmp2 o1 o2 a b c) else none else none
noncomputable def trCmpR (f : Expr → Option CE) (a : CE) (op : CmpOp) (rs : List Expr) : List CmpOp → Option CE
  | [] => trCmp1 f a op rs
  | o2 :: t => if t.isEmpty = true then trCmp2 f a op o2 rs else none
noncomputable def trCmp (f : Expr → Option CE) (a : CE) (ops : List CmpOp) (rs : List Expr) : Option CE := match ops with
  | [] => none
  | op :: t => trCmpR f a op rs t
noncomputable def optE (f : Expr → Option CE) : Option Expr → Option CE
  | some x => f x
  | none => some (.const .none)
noncomputable def intOf : Const → Option Int
  | .int i => some i
  | _ => none
noncomputable def constOf : Expr → Option Const
  | .Constant c _ _ => some c
  | _ => none
noncomputable def negOf : Expr → Option Expr
  | .UnaryOp op e _ => (match op with | .USub => some e | _ => none)
  | _ => none
noncomputable def isIntE (k : Int) (e : Expr) : Bool := ((constOf e).bind intOf) == some k
noncomputable def isRevE (e : Expr) : Bool := match negOf e with
  | some e => isIntE 1 e
  | none => false
noncomputable def trSl (f : Expr → Option CE) (a : CE) (lo hi st : Option Expr) : Option CE := match st with
  | none => (optE f lo).bind fun l => (optE f hi).bind fun u => some (.slice a l u)
  | some e => if (lo.isNone && (hi.isNone && isRevE e)) = true then some (.rev a) else none
noncomputable def trSub (f : Expr → Option CE) (a : CE) (i : Expr) : Option CE := match i with
  | .Slice lo hi st _ => trSl f a lo hi st
  | i => (f i).bind fun b => some (.idx a b)
noncomputable def trIsi (G : Cfg) (sc : Sc) (a : CE) (e : Expr) : Option CE := (nameOf e).bind fun t => if (isGlob sc t && okName t) = true then (tyOf t).bind fun ty => some (.isin a ty) else none
noncomputable def trCallP (G : Cfg) (sc : Sc) (f : Expr → Option CE) (g : Str) (args : List Expr) : Option CE :=
  if (g == ("isinstance" : Str)) = true then (args2 args).bind fun p => (f p.1).bind fun a => trIsi G sc a p.2
  else (primOf g).bind fun p => (trL f args).bind fun cs => some (.prim p cs)
noncomputable def trCallN (G : Cfg) (sc : Sc) (f : Expr → Option CE) (g : Str) (args : List Expr) : Option CE :=
  if (isGlob sc g && (okName g && (args.all noStar && !args.isEmpty))) = true then
    (match slotL (G.fns.map (·.1)) 0 g with
    | some k => (trL f args).bind fun cs => some (.call k cs)
    | none => trCallP G sc f g args) else none
noncomputable def strOf (e : Expr) : Option Str := (constOf e).bind fun c => match c with
  | .str x => some x
  | _ => none
noncomputable def trPop (i : Nat) : List Expr → Option CE
  | [] => some (.pop i)
  | z :: r => if (isIntE 0 z && r.isEmpty) = true then some (.pop0 i) else none
noncomputable def trJoin (f : Expr → Option CE) (x : Str) (args : List Expr) : Option CE := (args1 args).bind fun a => (f a).bind fun c => some (.prim .join [.const (.str x), c])
noncomputable def trCallA (G : Cfg) (sc : Sc) (f : Expr → Option CE) (o : Expr) (m : Str) (args : List Expr) (ln : Bool) : Option CE := if ln = true then
  if (m == ("pop" : Str)) = true then (nameOf o).bind fun x => (varOf G sc x).bind fun i => trPop i args
  else if (m == ("join" : Str)) = true then (strOf o).bind fun x => trJoin f x args
  else none else none
noncomputable def trComp (G : Cfg) (sc : Sc) (f : Sc → Expr → Option CE) (elt : Expr) (g : Comprehension) (scope : Scope) : Option CE :=
  if (g.is_async == 0 && (scopeFits sc scope && localT scope.names g.target)) = true then
    (trT G scope.names g.target).bind fun tg => (trI sc (f sc) g.iter).bind fun p => (f scope.names elt).bind fun ce => (trL (f scope.names) g.ifs).bind fun cs =>
    if (tgtFits p.1 tg && locsIn G scope tg) = true then some (.comp ce tg p.1 p.2 cs) else none
  else none
noncomputable def trCall (G : Cfg) (sc : Sc) (f : Expr → Option CE) (args : List Expr) (pos : Pos) : Expr → Option CE
  | .Name g _ => trCallN G sc f g args
  | .Attribute o m ap => trCallA G sc f o m args (ap.endLine == pos.line)
  | _ => none
noncomputable def trName (G : Cfg) (sc : Sc) (x : Str) : Option CE := if isVar sc x = true then (varOf G sc x).bind fun i => some (.var i)
  else if (isGlob sc x && okName x) = true then (G.consts.lookup x).bind fun d => some (.const d) else none
noncomputable def okEs (es : List Expr) : Bool := decide (es.length ≤ 1000) && es.all noStar
noncomputable def comp1 : List Comprehension → Option Comprehension
  | [] => none
  | g :: r => if r.isEmpty = true then some g else none
noncomputable def trE (G : Cfg) : Nat → Sc → Expr → Option CE
  | 0, _, _ => none
  | n + 1, sc, e => match e with
    | .Constant c _ _ => (constD c).bind fun d => some (.const d)
    | .Name x _ => trName G sc x
    | .BinOp l op r _ => (trE G n sc l).bind fun a => (trE G n sc r).bind fun b => some (.bin op a b)
    | .UnaryOp op x _ => (trE G n sc x).bind fun a => unE op a
    | .BoolOp op vs _ => if vs.isEmpty = false then (trL (trE G n sc) vs).bind fun cs => some (.bop op cs) else none
    | .Compare l ops rs _ => (trE G n sc l).bind fun a => trCmp (trE G n sc) a ops rs
    | .IfExp t a b _ => (trE G n sc t).bind fun x => (trE G n sc a).bind fun y => (trE G n sc b).bind fun z => some (.ite x y z)
    | .Subscript v i _ => (trE G n sc v).bind fun a => trSub (trE G n sc) a i
    | .Tuple es _ _ => if okEs es = true then (trL (trE G n sc) es).bind fun cs => some (.tup cs) else none
    | .List es _ => if okEs es = true then (trL (trE G n sc) es).bind fun cs => some (.lst cs) else none
    | .Call g args kws pos => if kws.isEmpty = true then trCall G sc (trE G n sc) args pos g else none
    | .ListComp elt gens scope _ => (comp1 gens).bind fun g => trComp G sc (trE G n) elt g scope
    | _ => none
theorem e_name {e : Expr} {x : Str} {P : Expr → Prop} (h : nameOf e = some x) (k : ∀ p, P (.Name x p)) : P e := by
  cases e <;> first | exact nsm h | (cases h; exact k _)
theorem e_const {e : Expr} {x : Const} {P : Expr → Prop} (h : constOf e = some x) (k : ∀ j p, P (.Constant x j p)) : P e := by
  cases e <;> first | exact nsm h | (cases h; exact k _ _)
theorem e_neg {e a : Expr} {P : Expr → Prop} (h : negOf e = some a) (k : ∀ p, P (.UnaryOp .USub a p)) : P e := by
  cases e <;> first | exact nsm h | skip
  rename_i op _ _
  cases op <;> first | exact nsm h | (cases h; exact k _)
theorem c_int {c : Const} {i : Int} {P : Const → Prop} (h : intOf c = some i) (k : P (.int i)) : P c := by
  cases c <;> first | exact nsm h | (cases h; exact k)
theorem e_int {e : Expr} {i : Int} {P : Expr → Prop} (h : isIntE i e = true) (k : ∀ j p, P (.Constant (.int i) j p)) : P e :=
  ob (eq_of_beq h) fun c h1 h2 => e_const h1 fun j p => c_int (P := fun c => P (.Constant c j p)) h2 (k j p)
theorem e_rev {e : Expr} {P : Expr → Prop} (h : isRevE e = true) (k : ∀ j p p', P (.UnaryOp .USub (.Constant (.int 1) j p) p')) : P e := by
  unfold isRevE at h
  cases q : negOf e with
  | none => rw [q] at h; exact bft h
  | some a => rw [q] at h; exact e_neg q fun p' => e_int (P := fun a => P (.UnaryOp .USub a p')) h fun j p => k j p p'
theorem c_str {c : Const} {i : Str} {P : Const → Prop} (h : (match c with | .str x => some x | _ => none) = some i) (k : P (.str i)) : P c := by
  cases c <;> first | exact nsm h | (cases h; exact k)
theorem e_str {e : Expr} {i : Str} {P : Expr → Prop} (h : strOf e = some i) (k : ∀ j p, P (.Constant (.str i) j p)) : P e :=
  ob h fun c h1 h2 => e_const h1 fun j p => c_str (P := fun c => P (.Constant c j p)) h2 (k j p)
theorem l_one {α : Type} {r : List α} {P : List α → Prop} (h : r.isEmpty = true) (k : P []) : P r := by
  cases r with
  | nil => exact k
  | cons _ _ => exact bft h
theorem a_one {es : List Expr} {a : Expr} {P : List Expr → Prop} (h : args1 es = some a) (k : noStar a = true → P [a]) : P es := by
  cases es with
  | nil => exact nsm h
  | cons b r => exact og h fun h1 h => og h fun h2 h => l_one (P := fun r => P (b :: r)) h1 (os (P := fun a => (noStar a = true → P [a]) → P [b]) h (fun k => k h2) k)
theorem a_two {es : List Expr} {p : Expr × Expr} {P : List Expr → Prop} (h : args2 es = some p) (k : noStar p.1 = true → noStar p.2 = true → P [p.1, p.2]) : P es := by
  cases es with
  | nil => exact nsm h
  | cons b r => exact ob h fun c h1 h => og h fun h2 h => a_one (P := fun r => P (b :: r)) h1 fun h3 => os (P := fun p => (noStar p.1 = true → noStar p.2 = true → P [p.1, p.2]) → P [b, c]) h (fun k => k h2 h3) k
theorem e_call {e : Expr} {p : Str × List Expr} {P : Expr → Prop} (h : nameCall e = some p) (k : ∀ q q', P (.Call (.Name p.1 q) p.2 [] q')) : P e := by
  cases e <;> first | exact nsm h | skip
  rename_i g args kws pos
  exact og h fun h1 h => ob h fun x h2 h => l_one (P := fun kws => P (.Call g args kws pos)) h1 (e_name (P := fun g => P (.Call g args [] pos)) h2 fun q => os (P := fun p => (∀ q q', P (.Call (.Name p.1 q) p.2 [] q')) → P (.Call (.Name x q) args [] pos)) h (fun k => k q pos) k)
theorem t_inv {G : Cfg} {sc : Sc} {t : Expr} {tg : Tgt} {P : Expr → Tgt → Prop} (h : trT G sc t = some tg) (k1 : ∀ x p i, ownOf G sc x = some i → P (.Name x p) (.one i)) (k2 : ∀ es k p is, ownsOf G sc es = some is → P (.Tuple es k p) (.many is)) : P t tg := by
  cases t <;> first | exact nsm h | skip
  · exact ob h fun i h1 h => os (P := P _) h (k1 _ _ i h1)
  · exact ob h fun i h1 h => os (P := P _) h (k2 _ _ _ i h1)
theorem owns_inv {G : Cfg} {sc : Sc} {e : Expr} {r : List Expr} {is : List Nat} {P : Expr → List Nat → Prop} (h : ownsOf G sc (e :: r) = some is) (k : ∀ x p i is, ownOf G sc x = some i → ownsOf G sc r = some is → P (.Name x p) (i :: is)) : P e is :=
  ob h fun x h1 h => ob h fun i h2 h => ob h fun js h3 h => e_name (P := fun e => P e is) h1 fun p => os (P := P (.Name x p)) h (k x p i js h2 h3)
theorem var_inv {G : Cfg} {sc : Sc} {x : Str} {i : Nat} {P : Prop} (h : varOf G sc x = some i) (k : isVar sc x = true → okName x = true → slotL G.V 0 x = some i → P) : P := og h fun h1 h => ba h1 fun h2 h3 => k h2 h3 h
theorem own_inv {G : Cfg} {sc : Sc} {x : Str} {i : Nat} {P : Prop} (h : ownOf G sc x = some i) (k : isOwnN sc x = true → slotL G.V 0 x = some i → P) : P := og h fun h1 h => ba h1 fun h2 _ => k h2 h
end Mine
namespace Mine
open PySem PySem.Calls
section
variable {base : Bs} {ec : ExcCls} {S S' S'' : Addr → Prop} {μ : List Addr} {σ σ' σ'' : Store} {h h' h'' : Heap}
theorem Ev.add (I : Inv base S μ σ h) (x : Ev base μ S S' σ σ' h h') {a : Addr} {o : Obj} (hn : h.get? a = none) (e : h'.get? a = some o) (p : Plainly o) : Ev base μ S (fun b => S' b ∨ b = a) σ σ' h h' where
  sub := fun b s => .inl (x.sub b s)
  new := fun b s => s.elim (x.new b) fun q => .inr (.inl (q ▸ hn))
  inv := {
    keepB := x.inv.keepB
    len := x.inv.len
    cells := fun i b f ds e1 e2 => by
      obtain ⟨vs, n, e', r, q1, q2⟩ := x.inv.cells i b f ds e1 e2
      refine ⟨vs, n, e', r.mono (fun _ _ _ q => q) fun _ => .inl, fun hf => .inl (q1 hf), fun hf s => ?_⟩
      rcases s with s | s
      · exact q2 hf s
      · subst s
        obtain ⟨_, _, q⟩ := I.mem (List.mem_of_getElem? e1)
        rw [hn] at q; cases q
    nodup := x.inv.nodup
    new := x.inv.new
    inS := fun b s => s.elim (x.inv.inS b) fun q => ⟨o, q ▸ e, p⟩
    zs := x.inv.zs }
  keep := x.keep
  live := x.live
theorem settle_step (I : Inv base S μ σ h) (x : Ev base μ S S' σ σ' h h') {v : Value} {av : AV} (r : RdR ec h h' S' μ v av) : ∃ S'', Ev base μ S S'' σ σ' h h' ∧ RdA ec h' S'' μ v (settle av) := by
  cases r with
  | old r =>
    refine ⟨S', x, ?_⟩
    cases r with
    | dat r => exact .dat r
    | cell e => exact .cell e
    | exc s e q => exact .exc s e q
  | @fresh a vs n ds e r hs hn =>
    exact ⟨_, x.add I hn e (lst_plain _ _), .dat (.list (.inr rfl) e (r.mono (fun _ _ _ q => q) fun _ => .inl))⟩
theorem rd_settle (σ : Store) (av : AV) : rd σ (settle av) = rd σ av := by cases av <;> rfl
theorem set_at {σ : Store} {i : Nat} {q p : Flag × List PyData} (e : σ[i]? = some q) : (σ.set i p)[i]? = some p := by
  have : i < σ.length := (List.getElem?_eq_some_iff.mp e).1
  simp [this]
theorem set_ne {σ : Store} {i j : Nat} {p : Flag × List PyData} (h : i ≠ j) : (σ.set i p)[j]? = σ[j]? := by rw [List.getElem?_set, if_neg h]
theorem own_step (x : Ev base μ S S' σ σ' h h') {v : Value} {av : AV} {d : PyData} (hf : ∀ ds, av ≠ .fresh ds) (r : RdA ec h' S' μ v av) (e : own σ' av = some (d, σ'')) : ∃ S'', Ev base μ S S'' σ σ'' h h' ∧ Rd h' S'' v d ∧ ∀ a, S' a → S'' a := by
  cases r with
  | dat r => cases e; exact ⟨S', x, r, fun _ q => q⟩
  | exc _ _ _ => cases e
  | @cell i a hi =>
    simp only [own] at e
    obtain ⟨f, ds, q⟩ := x.inv.cellS hi
    rw [q] at e
    cases f with
    | locked => cases e
    | frozen =>
      cases e
      obtain ⟨vs, n, e1, e2, e3, _⟩ := x.inv.cells i a _ ds hi q
      exact ⟨S', x, .list (e3 rfl) e1 e2, fun _ q => q⟩
    | live =>
      cases e
      obtain ⟨vs, n, e1, e2, _, e3⟩ := x.inv.cells i a _ ds hi q
      refine ⟨fun b => S' b ∨ b = a, ?_, .list (.inr rfl) e1 (e2.mono (fun _ _ _ q => q) fun _ => .inl), fun _ => .inl⟩
      exact {
        sub := fun b s => .inl (x.sub b s)
        new := fun b s => s.elim (x.new b) fun w => .inr (.inr (x.live b ⟨i, ds, w ▸ hi, q⟩))
        inv := {
          keepB := x.inv.keepB
          len := by rw [List.length_set]; exact x.inv.len
          cells := fun j b f' es h1 h2 => by
            by_cases w : i = j
            · subst w
              rw [set_at q] at h2; cases h2
              rw [hi] at h1; cases h1
              exact ⟨vs, n, e1, e2.mono (fun _ _ _ q => q) fun _ => .inl, fun _ => .inr rfl, fun w => absurd rfl w⟩
            · rw [set_ne w] at h2
              obtain ⟨us, m, k1, k2, k3, k4⟩ := x.inv.cells j b f' es h1 h2
              refine ⟨us, m, k1, k2.mono (fun _ _ _ q => q) fun _ => .inl, fun z => .inl (k3 z), fun z s => s.elim (k4 z) fun y => ?_⟩
              subst y
              exact w (x.inv.nodup i j _ hi h1)
          nodup := x.inv.nodup
          new := x.inv.new
          inS := fun b s => s.elim (x.inv.inS b) fun w => ⟨_, w ▸ e1, lst_plain _ _⟩
          zs := x.inv.zs }
        keep := x.keep
        live := fun b l => by
          obtain ⟨j, es, h1, h2⟩ := l
          by_cases w : i = j
          · subst w; rw [set_at q] at h2; cases h2
          · rw [set_ne w] at h2; exact x.live b ⟨j, es, h1, h2⟩ }
theorem settle_notFresh (av : AV) : ∀ ds, settle av ≠ .fresh ds := by cases av <;> (intro ds q; cases q)
theorem Rd.sub {v : Value} {d : PyData} (r : Rd h S v d) (hs : ∀ a, S a → S' a) : Rd h S' v d := r.mono (fun _ _ _ q => q) hs
theorem RdL.sub {v : List Value} {d : List PyData} (r : RdL h S v d) (hs : ∀ a, S a → S' a) : RdL h S' v d := r.mono (fun _ _ _ q => q) hs
theorem RdA.sub {v : Value} {d : AV} (r : RdA ec h S μ v d) (hs : ∀ a, S a → S' a) : RdA ec h S' μ v d := r.mono (fun _ _ _ q => q) hs fun _ _ q => q
theorem RdAs.sub {vs : List Value} {ds : List AV} (r : RdAs ec h S μ vs ds) (hs : ∀ a, S a → S' a) : RdAs ec h S' μ vs ds := by
  induction vs generalizing ds with
  | nil => cases r; exact .nil
  | cons v vs ih => cases r with | cons a r => exact .cons (a.sub hs) (ih r)
theorem ownAll_step (x : Ev base μ S S' σ σ' h h') {vs : List Value} {avs : List AV} {ds : List PyData} (hf : ∀ av ∈ avs, ∀ ds, av ≠ .fresh ds) (r : RdAs ec h' S' μ vs avs) (e : ownAll avs σ' = some (ds, σ'')) : ∃ S'', Ev base μ S S'' σ σ'' h h' ∧ RdL h' S'' vs ds ∧ ∀ a, S' a → S'' a := by
  induction avs generalizing vs ds σ' S' with
  | nil => cases r; cases e; exact ⟨S', x, .nil, fun _ q => q⟩
  | cons av avs ih =>
    cases r with
    | cons ra r =>
      obtain ⟨⟨d, σ₁⟩, q, e₁⟩ := bnd e
      obtain ⟨⟨ds', σ₂⟩, q2, e₂⟩ := bnd e₁
      obtain ⟨rfl, rfl⟩ := pr e₂
      obtain ⟨S₁, x₁, rd₁, sub₁⟩ := own_step x (hf av (.head _)) ra q
      obtain ⟨S₂, x₂, rd₂, sub₂⟩ := ih x₁ (fun b hb => hf b (.tail _ hb)) (r.sub sub₁) q2
      exact ⟨S₂, x₂, .cons (rd₁.sub sub₂) rd₂, fun a s => sub₂ a (sub₁ a s)⟩
theorem RdR.back {v : Value} {av : AV} (x : Ev base μ S S' σ σ' h h') (r : RdR ec h' h'' S'' μ v av) : RdR ec h h'' S'' μ v av := by
  cases r with
  | old r => exact .old r
  | fresh e r s n => exact .fresh e r s (x.gone n)
end
structure AOk (base : Bs) (n : Nat) (A : Around) : Prop where
  fr : ∃ l, A.frames = some l ∧ ∀ env ∈ l, env.scope.kind ≠ .module ∧ ∃ L, env.frame = some L ∧ base.Z L
  hd : base.hot = false → A.handled = none
  dp : A.depth + n < recursionLimit
  un : A.units + 8 * n + 400 < cLine
noncomputable def ScOk (env : Env) (sc : Sc) : Prop := ∀ x, env.scope.names.lookup x = sc.lookup x ∨ (sc.lookup x = some .free ∧ env.scope.names.lookup x = some .cell)
theorem ScOk.var {env : Env} {sc : Sc} (h : ScOk env sc) (x : Str) : isVar env.scope.names x = isVar sc x := by
  unfold isVar
  rcases h x with q | ⟨q1, q2⟩
  · rw [q]
  · rw [q1, q2]
theorem ScOk.gl {env : Env} {sc : Sc} (h : ScOk env sc) (x : Str) : isGlob env.scope.names x = isGlob sc x := by
  unfold isGlob
  rcases h x with q | ⟨q1, q2⟩
  · rw [q]
  · rw [q1, q2]
noncomputable def Post (ec : ExcCls) (base : Bs) (μ : List Addr) (S : Addr → Prop) (σ σ' : Store) (s : Shared) (av : AV) (Q : Value → Shared → Prop) : Prop :=
  ∀ v h' tk S', Ev base μ S S' σ σ' s.heap h' → RdR ec s.heap h' S' μ v av → Q v { s with heap := h', toks := tk }
theorem post_prim {ec : ExcCls} {base : Bs} {μ : List Addr} {S S₂ : Addr → Prop} {σ σ₂ : Store} {s : Shared} {h₂ : Heap} {tk : Nat} {av : AV} {Q : Value → Shared → Prop} (x : Ev base μ S S₂ σ σ₂ s.heap h₂) (P : Post ec base μ S σ σ₂ s av Q) :
    PPost ec { s with heap := h₂, toks := tk } S₂ μ av Q := fun v h' tk' S' st r => P v h' tk' S' (x.trans (st.ev x.inv)) (r.back x)
noncomputable def restL : List (Str × Value) := [("isinstance", .builtin "isinstance"), ("range", .type "range"), ("zip", .type "zip"), ("ValueError", .type "ValueError")]
noncomputable def tyP (p : Str × Ty) : Str × Value := (p.1, .type (tyName p.2))
noncomputable def primP (p : Str × Prim) : Str × Value := (p.1, primF p.2)
noncomputable def bltL : List (Str × Value) := primL.map primP ++ (tyL.map tyP ++ restL)
theorem mem_lookup {α : Type} {x : Str} {c : α} : ∀ {l : List (Str × α)}, l.lookup x = some c → (x, c) ∈ l
  | [], h => nsm h
  | (y, d) :: l, h => by
    rw [List.lookup_cons] at h
    cases q : x == y with
    | true => rw [q] at h; exact os (P := fun c => (x, c) ∈ (y, d) :: l) h (eq_of_beq q ▸ .head _)
    | false => rw [q] at h; exact .tail _ (mem_lookup h)
theorem blt_ty {t : Str} {y : Ty} (h : tyOf t = some y) : (t, Value.type (tyName y)) ∈ bltL := List.mem_append_right _ (List.mem_append_left _ (List.mem_map.mpr ⟨(t, y), mem_lookup h, rfl⟩))
theorem blt_prim {t : Str} {y : Prim} (h : primOf t = some y) : (t, primF y) ∈ bltL := List.mem_append_left _ (List.mem_map.mpr ⟨(t, y), mem_lookup h, rfl⟩)
theorem blt_rest {p : Str × Value} (h : p ∈ restL) : p ∈ bltL := List.mem_append_right _ (List.mem_append_right _ h)
theorem primL_ok : ∀ p ∈ primL, p.2 ≠ .join := by decide
theorem primF_ok : ∀ {q : Prim}, q ≠ .join → (∃ id, primF q = .builtin id) ∨ ∃ T, primF q = .type T
  | .len, _ => .inl ⟨_, rfl⟩
  | .all, _ => .inl ⟨_, rfl⟩
  | .any, _ => .inl ⟨_, rfl⟩
  | .sum, _ => .inl ⟨_, rfl⟩
  | .tuple, _ => .inr ⟨_, rfl⟩
  | .list, _ => .inr ⟨_, rfl⟩
  | .int, _ => .inr ⟨_, rfl⟩
  | .max, _ => .inl ⟨_, rfl⟩
  | .join, h => absurd rfl h
structure Wd (base : Bs) (ec : ExcCls) (G : Cfg) : Prop where
  cold : base.hot = false
  fn : ∀ (k : Nat) f a, G.fns[k]? = some (f, a) → Glb base f (.ref a) ∧ ∃ o fd, base.get? a = some o ∧ o.data = .func fd
  blt : ∀ f v, (f, v) ∈ bltL → Glb base f v
  cst : ∀ x d, G.consts.lookup x = some d → ∃ v, Glb base x v ∧ ∀ h S, Rd h S v d
  exc : ∀ x c, G.excs.lookup x = some c → Glb base x (.ref (ec c))
noncomputable def FnOk (prog : Program) (w : World) (base : Bs) (ec : ExcCls) (n : Nat) (a : Addr) (g : List AV → Store → Option (CR × Store)) : Prop :=
  ∀ (A : Around) (S : Addr → Prop) (μ : List Addr) (σ σ' : Store) (s : Shared) (vals : List Value) (args : List AV) (r : AV) (Q : Value → Shared → Prop) (E : Value → Shared → Prop),
    AOk base n A → Inv base S μ σ s.heap → RdAs ec s.heap S μ vals args → g args σ = some (.ret r, σ') → Post ec base μ S σ σ' s r Q → wpAny (model prog w) A (call (.ref a) vals) Q E s
noncomputable def PhiOk (prog : Program) (w : World) (base : Bs) (ec : ExcCls) (G : Cfg) (n : Nat) (Φ : Phi) : Prop := ∀ (k : Nat) f a, G.fns[k]? = some (f, a) → FnOk prog w base ec n a (Φ k)
section
variable (prog : Program) (w : World) (base : Bs) (ec : ExcCls) (G : Cfg) (n : Nat) (Φ : Phi)
noncomputable def SE (sc : Sc) (e : Expr) (c : CE) : Prop :=
  ∀ (A : Around) (env : Env) (ρ : Rho) (σ σ' : Store) (av : AV) (S : Addr → Prop) (μ : List Addr) (s : Shared) (Q : Value → Shared → Prop) (E : Value → Shared → Prop),
    AOk base n A → ScOk env sc → Inv base S μ σ s.heap → FrOk base ec G.V S μ env ρ s.heap → evE Φ c ρ σ = some (av, σ') → Post ec base μ S σ σ' s av Q → wpAny (model prog w) A (eval e env) Q E s
noncomputable def ST (sc : Sc) (e : Expr) (c : CE) : Prop :=
  ∀ (A : Around) (env : Env) (ρ : Rho) (σ σ' : Store) (av : AV) (b : Bool) (S : Addr → Prop) (μ : List Addr) (s : Shared) (Q : Bool → Shared → Prop) (E : Value → Shared → Prop),
    AOk base n A → ScOk env sc → Inv base S μ σ s.heap → FrOk base ec G.V S μ env ρ s.heap → evE Φ c ρ σ = some (av, σ') → boolA av = some b →
    (∀ h' tk S', Ev base μ S S' σ σ' s.heap h' → Q b { s with heap := h', toks := tk }) → wpAny (model prog w) A (isTrue e env (eval e env)) Q E s
inductive SEs (sc : Sc) : List Expr → List CE → Prop
  | nil : SEs sc [] []
  | cons {e : Expr} {es : List Expr} {c : CE} {cs : List CE} : noStar e = true → SE prog w base ec G n Φ sc e c → SEs sc es cs → SEs sc (e :: es) (c :: cs)
end
section
variable {prog : Program} {w : World} {base : Bs} {ec : ExcCls} {G : Cfg} {n : Nat} {Φ : Phi} {sc : Sc} {A : Around} {env : Env} {ρ : Rho} {σ σ' σ₁ σ₂ : Store} {S : Addr → Prop} {μ : List Addr} {s : Shared} {E : Value → Shared → Prop}
theorem seq1 {e : Expr} {c : CE} {x : AV} {R : Value → Shared → Prop} (H : SE prog w base ec G n Φ sc e c) (hA : AOk base n A) (hs : ScOk env sc) (I : Inv base S μ σ s.heap) (F : FrOk base ec G.V S μ env ρ s.heap) (q : evE Φ c ρ σ = some (x, σ₁))
    (h : ∀ v h' tk S', Ev base μ S S' σ σ₁ s.heap h' → RdA ec h' S' μ v (settle x) → FrOk base ec G.V S' μ env ρ h' → R v { s with heap := h', toks := tk }) : wpAny (model prog w) A (eval e env) R E s :=
  H A env ρ σ σ₁ x S μ s R E hA hs I F q fun v h' tk S' x r => by
    obtain ⟨S'', x', r'⟩ := settle_step I x r
    exact h v h' tk S'' x' r' (F.ev I x')
theorem seq2 {e₁ e₂ : Expr} {c₁ c₂ : CE} {x y : AV} {R : Value → Value → Shared → Prop} (H₁ : SE prog w base ec G n Φ sc e₁ c₁) (H₂ : SE prog w base ec G n Φ sc e₂ c₂) (hA : AOk base n A) (hs : ScOk env sc) (I : Inv base S μ σ s.heap) (F : FrOk base ec G.V S μ env ρ s.heap)
    (q₁ : evE Φ c₁ ρ σ = some (x, σ₁)) (q₂ : evE Φ c₂ ρ σ₁ = some (y, σ₂))
    (h : ∀ v u h' tk S', Ev base μ S S' σ σ₂ s.heap h' → RdA ec h' S' μ v (settle x) → RdA ec h' S' μ u (settle y) → FrOk base ec G.V S' μ env ρ h' → R v u { s with heap := h', toks := tk }) :
    wpAny (model prog w) A (eval e₁ env) (fun v s₁ => wpAny (model prog w) A (eval e₂ env) (R v) E s₁) E s :=
  seq1 H₁ hA hs I F q₁ fun v h₁ tk₁ S₁ x₁ r₁ F₁ =>
    seq1 (s := { s with heap := h₁, toks := tk₁ }) H₂ hA hs x₁.inv F₁ q₂ fun u h₂ tk₂ S₂ x₂ r₂ F₂ => h v u h₂ tk₂ S₂ (x₁.trans x₂) (r₁.ev x₁.inv x₂) r₂ F₂
theorem rtOf {v : Value} {av : AV} {d : PyData} {h : Heap} (I : Inv base S μ σ h) (r : RdA ec h S μ v (settle av)) (e : rd σ av = some d) : Rt h S v d := r.rt I (by rw [rd_settle]; exact e)
theorem inSome {h : Heap} (I : Inv base S μ σ h) : ∀ a, S a → ∃ o, h.get? a = some o := fun a s => let ⟨o, e, _⟩ := I.inS a s; ⟨o, e⟩
theorem se_const {d : PyData} {cc : Const} {k : Nat} {pos : Pos} (hc : constD cc = some d) : SE prog w base ec G n Φ sc (.Constant cc k pos) (.const d) := by
  intro A env ρ σ σ' av S μ s Q E hA hs I F q P
  cases q
  have fin : ∀ v tk, Rd s.heap S v d → Q v { s with toks := tk } := fun v tk r => P v s.heap tk S (.refl I) (.old (.dat r))
  cases cc <;> first | (cases hc; done) | skip
  · cases hc; exact wpAny_Constant_none (fin _ s.toks .none)
  · cases hc; exact wpAny_Constant_bool (fin _ s.toks (.bool _))
  · cases hc; exact wpAny_Constant_int (fin _ _ (.int _ _))
  · cases hc; exact PySem.wpAny_Constant_str (fin _ _ (.str _ _))
theorem se_var {x : Str} {pos : Pos} {i : Nat} (hx : varOf G sc x = some i) : SE prog w base ec G n Φ sc (.Name x pos) (.var i) := by
  intro A env ρ σ σ' av S μ s Q E hA hs I F q P
  obtain ⟨hi, rfl⟩ := i_var q
  exact var_inv hx fun h1 h2 h3 => eval_var F ((hs.var x).trans h1) h2 h3 hi fun v r => P v s.heap s.toks S (.refl I) (.old r)
theorem se_cst (W : Wd base ec G) {x : Str} {pos : Pos} {d : PyData} (hg : isGlob sc x = true) (ho : okName x = true) (hx : G.consts.lookup x = some d) : SE prog w base ec G n Φ sc (.Name x pos) (.const d) := by
  intro A env ρ σ σ' av S μ s Q E hA hs I F q P
  cases q
  obtain ⟨v, g, r⟩ := W.cst x d hx
  exact eval_glob F I.keepB ((hs.gl x).trans hg) ho g (P v s.heap s.toks S (.refl I) (.old (.dat (r _ _))))
theorem se_bin {l r : Expr} {op : Operator} {pos : Pos} {a b : CE} (H₁ : SE prog w base ec G n Φ sc l a) (H₂ : SE prog w base ec G n Φ sc r b) : SE prog w base ec G n Φ sc (.BinOp l op r pos) (.bin op a b) := by
  intro A env ρ σ σ' av S μ s Q E hA hs I F q P
  refine i_bin q fun x σ₁ y dx dy q₁ q₂ e₁ e₂ e₃ => ?_
  refine wpAny_BinOp (seq2 H₁ H₂ hA hs I F q₁ q₂ fun v u h' tk S' x r₁ r₂ F' => ?_)
  exact bin_ok (inSome x.inv) e₃ (rtOf x.inv r₁ e₁) (rtOf x.inv r₂ e₂) (post_prim x P)
theorem se_neg {e : Expr} {pos : Pos} {a : CE} (H : SE prog w base ec G n Φ sc e a) : SE prog w base ec G n Φ sc (.UnaryOp .USub e pos) (.neg a) := by
  intro A env ρ σ σ' av S μ s Q E hA hs I F q P
  refine i_neg q fun i q₁ z1 => ?_
  subst z1
  refine wpAny_UnaryOp (seq1 H hA hs I F q₁ fun v h' tk S' x r F' => ?_)
  obtain ⟨t, rfl⟩ := (rtOf (d := .int i) x.inv r rfl).intD
  exact PySem.P.neg_int ((post_prim x P).dat (.int _ _) _)
end
end Mine
namespace Mine
open PySem PySem.Calls PyProof.Rows
section
variable {prog : Program} {w : World} {base : Bs} {ec : ExcCls} {G : Cfg} {n : Nat} {Φ : Phi} {sc : Sc}
theorem st_of_se {e : Expr} {c : CE} (he : ∀ env whole, isTrue e env whole = (do let v ← whole; standAt e.pos; holding [v] (truthy v))) (H : SE prog w base ec G n Φ sc e c) : ST prog w base ec G n Φ sc e c := by
  intro A env ρ σ σ' av b S μ s Q E hA hs I F q hb P
  obtain rfl := boolA_eq hb
  refine wpAny_isTrue_value (H A env ρ σ σ' _ S μ s _ E hA hs I F q fun v h' tk S' x r => ?_) (he env _)
  cases r with
  | old r => cases r with
    | dat r => cases r; exact wpAny_truthy_bool (P h' tk S' x)
theorem se_not {e : Expr} {pos : Pos} {a : CE} (H : SE prog w base ec G n Φ sc e a) : SE prog w base ec G n Φ sc (.UnaryOp .Not e pos) (.nott a) := by
  intro A env ρ σ σ' av S μ s Q E hA hs I F q P
  refine i_nott q fun b q₁ z1 => ?_
  subst z1
  refine wpAny_UnaryOp (seq1 H hA hs I F q₁ fun v h' tk S' x r F' => ?_)
  obtain rfl := (rtOf (d := .bool b) x.inv r rfl).boolD
  exact not_value (wpAny_truthy_bool (P _ h' tk S' x (.old (.dat (.bool _)))))
theorem st_not {e : Expr} {pos : Pos} {a : CE} (H : ST prog w base ec G n Φ sc e a) : ST prog w base ec G n Φ sc (.UnaryOp .Not e pos) (.nott a) := by
  intro A env ρ σ σ' av b S μ s Q E hA hs I F q hb P
  refine i_nott q fun c q₁ z1 => ?_
  subst z1
  cases hb
  exact wpAny_isTrue_Not (H A env ρ σ _ _ c S μ s _ E hA hs I F q₁ rfl P)
noncomputable def SB (prog : Program) (w : World) (base : Bs) (ec : ExcCls) (G : Cfg) (n : Nat) (Φ : Phi) (sc : Sc) (e : Expr) (c : CE) : Prop := SE prog w base ec G n Φ sc e c ∧ ST prog w base ec G n Φ sc e c
inductive SBs (prog : Program) (w : World) (base : Bs) (ec : ExcCls) (G : Cfg) (n : Nat) (Φ : Phi) (sc : Sc) : List Expr → List CE → Prop
  | nil : SBs prog w base ec G n Φ sc [] []
  | cons {e : Expr} {es : List Expr} {c : CE} {cs : List CE} : SB prog w base ec G n Φ sc e c → SBs prog w base ec G n Φ sc es cs → SBs prog w base ec G n Φ sc (e :: es) (c :: cs)
theorem bop_ok {op : BoolOp} {pos : Pos} : ∀ {es : List Expr} {cs : List CE} (A : Around) (env : Env) (ρ : Rho) (σ σ' : Store) (b : Bool) (S : Addr → Prop) (μ : List Addr) (s : Shared) (Q : Value → Shared → Prop) (E : Value → Shared → Prop),
    SBs prog w base ec G n Φ sc es cs → es ≠ [] → AOk base n A → ScOk env sc → Inv base S μ σ s.heap → FrOk base ec G.V S μ env ρ s.heap → evB Φ op cs ρ σ = some (b, σ') → Post ec base μ S σ σ' s (.dat (.bool b)) Q →
    wpAny (model prog w) A (boolOp pos op (evalEach es env)) Q E s := by
  intro es
  induction es with
  | nil => intros; contradiction
  | cons e es ih =>
    intro cs A env ρ σ σ' b S μ s Q E hS _ hA hs I F q P
    cases hS with
    | @cons _ _ c cs' H hS =>
    refine i_bcons q fun b₁ σ₁ q₁ q => ?_
    cases es with
    | nil =>
      cases hS
      show wpAny _ A (eval e env) Q E s
      have : b = b₁ ∧ σ' = σ₁ := by
        by_cases w : (b₁ == (op == BoolOp.And)) = true
        · rw [if_pos w] at q
          obtain ⟨rfl, rfl⟩ := pr q
          exact ⟨(beq_iff_eq.mp w).symm, rfl⟩
        · rw [if_neg w] at q
          obtain ⟨rfl, rfl⟩ := pr q
          exact ⟨rfl, rfl⟩
      obtain ⟨rfl, rfl⟩ := this
      exact H.1 A env ρ σ _ _ S μ s Q E hA hs I F q₁ P
    | cons e₂ es₂ =>
      show wpAny _ A (do
        let v ← eval e env
        standAt pos
        let t ← holding [v] (truthy v)
        match op, t with
        | .And, false | .Or, true => pure v
        | _, _ => boolOp pos op (evalEach (e₂ :: es₂) env)) Q E s
      refine wpAny_bind (seq1 H.1 hA hs I F q₁ fun v h' tk S' x r F' => ?_)
      obtain rfl := (rtOf (d := .bool b₁) x.inv r rfl).boolD
      refine wpAny_bind (wpAny_standAt (wpAny_bind (wpAny_holding (wpAny_truthy_bool ?_))))
      have stop : (b₁ == (op == BoolOp.And)) = false → wpAny (model prog w) A (pure (Value.bool b₁)) Q E { s with heap := h', toks := tk } := fun w => by
        rw [if_neg (by rw [w]; exact Bool.false_ne_true)] at q
        obtain ⟨rfl, rfl⟩ := pr q
        exact wpAny_pure (P _ h' tk S' x (.old (.dat (.bool _))))
      have goOn : (b₁ == (op == BoolOp.And)) = true → wpAny (model prog w) A (boolOp pos op (evalEach (e₂ :: es₂) env)) Q E { s with heap := h', toks := tk } := fun w => by
        rw [if_pos w] at q
        exact ih A env ρ σ₁ σ' b S' μ { s with heap := h', toks := tk } Q E hS (by simp) hA hs x.inv F' q fun v h'' tk' S'' x' r' => P v h'' tk' S'' (x.trans x') (r'.back x)
      cases op <;> cases b₁
      · exact stop rfl
      · exact goOn rfl
      · exact goOn rfl
      · exact stop rfl
theorem se_bop {op : BoolOp} {es : List Expr} {cs : List CE} {pos : Pos} (hne : es ≠ []) (hS : SBs prog w base ec G n Φ sc es cs) : SE prog w base ec G n Φ sc (.BoolOp op es pos) (.bop op cs) := by
  intro A env ρ σ σ' av S μ s Q E hA hs I F q P
  refine i_bop q fun b q₁ z1 => ?_
  subst z1
  show wpAny _ A (boolOp pos op (evalEach es env)) Q E s
  exact bop_ok A env ρ σ _ b S μ s Q E hS hne hA hs I F q₁ P
theorem allTrue_ok {op : BoolOp} : ∀ {es : List Expr} {cs : List CE} (A : Around) (env : Env) (ρ : Rho) (σ σ' : Store) (b : Bool) (S : Addr → Prop) (μ : List Addr) (s : Shared) (Q : Bool → Shared → Prop) (E : Value → Shared → Prop),
    SBs prog w base ec G n Φ sc es cs → AOk base n A → ScOk env sc → Inv base S μ σ s.heap → FrOk base ec G.V S μ env ρ s.heap → evB Φ op cs ρ σ = some (b, σ') → (∀ h' tk S', Ev base μ S S' σ σ' s.heap h' → Q b { s with heap := h', toks := tk }) →
    wpAny (model prog w) A (allTrue op es env) Q E s := by
  intro es
  induction es with
  | nil =>
    intro cs A env ρ σ σ' b S μ s Q E hS hA hs I F q P
    cases hS
    cases q
    have := P s.heap s.toks S (.refl I)
    exact wpAny_pure this
  | cons e es ih =>
    intro cs A env ρ σ σ' b S μ s Q E hS hA hs I F q P
    cases hS with
    | @cons _ _ c cs' H hS =>
    refine i_bcons q fun b₁ σ₁ q₁ q => ?_
    show wpAny _ A (do match op, ← isTrue e env (eval e env) with | .And, false => pure false | .Or, true => pure true | _, _ => allTrue op es env) Q E s
    refine wpAny_bind (H.2 A env ρ σ σ₁ _ b₁ S μ s _ E hA hs I F q₁ rfl fun h' tk S' x => ?_)
    have stop : (b₁ == (op == BoolOp.And)) = false → Q b₁ { s with heap := h', toks := tk } := fun w => by
      rw [if_neg (by rw [w]; exact Bool.false_ne_true)] at q
      obtain ⟨rfl, rfl⟩ := pr q
      exact P h' tk S' x
    have goOn : (b₁ == (op == BoolOp.And)) = true → wpAny (model prog w) A (allTrue op es env) Q E { s with heap := h', toks := tk } := fun w => by
      rw [if_pos w] at q
      exact ih A env ρ σ₁ σ' b S' μ { s with heap := h', toks := tk } Q E hS hA hs x.inv (F.ev I x) q fun h'' tk' S'' x' => P h'' tk' S'' (x.trans x')
    cases op <;> cases b₁
    · exact wpAny_pure (stop rfl)
    · exact goOn rfl
    · exact goOn rfl
    · exact wpAny_pure (stop rfl)
theorem st_bop {op : BoolOp} {es : List Expr} {cs : List CE} {pos : Pos} (hS : SBs prog w base ec G n Φ sc es cs) : ST prog w base ec G n Φ sc (.BoolOp op es pos) (.bop op cs) := by
  intro A env ρ σ σ' av b S μ s Q E hA hs I F q hb P
  refine i_bop q fun b' q₁ z1 => ?_
  subst z1
  cases hb
  exact wpAny_isTrue_BoolOp (allTrue_ok A env ρ σ _ _ S μ s Q E hS hA hs I F q₁ P)
theorem noSet_marks {op : CmpOp} {e : Expr} (h : noSet e = true) : behindInMarks op e = false := by
  cases e <;> first | rfl | cases h
theorem AOk.un2 {A : Around} (h : AOk base n A) : A.units + 200 < cLine := by have := h.un; omega
theorem se_cmp {l r : Expr} {op : CmpOp} {pos : Pos} {a b : CE} (hn : noSet r = true) (H₁ : SE prog w base ec G n Φ sc l a) (H₂ : SE prog w base ec G n Φ sc r b) : SE prog w base ec G n Φ sc (.Compare l [op] [r] pos) (.cmp op a b) := by
  intro A env ρ σ σ' av S μ s Q E hA hs I F q P
  refine i_cmp q fun x σ₁ y dx dy rr q₁ q₂ e₁ e₂ e₃ z1 => ?_
  subst z1
  refine wpAny_Compare1 (seq2 H₁ H₂ hA hs I F q₁ q₂ fun v u h' tk S' x r₁ r₂ F' => ?_) (noSet_marks hn)
  exact cmp_ok hA.un2 e₃ (rtOf x.inv r₁ e₁) (rtOf x.inv r₂ e₂) fun tk' => P _ h' tk' S' x (.old (.dat (.bool _)))
theorem st_cmp {l r : Expr} {op : CmpOp} {pos : Pos} {a b : CE} (hn : noSet r = true) (H₁ : SE prog w base ec G n Φ sc l a) (H₂ : SE prog w base ec G n Φ sc r b) : ST prog w base ec G n Φ sc (.Compare l [op] [r] pos) (.cmp op a b) := by
  intro A env ρ σ σ' av bb S μ s Q E hA hs I F q hb P
  refine i_cmp q fun x σ₁ y dx dy rr q₁ q₂ e₁ e₂ e₃ z1 => ?_
  subst z1
  cases hb
  refine wpAny_isTrue_Compare1 (seq2 H₁ H₂ hA hs I F q₁ q₂ fun v u h' tk S' x r₁ r₂ F' => ?_) (noSet_marks hn)
  exact cmp_ok hA.un2 e₃ (rtOf x.inv r₁ e₁) (rtOf x.inv r₂ e₂) fun tk' => wpAny_truthy_bool (P h' tk' S' x)
end
end Mine
namespace Mine
open PySem PySem.Calls PyProof.Rows
section
variable {prog : Program} {w : World} {base : Bs} {ec : ExcCls} {G : Cfg} {n : Nat} {Φ : Phi} {sc : Sc}
theorem last_marks {o1 o2 : CmpOp} {m r : Expr} (h : noSet r = true) : lastMarks [o1, o2] [m, r] = false := noSet_marks h
theorem se_cmp2 {l m r : Expr} {o1 o2 : CmpOp} {pos : Pos} {a b c : CE} (hn : noSet r = true) (H₁ : SE prog w base ec G n Φ sc l a) (H₂ : SE prog w base ec G n Φ sc m b) (H₃ : SE prog w base ec G n Φ sc r c) : SE prog w base ec G n Φ sc (.Compare l [o1, o2] [m, r] pos) (.cmp2 o1 o2 a b c) := by
  intro A env ρ σ σ' av S μ s Q E hA hs I F q P
  refine i_cmp2 q fun x σ₁ y σ₂ dx dy r₀ q₁ q₂ e₁ e₂ e₃ h => ?_
  refine Compare_chain (seq1 H₁ hA hs I F q₁ fun v h₁ tk₁ S₁ x₁ r₁ F₁ => ?_) (last_marks hn)
  refine chain_link (seq1 (s := { s with heap := h₁, toks := tk₁ }) H₂ hA hs x₁.inv F₁ q₂ fun u h₂ tk₂ S₂ x₂ r₂ F₂ => ?_)
  have r₁' := r₁.ev x₁.inv x₂
  refine cmp_ok hA.un2 e₃ (rtOf x₂.inv r₁' e₁) (rtOf x₂.inv r₂ e₂) fun tk' => wpAny_truthy_bool ?_
  cases r₀ with
  | false =>
    obtain rfl := (pr h).1
    obtain rfl := (pr h).2
    exact P _ h₂ tk' S₂ (x₁.trans x₂) (.old (.dat (.bool _)))
  | true =>
    refine ob h fun t q₃ h => ob h fun dy' e₄ h => ob h fun dz e₅ h => ob h fun rr e₆ h => ?_
    obtain rfl := (pr h).1
    obtain rfl := (pr h).2
    refine chain_last (seq1 (s := { s with heap := h₂, toks := tk' }) H₃ hA hs x₂.inv F₂ q₃ fun t h₃ tk₃ S₃ x₃ r₃ F₃ => ?_)
    exact cmp_ok hA.un2 e₆ (rtOf x₃.inv (r₂.ev x₂.inv x₃) e₄) (rtOf x₃.inv r₃ e₅) fun tk'' => P _ h₃ tk'' S₃ ((x₁.trans x₂).trans x₃) (.old (.dat (.bool _)))
theorem st_cmp2 {l m r : Expr} {o1 o2 : CmpOp} {pos : Pos} {a b c : CE} (hn : noSet r = true) (H₁ : SE prog w base ec G n Φ sc l a) (H₂ : SE prog w base ec G n Φ sc m b) (H₃ : SE prog w base ec G n Φ sc r c) : ST prog w base ec G n Φ sc (.Compare l [o1, o2] [m, r] pos) (.cmp2 o1 o2 a b c) := by
  intro A env ρ σ σ' av bb S μ s Q E hA hs I F q hb P
  refine i_cmp2 q fun x σ₁ y σ₂ dx dy r₀ q₁ q₂ e₁ e₂ e₃ h => ?_
  refine isTrue_chain (seq1 H₁ hA hs I F q₁ fun v h₁ tk₁ S₁ x₁ r₁ F₁ => ?_) (last_marks hn)
  refine test_link (seq1 (s := { s with heap := h₁, toks := tk₁ }) H₂ hA hs x₁.inv F₁ q₂ fun u h₂ tk₂ S₂ x₂ r₂ F₂ => ?_)
  have r₁' := r₁.ev x₁.inv x₂
  refine cmp_ok hA.un2 e₃ (rtOf x₂.inv r₁' e₁) (rtOf x₂.inv r₂ e₂) fun tk' => wpAny_truthy_bool ?_
  cases r₀ with
  | false =>
    obtain rfl := (pr h).1
    obtain rfl := (pr h).2
    obtain rfl := Option.some.inj hb
    exact P h₂ tk' S₂ (x₁.trans x₂)
  | true =>
    refine ob h fun t q₃ h => ob h fun dy' e₄ h => ob h fun dz e₅ h => ob h fun rr e₆ h => ?_
    obtain rfl := (pr h).1
    obtain rfl := (pr h).2
    obtain rfl := Option.some.inj hb
    refine test_last (seq1 (s := { s with heap := h₂, toks := tk' }) H₃ hA hs x₂.inv F₂ q₃ fun t h₃ tk₃ S₃ x₃ r₃ F₃ => ?_)
    exact cmp_ok hA.un2 e₆ (rtOf x₃.inv (r₂.ev x₂.inv x₃) e₄) (rtOf x₃.inv r₃ e₅) fun tk'' => wpAny_truthy_bool (P h₃ tk'' S₃ ((x₁.trans x₂).trans x₃))
theorem Post.past {ec : ExcCls} {base : Bs} {μ : List Addr} {S S₁ : Addr → Prop} {σ σ₁ σ' : Store} {s : Shared} {h₁ : Heap} {tk : Nat} {av : AV} {Q : Value → Shared → Prop} (x : Ev base μ S S₁ σ σ₁ s.heap h₁) (P : Post ec base μ S σ σ' s av Q) :
    Post ec base μ S₁ σ₁ σ' { s with heap := h₁, toks := tk } av Q := fun v h' tk' S' x' r => P v h' tk' S' (x.trans x') (r.back x)
theorem se_ite {t a b : Expr} {pos : Pos} {x y z : CE} (H₁ : ST prog w base ec G n Φ sc t x) (H₂ : SE prog w base ec G n Φ sc a y) (H₃ : SE prog w base ec G n Φ sc b z) : SE prog w base ec G n Φ sc (.IfExp t a b pos) (.ite x y z) := by
  intro A env ρ σ σ' av S μ s Q E hA hs I F q P
  refine i_ite q fun c σ₁ q₁ q₂ => ?_
  refine wpAny_IfExp (H₁ A env ρ σ σ₁ _ c S μ s _ E hA hs I F q₁ rfl fun h' tk S' x => ?_)
  cases c
  · exact H₃ A env ρ σ₁ σ' av S' μ { s with heap := h', toks := tk } Q E hA hs x.inv (F.ev I x) q₂ (P.past x)
  · exact H₂ A env ρ σ₁ σ' av S' μ { s with heap := h', toks := tk } Q E hA hs x.inv (F.ev I x) q₂ (P.past x)
theorem st_ite {t a b : Expr} {pos : Pos} {x y z : CE} (H₁ : ST prog w base ec G n Φ sc t x) (H₂ : ST prog w base ec G n Φ sc a y) (H₃ : ST prog w base ec G n Φ sc b z) : ST prog w base ec G n Φ sc (.IfExp t a b pos) (.ite x y z) := by
  intro A env ρ σ σ' av bb S μ s Q E hA hs I F q hb P
  refine i_ite q fun c σ₁ q₁ q₂ => ?_
  rw [arm_isTrue_IfExp]
  refine wpAny_bind (H₁ A env ρ σ σ₁ _ c S μ s _ E hA hs I F q₁ rfl fun h' tk S' x => ?_)
  cases c
  · exact H₃ A env ρ σ₁ σ' av bb S' μ { s with heap := h', toks := tk } Q E hA hs x.inv (F.ev I x) q₂ hb fun h'' tk' S'' x' => P h'' tk' S'' (x.trans x')
  · exact H₂ A env ρ σ₁ σ' av bb S' μ { s with heap := h', toks := tk } Q E hA hs x.inv (F.ev I x) q₂ hb fun h'' tk' S'' x' => P h'' tk' S'' (x.trans x')
theorem noSlice_sub {i : Expr} {o k : Value} (h : noSlice i = true) : subscripted i false o k = operate [o, k] (getItem o k) := by
  cases i <;> first | rfl | cases h
theorem se_idx {v i : Expr} {pos : Pos} {a b : CE} (hn : noSlice i = true) (H₁ : SE prog w base ec G n Φ sc v a) (H₂ : SE prog w base ec G n Φ sc i b) : SE prog w base ec G n Φ sc (.Subscript v i pos) (.idx a b) := by
  intro A env ρ σ σ' av S μ s Q E hA hs I F q P
  refine i_idx q fun x σ₁ y dx dy rr q₁ q₂ e₁ e₂ e₃ z1 => ?_
  subst z1
  refine Subscript_ (seq2 H₁ H₂ hA hs I F q₁ q₂ fun u k h' tk S' x r₁ r₂ F' => ?_)
  have t₁ := rtOf x.inv r₁ e₁
  have t₂ := rtOf x.inv r₂ e₂
  have g : wpAny (model prog w) A (getItem u k) Q E { s with heap := h', toks := tk } := idx_ok e₃ t₁ t₂ fun u' tk' ru => P _ h' tk' S' x (.old (.dat ru))
  obtain ⟨i, _, e₄⟩ := bnd e₃
  obtain ⟨_, e₅⟩ := gd e₄
  cases dx <;> first | (cases e₅; done) | skip
  case str =>
    obtain ⟨t, rfl⟩ := t₁.strD
    exact tail_any (T := "str") (by rfl) PySem.F.slot_str_getitem.lookup g (noSlice_sub hn)
  case list =>
    obtain ⟨a, vs, m, rfl, e, _⟩ := t₁.lstD
    exact tail_any ⟨_, e, rfl⟩ slot_list_getitem.lookup g (noSlice_sub hn)
  case tuple =>
    obtain ⟨a, vs, m, rfl, _, e, _⟩ := t₁.tupD
    exact tail_any ⟨_, e, rfl⟩ PySem.F.slot_tuple_getitem.lookup g (noSlice_sub hn)
theorem starEach_no {e : Expr} {es : List Expr} {env : Env} (h : noStar e = true) : starEach (e :: es) env = (false, eval e env) :: starEach es env := by
  cases e <;> first | rfl | cases h
theorem es_ok {pos : Pos} : ∀ {es : List Expr} {cs : List CE} {A : Around} {env : Env} {ρ : Rho} {σ σ' : Store} {avs : List AV} {S : Addr → Prop} {μ : List Addr} {s : Shared} {R : List Value → Shared → Prop} {E : Value → Shared → Prop},
    SEs prog w base ec G n Φ sc es cs → AOk base n A → ScOk env sc → Inv base S μ σ s.heap → FrOk base ec G.V S μ env ρ s.heap → evEs Φ cs ρ σ = some (avs, σ') →
    (∀ vs h' tk S', Ev base μ S S' σ σ' s.heap h' → RdAs ec h' S' μ vs avs → FrOk base ec G.V S' μ env ρ h' → (∀ av ∈ avs, ∀ ds, av ≠ .fresh ds) → vs.length = es.length → R vs { s with heap := h', toks := tk }) →
    wpAny (model prog w) A (spliced (backTo pos (starEach es env))) R E s := by
  intro es
  induction es with
  | nil =>
    intro cs A env ρ σ σ' avs S μ s R E hS hA hs I F q P
    cases hS
    cases q
    exact wpAny_items_nil (P [] s.heap s.toks S (.refl I) .nil F (fun _ h => nomatch h) rfl)
  | cons e es ih =>
    intro cs A env ρ σ σ' avs S μ s R E hS hA hs I F q P
    cases hS with
    | @cons _ _ c cs' hn H hS =>
    refine i_lcons q fun x σ₁ xs q₁ q₂ z1 => ?_
    subst z1
    refine wpAny_items_cons (seq1 H hA hs I F q₁ fun v h₁ tk₁ S₁ x₁ r₁ F₁ => ?_) (starEach_no hn)
    refine ih (s := { s with heap := h₁, toks := tk₁ }) hS hA hs x₁.inv F₁ q₂ fun vs h₂ tk₂ S₂ x₂ r₂ F₂ hf hl => ?_
    refine P (v :: vs) h₂ tk₂ S₂ (x₁.trans x₂) (.cons (r₁.ev x₁.inv x₂) r₂) F₂ (fun av hav => ?_) (by simp [hl])
    rcases hav with _ | ⟨_, hav⟩
    · exact settle_notFresh x
    · exact hf av hav
theorem se_tup {es : List Expr} {cs : List CE} {k : Nat} {pos : Pos} (hz : es.length ≤ 1000) (hS : SEs prog w base ec G n Φ sc es cs) : SE prog w base ec G n Φ sc (.Tuple es k pos) (.tup cs) := by
  intro A env ρ σ σ' av S μ s Q E hA hs I F q P
  refine i_tup q fun avs σ₁ ds q₁ q₂ z1 => ?_
  subst z1
  refine wpAny_Tuple (es_ok hS hA hs I F q₁ fun vs h' tk S' x r F' hf hl => ?_)
  obtain ⟨S₂, x₂, rl, _⟩ := ownAll_step x hf r q₂
  refine ⟨by rw [hl, ← lim_eq]; unfold lim; omega, ?_⟩
  exact (post_prim (tk := tk) x₂ P).tup (push_grow _ _) (fresh_none _) (Heap.get?_push_size h' (o := tupO vs 0) rfl) rl tk
theorem se_lst {es : List Expr} {cs : List CE} {pos : Pos} (hz : es.length ≤ 1000) (hS : SEs prog w base ec G n Φ sc es cs) : SE prog w base ec G n Φ sc (.List es pos) (.lst cs) := by
  intro A env ρ σ σ' av S μ s Q E hA hs I F q P
  refine i_lst q fun avs σ₁ ds q₁ q₂ z1 => ?_
  subst z1
  refine wpAny_List (es_ok hS hA hs I F q₁ fun vs h' tk S' x r F' hf hl => ?_)
  obtain ⟨S₂, x₂, rl, _⟩ := ownAll_step x hf r q₂
  refine ⟨by rw [hl, ← lim_eq]; unfold lim; omega, ?_⟩
  exact (post_prim (tk := tk) x₂ P).lst (inSome x₂.inv) (push_grow _ _) (fresh_none _) (Heap.get?_push_size h' (o := lstO vs 0) rfl) rl tk
theorem SEs.plain {es : List Expr} {cs : List CE} (hS : SEs prog w base ec G n Φ sc es cs) (pos : Pos) (env : Env) : (backTo pos (starEach es env)).any (·.1) = false := by
  induction hS with
  | nil => rfl
  | cons hn _ _ ih =>
    rw [starEach_no hn]
    show (false || _) = false
    rw [Bool.false_or]; exact ih
theorem callB_ok {f : Value} (hf : (∃ id, f = .builtin id) ∨ ∃ T, f = .type T) {es : List Expr} {cs : List CE} {pos : Pos} (hne : es ≠ []) (hS : SEs prog w base ec G n Φ sc es cs) {A : Around} {env : Env} {ρ : Rho} {σ σ' : Store} {avs : List AV} {S : Addr → Prop} {μ : List Addr} {s : Shared} {Q : Value → Shared → Prop} {E : Value → Shared → Prop}
    (hA : AOk base n A) (hs : ScOk env sc) (I : Inv base S μ σ s.heap) (F : FrOk base ec G.V S μ env ρ s.heap) (q : evEs Φ cs ρ σ = some (avs, σ'))
    (P : ∀ vs h' tk S', Ev base μ S S' σ σ' s.heap h' → RdAs ec h' S' μ vs avs → wpAny (model prog w) A (call f vs) Q E { s with heap := h', toks := tk }) :
    wpAny (model prog w) A (callWith pos f [] (backTo pos (starEach es env)) (backToKw pos (keywordEach [] env))) Q E s := by
  cases hS with
  | nil => exact absurd rfl hne
  | @cons e es' c cs' hn H hS =>
    have full := SEs.cons hn H hS
    have ev : wpAny (model prog w) A (spliced (backTo pos (starEach (e :: es') env))) (fun vs s₁ => wpAny (model prog w) A (call f vs) Q E s₁) E s := es_ok full hA hs I F q fun vs h' tk S' x r F' hf hl => P vs h' tk S' x r
    rcases hf with ⟨id, rfl⟩ | ⟨T, rfl⟩
    · exact PyProof.Rows.callWith_builtin1 ev (starEach_no hn) (hS.plain pos env)
    · exact PyProof.Rows.callWith_type1 ev (starEach_no hn) (hS.plain pos env)
theorem RdAs.rtL {h : Heap} {S : Addr → Prop} {μ : List Addr} {σ : Store} (I : Inv base S μ σ h) : ∀ {vs : List Value} {avs : List AV} {ds : List PyData}, RdAs ec h S μ vs avs → rdAll σ avs = some ds → RtL h S vs ds := by
  intro vs
  induction vs with
  | nil => intro avs ds r e; cases r; cases e; exact .nil
  | cons v vs ih =>
    intro avs ds r e
    cases r with
    | @cons _ _ av avs' ra r =>
      obtain ⟨d, q, e₁⟩ := bnd e
      obtain ⟨ds', q', e₂⟩ := bnd e₁
      cases e₂
      exact .cons (ra.rt I q) (ih r q')
theorem slotL_lt {V : List Str} {i : Nat} {x : Str} (h : slotL V 0 x = some i) : V[i]? = some x := by simpa using (slotL_get h).2
theorem se_prim (W : Wd base ec G) {g : Str} {p pos : Pos} {es : List Expr} {cs : List CE} {q : Prim} (hg : isGlob sc g = true) (ho : okName g = true) (hq : primOf g = some q) (hne : es ≠ []) (hS : SEs prog w base ec G n Φ sc es cs) :
    SE prog w base ec G n Φ sc (.Call (.Name g p) es [] pos) (.prim q cs) := by
  intro A env ρ σ σ' av S μ s Q E hA hs I F ev P
  refine i_prim ev fun avs ds q₁ q₂ q₃ => ?_
  have hj := primL_ok _ (mem_lookup hq)
  refine wpAny_Call_Name_kw (eval_glob F I.keepB ((hs.gl g).trans hg) ho (W.blt _ _ (blt_prim hq)) ?_)
  refine callB_ok (primF_ok hj) hne hS hA hs I F q₁ fun vs h' tk S' x r => ?_
  exact prim_ok (hA.hd W.cold) (inSome x.inv) hj q₃ (r.rtL x.inv q₂) (post_prim x P)
theorem Rt.noDict {h : Heap} {S : Addr → Prop} {v : Value} {d : PyData} (r : Rt h S v d) : ∀ kvs, d ≠ .dict kvs := by
  intro kvs e
  subst e
  cases r with
  | dat r => cases r
theorem se_call (W : Wd base ec G) (HP : PhiOk prog w base ec G n Φ) {g : Str} {p pos : Pos} {es : List Expr} {cs : List CE} {k : Nat} (hg : isGlob sc g = true) (ho : okName g = true) (hk : slotL (G.fns.map (·.1)) 0 g = some k) (hne : es ≠ []) (hS : SEs prog w base ec G n Φ sc es cs) :
    SE prog w base ec G n Φ sc (.Call (.Name g p) es [] pos) (.call k cs) := by
  intro A env ρ σ σ' av S μ s Q E hA hs I F ev P
  refine i_call ev fun avs σ₁ q₁ q₂ => ?_
  have e := slotL_lt hk
  rw [List.getElem?_map] at e
  cases q : G.fns[k]? with
  | none => rw [q] at e; cases e
  | some fa =>
    obtain ⟨f, a⟩ := fa
    rw [q] at e
    obtain rfl : f = g := Option.some.inj e
    obtain ⟨hgl, o, fd, ho', hd⟩ := W.fn k f a q
    refine wpAny_Call_Name_kw (eval_glob F I.keepB ((hs.gl f).trans hg) ho hgl ?_)
    cases hS with
    | nil => exact absurd rfl hne
    | @cons e es' c cs' hn H hS =>
      have full := SEs.cons hn H hS
      refine PyProof.Rows.callWith_def hd (es_ok full hA hs I F q₁ fun vs h' tk S' x r F' hf hl => ⟨x.inv.keepB _ _ ho', ?_⟩) (starEach_no hn)
      exact HP k f a q A S' μ σ₁ _ { s with heap := h', toks := tk } vs avs _ Q E hA x.inv r q₂ (P.past x)
theorem se_isin (W : Wd base ec G) {g t : Str} {p p' pos : Pos} {x : Expr} {a : CE} {ty : Ty} (hn : noStar x = true) (hg : isGlob sc g = true) (ho : okName g = true) (hgi : (g == ("isinstance" : Str)) = true) (ht : isGlob sc t = true) (ht' : okName t = true) (hty : tyOf t = some ty) (H : SE prog w base ec G n Φ sc x a) :
    SE prog w base ec G n Φ sc (.Call (.Name g p) [x, .Name t p'] [] pos) (.isin a ty) := by
  intro A env ρ σ σ' av S μ s Q E hA hs I F ev P
  refine i_isin ev fun y d q₁ q₂ z1 => ?_
  subst z1
  rw [beq_iff_eq] at hgi
  subst hgi
  have hT : Glb base t (.type (tyName ty)) := W.blt _ _ (blt_ty hty)
  refine wpAny_Call_Name_kw (eval_glob F I.keepB ((hs.gl _).trans hg) ho (W.blt _ (.builtin "isinstance") (blt_rest (.head _))) ?_)
  refine PyProof.Rows.callWith_builtin1 ?_ (starEach_no hn) rfl
  refine wpAny_items_cons (seq1 H hA hs I F q₁ fun v h' tk S' x r F' => ?_) (starEach_no hn)
  refine wpAny_items_cons (eval_glob (s := { s with heap := h', toks := tk }) F' x.inv.keepB ((hs.gl t).trans ht) ht' hT ?_) rfl
  refine wpAny_items_nil ?_
  have t := rtOf x.inv r q₂
  exact isin_ok (by cases ty <;> rfl) t.noDict t fun tk' => P _ h' tk' S' x (.old (.dat (.bool _)))
end
end Mine
namespace Mine
open PySem PySem.Calls PyProof.Rows
structure Evo (base : Bs) (X : Addr → Prop) (μ μ' : List Addr) (S S' : Addr → Prop) (σ σ' : Store) (h h' : Heap) : Prop where
  ext : ∃ ν, μ' = μ ++ ν ∧ ∀ a ∈ ν, h.get? a = none
  sub : ∀ a, S a → S' a
  new : ∀ a, S' a → S a ∨ h.get? a = none ∨ Live μ σ a
  inv : Inv base S' μ' σ' h'
  keep : ∀ b o, ¬ X b → ¬ Live μ σ b → h.get? b = some o → Lk o (h'.get? b)
  live : ∀ a, Live μ' σ' a → Live μ σ a ∨ h.get? a = none
  stay : ∀ b o, h.get? b = some o → ∃ o', h'.get? b = some o'
section
variable {base : Bs} {X Y : Addr → Prop} {μ μ' μ'' : List Addr} {S S' S'' : Addr → Prop} {σ σ' σ'' : Store} {h h' h'' : Heap} {ec : ExcCls} {V : List Str} {env : Env} {ρ : Rho}
theorem Evo.refl (I : Inv base S μ σ h) : Evo base X μ μ S S σ σ h h :=
  ⟨⟨[], by simp, fun _ q => nomatch q⟩, fun _ q => q, fun _ q => .inl q, I, fun _ _ _ _ e => .inl e, fun _ q => .inl q, fun _ o e => ⟨o, e⟩⟩
theorem Evo.of (x : Ev base μ S S' σ σ' h h') : Evo base X μ μ S S' σ σ' h h' :=
  ⟨⟨[], by simp, fun _ q => nomatch q⟩, x.sub, x.new, x.inv, fun b o _ hl e => x.keep b o hl e, fun a l => .inl (x.live a l), fun _ _ e => x.stays e⟩
theorem Evo.gone (x : Evo base X μ μ' S S' σ σ' h h') {a : Addr} (e : h'.get? a = none) : h.get? a = none := by
  cases q : h.get? a with
  | none => rfl
  | some o => obtain ⟨o', q'⟩ := x.stay a o q; rw [q'] at e; cases e
theorem Evo.trans (x : Evo base X μ μ' S S' σ σ' h h') (y : Evo base Y μ' μ'' S' S'' σ' σ'' h' h'') (hY : ∀ a o, Y a → h.get? a = some o → X a) : Evo base X μ μ'' S S'' σ σ'' h h'' where
  ext := by
    obtain ⟨ν, rfl, n1⟩ := x.ext
    obtain ⟨ν', rfl, n2⟩ := y.ext
    refine ⟨ν ++ ν', by simp, fun a ha => ?_⟩
    rcases List.mem_append.mp ha with q | q
    · exact n1 a q
    · exact x.gone (n2 a q)
  sub := fun a s => y.sub a (x.sub a s)
  new := fun a s => by
    rcases y.new a s with q | q | q
    · exact x.new a q
    · exact .inr (.inl (x.gone q))
    · rcases x.live a q with q | q
      · exact .inr (.inr q)
      · exact .inr (.inl q)
  inv := y.inv
  keep := fun b o hb hl e => (x.keep b o hb hl e).trans fun o' e' => y.keep b o' (fun q => hb (hY b o q e)) (fun l => (x.live b l).elim hl fun q => by rw [q] at e; cases e) e'
  live := fun a l => by
    rcases y.live a l with q | q
    · exact x.live a q
    · exact .inr (x.gone q)
  stay := fun b o e => let ⟨o', e'⟩ := x.stay b o e; y.stay b o' e'
theorem Evo.wide (x : Evo base X μ μ' S S' σ σ' h h') (hY : ∀ a o, X a → h.get? a = some o → Y a) : Evo base Y μ μ' S S' σ σ' h h' :=
  ⟨x.ext, x.sub, x.new, x.inv, fun b o hb hl e => x.keep b o (fun q => hb (hY b o q e)) hl e, x.live, x.stay⟩
theorem Evo.toEv (I : Inv base S μ σ h) (x : Evo base X μ μ S S' σ σ' h h') (hX : ∀ a, X a → h.get? a = none) : Ev base μ S S' σ σ' h h' where
  sub := x.sub
  new := x.new
  inv := x.inv
  keep := fun b o hl e => x.keep b o (fun q => by rw [hX b q] at e; cases e) hl e
  live := fun a l => by
    rcases x.live a l with q | q
    · exact q
    · obtain ⟨i, ds, e1, _⟩ := l
      obtain ⟨vs, n, e⟩ := I.mem (List.mem_of_getElem? e1)
      rw [q] at e; cases e
theorem Evo.mu (x : Evo base X μ μ' S S' σ σ' h h') : ∀ (i : Nat) (a : Addr), μ[i]? = some a → μ'[i]? = some a := by
  obtain ⟨ν, rfl, _⟩ := x.ext
  intro i a e
  rw [List.getElem?_append_left (List.getElem?_eq_some_iff.mp e).1]; exact e
theorem Evo.keepS (I : Inv base S μ σ h) (x : Evo base X μ μ' S S' σ σ' h h') (hX : ∀ a, X a → ¬ S a) : ∀ a o, S a → h.get? a = some o → h'.get? a = some o :=
  fun a o hs e => (x.keep a o (fun q => hX a q hs) (fun l => l.notS I hs) e).of (by
    obtain ⟨o', e', p⟩ := I.inS a hs
    rw [e] at e'; cases e'
    exact p.1)
theorem RdA.evo (I : Inv base S μ σ h) (x : Evo base X μ μ' S S' σ σ' h h') (hX : ∀ a, X a → ¬ S a) {v : Value} {av : AV} (r : RdA ec h S μ v av) : RdA ec h' S' μ' v av := r.mono (x.keepS I hX) x.sub x.mu
theorem Inv.mv {wr : Addr → Prop} (I : Inv base S μ σ h) (m : Mv wr S S' h h') (hS : ∀ a, wr a → ¬ S a) (hM : ∀ a, wr a → a ∉ μ) (hB : ∀ a, wr a → base.get? a = none) (hZ : ∀ a, wr a → base.Z a → IsD (h'.get? a)) : Inv base S' μ σ h' where
  keepB := fun b o e => m.keep b o (fun q => by rw [hB b q] at e; cases e) (I.keepB b o e)
  len := I.len
  cells := fun i a f ds e1 e2 => by
    obtain ⟨vs, n, e, r, q1, q2⟩ := I.cells i a f ds e1 e2
    refine ⟨vs, n, m.keep a _ (fun q => hM a q (List.mem_of_getElem? e1)) e, r.mono (fun b o hb e => m.keep b o (fun q => hS b q hb) e) m.sub, fun z => m.sub a (q1 z), fun z s => ?_⟩
    rcases m.new a s with q | q
    · exact q2 z q
    · rw [q] at e; cases e
  nodup := I.nodup
  new := I.new
  inS := fun a s => by
    rcases m.inS a s with q | q
    · obtain ⟨o, e, p⟩ := I.inS a q
      exact ⟨o, m.keep a o (fun z => hS a z q) e, p⟩
    · exact q
  zs := fun L z => ⟨(I.zs L z).1, by
    by_cases q : wr L
    · exact hZ L q z
    · exact (I.zs L z).2.grow fun o e => m.keep L o q e⟩
theorem Evo.poke {wr : Addr → Prop} (x : Evo base X μ μ' S S' σ σ' h h') (m : Mv wr S' S'' h' h'') (hX : ∀ a o, wr a → h.get? a = some o → X a) (hS : ∀ a, wr a → ¬ S' a) (hM : ∀ a, wr a → a ∉ μ') (hB : ∀ a, wr a → base.get? a = none) (hZ : ∀ a, wr a → base.Z a → IsD (h''.get? a))
    (al : ∀ a o, wr a → h.get? a = some o → ∃ o', h''.get? a = some o') : Evo base X μ μ' S S'' σ σ' h h'' where
  ext := x.ext
  sub := fun a s => m.sub a (x.sub a s)
  new := fun a s => by
    rcases m.new a s with q | q
    · exact x.new a q
    · exact .inr (.inl (x.gone q))
  inv := x.inv.mv m hS hM hB hZ
  keep := fun b o hb hl e => (x.keep b o hb hl e).trans fun o' e' => .inl (m.keep b o' (fun q => hb (hX b o q e)) e')
  live := x.live
  stay := fun b o e => by
    by_cases q : wr b
    · exact al b o q e
    · obtain ⟨o', e'⟩ := x.stay b o e
      exact ⟨o', m.keep b o' q e'⟩
theorem Own.notS {a : Addr} (I : Inv base S μ σ h) (F : FrOk base ec V S μ env ρ h) (o : Own env a) : ¬ S a := fun s => by
  obtain ⟨b, e, p⟩ := I.inS a s
  exact o.notList F e p
theorem Own.new {a : Addr} (F : FrOk base ec V S μ env ρ h) (o : Own env a) : base.get? a = none := by
  rcases o with rfl | ⟨x, hx⟩
  · exact F.newL
  · exact F.newC x a hx
theorem Own.has {a : Addr} (F : FrOk base ec V S μ env ρ h) (o : Own env a) : ∃ b, h.get? a = some b := by
  rcases o with rfl | ⟨x, hx⟩
  · obtain ⟨m, ⟨o, _, _, e, _⟩, _⟩ := F.ns; exact ⟨o, e⟩
  · obtain ⟨vo, o, e, _⟩ := F.cell x a hx; exact ⟨o, e⟩
theorem FrOk.evo (I : Inv base S μ σ h) (F : FrOk base ec V S μ env ρ h) (x : Evo base X μ μ' S S' σ σ' h h') (hX : ∀ a, X a → ¬ S a) (hO : ∀ a, Own env a → ¬ X a) : FrOk base ec V S' μ' env ρ h' :=
  F.mono (fun a o ha e => x.keep a o (hO a ha) (ha.notLive I F) e) fun _ _ r => r.evo I x hX
theorem FrOk.mv {wr : Addr → Prop} (F : FrOk base ec V S μ env ρ h) (m : Mv wr S S' h h') (hS : ∀ a, wr a → ¬ S a) (hO : ∀ a, Own env a → ¬ wr a) : FrOk base ec V S' μ env ρ h' :=
  F.mono (fun a o ha e => .inl (m.keep a o (hO a ha) e)) fun _ _ r => r.mono (fun b o hb e => m.keep b o (fun q => hS b q hb) e) m.sub fun _ _ q => q
end
structure Lp (base : Bs) (X : Addr → Prop) (μ : List Addr) (S : Addr → Prop) (σ : Store) (h : Heap) (fp wr : Addr → Prop) (St : Nat → Heap → Prop) (Ok : (Addr → Prop) → Heap → Prop) (i : Nat) (μ' : List Addr) (S' : Addr → Prop) (σ' : Store) (h' : Heap) : Prop where
  ev : Evo base X μ μ' S S' σ σ' h h'
  st : St i h'
  ok : Ok S' h'
  nw : ∀ a, S' a → ¬ wr a
  nl : ∀ b, fp b → ¬ Live μ' σ' b
  nm : ∀ b, wr b → b ∉ μ'
  wn : ∀ b, wr b → h.get? b = none
  wb : ∀ b, wr b → base.get? b = none
section
variable {prog : Program} {w : World} {A : Around} {I : Addr} {xs : List PyData} {T : Expr → Prop} {Mid : Nat → Value → Heap → Prop}
variable {base : Bs} {X Y : Addr → Prop} {μ μ' μ'' : List Addr} {S S' S'' : Addr → Prop} {σ σ' σ'' : Store} {h h' h'' : Heap} {fp wr : Addr → Prop} {St : Nat → Heap → Prop} {Ok : (Addr → Prop) → Heap → Prop} {i : Nat}
theorem Lp.step (Z : Src prog w A I fp wr xs T St Mid Ok) (L : Lp base X μ S σ h fp wr St Ok i μ' S' σ' h') (y : Evo base Y μ' μ'' S' S'' σ' σ'' h' h'') (hY : ∀ a o, Y a → h.get? a = some o → X a) (hf : ∀ a, Y a → ¬ fp a) (hS : ∀ a, Y a → ¬ S' a) : Lp base X μ S σ h fp wr St Ok i μ'' S'' σ'' h'' where
  ev := L.ev.trans y hY
  st := Z.frame i _ _ L.st fun b o hb e => (y.keep b o (fun q => hf b q hb) (L.nl b hb) e).of (by
    obtain ⟨o', e', p⟩ := Z.alloc _ _ b L.st hb
    rw [e] at e'; cases e'
    exact p.1)
  ok := Z.mono _ _ _ _ L.ok y.sub (y.keepS L.ev.inv hS)
  nw := fun a s q => by
    rcases y.new a s with z | z | z
    · exact L.nw a z q
    · obtain ⟨o, e, _⟩ := Z.alloc i _ a L.st (Z.sub a q)
      rw [e] at z; cases z
    · exact L.nl a (Z.sub a q) z
  nl := fun b hb l => by
    rcases y.live b l with z | z
    · exact L.nl b hb z
    · obtain ⟨o, e, _⟩ := Z.alloc i _ b L.st hb
      rw [e] at z; cases z
  nm := fun b hb q => by
    obtain ⟨ν, rfl, n1⟩ := y.ext
    rcases List.mem_append.mp q with z | z
    · exact L.nm b hb z
    · obtain ⟨o, e, _⟩ := Z.alloc i _ b L.st (Z.sub b hb)
      rw [n1 b z] at e; cases e
  wn := L.wn
  wb := L.wb
theorem Lp.poke (Z : Src prog w A I fp wr xs T St Mid Ok) (L : Lp base X μ S σ h fp wr St Ok i μ' S' σ' h') {P : Addr → Prop} (hk : ∀ b o, ¬ P b → h'.get? b = some o → h''.get? b = some o) (hX : ∀ a o, P a → h.get? a = some o → X a) (hS : ∀ a, P a → ¬ S' a) (hM : ∀ a, P a → a ∉ μ')
    (hB : ∀ a, P a → base.get? a = none) (hZ : ∀ a, P a → base.Z a → IsD (h''.get? a)) (hf : ∀ a, P a → ¬ fp a) (al : ∀ a o, P a → h'.get? a = some o → ∃ o', h''.get? a = some o') : Lp base X μ S σ h fp wr St Ok i μ' S' σ' h'' where
  ev := L.ev.poke (Mv.same hk) hX hS hM hB hZ fun a o hp e => let ⟨o', e'⟩ := L.ev.stay a o e; al a o' hp e'
  st := Z.frame i _ _ L.st fun b o hb e => hk b o (fun q => hf b q hb) e
  ok := Z.mono _ _ _ _ L.ok (fun _ q => q) fun a o hs e => hk a o (fun q => hS a q hs) e
  nw := L.nw
  nl := L.nl
  nm := L.nm
  wn := L.wn
  wb := L.wb
theorem Lp.next (Z : Src prog w A I fp wr xs T St Mid Ok) {s : Shared} (L : Lp base X μ S σ h fp wr St Ok i μ' S' σ' s.heap) {d : PyData} (hd : xs[i]? = some d) {t : Expr} (ht : T t) {E : Value → Shared → Prop} {Q : Option Value → Shared → Prop}
    (hQ : ∀ v h₂ tk S₂, (∀ E' Q', (∀ h₃, Mv wr S' S₂ s.heap h₃ → Lp base X μ S σ h fp wr St Ok (i + 1) μ' S₂ σ' h₃ → Rd h₃ S₂ v d → Q' () { s with heap := h₃, toks := tk }) → wpAny (model prog w) A (letOwnedTupleGo t (.ref I) v) Q' E' { s with heap := h₂, toks := tk }) → Q (some v) { s with heap := h₂, toks := tk }) :
    wpAny (model prog w) A (pyNext (.ref I)) Q E s := by
  refine Z.next i d S' s Q E hd L.st L.ok L.nw fun v h₂ tk S₂ m r hm => ?_
  refine hQ v h₂ tk S₂ fun E' Q' hQ' => ?_
  refine Z.go i v t { s with heap := h₂, toks := tk } Q' E' ht hm fun h₃ k₃ st₃ => ?_
  have wS : ∀ a, S₂ a → ¬ wr a := fun a s₂ q => by
    rcases m.new a s₂ with z | z
    · exact L.nw a z q
    · obtain ⟨o, e, _⟩ := Z.alloc i _ a L.st (Z.sub a q)
      rw [e] at z; cases z
  have kS : ∀ a o, S₂ a → h₂.get? a = some o → h₃.get? a = some o := fun a o hs e => k₃ a o (wS a hs) e
  have m' : Mv wr S' S₂ s.heap h₃ := ⟨fun b o hb e => k₃ b o hb (m.keep b o hb e), m.sub, m.new, fun a hs => (m.inS a hs).imp id fun ⟨o, e, p⟩ => ⟨o, kS a o hs e, p⟩⟩
  refine hQ' h₃ m' ?_ (r.mono kS fun _ q => q)
  exact {
    ev := L.ev.poke m' (fun a o hw e => by rw [L.wn a hw] at e; cases e) (fun a hw hs => L.nw a hs hw) L.nm L.wb (fun a hw z => by obtain ⟨o, e, p⟩ := Z.alloc _ _ a L.st (Z.sub a hw); exact ((L.ev.inv.zs a z).2.plain e p.1).elim) fun a o hw _ => let ⟨o', e', _⟩ := Z.alloc (i + 1) _ a st₃ (Z.sub a hw); ⟨o', e'⟩
    st := st₃
    ok := Z.mono _ _ _ _ L.ok m.sub fun a o hs e => m'.keep a o (L.nw a hs) e
    nw := wS
    nl := L.nl
    nm := L.nm
    wn := L.wn
    wb := L.wb }
theorem Lp.done (Z : Src prog w A I fp wr xs T St Mid Ok) {s : Shared} (L : Lp base X μ S σ h fp wr St Ok xs.length μ' S' σ' s.heap) {E : Value → Shared → Prop} {Q : Option Value → Shared → Prop}
    (hQ : ∀ h₂ tk, Mv wr S' S' s.heap h₂ → Evo base X μ μ' S S' σ σ' h h₂ → Q none { s with heap := h₂, toks := tk }) : wpAny (model prog w) A (pyNext (.ref I)) Q E s :=
  Z.done S' s Q E L.st L.ok fun h₂ tk k => hQ h₂ tk (Mv.same k) (L.ev.poke (Mv.same k) (fun a o hw e => by rw [L.wn a hw] at e; cases e) (fun a hw hs => L.nw a hs hw) L.nm L.wb (fun a hw z => by obtain ⟨o, e, p⟩ := Z.alloc _ _ a L.st (Z.sub a hw); exact ((L.ev.inv.zs a z).2.plain e p.1).elim) fun a o hw e => by rw [L.wn a hw] at e; cases e)
end
noncomputable def OwnL (lc : Bool) (env : Env) (b : Addr) : Prop := Own env b ∧ (lc = true → b = env.locals)
noncomputable def locE (env : Env) : Expr → Prop
  | .Name x _ => env.kindOf x = some .local
  | .Tuple es _ _ => ∀ x p, Expr.Name x p ∈ es → env.kindOf x = some .local
  | _ => True
section
variable {prog : Program} {w : World} {base : Bs} {ec : ExcCls} {G : Cfg} {n : Nat} {sc : Sc} {A : Around} {env : Env} {ρ ρ' : Rho} {σ : Store} {S : Addr → Prop} {μ : List Addr} {s : Shared} {E : Value → Shared → Prop} {lc : Bool}
theorem own_kind (hs : ScOk env sc) {x : Str} {i : Nat} (h : ownOf G sc x = some i) {P : Prop} (k : slotL G.V 0 x = some i → (env.kindOf x = some .local ∨ env.kindOf x = some .cell) → P) : P := by
  refine own_inv h fun q1 h => k h ?_
  unfold isOwnN at q1
  have e : env.kindOf x = sc.lookup x := by
    rcases hs x with e | ⟨e, _⟩
    · exact e
    · rw [e] at q1; exact bft q1
  rw [← e] at q1
  split at q1
  · rename_i e'; exact .inl e'
  · rename_i e'; exact .inr e'
  · exact bft q1
theorem name_ok (hs : ScOk env sc) {x : Str} {i : Nat} {p : Pos} {v : Value} {d : AV} (hx : ownOf G sc x = some i) (hl : lc = true → env.kindOf x = some .local) (I : Inv base S μ σ s.heap) (F : FrOk base ec G.V S μ env ρ s.heap) (r : RdA ec s.heap S μ v d) {Q : Unit → Shared → Prop}
    (h : ∀ h' tk, Inv base S μ σ h' → FrOk base ec G.V S μ env (ρ.set i d) h' → (∀ b o, ¬ OwnL lc env b → s.heap.get? b = some o → h'.get? b = some o) → (∀ b o, s.heap.get? b = some o → ∃ o', h'.get? b = some o') → Q () { s with heap := h', toks := tk }) :
    wpAny (model prog w) A (assign (.Name x p) env v) Q E s := by
  refine own_kind hs hx fun h1 h2 => ?_
  rw [PySem.assign_Name]
  refine wpAny_bind (wpAny_standAt (store_var I F h1 h2 r fun h' tk c hc hcl I' F' hk st => ?_))
  exact h h' tk I' F' (fun b o hb e => hk b o (fun q => hb (q ▸ ⟨hc, fun z => hcl (hl z)⟩)) e) st
theorem names_ok (hs : ScOk env sc) : ∀ {es : List Expr} {is : List Nat} {vs : List Value} {ds : List PyData} {ρ ρ' : Rho} {s : Shared} {Q : Unit → Shared → Prop}, ownsOf G sc es = some is → (lc = true → ∀ x p, Expr.Name x p ∈ es → env.kindOf x = some .local) → Inv base S μ σ s.heap →
    FrOk base ec G.V S μ env ρ s.heap → RdL s.heap S vs ds → bindMany is ds ρ = some ρ' →
    (∀ h' tk, Inv base S μ σ h' → FrOk base ec G.V S μ env ρ' h' → (∀ b o, ¬ OwnL lc env b → s.heap.get? b = some o → h'.get? b = some o) → (∀ b o, s.heap.get? b = some o → ∃ o', h'.get? b = some o') → Q () { s with heap := h', toks := tk }) →
    wpAny (model prog w) A (assignInOrder ((assignEach es env).map (·.2)) vs) Q E s := by
  intro es
  induction es with
  | nil =>
    intro is vs ds ρ ρ' s Q ht hl I F r hb h
    cases ht
    cases ds with
    | cons d ds => cases hb
    | nil =>
      cases hb
      cases r
      exact wpAny_pure (h s.heap s.toks I F (fun _ _ _ e => e) fun _ o e => ⟨o, e⟩)
  | cons e es ih =>
    intro is vs ds ρ ρ' s Q ht hl I F r hb h
    refine owns_inv (P := fun e is => (lc = true → ∀ x p, Expr.Name x p ∈ e :: es → env.kindOf x = some .local) → bindMany is ds ρ = some ρ' → wpAny (model prog w) A (assignInOrder ((assignEach (e :: es) env).map (·.2)) vs) Q E s) ht (fun x p i is' hi hi' hl hb => ?_) hl hb
    cases r with
    | nil => exact nsm hb
    | @cons v vs d ds rv r =>
      show wpAny _ A (do holding vs (assign (.Name x p) env v); assignInOrder ((assignEach es env).map (·.2)) vs) Q E s
      refine wpAny_bind (wpAny_holding (name_ok (lc := lc) hs hi (fun z => hl z x p (.head _)) I F (.dat rv) fun h₁ tk₁ I₁ F₁ k₁ st₁ => ?_))
      have kS : ∀ a o, S a → s.heap.get? a = some o → h₁.get? a = some o := fun a o ha e => k₁ a o (fun q => q.1.notS I F ha) e
      refine ih (s := { s with heap := h₁, toks := tk₁ }) hi' (fun z x p hm => hl z x p (.tail _ hm)) I₁ F₁ (r.mono kS fun _ q => q) hb fun h₂ tk₂ I₂ F₂ k₂ st₂ => ?_
      exact h h₂ tk₂ I₂ F₂ (fun b o hb e => k₂ b o hb (k₁ b o hb e)) fun b o e => (st₁ b o e).elim fun o' e' => st₂ b o' e'
theorem owns_len : ∀ {es : List Expr} {is : List Nat}, ownsOf G sc es = some is → (assignEach es env).length = is.length ∧ (assignEach es env).findIdx? (·.1) = none
  | [], is, h => os (P := fun is => (assignEach [] env).length = is.length ∧ (assignEach [] env).findIdx? (·.1) = none) h ⟨rfl, rfl⟩
  | e :: es, is, h => owns_inv (P := fun e is => (assignEach (e :: es) env).length = is.length ∧ (assignEach (e :: es) env).findIdx? (·.1) = none) h fun x p i is' _ hi' => ⟨congrArg Nat.succ (owns_len hi').1, by
      show List.findIdx? (·.1) ((false, assign (.Name x p) env) :: assignEach es env) = none
      rw [List.findIdx?_cons, (owns_len hi').2]
      rfl⟩
theorem bindMany_len : ∀ {is : List Nat} {ds : List PyData} {ρ ρ' : Rho}, bindMany is ds ρ = some ρ' → is.length = ds.length := by
  intro is
  induction is with
  | nil => intro ds ρ ρ' h; cases ds with | nil => rfl | cons _ _ => cases h
  | cons i is ih => intro ds ρ ρ' h; cases ds with | nil => cases h | cons d ds => simp [ih h]
theorem bind_ok {t : Expr} {tg : Tgt} (ht : trT G sc t = some tg) (hA : A.handled = none) (hs : ScOk env sc) (hl : lc = true → locE env t) (I : Inv base S μ σ s.heap) (F : FrOk base ec G.V S μ env ρ s.heap) {v : Value} {d : PyData} (r : Rd s.heap S v d) (hb : bindT tg d ρ = some ρ') {Q : Unit → Shared → Prop}
    (h : ∀ h' tk, Inv base S μ σ h' → FrOk base ec G.V S μ env ρ' h' → (∀ b o, ¬ OwnL lc env b → s.heap.get? b = some o → h'.get? b = some o) → (∀ b o, s.heap.get? b = some o → ∃ o', h'.get? b = some o') → Q () { s with heap := h', toks := tk }) :
    wpAny (model prog w) A (assign t env v) Q E s := by
  refine t_inv (P := fun t tg => (lc = true → locE env t) → bindT tg d ρ = some ρ' → wpAny (model prog w) A (assign t env v) Q E s) ht (fun x p i hi hl hb => ?_) (fun es k p is hi hl hb => ?_) hl hb
  · obtain rfl := Option.some.inj hb
    exact name_ok hs hi hl I F (.dat r) h
  · refine ob hb fun ds hd hb => ?_
    cases tupD_eq hd
    cases r with
    | @tuple a vs m _ sa e r =>
      have hlen := bindMany_len hb
      have hl12 := owns_len (env := env) hi
      refine wpAny_assign_Tuple hA (items := vs.toArray) ⟨_, e, rfl, m, rfl⟩ (by rw [hl12.1, hlen, ← r.length]; rfl) hl12.2 fun h₁ x₁ => ?_
      have k₁ : ∀ b o, s.heap.get? b = some o → h₁.get? b = some o := fun b o e => x₁ b o (Nat.ne_of_lt (Heap.lt_size e)) e
      have mv : Mv (fun _ => False) S S s.heap h₁ := Mv.same fun b o _ e => k₁ b o e
      have I₁ := I.mv mv (fun _ q => q.elim) (fun _ q => q.elim) (fun _ q => q.elim) fun _ q => q.elim
      have F₁ := F.mv mv (fun _ q => q.elim) fun _ _ q => q
      refine names_ok (lc := lc) (s := { s with heap := h₁ }) hs hi (fun z => hl z) I₁ F₁ (r.mono (fun b o _ e => k₁ b o e) fun _ q => q) hb fun h₂ tk₂ I₂ F₂ k₂ st₂ => ?_
      exact h h₂ tk₂ I₂ F₂ (fun b o hb e => k₂ b o hb (k₁ b o e)) fun b o e => st₂ b o (k₁ b o e)
end
end Mine
namespace Mine
open PySem PySem.Calls PyProof.Rows
theorem flagAll_len (f : Flag) : ∀ (L : List Nat) (σ : Store), (flagAll f L σ).length = σ.length := by
  intro L
  induction L with
  | nil => intro σ; rfl
  | cons i L ih =>
    intro σ
    simp only [flagAll]
    rw [ih]
    split
    · rw [List.length_set]
    · rfl
theorem flagAll_get (f : Flag) : ∀ (L : List Nat) (σ : Store) (i : Nat), (flagAll f L σ)[i]? = if i ∈ L then (match σ[i]? with | some p => some (f, p.2) | none => none) else σ[i]? := by
  intro L
  induction L with
  | nil => intro σ i; simp [flagAll]
  | cons j L ih =>
    intro σ i
    simp only [flagAll]
    rw [ih]
    by_cases hij : i = j
    · subst hij
      cases q : σ[i]? with
      | none => simp [q]
      | some p =>
        have : (σ.set i (f, p.2))[i]? = some (f, p.2) := set_at q
        simp [this]
    · cases q : σ[j]? with
      | none => simp [hij]
      | some p =>
        have : (σ.set j (f, p.2))[i]? = σ[i]? := set_ne (Ne.symm hij)
        simp [this, hij]
theorem mem_liveOf {σ : Store} : ∀ {vs : List AV} {i : Nat}, i ∈ liveOf σ vs ↔ AV.cell i ∈ vs ∧ ∃ ds, σ[i]? = some (Flag.live, ds) := by
  intro vs
  induction vs with
  | nil => intro i; simp [liveOf]
  | cons v vs ih =>
    intro i
    cases v with
    | cell j =>
      simp only [liveOf, List.mem_append, ih, List.mem_cons]
      constructor
      · rintro (h | ⟨h1, h2⟩)
        · split at h
          · rename_i ds q
            rcases List.mem_singleton.mp h with rfl
            exact ⟨.inl rfl, ds, q⟩
          · cases h
        · exact ⟨.inr h1, h2⟩
      · rintro ⟨h | h, ds, q⟩
        · cases h
          left
          rw [q]
          exact List.mem_singleton.mpr rfl
        · exact .inr ⟨h, ds, q⟩
    | dat d => simp only [liveOf, ih, List.mem_cons]; simp
    | fresh d => simp only [liveOf, ih, List.mem_cons]; simp
    | exc d => simp only [liveOf, ih, List.mem_cons]; simp
section
variable {base : Bs} {X : Addr → Prop} {μ μ' : List Addr} {S S' : Addr → Prop} {σ σ' : Store} {h h' : Heap} {ec : ExcCls} {L : List Nat}
theorem lock_live (hL : ∀ i ∈ L, ∃ ds, σ[i]? = some (Flag.live, ds)) {a : Addr} (l : Live μ (flagAll .locked L σ) a) : Live μ σ a := by
  obtain ⟨i, ds, e1, e2⟩ := l
  rw [flagAll_get] at e2
  split at e2
  · split at e2 <;> cases e2
  · exact ⟨i, ds, e1, e2⟩
theorem lock_ev (I : Inv base S μ σ h) (hL : ∀ i ∈ L, ∃ ds, σ[i]? = some (Flag.live, ds)) : Ev base μ S S σ (flagAll .locked L σ) h h where
  sub := fun _ q => q
  new := fun _ q => .inl q
  inv := {
    keepB := I.keepB
    len := by rw [flagAll_len]; exact I.len
    cells := fun i a f ds e1 e2 => by
      rw [flagAll_get] at e2
      split at e2
      · rename_i hi
        obtain ⟨es, q⟩ := hL i hi
        rw [q] at e2
        cases e2
        obtain ⟨vs, n, k1, k2, k3, k4⟩ := I.cells i a _ _ e1 q
        exact ⟨vs, n, k1, k2, fun z => (nomatch z), fun _ => k4 (by intro z; cases z)⟩
      · exact I.cells i a f ds e1 e2
    nodup := I.nodup
    new := I.new
    inS := I.inS
    zs := I.zs }
  keep := fun _ _ _ e => .inl e
  live := fun _ l => lock_live hL l
theorem unlock (I : Inv base S μ σ h) (hL : ∀ i ∈ L, ∃ ds, σ[i]? = some (Flag.live, ds)) (x : Evo base X μ μ' S S' (flagAll .locked L σ) σ' h h') : Evo base X μ μ' S S' σ (flagAll .live L σ') h h' := by
  have muL : ∀ (i : Nat) (a : Addr), i ∈ L → μ'[i]? = some a → μ[i]? = some a := fun i a hi e => by
    obtain ⟨ds, q⟩ := hL i hi
    obtain ⟨b, hb⟩ := I.cell q
    rw [x.mu i b hb] at e
    rw [hb]; exact e
  have nLive : ∀ (i : Nat) (a : Addr), i ∈ L → μ[i]? = some a → ¬ Live μ (flagAll .locked L σ) a := fun i a hi e l => by
    obtain ⟨j, ds, e1, e2⟩ := l
    obtain rfl := I.nodup i j a e e1
    rw [flagAll_get, if_pos hi] at e2
    split at e2 <;> cases e2
  refine ⟨x.ext, x.sub, fun a s => ?_, ?_, fun b o hb hl e => x.keep b o hb (fun l => hl (lock_live hL l)) e, fun a l => ?_, x.stay⟩
  · rcases x.new a s with q | q | q
    · exact .inl q
    · exact .inr (.inl q)
    · exact .inr (.inr (lock_live hL q))
  · refine ⟨x.inv.keepB, by rw [flagAll_len]; exact x.inv.len, fun i a f ds e1 e2 => ?_, x.inv.nodup, x.inv.new, x.inv.inS, x.inv.zs⟩
    rw [flagAll_get] at e2
    split at e2
    · rename_i hi
      split at e2
      · rename_i p q
        cases e2
        obtain ⟨f', es⟩ := p
        obtain ⟨vs, n, k1, k2, _, _⟩ := x.inv.cells i a f' es e1 q
        refine ⟨vs, n, k1, k2, fun z => (nomatch z), fun _ s => ?_⟩
        have em := muL i a hi e1
        obtain ⟨us, q⟩ := hL i hi
        obtain ⟨ws, m, j1, _, _, j4⟩ := I.cells i a _ us em q
        rcases x.new a s with z | z | z
        · exact j4 (by intro z; cases z) z
        · rw [z] at j1; cases j1
        · exact nLive i a hi em z
      · cases e2
    · exact x.inv.cells i a f ds e1 e2
  · obtain ⟨i, ds, e1, e2⟩ := l
    rw [flagAll_get] at e2
    split at e2
    · rename_i hi
      obtain ⟨us, q⟩ := hL i hi
      exact .inl ⟨i, us, muL i a hi e1, q⟩
    · rcases x.live a ⟨i, ds, e1, e2⟩ with z | z
      · exact .inl (lock_live hL z)
      · exact .inr z
theorem liveOf_ok {vs : List AV} : ∀ i ∈ liveOf σ vs, ∃ ds, σ[i]? = some (Flag.live, ds) := fun _ hi => (mem_liveOf.mp hi).2
theorem seq_locked {vs : List AV} (I : Inv base S μ σ h) {v : Value} {av : AV} {a : Addr} (m : av ∈ vs) (r : RdA ec h S μ v av) (e : v = .ref a) : ¬ Live μ (flagAll .locked (liveOf σ vs) σ) a := fun l => by
  have l' := lock_live liveOf_ok l
  cases r with
  | dat r =>
    subst e
    cases r with
    | tuple s e _ => exact l'.notS I s
    | list s e _ => exact l'.notS I s
  | @cell i b hi =>
    cases e
    obtain ⟨j, ds, e1, e2⟩ := l
    obtain rfl := I.nodup i j _ hi e1
    rw [flagAll_get] at e2
    split at e2
    · split at e2 <;> cases e2
    · rename_i hn
      exact hn (mem_liveOf.mpr ⟨m, ds, e2⟩)
  | exc s _ _ => cases e; exact l'.notS I s
end
section
variable {prog : Program} {w : World} {A : Around}
theorem Src.long (hh : A.handled = none) (I : Addr) (a b : Int) :
    Src prog w A I (fun c => c = I) (fun c => c = I) (rangeL a b) (fun t => isNameT t = true)
      (fun i h => IsLongIter h I (a + (i : Nat) * 1) ((((b - a).toNat : Nat) : Int) - (i : Nat)) 1) (fun i _ h => IsLongIter h I (a + ((i + 1 : Nat) : Int) * 1) ((((b - a).toNat : Nat) : Int) - ((i + 1 : Nat) : Int)) 1) (fun _ _ => True) where
  sub := fun _ hb => hb
  frame := fun i h h' st hk => hk I _ rfl st
  alloc := fun i h c st hc => by
    subst hc
    exact ⟨_, st, by constructor <;> (intros; intro q; cases q)⟩
  mono := fun _ _ _ _ _ _ _ => trivial
  next := fun i d S s Q E hd st r hw hQ => by
    obtain ⟨hi, rfl⟩ := rangeL_get hd
    refine wpAny_pyNext_long_item st (by omega) fun h' hit hs => ?_
    rw [Int.mul_one] at *
    refine hQ _ h' _ S (.same fun b o hb e => hs.extBut b o hb e) (.int _ _) ?_
    have e1 : a + ((i + 1 : Nat) : Int) = a + (i : Int) + 1 := by omega
    have e2 : (((b - a).toNat : Nat) : Int) - ((i + 1 : Nat) : Int) = (((b - a).toNat : Nat) : Int) - (i : Int) - 1 := by omega
    rw [e1, e2]; exact hit
  go := fun i v t s Q E ht hm hQ => go_name ht (hQ s.heap (fun _ _ _ e => e) hm)
  done := fun S s Q E st r hQ => wpAny_pyNext_long_end hh st (by rw [rangeL_len]; omega) fun h' he => hQ h' s.toks fun b o hb e => he b o hb e
  self := fun i s Q E st hQ => wpAny_pyIter_longiter st hQ
end
noncomputable def Tk : ItK → Expr → Prop
  | .seq, t => isNameT t = true ∨ isTupT t = true
  | .range1, t => isNameT t = true
  | .range2, t => isNameT t = true
  | .zip, t => isTupT t = true
structure Made (prog : Program) (w : World) (A : Around) (μ : List Addr) (S : Addr → Prop) (σ : Store) (k : ItK) (xs : List PyData) (I : Addr) (h₀ h₁ : Heap) (fp wr : Addr → Prop) (St : Nat → Heap → Prop) (Mid : Nat → Value → Heap → Prop) (Ok : (Addr → Prop) → Heap → Prop) : Prop where
  src : Src prog w A I fp wr xs (Tk k) St Mid Ok
  grow : ∀ b o, h₀.get? b = some o → h₁.get? b = some o
  st : St 0 h₁
  ok : Ok S h₁
  wn : ∀ b, wr b → h₀.get? b = none
  nl : ∀ b, fp b → ¬ Live μ σ b
noncomputable def SI (prog : Program) (w : World) (base : Bs) (ec : ExcCls) (G : Cfg) (n : Nat) (Φ : Phi) (sc : Sc) (e : Expr) (k : ItK) (cs : List CE) : Prop :=
  (∀ env x, foldedSetIterable e env x = pure x) ∧
  ∀ (A : Around) (env : Env) (ρ : Rho) (σ σ₁ : Store) (vs : List AV) (ds xs : List PyData) (S : Addr → Prop) (μ : List Addr) (s : Shared) (Q : Value → Shared → Prop) (E : Value → Shared → Prop),
    AOk base n A → ScOk env sc → Inv base S μ σ s.heap → FrOk base ec G.V S μ env ρ s.heap → evEs Φ cs ρ σ = some (vs, σ₁) → rdAll σ₁ vs = some ds → itemsD k ds = some xs →
    (∀ I h₀ h₁ tk S₀ fp wr St Mid Ok, Ev base μ S S₀ σ σ₁ s.heap h₀ → Made prog w A μ S₀ (flagAll .locked (liveOf σ₁ vs) σ₁) k xs I h₀ h₁ fp wr St Mid Ok → Q (.ref I) { s with heap := h₁, toks := tk }) →
    wpAny (model prog w) A (eval e env) (fun xv s₁ => wpAny (model prog w) A (pyIter xv) Q E s₁) E s
section
variable {prog : Program} {w : World} {base : Bs} {ec : ExcCls} {G : Cfg} {n : Nat} {Φ : Phi} {sc : Sc}
theorem noSet_fold {e : Expr} (h : noSet e = true) : ∀ env x, foldedSetIterable e env x = pure x := by
  intro env x
  cases e <;> first | rfl | cases h
theorem fresh_not {h : Heap} {a : Addr} {o : Obj} (e : h.get? a = some o) : a ≠ h.objs.size := Nat.ne_of_lt (Heap.lt_size e)
theorem seqD_get {h : Heap} {S : Addr → Prop} {v : Value} {d : PyData} {xs : List PyData} (r : Rt h S v d) (e : seqD d = some xs) : ∃ k a vs m, v = .ref a ∧ h.get? a = some (seqO k vs m) ∧ RdL h S vs xs := by
  cases d <;> first | (cases e; done) | skip
  · cases e
    obtain ⟨a, vs, m, rfl, e, q⟩ := r.lstD
    exact ⟨true, a, vs, m, rfl, e, q⟩
  · cases e
    obtain ⟨a, vs, m, rfl, _, e, q⟩ := r.tupD
    exact ⟨false, a, vs, m, rfl, e, q⟩
theorem made_seq {A : Around} (hA : A.handled = none) {k : Bool} {a : Addr} {vs : List Value} {m : Nat} {xs : List PyData} {h : Heap} {S : Addr → Prop} {μ : List Addr} {σ : Store} (he : h.get? a = some (seqO k vs m)) (r : RdL h S vs xs) (hl : ¬ Live μ σ a)
    (hI : ∀ b, Live μ σ b → ∃ o, h.get? b = some o) : ∃ fp wr St Mid Ok, Made prog w A μ S σ .seq xs h.objs.size h (h.push (iterO k a)) fp wr St Mid Ok := by
  have g : ∀ b o, h.get? b = some o → (h.push (iterO k a)).get? b = some o := fun _ _ e => Heap.get?_push_of_some _ e
  have hi : (h.push (iterO k a)).get? h.objs.size = some (iterO k a) := Heap.get?_push_size _ rfl
  have nl : ∀ b, b = h.objs.size ∨ b = a → ¬ Live μ σ b := fun b hb l => by
    rcases hb with rfl | rfl
    · obtain ⟨o, e⟩ := hI _ l
      exact fresh_not e rfl
    · exact hl l
  cases k with
  | true => exact ⟨_, _, _, _, _, Src.list hA h.objs.size a (fresh_not he) vs m xs, g, ⟨itAt_new (k := true) hi, g _ _ he⟩, r.mono (fun b o _ e => g b o e) (fun _ q => q), fun b hb => hb ▸ fresh_none h, nl⟩
  | false => exact ⟨_, _, _, _, _, Src.tuple hA h.objs.size a (fresh_not he) vs m xs, g, ⟨itAt_new (k := false) hi, g _ _ he⟩, r.mono (fun b o _ e => g b o e) (fun _ q => q), fun b hb => hb ▸ fresh_none h, nl⟩
theorem live_has {h : Heap} {S : Addr → Prop} {μ : List Addr} {σ : Store} (I : Inv base S μ σ h) : ∀ b, Live μ σ b → ∃ o, h.get? b = some o := fun b l => let ⟨_, _, e⟩ := l.obj I; ⟨_, e⟩
theorem si_seq (hot0 : base.hot = false) {e : Expr} {c : CE} (hn : noSet e = true) (H : SE prog w base ec G n Φ sc e c) : SI prog w base ec G n Φ sc e .seq [c] := by
  refine ⟨noSet_fold hn, fun A env ρ σ σ₁ vs ds xs S μ s Q E hA hs I F q₁ q₂ q₃ P => ?_⟩
  refine i_lcons q₁ fun v σ₂ vs' q q' z1 => ?_
  subst z1
  obtain ⟨rfl, rfl⟩ := i_lnil q'
  obtain ⟨d, qd, q₂⟩ := bnd q₂
  cases q₂
  refine seq1 H hA hs I F q fun u h' tk S' x r F' => ?_
  have t := r.rt x.inv qd
  have L := lock_ev (L := liveOf σ₁ [settle v]) x.inv liveOf_ok
  have key : seqD d = some xs → wpAny (model prog w) A (pyIter u) Q E { s with heap := h', toks := tk } := fun q₃ => by
    obtain ⟨k, a, us, m, rfl, he, rl⟩ := seqD_get t q₃
    refine pyIter_k he ?_
    obtain ⟨fp, wr, St, Mid, Ok, M⟩ := made_seq (prog := prog) (w := w) (μ := μ) (hA.hd hot0) he rl (seq_locked x.inv (.head _) r rfl) (live_has L.inv)
    exact P _ _ _ tk S' _ _ _ _ _ x M
  cases d <;> first | exact key q₃ | skip
  obtain ⟨t', rfl⟩ := t.strD
  refine og q₃ fun ha q₃ => os (P := fun xs => (∀ I h₀ h₁ tk S₀ fp wr St Mid Ok, Ev base μ S S₀ σ σ₁ s.heap h₀ → Made prog w A μ S₀ (flagAll .locked (liveOf σ₁ [settle v]) σ₁) .seq xs I h₀ h₁ fp wr St Mid Ok → Q (.ref I) { s with heap := h₁, toks := tk }) → wpAny (model prog w) A (pyIter (.str _ t')) Q E { s with heap := h', toks := tk }) q₃ (fun P => wpAny_pyIter_ascii ha (P _ h' _ tk S' _ _ _ _ _ x ⟨Src.strA (hA.hd hot0) h'.objs.size _ t', fun _ _ e => Heap.get?_push_of_some _ e, ⟨_, Heap.get?_push_size _ rfl, rfl, rfl⟩, trivial, fun b hb => hb ▸ fresh_none h', fun b hb l => ?_⟩)) P
  obtain ⟨o, e⟩ := live_has L.inv b l
  exact fresh_not e hb
theorem made_range {A : Around} (hA : A.handled = none) {k : ItK} (hk : Tk k = fun t => isNameT t = true) {a b : Int} {r : Addr} {t u v : Tok} {s : Shared} {h : Heap} {S : Addr → Prop} {μ : List Addr} {σ : Store} (hr : IsRange s.heap r a b 1 t u v) (hg : ∀ b o, h.get? b = some o → s.heap.get? b = some o)
    (hI : ∀ b, Live μ σ b → ∃ o, h.get? b = some o) {Q : Value → Shared → Prop} {E : Value → Shared → Prop}
    (P : ∀ I h₁ fp wr St Mid Ok, Made prog w A μ S σ k (rangeL a b) I h h₁ fp wr St Mid Ok → Q (.ref I) { s with heap := h₁ }) : wpAny (model prog w) A (pyIter (.ref r)) Q E s := by
  have hsz : Builtin.Range.rangeSize a b 1 = (((b - a).toNat : Nat) : Int) := by rw [rangeSize_one]; split <;> omega
  have g : ∀ o' b o, h.get? b = some o → (s.heap.push o').get? b = some o := fun _ _ _ e => Heap.get?_push_of_some _ (hg _ _ e)
  have nh : h.get? s.heap.objs.size = none := by
    cases e : h.get? s.heap.objs.size with
    | none => rfl
    | some o => exact absurd rfl (fresh_not (hg _ _ e))
  have nl : ∀ b, b = s.heap.objs.size → ¬ Live μ σ b := fun b hb l => by
    obtain ⟨o, e⟩ := hI b l
    rw [hb, nh] at e; cases e
  have e1 : a + ((0 : Nat) : Int) * 1 = a := by simp
  have e2 : (((b - a).toNat : Nat) : Int) - ((0 : Nat) : Int) = Builtin.Range.rangeSize a b 1 := by rw [hsz]; simp
  cases hs : Builtin.Range.small a b 1 with
  | true =>
    refine wpAny_pyIter_range hr hs (P _ _ (fun c => c = s.heap.objs.size) (fun c => c = s.heap.objs.size) _ _ _ ⟨by rw [hk]; exact Src.range hA s.heap.objs.size a b, g _, ?_, trivial, fun b hb => hb ▸ nh, nl⟩)
    show IsRangeIter _ _ _ _ _
    rw [e1, e2]
    exact Heap.get?_push_size _ rfl
  | false =>
    refine wpAny_pyIter_longrange hr hs (P _ _ (fun c => c = s.heap.objs.size) (fun c => c = s.heap.objs.size) _ _ _ ⟨by rw [hk]; exact Src.long hA s.heap.objs.size a b, g _, ?_, trivial, fun b hb => hb ▸ nh, nl⟩)
    show IsLongIter _ _ _ _ _
    rw [e1, e2]
    exact Heap.get?_push_size _ rfl
theorem call_fold {g : Expr} {es : List Expr} {ks : List Keyword} {pos : Pos} : ∀ env x, foldedSetIterable (.Call g es ks pos) env x = pure x := fun _ _ => rfl
theorem si_range1 (W : Wd base ec G) {g : Str} {p pos : Pos} {e : Expr} {c : CE} (hg : isGlob sc g = true) (ho : okName g = true) (hr : (g == ("range" : Str)) = true) (hn : noStar e = true) (H : SE prog w base ec G n Φ sc e c) : SI prog w base ec G n Φ sc (.Call (.Name g p) [e] [] pos) .range1 [c] := by
  refine ⟨call_fold, fun A env ρ σ σ₁ vs ds xs S μ s Q E hA hs I F q₁ q₂ q₃ P => ?_⟩
  rw [beq_iff_eq] at hr
  subst hr
  refine wpAny_Call_Name_kw (eval_glob F I.keepB ((hs.gl _).trans hg) ho (W.blt _ (.type "range") (blt_rest (.tail _ (.head _)))) ?_)
  refine callB_ok (.inr ⟨_, rfl⟩) (by simp) (.cons hn H .nil) hA hs I F q₁ fun us h' tk S' x r => ?_
  have rl := r.rtL x.inv q₂
  obtain ⟨d, k1, q₄⟩ := bnd q₃
  obtain ⟨b, k2, q₅⟩ := bnd q₄
  obtain ⟨_, q₆⟩ := gd q₅
  cases one_eq k1
  cases intD_eq k2
  cases q₆
  cases rl with
  | cons ru rl => cases rl with
    | nil =>
      obtain ⟨t, rfl⟩ := ru.intD
      refine call_range_1 ?_
      have L := lock_ev (L := liveOf σ₁ vs) x.inv liveOf_ok
      exact made_range (hA.hd W.cold) rfl (S := S') (μ := μ) (IsRange.new ..) (fun _ _ e => Heap.get?_push_of_some _ e) (live_has L.inv) fun I h₁ fp wr St Mid Ok M => P I h' h₁ _ S' fp wr St Mid Ok x M
theorem si_zip (W : Wd base ec G) {g : Str} {p pos : Pos} {e f : Expr} {c d : CE} (hg : isGlob sc g = true) (ho : okName g = true) (hr : (g == ("zip" : Str)) = true) (hn : noStar e = true) (hm : noStar f = true) (H : SE prog w base ec G n Φ sc e c) (H' : SE prog w base ec G n Φ sc f d) : SI prog w base ec G n Φ sc (.Call (.Name g p) [e, f] [] pos) .zip [c, d] := by
  refine ⟨call_fold, fun A env ρ σ σ₁ vs ds xs S μ s Q E hA hs I F q₁ q₂ q₃ P => ?_⟩
  rw [beq_iff_eq] at hr
  subst hr
  refine wpAny_Call_Name_kw (eval_glob F I.keepB ((hs.gl _).trans hg) ho (W.blt _ (.type "zip") (blt_rest (.tail _ (.tail _ (.head _))))) ?_)
  refine callB_ok (.inr ⟨_, rfl⟩) (by simp) (.cons hn H (.cons hm H' .nil)) hA hs I F q₁ fun us h' tk S' x r => ?_
  have rl := r.rtL x.inv q₂
  obtain ⟨⟨d1, d2⟩, k1, q₄⟩ := bnd q₃
  obtain ⟨ys, e1, q₅⟩ := bnd q₄
  obtain ⟨zs, e2, q₆⟩ := bnd q₅
  cases two_eq k1
  cases q₆
  cases rl with
  | cons ru rl => cases rl with
    | cons ru' rl => cases rl with
      | nil =>
        cases r with
        | @cons v1 _ av1 _ r1 r => cases r with
          | @cons v2 _ av2 _ r2 r => cases r with
            | nil =>
              obtain ⟨k1, l1, us, m1, rfl, g1, rl1⟩ := seqD_get ru e1
              obtain ⟨k2, l2, ws, m2, rfl, g2, rl2⟩ := seqD_get ru' e2
              have L := lock_ev (L := liveOf σ₁ [av1, av2]) x.inv liveOf_ok
              have lv := live_has L.inv
              have s1 := seq_locked x.inv (vs := [av1, av2]) (.head _) r1 rfl
              have s2 := seq_locked x.inv (vs := [av1, av2]) (.tail _ (.head _)) r2 rfl
              refine call_zipK (s := { s with heap := h', toks := tk }) g1 g2 fun h₁ a1 a2 a3 a4 a5 a6 a7 => ?_
              have lt1 : @LT.lt Nat _ l1 h'.objs.size := Heap.lt_size g1
              have lt2 : @LT.lt Nat _ l2 h'.objs.size := Heap.lt_size g2
              dsimp only at a1 a2 a3 a4 a5 a6 a7 ⊢
              generalize hN : h'.objs.size = N at *
              have D : ZA (N + 4) (N + 2) (N + 3) N (N + 1) l1 l2 := by
                constructor <;> (show ¬ (_ : Nat) = _) <;> omega
              refine wpAny_pyIter_zip a1 (P (N + 4) h' h₁ tk S' _ _ _ _ _ x ⟨Src.zip (hA.hd W.cold) _ _ _ _ _ _ _ D us ws m1 m2 ys zs, a7, ⟨a1, a2, ⟨_, _, a3⟩, a4, a5, a7 _ _ g1, a7 _ _ g2⟩, ⟨rl1.mono (fun b o _ e => a7 b o e) fun _ q => q, rl2.mono (fun b o _ e => a7 b o e) fun _ q => q⟩, fun b hb => ?_, fun b hb l => ?_⟩)
              · have hle : @LE.le Nat _ N b := by rcases hb with rfl | rfl | rfl | rfl <;> omega
                cases e : h'.get? b with
                | none => rfl
                | some o => have : @LT.lt Nat _ b h'.objs.size := Heap.lt_size e; omega
              · have hlt : ∀ b, Live μ (flagAll .locked (liveOf σ₁ [av1, av2]) σ₁) b → @LT.lt Nat _ b N := fun b l => by obtain ⟨o, e⟩ := lv b l; rw [← hN]; exact Heap.lt_size e
                have hb' := hlt b l
                rcases hb with rfl | rfl | rfl | rfl | rfl | rfl | rfl
                · omega
                · omega
                · omega
                · omega
                · omega
                · exact s1 l
                · exact s2 l
end
end Mine
namespace Mine
open PySem PySem.Calls PyProof.Rows
noncomputable def erase (tg : Tgt) (ρ : Rho) : Rho := fun j => if tg.has j then none else ρ j
theorem bindMany_agree : ∀ {is : List Nat} {ds : List PyData} {ρ₁ ρ₂ ρ' : Rho}, (∀ j, j ∉ is → ρ₁ j = ρ₂ j) → bindMany is ds ρ₁ = some ρ' → bindMany is ds ρ₂ = some ρ' := by
  intro is
  induction is with
  | nil =>
    intro ds ρ₁ ρ₂ ρ' h e
    cases ds with
    | nil =>
      have : ρ₁ = ρ₂ := funext fun j => h j (by simp)
      rw [← this]; exact e
    | cons _ _ => cases e
  | cons i is ih =>
    intro ds ρ₁ ρ₂ ρ' h e
    cases ds with
    | nil => cases e
    | cons d ds =>
      refine ih (ρ₁ := ρ₁.set i (.dat d)) (fun j hj => ?_) e
      unfold Rho.set
      split
      · rfl
      · rename_i hne; exact h j (by simp [hne, hj])
theorem bindMany_other : ∀ {is : List Nat} {ds : List PyData} {ρ ρ' : Rho} {j : Nat}, bindMany is ds ρ = some ρ' → j ∉ is → ρ' j = ρ j := by
  intro is
  induction is with
  | nil => intro ds ρ ρ' j h _; cases ds with | nil => cases h; rfl | cons _ _ => cases h
  | cons i is ih =>
    intro ds ρ ρ' j h hj
    cases ds with
    | nil => cases h
    | cons d ds =>
      have := ih (ρ := ρ.set i (.dat d)) h (fun q => hj (.tail _ q))
      rw [this]
      unfold Rho.set
      rw [if_neg (fun q => hj (by rw [q]; exact .head _))]
theorem bindT_erase {tg : Tgt} {d : PyData} {ρ ρ' : Rho} (h : bindT tg d ρ = some ρ') : bindT tg d (erase tg ρ) = some ρ' := by
  cases tg with
  | one i =>
    cases h
    show some _ = some _
    congr 1
    funext j
    unfold Rho.set erase Tgt.has
    by_cases q : j = i
    · simp [q]
    · simp [q, Ne.symm q]
  | many is =>
    cases d <;> first | (cases h; done) | skip
    refine bindMany_agree (fun j hj => ?_) h
    unfold erase Tgt.has
    simp [hj]
theorem bindT_other {tg : Tgt} {d : PyData} {ρ ρ' : Rho} {j : Nat} {av : AV} (h : bindT tg d ρ = some ρ') (e : erase tg ρ j = some av) : ρ' j = some av := by
  unfold erase at e
  split at e
  · cases e
  · rename_i hn
    cases tg with
    | one i =>
      cases h
      unfold Rho.set
      rw [if_neg (fun q => hn (by simp [Tgt.has, q]))]
      exact e
    | many is =>
      cases d <;> first | (cases h; done) | skip
      rw [bindMany_other h (fun q => hn (by simp [Tgt.has, q]))]
      exact e
theorem closure_go (env : Env) : ∀ (names : List (Str × NameKind)) (acc : List (Str × Addr)), (∀ p ∈ names, p.2 = .free → ∃ c, env.cells.lookup p.1 = some c) →
    ∃ cl, (forIn names acc fun (x : Str × NameKind) r => match x with | (name, kind) => if (kind == NameKind.free) = true then do let a ← cellOf env name; pure (ForInStep.yield ((name, a) :: r)) else pure (ForInStep.yield r) : Sem (List (Str × Addr))) = pure cl ∧
      (∀ x c, (x, c) ∈ cl → (x, c) ∈ acc ∨ env.cells.lookup x = some c) ∧ (∀ x, ((x, NameKind.free) ∈ names ∨ ∃ c, (x, c) ∈ acc) → ∃ c, (x, c) ∈ cl) := by
  intro names
  induction names with
  | nil => intro acc _; exact ⟨acc, rfl, fun _ _ h => .inl h, fun x h => h.elim (fun q => nomatch q) id⟩
  | cons p names ih =>
    intro acc h
    obtain ⟨x, k⟩ := p
    rw [List.forIn_cons]
    dsimp only
    by_cases hk : k = .free
    · subst hk
      obtain ⟨c, hc⟩ := h (x, .free) (.head _) rfl
      have e : cellOf env x = pure c := by unfold cellOf; dsimp only at hc; rw [hc]
      rw [if_pos (by rfl), e, pure_bind, pure_bind]
      obtain ⟨cl, e', h1, h2⟩ := ih ((x, c) :: acc) fun p hp => h p (.tail _ hp)
      refine ⟨cl, e', fun y d hy => ?_, fun y hy => ?_⟩
      · rcases h1 y d hy with q | q
        · rcases List.mem_cons.mp q with q | q
          · cases q; exact .inr hc
          · exact .inl q
        · exact .inr q
      · rcases hy with hy | ⟨d, hy⟩
        · rcases List.mem_cons.mp hy with q | q
          · cases q; exact h2 x (.inr ⟨c, .head _⟩)
          · exact h2 y (.inl q)
        · exact h2 y (.inr ⟨d, .tail _ hy⟩)
    · have hb : (k == NameKind.free) = false := by simpa using hk
      rw [if_neg (by rw [hb]; exact Bool.false_ne_true), pure_bind]
      obtain ⟨cl, e', h1, h2⟩ := ih acc fun p hp => h p (.tail _ hp)
      refine ⟨cl, e', h1, fun y hy => ?_⟩
      rcases hy with hy | hy
      · rcases List.mem_cons.mp hy with q | q
        · cases q; exact absurd rfl hk
        · exact h2 y (.inl q)
      · exact h2 y (.inr hy)
theorem lookup_of_mem {α : Type} : ∀ {l : List (Str × α)} {x : Str} {c : α}, (x, c) ∈ l → ∃ d, l.lookup x = some d := by
  intro l
  induction l with
  | nil => intro x c h; cases h
  | cons p l ih =>
    intro x c h
    obtain ⟨y, d⟩ := p
    rw [List.lookup_cons]
    by_cases q : x = y
    · subst q; simp
    · have : (x == y) = false := by simpa using q
      rw [this]
      rcases List.mem_cons.mp h with z | z
      · cases z; exact absurd rfl q
      · exact ih z
theorem closure_ok {scope : Scope} {env : Env} (h : ∀ p ∈ scope.names, p.2 = .free → ∃ c, env.cells.lookup p.1 = some c) : ∃ cl, closureFor scope env = pure cl ∧ (∀ x c, (x, c) ∈ cl → env.cells.lookup x = some c) ∧ (∀ x, (x, NameKind.free) ∈ scope.names → ∃ c, cl.lookup x = some c) := by
  obtain ⟨cl, e, h1, h2⟩ := closure_go env scope.names [] h
  refine ⟨cl, ?_, fun x c hx => (h1 x c hx).elim (fun q => nomatch q) id, fun x hx => ?_⟩
  · show (forIn scope.names [] (fun (x : Str × NameKind) r => match x with | (name, kind) => if (kind == NameKind.free) = true then do let a ← cellOf env name; pure (ForInStep.yield ((name, a) :: r)) else pure (ForInStep.yield r)) >>= fun cs => pure cs : Sem (List (Str × Addr))) = pure cl
    rw [e, pure_bind]
  · obtain ⟨c, hc⟩ := h2 x (.inl hx)
    exact lookup_of_mem hc
theorem relabel_lookup {env : Env} : ∀ (names : List (Str × NameKind)) (x : Str), (names.map fun (n, k) => if (k == NameKind.free && env.scope.kind == .function && env.kindOf n == some .cell) then (n, NameKind.cell) else (n, k)).lookup x = names.lookup x ∨
    (names.lookup x = some .free ∧ (names.map fun (n, k) => if (k == NameKind.free && env.scope.kind == .function && env.kindOf n == some .cell) then (n, NameKind.cell) else (n, k)).lookup x = some .cell)
  | [], _ => .inl rfl
  | (n, k) :: r, x => by
    have ih := @relabel_lookup env r x
    rw [List.map_cons, List.lookup_cons]
    dsimp only
    by_cases hc : (k == NameKind.free && env.scope.kind == .function && env.kindOf n == some .cell) = true
    · rw [if_pos hc, List.lookup_cons]
      cases hx : x == n with
      | true =>
        right
        refine ⟨?_, rfl⟩
        rw [Bool.and_eq_true, Bool.and_eq_true] at hc
        have : k = .free := by simpa using hc.1.1
        rw [this]
      | false => exact ih
    · rw [if_neg hc, List.lookup_cons]
      cases hx : x == n with
      | true => exact .inl rfl
      | false => exact ih
theorem comp_sc {scope : Scope} {cl : List (Str × Addr)} {C : Addr} {env : Env} : ScOk (compEnvC scope cl C env) scope.names := fun x => relabel_lookup scope.names x
theorem kindIs_eq {k : Option NameKind} {j : NameKind} (h : kindIs k j = true) : k = some j := by
  unfold kindIs at h
  split at h <;> first | rfl | cases h
structure Fits (sc : Sc) (scope : Scope) : Prop where
  kind : scope.kind = .function
  cell : ∀ y ∈ scope.names, y.2 ≠ .cell
  loc : ∀ y ∈ scope.names, y.2 = .local → scope.names.lookup y.1 = some .local
  free : ∀ y ∈ scope.names, y.2 = .free → sc.lookup y.1 = some .cell ∨ sc.lookup y.1 = some .free
theorem scopeFits_ok {sc : Sc} {scope : Scope} (h : scopeFits sc scope = true) : Fits sc scope := by
  unfold scopeFits at h
  rw [Bool.and_eq_true] at h
  obtain ⟨h1, h2⟩ := h
  have h2' := List.all_eq_true.mp h2
  refine ⟨?_, fun y hy e => ?_, fun y hy e => ?_, fun y hy e => ?_⟩
  · split at h1
    · rename_i q; exact q
    · cases h1
  · have := h2' y hy
    rw [e] at this; cases this
  · have := h2' y hy
    rw [e] at this; exact kindIs_eq this
  · have := h2' y hy
    rw [e] at this
    rw [Bool.or_eq_true] at this
    exact this.imp kindIs_eq kindIs_eq
section
variable {base : Bs} {ec : ExcCls} {G : Cfg} {S : Addr → Prop} {μ : List Addr} {env : Env} {ρ : Rho} {h : Heap} {sc : Sc} {scope : Scope} {cl : List (Str × Addr)} {C : Addr} {tg : Tgt}
theorem free_kind (hs : ScOk env sc) (ft : Fits sc scope) {x : Str} (hx : (x, NameKind.free) ∈ scope.names) : env.kindOf x = some .cell ∨ env.kindOf x = some .free := by
  rcases ft.free _ hx rfl with q | q
  · rcases hs x with z | ⟨z, _⟩
    · exact .inl (z.trans q)
    · rw [z] at q; cases q
  · rcases hs x with z | ⟨_, z⟩
    · exact .inr (z.trans q)
    · exact .inl z
theorem comp_free (ft : Fits sc scope) {x : Str} (hx : (compEnvC scope cl C env).kindOf x = some .cell ∨ (compEnvC scope cl C env).kindOf x = some .free) : (x, NameKind.free) ∈ scope.names := by
  have k : (compEnvC scope cl C env).kindOf x = (compEnvC scope cl C env).scope.names.lookup x := rfl
  rcases comp_sc (scope := scope) (cl := cl) (C := C) (env := env) x with q | ⟨q, _⟩
  · rw [k, q] at hx
    rcases hx with z | z
    · exact absurd rfl (ft.cell _ (mem_lookup z))
    · exact mem_lookup z
  · exact mem_lookup q
theorem comp_frame (hs : ScOk env sc) (ft : Fits sc scope) (hl : locsIn G scope tg = true) (F : FrOk base ec G.V S μ env ρ h) (hc1 : ∀ x c, (x, c) ∈ cl → env.cells.lookup x = some c) (hc2 : ∀ x, (x, NameKind.free) ∈ scope.names → ∃ c, cl.lookup x = some c)
    {m : Str → Option Value} (hn : h.Ns C m) (hb : base.get? C = none) : FrOk base ec G.V S μ (compEnvC scope cl C env) (erase tg ρ) h where
  kind := by show (relabel scope env).kind = _; exact ft.kind
  glob := F.glob
  blt := F.blt
  ns := ⟨m, hn, fun x i av hx hi hk => by
    have hm : (x, NameKind.local) ∈ scope.names := by
      rcases comp_sc (scope := scope) (cl := cl) (C := C) (env := env) x with q | ⟨_, q⟩
      · exact mem_lookup (q.symm.trans hk)
      · have hk' : (compEnvC scope cl C env).scope.names.lookup x = some .local := hk
        rw [q] at hk'; cases hk'
    have := List.all_eq_true.mp hl _ hm
    dsimp only at this
    rw [hx] at this
    unfold erase at hi
    rw [if_pos this] at hi; cases hi⟩
  cell := fun x c hc => F.cell x c (hc1 x c (mem_of_lookup hc))
  val := fun x c i av h0 hx hi hk => by
    have hm := comp_free ft hk
    have hi' : ρ i = some av := by unfold erase at hi; split at hi; cases hi; exact hi
    exact F.val x c i av (hc1 x c (mem_of_lookup h0)) hx hi' (free_kind hs ft hm)
  has := fun x hk => hc2 x (comp_free ft hk)
  apart := fun x y c hx hy => F.apart x y c (hc1 x c (mem_of_lookup hx)) (hc1 y c (mem_of_lookup hy))
  newL := hb
  newC := fun x c hc => F.newC x c (hc1 x c (mem_of_lookup hc))
end
section
variable {prog : Program} {w : World} {base : Bs} {ec : ExcCls} {G : Cfg} {n : Nat} {Φ : Phi} {sc : Sc}
theorem tests_false {A : Around} {env : Env} {E : Value → Shared → Prop} {Q : Bool → Shared → Prop} {s : Shared} : ∀ (ifs : List Expr), Q false s →
    wpAny (model prog w) A (forIn ifs false fun c r => if r = true then do let ok ← isTrue c env (eval c env); pure (ForInStep.yield ok) else pure (ForInStep.yield r)) Q E s := by
  intro ifs
  induction ifs with
  | nil => intro h; exact wpAny_pure h
  | cons c ifs ih =>
    intro h
    rw [List.forIn_cons]
    simp only [Bool.false_eq_true, if_false]
    rw [pure_bind]
    exact ih h
theorem tests_ok {A : Around} {env : Env} : ∀ {ifs : List Expr} {cs : List CE} (ρ : Rho) (σ σ' : Store) (b : Bool) (S : Addr → Prop) (μ : List Addr) (s : Shared) (Q : Bool → Shared → Prop) (E : Value → Shared → Prop),
    SBs prog w base ec G n Φ sc ifs cs → AOk base n A → ScOk env sc → Inv base S μ σ s.heap → FrOk base ec G.V S μ env ρ s.heap → evB Φ .And cs ρ σ = some (b, σ') → (∀ h' tk S', Ev base μ S S' σ σ' s.heap h' → Q b { s with heap := h', toks := tk }) →
    wpAny (model prog w) A (forIn ifs true fun c r => if r = true then do let ok ← isTrue c env (eval c env); pure (ForInStep.yield ok) else pure (ForInStep.yield r)) Q E s := by
  intro ifs
  induction ifs with
  | nil =>
    intro cs ρ σ σ' b S μ s Q E hS hA hs I F q P
    cases hS
    cases q
    exact wpAny_pure (P s.heap s.toks S (.refl I))
  | cons c ifs ih =>
    intro cs ρ σ σ' b S μ s Q E hS hA hs I F q P
    cases hS with
    | @cons _ _ c' cs' H hS =>
    refine i_bcons q fun b₁ σ₁ q₁ q => ?_
    rw [List.forIn_cons]
    simp only [if_true]
    refine wpAny_bind (wpAny_bind (H.2 A env ρ σ σ₁ _ b₁ S μ s _ E hA hs I F q₁ rfl fun h' tk S' x => wpAny_pure ?_))
    cases b₁ with
    | false =>
      cases q
      exact tests_false ifs (P h' tk S' x)
    | true => exact ih ρ σ₁ σ' b S' μ { s with heap := h', toks := tk } Q E hS hA hs x.inv (F.ev I x) q fun h'' tk' S'' x' => P h'' tk' S'' (x.trans x')
theorem comp_loop (hot0 : base.hot = false) {A : Around} {elt iter target : Expr} {ifs : List Expr} {scope : Scope} {pos : Pos} {I : Addr} {xs : List PyData} {fp wr : Addr → Prop} {St : Nat → Heap → Prop} {Mid : Nat → Value → Heap → Prop} {Ok : (Addr → Prop) → Heap → Prop} {T : Expr → Prop}
    {cenv : Env} {D : Addr} {tg : Tgt} {ρ : Rho} {μ : List Addr} {S₀ : Addr → Prop} {σ₀ : Store} {h₀ : Heap} {ce : CE} {cs : List CE} (Z : Src prog w A I fp wr xs T St Mid Ok) (hA : AOk base n A) (hs : ScOk cenv sc) (hT : T target) (htr : trT G sc target = some tg) (hloc : locE cenv target)
    (I₀ : Inv base S₀ μ σ₀ h₀) (H : SE prog w base ec G n Φ sc elt ce) (hS : SBs prog w base ec G n Φ sc ifs cs) (hC0 : h₀.get? cenv.locals = none) (hD0 : h₀.get? D = none) (hDf : ¬ fp D) :
    ∀ (rest : List PyData) (i : Nat) (acc out : List PyData) (ys : List Value) (m : Nat) (S : Addr → Prop) (σ σ' : Store) (s : Shared) (R : Result → Shared → Prop), xs.drop i = rest → i ≤ xs.length → Lp base (fun _ => False) μ S₀ σ₀ h₀ fp wr St Ok i μ S σ s.heap → FrOk base ec G.V S μ cenv (erase tg ρ) s.heap →
      s.heap.get? D = some (lstO ys m) → RdL s.heap S ys acc → ¬ S D → acc.length + rest.length ≤ lim → compGo (fun ρ' σ' => evE Φ ce ρ' σ') (fun ρ' σ' => evB Φ .And cs ρ' σ') tg ρ rest σ = some (out, σ') →
      (∀ h' tk S' ys' m', Evo base (fun _ => False) μ μ S₀ S' σ₀ σ' h₀ h' → FrOk base ec G.V S' μ cenv (erase tg ρ) h' → h'.get? D = some (lstO ys' m') → RdL h' S' ys' (acc ++ out) → ¬ S' D → R (.ok .next) { s with heap := h', toks := tk }) →
      codeAny (model prog w) A (.compLoop (.ListComp elt [⟨target, iter, ifs, 0⟩] scope pos) 0 (.ref I) (.ref D) cenv) R s := by
  have hDm : D ∉ μ := fun q => by obtain ⟨_, _, e⟩ := I₀.mem q; rw [hD0] at e; cases e
  have hDb : base.get? D = none := by
    cases e : base.get? D with
    | none => rfl
    | some o => rw [I₀.keepB D o e] at hD0; cases hD0
  intro rest
  induction rest with
  | nil =>
    intro i acc out ys m S σ σ' s R hd hi L F hl rl hDS hz q P
    cases q
    have hi' : i = xs.length := by have := List.drop_eq_nil_iff.mp hd; omega
    subst hi'
    refine codeAny_of_tree ?_
    show wpAny _ A ((compTurn (.ListComp elt [⟨target, iter, ifs, 0⟩] scope pos) 0 (.ref I) (.ref D) cenv).onRaise (fun x => do noteFrame x cenv; theTreesLotGoes x)) _ _ s
    refine wpAny_noted ?_
    rw [compTurn_list]
    refine wpAny_bind (wpAny_standAt (wpAny_bind (L.done Z fun h₂ tk mv ev => wpAny_pure ?_)))
    have hwD : ¬ wr D := fun q => hDf (Z.sub D q)
    have hwO : ∀ a, Own cenv a → ¬ wr a := fun a ha q => by
      obtain ⟨o, e, p⟩ := Z.alloc _ _ a L.st (Z.sub a q)
      exact ha.notList F e p
    refine P h₂ tk S ys m ev (F.mv mv (fun a q hs => L.nw a hs q) hwO) (mv.keep D _ hwD hl) ?_ hDS
    rw [List.append_nil]
    exact rl.mono (fun a o hs e => mv.keep a o (L.nw a hs) e) fun _ q => q
  | cons d rest ih =>
    intro i acc out ys m S σ σ' s R hd hi L F hl rl hDS hz q P
    have hlt : i < xs.length := by
      rcases Nat.lt_or_ge i xs.length with q | q
      · exact q
      · rw [List.drop_eq_nil_of_le q] at hd; cases hd
    have hxi : xs[i]? = some d := by
      have := congrArg (fun l => l[0]?) hd
      simpa using this
    have hd' : xs.drop (i + 1) = rest := by
      have := congrArg List.tail hd
      simpa using this
    obtain ⟨ρ', hb, q⟩ := bnd q
    refine codeAny_of_tree ?_
    show wpAny _ A ((compTurn (.ListComp elt [⟨target, iter, ifs, 0⟩] scope pos) 0 (.ref I) (.ref D) cenv).onRaise (fun x => do noteFrame x cenv; theTreesLotGoes x)) _ _ s
    refine wpAny_noted ?_
    rw [compTurn_list]
    refine wpAny_bind (wpAny_standAt (wpAny_bind (L.next Z hxi hT fun v h₂ tk₂ S₂ go => ?_)))
    refine wpAny_bind (go _ _ fun h₃ mv L₃ rv => ?_)
    have hwD : ¬ wr D := fun q => hDf (Z.sub D q)
    have hwO : ∀ a, Own cenv a → ¬ wr a := fun a ha q => by
      obtain ⟨o, e, p⟩ := Z.alloc _ _ a L.st (Z.sub a q)
      exact ha.notList F e p
    have F₃ := F.mv mv (fun a q hs => L.nw a hs q) hwO
    have l₃ := mv.keep D _ hwD hl
    have hDS₃ : ¬ S₂ D := fun q => by
      rcases mv.new D q with z | z
      · exact hDS z
      · rw [z] at hl; cases hl
    have rl₃ : RdL h₃ S₂ ys acc := rl.mono (fun a o hs e => mv.keep a o (L.nw a hs) e) mv.sub
    refine wpAny_bind (bind_ok (lc := true) (s := { s with heap := h₃, toks := tk₂ }) htr (hA.hd hot0) hs (fun _ => hloc) L₃.ev.inv F₃ rv (bindT_erase hb) fun h₄ tk₄ I₄ F₄ k₄ st₄ => ?_)
    have oc : ∀ a, OwnL true cenv a → a = cenv.locals := fun a ha => ha.2 rfl
    have hOC : Own cenv cenv.locals := .inl rfl
    have hCS : ∀ a, OwnL true cenv a → ¬ S₂ a := fun a ha => ha.1.notS L₃.ev.inv F₃
    have hCf : ∀ a, OwnL true cenv a → ¬ fp a := fun a ha q => by
      obtain ⟨o, e, p⟩ := Z.alloc _ _ a L₃.st q
      exact ha.1.notList F₃ e p
    have L₄ : Lp base (fun _ => False) μ S₀ σ₀ h₀ fp wr St Ok (i + 1) μ S₂ σ h₄ := L₃.poke Z (P := OwnL true cenv) k₄ (fun a o ha e => by rw [oc a ha, hC0] at e; cases e) hCS (fun a ha => ha.1.notMu L₃.ev.inv F₃) (fun a ha => ha.1.new F₃) (fun a _ z => (I₄.zs a z).2) hCf fun a o _ e => st₄ a o e
    have nDO : ¬ OwnL true cenv D := fun q => q.1.notList F₃ l₃ (lst_plain _ _)
    have l₄ := k₄ D _ nDO l₃
    have rl₄ : RdL h₄ S₂ ys acc := rl₃.mono (fun a o hs e => k₄ a o (fun q => hCS a q hs) e) fun _ q => q
    have next : ∀ (b : Bool) (σ₁ : Store), evB Φ .And cs ρ' σ = some (b, σ₁) → ∀ h₅ S₅, Ev base μ S₂ S₅ σ σ₁ h₄ h₅ → Lp base (fun _ => False) μ S₀ σ₀ h₀ fp wr St Ok (i + 1) μ S₅ σ₁ h₅ ∧ FrOk base ec G.V S₅ μ cenv ρ' h₅ ∧ h₅.get? D = some (lstO ys m) ∧ RdL h₅ S₅ ys acc ∧ ¬ S₅ D := fun b σ₁ _ h₅ S₅ x => by
      have nDl : ¬ Live μ σ D := fun l => hDm (by obtain ⟨i, _, e, _⟩ := l; exact List.mem_of_getElem? e)
      have hD₅ : ¬ S₅ D := fun q => by
        rcases x.new D q with z | z | z
        · exact hDS₃ z
        · rw [z] at l₄; cases l₄
        · exact nDl z
      exact ⟨L₄.step (Y := fun _ => False) Z (Evo.of x) (fun _ _ q => q.elim) (fun _ q => q.elim) (fun _ q => q.elim), F₄.ev I₄ x, (x.keep D _ nDl l₄).of (lst_plain _ _).1, rl₄.mono (x.keepS I₄) x.sub, hD₅⟩
    obtain ⟨⟨b, σ₁⟩, qt, q⟩ := bnd q
    refine wpAny_bind (tests_ok ρ' σ σ₁ b S₂ μ { s with heap := h₄, toks := tk₄ } _ _ hS hA hs I₄ F₄ qt fun h₅ tk₅ S₅ x₅ => ?_)
    obtain ⟨L₅, F₅, l₅, rl₅, hD₅⟩ := next b σ₁ qt h₅ S₅ x₅
    cases b with
    | false =>
      rw [if_neg Bool.false_ne_true] at q
      refine wpAny_pure ⟨rfl, ?_⟩
      exact ih (i + 1) acc out ys m S₅ σ₁ σ' { s with heap := h₅, toks := tk₅ } R hd' hlt L₅ (F₅.weaken fun j av e => bindT_other hb e) l₅ rl₅ hD₅ (by simp at hz; omega) q P
    | true =>
      rw [if_pos rfl] at q
      obtain ⟨⟨v₁, σ₂⟩, q₁, q⟩ := bnd q
      obtain ⟨⟨x, σ₃⟩, qo, q⟩ := bnd q
      obtain ⟨⟨zs, σ₄⟩, qr, q⟩ := bnd q
      obtain ⟨rfl, rfl⟩ := pr q
      refine wpAny_bind (wpAny_bind (seq1 (s := { s with heap := h₅, toks := tk₅ }) H hA hs L₅.ev.inv F₅ q₁ fun u h₆ tk₆ S₆ x₆ r₆ F₆ => ?_))
      obtain ⟨S₇, x₇, r₇, s₇⟩ := own_step x₆ (settle_notFresh v₁) r₆ qo
      have nDl : ¬ Live μ σ₁ D := fun l => hDm (by obtain ⟨i, _, e, _⟩ := l; exact List.mem_of_getElem? e)
      have L₇ := L₅.step (Y := fun _ => False) Z (Evo.of x₇) (fun _ _ q => q.elim) (fun _ q => q.elim) (fun _ q => q.elim)
      have F₇ := F₅.ev L₅.ev.inv x₇
      have l₇ := (x₇.keep D _ nDl l₅).of (lst_plain _ _).1
      have rl₇ := rl₅.mono (x₇.keepS L₅.ev.inv) x₇.sub
      have hD₇ : ¬ S₇ D := fun q => by
        rcases x₇.new D q with z | z | z
        · exact hD₅ z
        · rw [z] at l₅; cases l₅
        · exact nDl z
      refine wpAny_bind (wpAny_list_append_plain (s := { s with heap := h₆, toks := tk₆ }) (l := D) (items := ys.toArray) ⟨m, l₇⟩ (fun h₈ pl sb => ?_) ?_)
      · obtain ⟨m₈, l₈⟩ := pl
        have k₈ : ∀ b o, ¬ (b = D) → h₆.get? b = some o → h₈.get? b = some o := fun b o hb e => sb.extBut b o hb e
        have hfD : ∀ a, a = D → ¬ fp a := fun a ha => ha ▸ hDf
        have L₈ : Lp base (fun _ => False) μ S₀ σ₀ h₀ fp wr St Ok (i + 1) μ S₇ σ₃ h₈ := L₇.poke Z (P := fun b => b = D) k₈ (fun a o ha e => by rw [ha, hD0] at e; cases e) (fun a ha => ha ▸ hD₇) (fun a ha => ha ▸ hDm) (fun a ha => ha ▸ hDb) (fun a ha z => ((L₇.ev.inv.zs a z).2.plain (ha ▸ l₇) (lst_plain _ _).1).elim) hfD fun a o ha _ => by subst ha; exact ⟨_, l₈⟩
        have mv₈ : Mv (fun b => b = D) S₇ S₇ h₆ h₈ := Mv.same k₈
        have F₈ := F₇.mv mv₈ (fun a ha => ha ▸ hD₇) fun a ha q => ha.notList F₇ (q ▸ l₇) (lst_plain _ _)
        have kS : ∀ a o, S₇ a → h₆.get? a = some o → h₈.get? a = some o := fun a o hs e => k₈ a o (fun q => hD₇ (q ▸ hs)) e
        refine wpAny_pure (wpAny_pure ⟨rfl, ?_⟩)
        refine ih (i + 1) (acc ++ [x]) zs (ys ++ [u]) m₈ S₇ σ₃ _ { s with heap := h₈, toks := tk₆ } R hd' hlt L₈ (F₈.weaken fun j av e => bindT_other hb e) (by rw [l₈]; simp) ((rl₇.append (.one r₇)).mono kS fun _ q => q) hD₇ (by simp at hz ⊢; omega) qr ?_
        intro h' tk S' ys' m' e1 e2 e3 e4 e5
        exact P h' tk S' ys' m' e1 e2 e3 (by simpa using e4) e5
      · have := rl₇.length
        rw [← lim_eq]
        simp at hz ⊢
        omega
end
end Mine
namespace Mine
open PySem PySem.Calls PyProof.Rows
section
variable {prog : Program} {w : World} {base : Bs} {ec : ExcCls} {G : Cfg} {n : Nat} {Φ : Phi} {sc : Sc}
theorem tgt_kind {k : ItK} {tg : Tgt} {sc : Sc} {t : Expr} (h : tgtFits k tg = true) (ht : trT G sc t = some tg) : Tk k t := by
  refine t_inv (P := fun t tg => tgtFits k tg = true → Tk k t) ht (fun x p i _ h => ?_) (fun es j p is _ h => ?_) h
  · cases k <;> first | exact rfl | exact .inl rfl | exact bft h
  · cases k <;> first | exact rfl | exact .inr rfl | exact bft h
theorem local_locE {scope : Scope} {cl : List (Str × Addr)} {C : Addr} {env : Env} {t : Expr} (h : localT scope.names t = true) : locE (compEnvC scope cl C env) t := by
  cases t <;> first | exact trivial | skip
  · exact lookup_relabel_local (kindIs_eq h)
  · rename_i es _ _
    intro x p hm
    have := List.all_eq_true.mp h _ hm
    exact lookup_relabel_local (kindIs_eq this)
theorem Made.lp {A : Around} {μ : List Addr} {S : Addr → Prop} {σ : Store} {k : ItK} {xs : List PyData} {I : Addr} {h₀ h₁ h₂ : Heap} {fp wr : Addr → Prop} {St : Nat → Heap → Prop} {Mid : Nat → Value → Heap → Prop} {Ok : (Addr → Prop) → Heap → Prop} {X : Addr → Prop}
    (M : Made prog w A μ S σ k xs I h₀ h₁ fp wr St Mid Ok) (I₀ : Inv base S μ σ h₀) (hg : ∀ b o, h₁.get? b = some o → h₂.get? b = some o) : Lp base X μ S σ h₀ fp wr St Ok 0 μ S σ h₂ where
  ev := (Evo.refl I₀).poke (wr := fun _ => False) (Mv.same fun b o _ e => hg b o (M.grow b o e)) (fun _ _ q => q.elim) (fun _ q => q.elim) (fun _ q => q.elim) (fun _ q => q.elim) (fun _ q => q.elim) fun _ _ q => q.elim
  st := M.src.frame 0 _ _ M.st fun b o _ e => hg b o e
  ok := M.src.mono _ _ _ _ M.ok (fun _ q => q) fun b o _ e => hg b o e
  nw := fun a hs q => by
    obtain ⟨o, e, _⟩ := I₀.inS a hs
    rw [M.wn a q] at e; cases e
  nl := M.nl
  nm := fun b hb q => by
    obtain ⟨_, _, e⟩ := I₀.mem q
    rw [M.wn b hb] at e; cases e
  wn := M.wn
  wb := fun b hb => by
    cases e : base.get? b with
    | none => rfl
    | some o => have := I₀.keepB b o e; rw [M.wn b hb] at this; cases this
theorem comp_core (hot0 : base.hot = false) {elt iter target : Expr} {ifs : List Expr} {scope : Scope} {pos : Pos} {tg : Tgt} {k : ItK} {its cs : List CE} {ce : CE} (ft : Fits sc scope) (hl : locsIn G scope tg = true) (hk : tgtFits k tg = true) (htr : trT G scope.names target = some tg) (hloc : localT scope.names target = true)
    (HI : SI prog w base ec G n Φ sc iter k its) (H : SE prog w base ec G n Φ scope.names elt ce) (hS : SBs prog w base ec G n Φ scope.names ifs cs) {A : Around} {env : Env} {ρ : Rho} {σ σ' : Store} {av : AV} {S : Addr → Prop} {μ : List Addr} {s : Shared} {E : Value → Shared → Prop}
    (hA : AOk base n A) (hs : ScOk env sc) (I : Inv base S μ σ s.heap) (F : FrOk base ec G.V S μ env ρ s.heap) (ev : evE Φ (.comp ce tg k its cs) ρ σ = some (av, σ')) {RR : Value → Addr → Result → Shared → Prop}
    (P : ∀ D C h' tk S' ds ys m mm, av = .fresh ds → Ev base μ S S' σ σ' s.heap h' → h'.get? D = some (lstO ys m) → RdL h' S' ys ds → ¬ S' D → s.heap.get? D = none → h'.Ns C mm → s.heap.get? C = none → RR (.ref D) C (.ok .next) { s with heap := h', toks := tk }) :
    ∃ cl, closureFor scope env = pure cl ∧ wpAny (model prog w) A (eval iter env) (fun x s₁ => wpAny (model prog w) A (pyIter x) (fun it s₂ => wpAny (model prog w) A (newList []) (fun acc s₃ =>
      wpAny (model prog w) A (newFunctionEnv scope env.globals cl [] env.qual none .none (some env)) (fun cenv s₄ =>
        codeAny (model prog w) A (.compStart (.ListComp elt [⟨target, iter, ifs, 0⟩] scope pos) 0 it acc { cenv with scope := relabel scope env }) (RR acc cenv.locals) s₄) E s₃) E s₂) E s₁) E s := by
  obtain ⟨cl, hcl, hc1, hc2⟩ := closure_ok (scope := scope) (env := env) fun p hp hf => F.has p.1 (free_kind hs ft (by rw [← hf]; exact hp))
  refine ⟨cl, hcl, ?_⟩
  refine i_comp ev fun vs σ₁ ds xs out σ₂ q₁ q₂ q₃ hz q₄ z1 z2 => ?_
  subst z1
  subst z2
  refine HI.2 A env ρ σ σ₁ vs ds xs S μ s _ E hA hs I F q₁ q₂ q₃ fun It h₀ h₁ tk S₀ fp wr St Mid Ok x M => ?_
  have lk := lock_ev (L := liveOf σ₁ vs) x.inv liveOf_ok
  refine wpAny_newObj_type (wpAny_newFunctionEnv ft.cell (by intro y hy; simp at hy) (fun h₃ hns hsb => ?_) ft.kind)
  dsimp only at hns hsb ⊢
  generalize hH2 : h₁.push { cls := .type "list", dict := none, data := .seq ([] : List Value).toArray } = h₂ at hns hsb ⊢
  have hC : h₂.objs.size = h₁.objs.size + 1 := by rw [← hH2, Heap.size_push]
  have hDC : h₁.objs.size ≠ h₂.objs.size := by rw [hC]; exact Nat.ne_of_lt (Nat.lt_succ_self _)
  have g₁ : ∀ b o, h₁.get? b = some o → h₃.get? b = some o := fun b o e => hsb.extBut b o (by have := Heap.lt_size e; rw [hC]; exact Nat.ne_of_lt (Nat.lt_succ_of_lt this)) (Heap.get?_push_of_some _ (hH2 ▸ Heap.get?_push_of_some _ e))
  have up : ∀ a, h₁.objs.size ≤ a → h₀.get? a = none := fun a ha => by
    cases e : h₀.get? a with
    | none => rfl
    | some o => exact absurd (Heap.lt_size (M.grow a o e)) (Nat.not_lt.mpr ha)
  have up' : ∀ a, h₀.get? a = none → s.heap.get? a = none := fun a e => x.gone e
  have lD : h₃.get? h₁.objs.size = some (lstO [] 0) := hsb.extBut _ _ hDC (Heap.get?_push_of_some _ (hH2 ▸ Heap.get?_push_size _ rfl))
  have hD0 : h₀.get? h₁.objs.size = none := up _ (Nat.le_refl _)
  have hC0 : h₀.get? h₂.objs.size = none := up _ (by rw [hC]; exact Nat.le_succ _)
  have L : Lp base (fun _ => False) μ S₀ (flagAll .locked (liveOf σ₁ vs) σ₁) h₀ fp wr St Ok 0 μ S₀ (flagAll .locked (liveOf σ₁ vs) σ₁) h₃ := M.lp lk.inv g₁
  have hb : base.get? h₂.objs.size = none := by
    cases e : base.get? h₂.objs.size with
    | none => rfl
    | some o => have := x.inv.keepB _ o e; rw [hC0] at this; cases this
  have F₀ := F.ev I x
  have F₃ : FrOk base ec G.V S₀ μ env ρ h₃ := F₀.mono (fun a o _ e => .inl (g₁ a o (M.grow a o e))) fun v av r => r.mono (fun a o _ e => g₁ a o (M.grow a o e)) (fun _ q => q) fun _ _ q => q
  have CF := comp_frame hs ft hl F₃ hc1 hc2 hns hb
  have hDf : ¬ fp h₁.objs.size := fun q => by
    obtain ⟨o, e, _⟩ := M.src.alloc 0 _ _ M.st q
    exact fresh_not e rfl
  have hDS : ¬ S₀ h₁.objs.size := fun q => by
    obtain ⟨o, e, _⟩ := x.inv.inS _ q
    rw [hD0] at e; cases e
  have loop : ∀ s₃ : Shared, s₃ = { s with heap := h₃, toks := tk + ([] : List (Str × Value)).length } →
      codeAny (model prog w) A (.compLoop (.ListComp elt [⟨target, iter, ifs, 0⟩] scope pos) 0 (.ref It) (.ref h₁.objs.size) (compEnvC scope cl h₂.objs.size env)) (RR (.ref h₁.objs.size) h₂.objs.size) s₃ := by
    rintro s₃ rfl
    refine comp_loop hot0 M.src hA comp_sc (tgt_kind hk htr) htr (local_locE hloc) lk.inv H hS hC0 hD0 hDf xs 0 [] out [] 0 S₀ _ _ _ _ rfl (Nat.zero_le _) L CF lD .nil hDS (by simpa using hz) q₄ ?_
    intro h' tk' S' ys' m' ev' F' l' r' hD'
    have e1 := (unlock x.inv liveOf_ok ev').toEv x.inv fun _ q => q.elim
    obtain ⟨mm, hn, _⟩ := F'.ns
    exact P _ _ h' tk' S' out ys' m' mm rfl (x.trans e1) l' (by simpa using r') hD' (up' _ hD0) hn (up' _ hC0)
  exact codeAny_compStart_list (loop _ rfl) (M.src.self 0 _ _ _ L.st (loop _ rfl))
theorem ev_letGo {S S' : Addr → Prop} {μ : List Addr} {σ σ' : Store} {h h' h'' : Heap} {C : Addr} {mm : Str → Option Value} (I : Inv base S μ σ h) (x : Ev base μ S S' σ σ' h h') (hn : h'.Ns C mm) (h0 : h.get? C = none) (sb : Heap.SameBut C h' h'') : Ev base μ S S' σ σ' h h'' ∧ ¬ S' C := by
  have hCS : ¬ S' C := fun q => by
    obtain ⟨o, e, p⟩ := x.inv.inS C q
    obtain ⟨o', es, ep, e', d, _⟩ := hn
    rw [e] at e'; cases e'
    exact p.1 es ep d
  have k : ∀ b o, ¬ (b = C) → h'.get? b = some o → h''.get? b = some o := fun b o hb e => sb.extBut b o hb e
  refine ⟨?_, hCS⟩
  have y := (Evo.of (X := fun _ => False) x).poke (wr := fun b => b = C) (Mv.same k) (fun a o ha e => by rw [ha, h0] at e; cases e) (fun a ha => ha ▸ hCS) (fun a ha q => by
    obtain ⟨_, _, e⟩ := I.mem q
    rw [ha, h0] at e; cases e) (fun a ha => by
    subst ha
    cases e : base.get? a with
    | none => rfl
    | some o => have := I.keepB a o e; rw [h0] at this; cases this) (fun a ha z => by obtain ⟨o, _, _, e, _⟩ := (I.zs a z).2; rw [ha, h0] at e; cases e) fun a o ha e => by rw [ha, h0] at e; cases e
  exact y.toEv I fun _ q => q.elim
theorem se_comp (hot0 : base.hot = false) {elt iter target : Expr} {ifs : List Expr} {scope : Scope} {pos : Pos} {tg : Tgt} {k : ItK} {its cs : List CE} {ce : CE} (ft : Fits sc scope) (hl : locsIn G scope tg = true) (hk : tgtFits k tg = true) (htr : trT G scope.names target = some tg) (hloc : localT scope.names target = true)
    (HI : SI prog w base ec G n Φ sc iter k its) (H : SE prog w base ec G n Φ scope.names elt ce) (hS : SBs prog w base ec G n Φ scope.names ifs cs) : SE prog w base ec G n Φ sc (.ListComp elt [⟨target, iter, ifs, 0⟩] scope pos) (.comp ce tg k its cs) := by
  intro A env ρ σ σ' av S μ s Q E hA hs I F q P
  rw [eval_ListComp]
  obtain ⟨cl, hcl, h⟩ := comp_core hot0 (pos := pos) (E := E) (RR := fun acc C => compPost (model prog w) A E none Q acc C) ft hl hk htr hloc HI H hS hA hs I F q (by
    intro D C h' tk S' ds ys m mm hav x l r hD hD0 hn hC0
    subst hav
    refine ⟨mm, hn, fun h'' sb => ?_⟩
    obtain ⟨x', hCS⟩ := ev_letGo I x hn hC0 sb
    have hDC : D ≠ C := fun q => by
      obtain ⟨o, es, ep, e, d, _⟩ := hn
      rw [q, e] at l; cases l; cases d
    exact P _ h'' tk S' x' (.fresh (sb.extBut _ _ hDC l) (r.mono (fun a o hs e => sb.extBut a o (fun q => hCS (q ▸ hs)) e) fun _ q => q) hD hD0))
  exact wpAny_comprehension_free (use := none) rfl (HI.1 env) hcl ft.kind ft.loc h
end
end Mine
namespace Mine
open PySem PySem.Calls PyProof.Rows
noncomputable def nI : Option Nat → Option Int
  | none => none
  | some k => some (k : Int)
theorem adjust_gen (l h : Option Nat) (n : Nat) : Builtin.Slice.sliceAdjust (nI l) (nI h) 1 (n : Int) = (((min (l.getD 0) n : Nat) : Int), ((min (h.getD n) n : Nat) : Int)) := by
  have h1 : ¬ ((1 : Int) < 0) := by omega
  have c : ∀ k : Nat, (if ((k : Nat) : Int) < 0 then max ((k : Int) + (n : Int)) 0 else min (k : Int) (n : Int)) = ((min k n : Nat) : Int) := fun k => by
    rw [if_neg (by omega)]; omega
  unfold Builtin.Slice.sliceAdjust
  cases l <;> cases h <;> simp only [nI, h1, if_false, Option.getD_some, Option.getD_none, c, Nat.zero_min, Nat.min_self, Int.natCast_zero] <;> rfl
theorem places_gen (a b : Nat) : Builtin.Slice.slicePlaces (a : Int) (b : Int) 1 = b - a := by
  unfold Builtin.Slice.slicePlaces
  have h1 : (1 : Int) > 0 := by omega
  simp only [h1, if_true, Int.ediv_one]
  split <;> omega
theorem cut_is (xs : List Value) (l h : Option Nat) : ((xs.drop (min (l.getD 0) xs.length)).take (min (h.getD xs.length) xs.length - min (l.getD 0) xs.length)) = (xs.take (h.getD xs.length)).drop (l.getD 0) := by
  rw [List.drop_take]
  rcases Nat.le_total (l.getD 0) xs.length with q | q
  · rw [Nat.min_eq_left q]
    rcases Nat.le_total (h.getD xs.length) xs.length with r | r
    · rw [Nat.min_eq_left r]
    · rw [Nat.min_eq_right r, List.take_of_length_le (by rw [List.length_drop]; omega), List.take_of_length_le (by rw [List.length_drop]; omega)]
  · rw [Nat.min_eq_right q, List.drop_eq_nil_of_le q, List.drop_eq_nil_of_le (Nat.le_refl _)]
    simp
theorem pick_gen (xs : List Value) (a c : Nat) : ((List.range c).filterMap fun (k : Nat) => xs.toArray[((a : Int) + (k : Int) * 1).toNat]?) = (xs.drop a).take c := by
  have e : (fun (k : Nat) => xs.toArray[((a : Int) + (k : Int) * 1).toNat]?) = fun k => (xs.drop a)[k]? := by
    funext k
    have : ((a : Int) + (k : Int) * 1).toNat = a + k := by omega
    rw [this, List.getElem?_toArray, List.getElem?_drop]
  rw [e]
  generalize xs.drop a = ys
  induction c generalizing ys with
  | zero => rfl
  | succ c ih =>
    rw [List.range_succ_eq_map, List.filterMap_cons, List.filterMap_map]
    cases ys with
    | nil => simp
    | cons y ys =>
      have e : ((fun k => (y :: ys)[k]?) ∘ Nat.succ) = fun k => ys[k]? := by funext k; simp
      rw [e, ih ys]
      rfl
theorem RdL.cut {h : Heap} {S : Addr → Prop} {vs : List Value} {ds : List PyData} (r : RdL h S vs ds) (l u : Option Nat) : RdL h S ((vs.take (u.getD vs.length)).drop (l.getD 0)) (cutL ds l u) := by
  have := r.length
  unfold cutL
  rw [← this]
  exact (r.take _).drop _
section
variable {prog : Program} {w : World} {A : Around} {E : Value → Shared → Prop} {s : Shared}
theorem part_gen {v : Value} {k : Option Nat} {Q : Option Int → Shared → Prop} (p : IsPart v (nI k)) (h : Q (nI k) s) : wpAny (model prog w) A (Builtin.Slice.slicePartIndex v) Q E s := by
  generalize nI k = j at p h
  cases p with
  | none => exact slicePart_none h
  | int i t => exact slicePart_int h
theorem applied_gen {sl : Addr} {n : Nat} {vl vu : Value} {l u : Option Nat} {Q : Int × Int × Nat → Shared → Prop} (hs : s.heap.IsSliceOf sl vl vu .none) (pl : IsPart vl (nI l)) (pu : IsPart vu (nI u))
    (h : Q (((min (l.getD 0) n : Nat) : Int), 1, min (u.getD n) n - min (l.getD 0) n) s) : wpAny (model prog w) A (Builtin.Slice.sliceApplied (.ref sl) (pure (n : Int))) Q E s := by
  obtain ⟨os, hos, hcs, hds⟩ := id hs
  unfold Builtin.Slice.sliceApplied Builtin.Slice.sliceFields
  refine wpAny_bind (wpAny_bind (wpAny_field hos hds (x := vl) rfl (wpAny_bind (wpAny_field hos hds (x := vu) rfl (wpAny_bind (wpAny_field hos hds (x := .none) rfl (wpAny_pure ?_)))))))
  refine wpAny_bind (slicePart_none ?_)
  show wpAny _ _ (if ((1 : Int) == 0) = true then _ else _) _ _ s
  rw [if_neg (by decide)]
  refine wpAny_bind (part_gen pl (wpAny_bind (part_gen pu (wpAny_bind (wpAny_pure ?_)))))
  show wpAny _ _ (match Builtin.Slice.sliceAdjust (nI l) (nI u) 1 (n : Int) with | (lo, hi) => pure (lo, (1 : Int), Builtin.Slice.slicePlaces lo hi 1)) _ _ s
  rw [adjust_gen]
  show wpAny _ _ (pure (((min (l.getD 0) n : Nat) : Int), (1 : Int), Builtin.Slice.slicePlaces ((min (l.getD 0) n : Nat) : Int) ((min (u.getD n) n : Nat) : Int) 1)) _ _ s
  rw [places_gen]
  exact wpAny_pure h
theorem tuple_slice {t sl : Addr} {xs : List Value} {m : Nat} {vl vu : Value} {l u : Option Nat} {Q : Value → Shared → Prop} (e : s.heap.get? t = some (tupO xs m)) (hs : s.heap.IsSliceOf sl vl vu .none) (pl : IsPart vl (nI l)) (pu : IsPart vu (nI u)) (hz : xs.length ≤ lim)
    (h1 : (xs.take (u.getD xs.length)).drop (l.getD 0) = xs → Q (.ref t) s)
    (h2 : Q (.ref s.heap.objs.size) { s with heap := s.heap.push (tupO ((xs.take (u.getD xs.length)).drop (l.getD 0)) 0) }) : wpAny (model prog w) A (getItem (.ref t) (.ref sl)) Q E s := by
  have ht : IsTup s.heap t xs.toArray := ⟨_, e, rfl, m, rfl⟩
  obtain ⟨os, hos, hcs, hds⟩ := id hs
  have hTs : s.TypeIs (.ref sl) "slice" := ⟨os, hos, hcs⟩
  unfold getItem
  try with_reducible refine wpAny_holding ?_
  first | refine wpAny_bind (wpAny_pure ?_) | skip
  refine wpAny_bind (wpAny_sequenceKey ht.typeIs (by decide) ?_)
  refine wpAny_bind (wpAny_callSpecial?_slot (name := Str.ofString "__getitem__") ht.typeIs PySem.F.slot_tuple_getitem
    (wpAny_call_entry PySem.F.slot_tuple_getitem ht.typeIs PySem.F.entry_tuple_getitem ?_ (PySem.F.args_tuple_getitem_2 _ _)))
  show wpAny _ _ (Builtin.Tuple.tupleItemsOf (.ref t) >>= _) _ _ s
  refine wpAny_bind (tupleItemsOf_ ht ?_)
  refine wpAny_bind (wpAny_typeOf hTs ?_)
  rw [if_pos (by decide)]
  refine wpAny_bind (applied_gen (n := xs.toArray.size) hs pl pu ?_)
  have hsz : sizeOk (.seq ((xs.take (u.getD xs.length)).drop (l.getD 0)).toArray) := by
    show ((xs.take (u.getD xs.length)).drop (l.getD 0)).toArray.size ≤ sizeLine
    rw [List.size_toArray, List.length_drop, List.length_take, ← lim_eq]
    omega
  have hp : ((List.range (min (u.getD xs.toArray.size) xs.toArray.size - min (l.getD 0) xs.toArray.size)).filterMap fun (k : Nat) => xs.toArray[(((min (l.getD 0) xs.toArray.size : Nat) : Int) + (k : Int) * 1).toNat]?).toArray = ((xs.take (u.getD xs.length)).drop (l.getD 0)).toArray := by
    rw [pick_gen, List.size_toArray, cut_is]
  show wpAny _ _ (if (((min (l.getD 0) xs.toArray.size : Nat) : Int) == 0 && (1 : Int) == 1 && (min (u.getD xs.toArray.size) xs.toArray.size - min (l.getD 0) xs.toArray.size) == xs.toArray.size) = true then _ else _) _ _ s
  by_cases hc : (((min (l.getD 0) xs.toArray.size : Nat) : Int) == 0 && (1 : Int) == 1 && (min (u.getD xs.toArray.size) xs.toArray.size - min (l.getD 0) xs.toArray.size) == xs.toArray.size) = true
  · rw [if_pos hc]
    have hall : (xs.take (u.getD xs.length)).drop (l.getD 0) = xs := by
      rw [← cut_is]
      rw [List.size_toArray] at hc
      simp only [Bool.and_eq_true, beq_iff_eq] at hc
      have h0 : min (l.getD 0) xs.length = 0 := by omega
      rw [hc.2, h0, List.drop_zero, List.take_length]
    refine wpAny_bind (m := Builtin.Tuple.tupleIsExact _) ?_
    unfold Builtin.Tuple.tupleIsExact
    refine wpAny_bind (wpAny_typeOf ht.typeIs (wpAny_pure ?_))
    rw [if_pos (by decide)]
    refine wpAny_bind (wpAny_rule ?_)
    first
      | exact wpAny_pure ⟨_, rfl, wpAny_pure (h1 hall)⟩
      | exact wpAny_bind (wpAny_pure (wpAny_pure ⟨_, rfl, wpAny_pure (h1 hall)⟩))
      | trace_state
  · rw [if_neg hc, hp]
    first
      | exact wpAny_bind (m := Builtin.Tuple.tupleExact _) (wpAny_newObj_type (wpAny_pure ⟨_, rfl, wpAny_pure h2⟩) hsz)
      | exact wpAny_bind (m := Builtin.Tuple.tupleExact _) (wpAny_newObj_type (wpAny_bind (wpAny_pure (wpAny_pure ⟨_, rfl, wpAny_pure h2⟩))) hsz)
      | exact wpAny_bind (wpAny_bind (m := Builtin.Tuple.tupleExact _) (wpAny_newObj_type (wpAny_pure (wpAny_pure ⟨_, rfl, wpAny_pure h2⟩)) hsz))
      | exact wpAny_bind (wpAny_bind (m := Builtin.Tuple.tupleExact _) (wpAny_newObj_type (wpAny_pure ⟨_, rfl, wpAny_pure h2⟩) hsz))
theorem cnt_is (a b : Nat) : (if (a : Int) < (b : Int) then (b : Int) - (a : Int) + 1 - 1 else 0).toNat = b - a := by split <;> omega
theorem listPick_gen (xs : List Value) (l u : Option Nat) : slicePick xs.toArray (nI l) (nI u) none = ((xs.take (u.getD xs.length)).drop (l.getD 0)).toArray := by
  have h1 : (1 : Int) > 0 := by omega
  have c : ∀ k : Nat, max (0 : Int) (min (if ((k : Nat) : Int) < 0 then (k : Int) + (xs.length : Int) else (k : Int)) (xs.length : Int)) = ((min k xs.length : Nat) : Int) := fun k => by
    rw [if_neg (by omega)]; omega
  have hb : sliceBounds (nI l) (nI u) none xs.toArray.size = (((min (l.getD 0) xs.length : Nat) : Int), ((min (u.getD xs.length) xs.length : Nat) : Int), 1) := by
    unfold sliceBounds
    cases l <;> cases u <;> simp only [nI, Option.getD_none, Option.getD_some, h1, if_true, c, Nat.zero_min, Nat.min_self, Int.natCast_zero, List.size_toArray]
  unfold slicePick
  rw [hb, ← cut_is, ← pick_gen]
  unfold sliceRange
  simp only [h1, if_true, Int.ediv_one]
  rw [List.filterMap_map]
  have hn : (if ((min (l.getD 0) xs.length : Nat) : Int) < ((min (u.getD xs.length) xs.length : Nat) : Int) then ((min (u.getD xs.length) xs.length : Nat) : Int) - ((min (l.getD 0) xs.length : Nat) : Int) + 1 - 1 else 0).toNat = min (u.getD xs.length) xs.length - min (l.getD 0) xs.length := cnt_is _ _
  rw [hn]
  congr 2
  funext k
  show xs.toArray[_]? = xs.toArray[_]?
  congr 1
  dsimp only
  omega
end
section
variable {prog : Program} {w : World} {base : Bs} {ec : ExcCls} {G : Cfg} {n : Nat} {Φ : Phi} {sc : Sc}
theorem partD_eq {d : PyData} {k : Option Nat} (h : partD d = some k) : (d = .none ∧ k = none) ∨ ∃ i : Nat, d = .int i ∧ k = some i := by
  cases d <;> first | (cases h; done) | skip
  · cases h; exact .inl ⟨rfl, rfl⟩
  · rename_i i
    obtain ⟨hb, e⟩ := gd h
    cases e
    exact .inr ⟨i.toNat, by rw [Int.toNat_of_nonneg hb.1], rfl⟩
theorem part_is {h : Heap} {S : Addr → Prop} {v : Value} {d : PyData} {k : Option Nat} (r : Rt h S v d) (e : partD d = some k) : IsPart v (nI k) := by
  rcases partD_eq e with ⟨rfl, rfl⟩ | ⟨i, rfl, rfl⟩
  · obtain rfl := r.noneD; exact .none
  · obtain ⟨t, rfl⟩ := r.intD; exact .int _ t
theorem i_slice {ρ : Rho} {σ σ' : Store} {av : AV} {a l u : CE} {R : Prop} (q : evE Φ (.slice a l u) ρ σ = some (av, σ')) (k : ∀ x σ₁ y σ₂ z dx dl du, evE Φ a ρ σ = some (x, σ₁) → evE Φ l ρ σ₁ = some (y, σ₂) → evE Φ u ρ σ₂ = some (z, σ') → rd σ' x = some dx → rd σ' y = some dl → rd σ' z = some du → sliceD dx dl du = some av → R) : R :=
  ob q fun x h1 q => ob q fun y h2 q => ob q fun z h3 q => ob q fun dx h4 q => ob q fun dl h5 q => ob q fun du h6 q => ob q fun r h7 q => by cases q; exact k x.1 x.2 y.1 y.2 z.1 dx dl du h1 h2 h3 h4 h5 h6 h7
noncomputable def PE (prog : Program) (w : World) (base : Bs) (ec : ExcCls) (G : Cfg) (n : Nat) (Φ : Phi) (sc : Sc) (e : Option Expr) (c : CE) : Prop := (∃ x, e = some x ∧ SE prog w base ec G n Φ sc x c) ∨ (e = none ∧ c = .const .none)
theorem part1 {e : Option Expr} {c : CE} (H : PE prog w base ec G n Φ sc e c) {A : Around} {env : Env} {ρ : Rho} {σ σ₁ : Store} {x : AV} {S : Addr → Prop} {μ : List Addr} {s : Shared} {E : Value → Shared → Prop} {R : Value → Shared → Prop} (hA : AOk base n A) (hs : ScOk env sc) (I : Inv base S μ σ s.heap) (F : FrOk base ec G.V S μ env ρ s.heap) (q : evE Φ c ρ σ = some (x, σ₁))
    (h : ∀ v h' tk S', Ev base μ S S' σ σ₁ s.heap h' → RdA ec h' S' μ v (settle x) → FrOk base ec G.V S' μ env ρ h' → R v { s with heap := h', toks := tk }) : wpAny (model prog w) A (evalPart e env) R E s := by
  rcases H with ⟨y, rfl, H⟩ | ⟨rfl, rfl⟩
  · exact seq1 H hA hs I F q h
  · obtain ⟨rfl, rfl⟩ := pr q
    exact wpAny_pure (h .none s.heap s.toks S (.refl I) (.dat .none) F)
theorem se_slice {v : Expr} {lo hi : Option Expr} {p pos : Pos} {a l u : CE} (H : SE prog w base ec G n Φ sc v a) (Hl : PE prog w base ec G n Φ sc lo l) (Hu : PE prog w base ec G n Φ sc hi u) :
    SE prog w base ec G n Φ sc (.Subscript v (.Slice lo hi none p) pos) (.slice a l u) := by
  intro A env ρ σ σ' av S μ s Q E hA hs I F q P
  refine i_slice q fun x σ₁ y σ₂ z dx dl du q₁ q₂ q₃ e₁ e₂ e₃ e₄ => ?_
  refine Subscript_ (seq1 H hA hs I F q₁ fun o h₁ tk₁ S₁ x₁ r₁ F₁ => ?_)
  refine wpAny_Slice (part1 (s := { s with heap := h₁, toks := tk₁ }) Hl hA hs x₁.inv F₁ q₂ fun vl h₂ tk₂ S₂ x₂ r₂ F₂ => ?_)
  refine part1 (s := { s with heap := h₂, toks := tk₂ }) Hu hA hs x₂.inv F₂ q₃ fun vu h₃ tk₃ S₃ x₃ r₃ F₃ => ?_
  refine wpAny_pure ?_
  have t₁ := rtOf x₃.inv ((r₁.ev x₁.inv x₂).ev x₂.inv x₃) e₁
  have t₂ := rtOf x₃.inv (r₂.ev x₂.inv x₃) e₂
  have t₃ := rtOf x₃.inv r₃ e₃
  obtain ⟨l', k1, e₅⟩ := bnd e₄
  obtain ⟨u', k2, e₆⟩ := bnd e₅
  have p1 := part_is t₂ k1
  have p2 := part_is t₃ k2
  have pp : PPost ec { s with heap := h₃, toks := tk₃ } S₃ μ av Q := post_prim ((x₁.trans x₂).trans x₃) P
  have g : ∀ b o', h₃.get? b = some o' → (h₃.push { cls := .type "slice", data := .fields #[vl, vu, .none] }).get? b = some o' := push_grow h₃ _
  have hn : h₃.get? (h₃.push { cls := .type "slice", data := .fields #[vl, vu, .none] }).objs.size = none := by
    cases e : h₃.get? (h₃.push { cls := .type "slice", data := .fields #[vl, vu, .none] }).objs.size with
    | none => rfl
    | some o => exact absurd (Heap.lt_size (g _ _ e)) (Nat.lt_irrefl _)
  cases dx <;> first | (cases e₆; done) | skip
  case list xs =>
    obtain ⟨hz, e₇⟩ := gd e₆
    cases e₇
    obtain ⟨b, vs, m, rfl, e, rl⟩ := t₁.lstD
    refine tail_any (s := { s with heap := h₃.push { cls := .type "slice", data := .fields #[vl, vu, .none] }, toks := tk₃ }) ⟨_, g _ _ e, rfl⟩ slot_list_getitem.lookup (wpAny_getItem_list_slice (s := { s with heap := h₃.push { cls := .type "slice", data := .fields #[vl, vu, .none] }, toks := tk₃ }) ⟨_, g _ _ e, rfl, m, rfl⟩ (Heap.IsSliceOf.new ..) p1 p2 .none (by simp) ?_ (by rw [← lim_eq]; simpa [rl.length] using hz)) rfl
    rw [listPick_gen]
    exact pp.lst (inSome x₃.inv) (fun b o q => push_grow _ _ b o (g b o q)) hn (Heap.get?_push_size _ rfl) (rl.cut l' u') tk₃
  case tuple xs =>
    obtain ⟨hz, e₇⟩ := gd e₆
    cases e₇
    obtain ⟨b, vs, m, rfl, s1, e, rl⟩ := t₁.tupD
    refine tail_any (s := { s with heap := h₃.push { cls := .type "slice", data := .fields #[vl, vu, .none] }, toks := tk₃ }) ⟨_, g _ _ e, rfl⟩ PySem.F.slot_tuple_getitem.lookup (tuple_slice (s := { s with heap := h₃.push { cls := .type "slice", data := .fields #[vl, vu, .none] }, toks := tk₃ }) (g _ _ e) (Heap.IsSliceOf.new ..) p1 p2 (by rw [rl.length]; exact hz) (fun hall => ?_) ?_) rfl
    · have r' := rl.cut l' u'
      rw [hall] at r'
      exact pp _ _ tk₃ S₃ (.grown g) (.old (.dat (.tuple s1 (g _ _ e) (r'.mono (fun b o _ q => g b o q) fun _ q => q))))
    · exact pp.tup (fun b o q => push_grow _ _ b o (g b o q)) hn (Heap.get?_push_size _ rfl) (rl.cut l' u') tk₃
end
section
variable {prog : Program} {w : World} {base : Bs} {ec : ExcCls} {G : Cfg} {n : Nat} {Φ : Phi} {sc : Sc}
theorem fm_congr {α β : Type} {f g : α → Option β} : ∀ {l : List α}, (∀ a ∈ l, f a = g a) → l.filterMap f = l.filterMap g
  | [], _ => rfl
  | a :: l, h => by rw [List.filterMap_cons, List.filterMap_cons, h a (.head _), fm_congr fun b hb => h b (.tail _ hb)]
theorem rev_pick (xs : List Value) : ((List.range xs.length).filterMap fun (k : Nat) => xs.toArray[(((xs.length : Int) - 1) + (k : Int) * (-1)).toNat]?) = xs.reverse := by
  have h : ∀ k ∈ List.range xs.length, xs.toArray[(((xs.length : Int) - 1) + (k : Int) * (-1)).toNat]? = xs.reverse[k]? := fun k hk => by
    have hk := List.mem_range.mp hk
    rw [List.getElem?_toArray, List.getElem?_reverse hk]
    congr 1
    omega
  rw [fm_congr h]
  have := pick_gen xs.reverse 0 xs.reverse.length
  rw [List.drop_zero, List.take_length, List.length_reverse] at this
  rw [← this]
  refine fm_congr fun k _ => ?_
  rw [List.getElem?_toArray]
  congr 1
  omega
theorem tuple_rev {A : Around} {E : Value → Shared → Prop} {s : Shared} {t sl : Addr} {xs : List Value} {m : Nat} {u : Tok} {Q : Value → Shared → Prop} (e : s.heap.get? t = some (tupO xs m)) (hs : s.heap.IsSliceOf sl .none .none (.int (-1) u)) (hz : xs.length ≤ lim)
    (h2 : Q (.ref s.heap.objs.size) { s with heap := s.heap.push (tupO xs.reverse 0) }) : wpAny (model prog w) A (getItem (.ref t) (.ref sl)) Q E s := by
  have ht : IsTup s.heap t xs.toArray := ⟨_, e, rfl, m, rfl⟩
  obtain ⟨os, hos, hcs, hds⟩ := id hs
  have hTs : s.TypeIs (.ref sl) "slice" := ⟨os, hos, hcs⟩
  unfold getItem
  try with_reducible refine wpAny_holding ?_
  first | refine wpAny_bind (wpAny_pure ?_) | skip
  refine wpAny_bind (wpAny_sequenceKey ht.typeIs (by decide) ?_)
  refine wpAny_bind (wpAny_callSpecial?_slot (name := Str.ofString "__getitem__") ht.typeIs PySem.F.slot_tuple_getitem
    (wpAny_call_entry PySem.F.slot_tuple_getitem ht.typeIs PySem.F.entry_tuple_getitem ?_ (PySem.F.args_tuple_getitem_2 _ _)))
  show wpAny _ _ (Builtin.Tuple.tupleItemsOf (.ref t) >>= _) _ _ s
  refine wpAny_bind (tupleItemsOf_ ht ?_)
  refine wpAny_bind (wpAny_typeOf hTs ?_)
  rw [if_pos (by decide)]
  have ha : Builtin.Slice.sliceAdjust none none (-1) (xs.toArray.size : Int) = ((xs.length : Int) - 1, -1) := rfl
  have hpl : Builtin.Slice.slicePlaces ((xs.length : Int) - 1) (-1) (-1) = xs.length := by
    unfold Builtin.Slice.slicePlaces
    rw [if_neg (by decide)]
    by_cases q : (xs.length : Int) - 1 > -1
    · rw [if_pos q]
      have : -(-1 : Int) = 1 := rfl
      rw [this, Int.ediv_one]
      omega
    · rw [if_neg q]; omega
  have hap : ∀ {R : Int × Int × Nat → Shared → Prop}, R ((xs.length : Int) - 1, -1, xs.length) s → wpAny (model prog w) A.in1 (Builtin.Slice.sliceApplied (.ref sl) (pure (xs.toArray.size : Int))) R E s := fun hR => by
    unfold Builtin.Slice.sliceApplied Builtin.Slice.sliceFields
    refine wpAny_bind (wpAny_bind (wpAny_field hos hds (x := .none) rfl (wpAny_bind (wpAny_field hos hds (x := .none) rfl (wpAny_bind (wpAny_field hos hds (x := .int (-1) u) rfl (wpAny_pure ?_)))))))
    refine wpAny_bind (slicePart_int ?_)
    show wpAny _ _ (if ((-1 : Int) == 0) = true then _ else _) _ _ s
    rw [if_neg (by decide)]
    refine wpAny_bind (slicePart_none (wpAny_bind (slicePart_none (wpAny_bind (wpAny_pure ?_)))))
    show wpAny _ _ (match Builtin.Slice.sliceAdjust none none (-1) (xs.toArray.size : Int) with | (lo, hi) => pure (lo, (-1 : Int), Builtin.Slice.slicePlaces lo hi (-1))) _ _ s
    rw [ha]
    show wpAny _ _ (pure ((xs.length : Int) - 1, (-1 : Int), Builtin.Slice.slicePlaces ((xs.length : Int) - 1) (-1) (-1))) _ _ s
    rw [hpl]
    exact wpAny_pure hR
  refine wpAny_bind (hap ?_)
  have hsz : sizeOk (.seq xs.reverse.toArray) := by
    show xs.reverse.toArray.size ≤ sizeLine
    rw [List.size_toArray, List.length_reverse, ← lim_eq]
    exact hz
  have hp : ((List.range xs.length).filterMap fun (k : Nat) => xs.toArray[(((xs.length : Int) - 1) + (k : Int) * (-1)).toNat]?).toArray = xs.reverse.toArray := by rw [rev_pick]
  show wpAny _ _ (if (((xs.length : Int) - 1) == 0 && (-1 : Int) == 1 && xs.length == xs.toArray.size) = true then _ else _) _ _ s
  rw [if_neg (by simp), hp]
  first
    | exact wpAny_bind (m := Builtin.Tuple.tupleExact _) (wpAny_newObj_type (wpAny_pure ⟨_, rfl, wpAny_pure h2⟩) hsz)
    | exact wpAny_bind (m := Builtin.Tuple.tupleExact _) (wpAny_newObj_type (wpAny_bind (wpAny_pure (wpAny_pure ⟨_, rfl, wpAny_pure h2⟩))) hsz)
    | exact wpAny_bind (wpAny_bind (m := Builtin.Tuple.tupleExact _) (wpAny_newObj_type (wpAny_pure (wpAny_pure ⟨_, rfl, wpAny_pure h2⟩)) hsz))
theorem grown_none {h h' : Heap} (g : ∀ b o, h.get? b = some o → h'.get? b = some o) : h.get? h'.objs.size = none := by
  cases e : h.get? h'.objs.size with
  | none => rfl
  | some o => exact absurd (Heap.lt_size (g _ _ e)) (Nat.lt_irrefl _)
theorem se_rev {v : Expr} {k : Nat} {p p' p'' pos : Pos} {a : CE} (H : SE prog w base ec G n Φ sc v a) : SE prog w base ec G n Φ sc (.Subscript v (.Slice none none (some (.UnaryOp .USub (.Constant (.int 1) k p) p')) p'') pos) (.rev a) := by
  intro A env ρ σ σ' av S μ s Q E hA hs I F q P
  refine ob q fun x q₁ q => ob q fun dx e₁ q => ob q fun r e₂ q => ?_
  obtain rfl := (pr q).1
  obtain rfl := (pr q).2
  refine Subscript_ (seq1 H hA hs I F q₁ fun o h₁ tk₁ S₁ x₁ r₁ F₁ => ?_)
  refine wpAny_Slice (wpAny_pure (wpAny_pure (wpAny_UnaryOp (wpAny_Constant_int (PySem.P.neg_int ?_)))))
  have t₁ := rtOf x₁.inv r₁ e₁
  cases dx <;> first | exact nsm e₂ | skip
  rename_i xs
  refine og e₂ fun hz e₂' => ?_
  obtain rfl := Option.some.inj e₂'
  obtain ⟨b, vs, m, rfl, s1, e, rl⟩ := t₁.tupD
  have g : ∀ o b o', h₁.get? b = some o' → (h₁.push o).get? b = some o' := fun o => push_grow h₁ o
  refine tail_any ⟨_, g _ _ _ e, rfl⟩ PySem.F.slot_tuple_getitem.lookup (tuple_rev (g _ _ _ e) (Heap.IsSliceOf.new ..) (by rw [rl.length]; exact hz) ?_) (ops := [.ref b, _]) rfl
  exact (post_prim x₁ P).tup (s := { s with heap := h₁, toks := tk₁ }) (fun b o q => push_grow _ _ b o (g _ b o q)) (grown_none (g _)) (Heap.get?_push_size _ rfl) rl.reverse _
theorem cell_set {S : Addr → Prop} {μ : List Addr} {σ : Store} {h h' : Heap} {c : Nat} {ds ds' : List PyData} {a : Addr} {vs' : List Value} {m' : Nat} (I : Inv base S μ σ h) (hc : σ[c]? = some (.live, ds)) (ha : μ[c]? = some a) (sb : Heap.SameBut a h h') (e : h'.get? a = some (lstO vs' m')) (r : RdL h S vs' ds') :
    Ev base μ S S σ (σ.set c (.live, ds')) h h' := by
  obtain ⟨vs, m, e0, r0, _, hS⟩ := I.cells c a _ ds ha hc
  have hS : ¬ S a := hS (by intro q; cases q)
  have kS : ∀ b o, S b → h.get? b = some o → h'.get? b = some o := fun b o hb e => sb.extBut b o (fun q => hS (q ▸ hb)) e
  have hL : Live μ σ a := ⟨c, ds, ha, hc⟩
  refine ⟨fun _ q => q, fun _ q => .inl q, ⟨fun b o eb => sb.extBut b o (fun q => ?_) (I.keepB b o eb), by rw [List.length_set]; exact I.len, fun i b f es e1 e2 => ?_, I.nodup, I.new, fun b hb => ?_, fun L z => ⟨(I.zs L z).1, (I.zs L z).2.grow fun o eo => sb.extBut L o (fun q => ?_) eo⟩⟩, fun b o hb e => .inl (sb.extBut b o (fun q => hb (q ▸ hL)) e), fun b l => ?_⟩
  · have := I.new a (List.mem_of_getElem? ha)
    rw [← q, eb] at this; cases this
  · by_cases q : c = i
    · subst q
      rw [set_at hc] at e2; cases e2
      rw [ha] at e1; cases e1
      exact ⟨vs', m', e, r.mono kS fun _ q => q, fun z => (nomatch z), fun _ => hS⟩
    · rw [set_ne q] at e2
      obtain ⟨us, k, k1, k2, k3, k4⟩ := I.cells i b f es e1 e2
      refine ⟨us, k, sb.extBut b _ (fun z => q ?_) k1, k2.mono kS fun _ q => q, k3, k4⟩
      subst z
      exact I.nodup c i _ ha e1
  · obtain ⟨o, eo, p⟩ := I.inS b hb
    exact ⟨o, kS b o hb eo, p⟩
  · exact (I.zs L z).2.plain (q ▸ e0) (lst_plain _ _).1
  · obtain ⟨i, es, e1, e2⟩ := l
    by_cases q : c = i
    · subst q; exact ⟨c, ds, e1, hc⟩
    · rw [set_ne q] at e2; exact ⟨i, es, e1, e2⟩
theorem upd_list {h : Heap} {a : Addr} {vs : List Value} {m : Nat} (e : h.get? a = some (lstO vs m)) (f : Array Value → Array Value) : ∃ m', (h.update a (Obj.mapSeq f)).get? a = some (lstO (f vs.toArray).toList m') := by
  have := IsL.update (h := h) (l := a) (items := vs.toArray) (n := m) e f
  have this' : (h.update a (Obj.mapSeq f)).get? a = some { cls := .type "list", data := .seq (f vs.toArray) (if (f vs.toArray).size == vs.toArray.size then m else m + 1) } := this
  exact ⟨_, by rw [this']⟩
theorem var_cell {A : Around} {env : Env} {ρ : Rho} {σ : Store} {S : Addr → Prop} {μ : List Addr} {s : Shared} {E : Value → Shared → Prop} {Q : Value → Shared → Prop} {x : Str} {p : Pos} {i c : Nat} (hs : ScOk env sc) (I : Inv base S μ σ s.heap) (F : FrOk base ec G.V S μ env ρ s.heap) (hx : varOf G sc x = some i) (hi : ρ i = some (.cell c))
    (h : ∀ a vs m, μ[c]? = some a → s.heap.get? a = some (lstO vs m) → Q (.ref a) s) : wpAny (model prog w) A (eval (.Name x p) env) Q E s := by
  refine var_inv hx fun h1 h2 h3 => eval_var F ((hs.var x).trans h1) h2 h3 hi fun v r => ?_
  cases r with
  | @cell _ a ha => exact (I.mem (List.mem_of_getElem? ha)).elim fun vs q => q.elim fun m e => h a vs m ha e
theorem method_list {A : Around} {E : Value → Shared → Prop} {Q : Value → Shared → Prop} {s : Shared} {name : Str} {id : String} {a : Addr} {vs : List Value} {m : Nat} {pos : Pos} {args : List (Bool × Sem Value)} (slot : Slot "list" name id) (ty : typeOf (.builtin id) = pure (.type "method_descriptor")) (e : s.heap.get? a = some (lstO vs m))
    (h : wpAny (model prog w) A (callWith pos (.builtin id) [.ref a] args []) Q E s) : MethodOnS prog w A E name (.ref a) pos args Q s :=
  ⟨"list", id, PySem.F.plainAttrs_list, slot, ty, ⟨_, e, rfl⟩, fun b q => by cases q; exact ⟨_, e, rfl⟩, h⟩
theorem RdL.last {h : Heap} {S : Addr → Prop} {vs : List Value} {ds : List PyData} {d : PyData} (r : RdL h S vs ds) (e : ds.getLast? = some d) : ∃ v, vs[vs.length - 1]? = some v ∧ Rd h S v d := by
  rw [List.getLast?_eq_getElem?, ← r.length] at e
  exact r.get e
theorem erase_last (vs : List Value) : (vs.toArray.eraseIdxIfInBounds (vs.toArray.size - 1)).toList = vs.dropLast := by
  rw [List.eraseIdxIfInBounds_toArray, List.size_toArray, List.toList_toArray, List.eraseIdx_length_sub_one]
theorem se_pop {x m : Str} {p p' pos : Pos} {i : Nat} (hm : (m == ("pop" : Str)) = true) (hline : (p'.endLine == pos.line) = true) (hx : varOf G sc x = some i) : SE prog w base ec G n Φ sc (.Call (.Attribute (.Name x p) m p') [] [] pos) (.pop i) := by
  intro A env ρ σ σ' av S μ s Q E hA hs I F q P
  refine ob q fun k h1 q => ob q fun ds h2 q => og q fun hz q => ob q fun d h3 q => ?_
  obtain rfl := (pr q).1
  obtain rfl := (pr q).2
  cases eq_of_beq hm
  refine Call_method0 rfl hline (var_cell hs I F hx (cellIn_eq h1) fun a vs j ha e => ?_)
  obtain ⟨vs₂, m₂, e₂, rl, _⟩ := I.cells k a _ ds ha (liveAt_eq h2)
  obtain ⟨v, hv, rv⟩ := rl.last h3
  refine method_list PySem.F.slot_list_pop PySem.F.type_list_pop e₂ (PySem.P.pop_list (items := vs₂.toArray) (n := m₂) e₂ (y := v) (by rw [List.getElem?_toArray, List.size_toArray]; exact hv) ?_ (by rw [List.size_toArray, rl.length, ← lim_eq]; exact hz))
  obtain ⟨m₃, e₃⟩ := upd_list e₂ (fun xs => xs.eraseIdxIfInBounds (vs₂.toArray.size - 1))
  rw [erase_last, List.dropLast_eq_take] at e₃
  have y := cell_set (ds' := ds.dropLast) I (liveAt_eq h2) ha (Heap.SameBut.update ..) e₃ (by rw [List.dropLast_eq_take, ← rl.length]; exact rl.take _)
  exact P v _ s.toks S y (.old (.dat (rv.mono (fun b o hb e => y.keepS I b o hb e) fun _ q => q)))
theorem se_pop0 {x m : Str} {p p' p'' pos : Pos} {k : Nat} {i : Nat} (hm : (m == ("pop" : Str)) = true) (hline : (p'.endLine == pos.line) = true) (hx : varOf G sc x = some i) : SE prog w base ec G n Φ sc (.Call (.Attribute (.Name x p) m p') [.Constant (.int 0) k p''] [] pos) (.pop0 i) := by
  intro A env ρ σ σ' av S μ s Q E hA hs I F q P
  refine ob q fun k h1 q => ob q fun ds h2 q => og q fun hz q => ob q fun d h3 q => ?_
  obtain rfl := (pr q).1
  obtain rfl := (pr q).2
  cases eq_of_beq hm
  refine Call_method1 rfl rfl hline (var_cell hs I F hx (cellIn_eq h1) fun a vs j ha e => ?_)
  obtain ⟨vs₂, m₂, e₂, rl, _⟩ := I.cells k a _ ds ha (liveAt_eq h2)
  cases ds with
  | nil => exact nsm h3
  | cons d' ds =>
    cases h3
    cases rl with
    | @cons v vs₂ _ _ rv rl =>
      refine method_list PySem.F.slot_list_pop PySem.F.type_list_pop e₂ (method1_meets PySem.F.slot_list_pop PySem.F.entry_list_pop (wpAny_Constant_int ⟨⟨_, e₂, rfl⟩, PySem.F.args_list_pop_2 _ _, _, MeetsSeq.list_pop_at a (v :: vs₂).toArray m₂ 0 _ 0 v (by decide) (by unfold seqIndex?; simp) rfl (by rw [List.size_toArray, List.length_cons, rl.length, ← lim_eq]; exact hz), e₂, ?_⟩))
      obtain ⟨m₃, e₃⟩ := upd_list e₂ (fun xs => xs.eraseIdxIfInBounds 0)
      have y := cell_set (ds' := ds) I (liveAt_eq h2) ha (Heap.SameBut.update ..) e₃ (by rw [List.eraseIdxIfInBounds_toArray]; exact rl)
      exact P v _ _ S y (.old (.dat (rv.mono (fun b o hb e => y.keepS I b o hb e) fun _ q => q)))
theorem strsD_ok {h : Heap} {S : Addr → Prop} : ∀ {ds : List PyData} {ss : List Str} {vs : List Value}, strsD ds = some ss → RdL h S vs ds → PyProof.Rows.StrsAre vs ss
  | [], _, _, e, .nil => os (P := fun ss => PyProof.Rows.StrsAre [] ss) e .nil
  | _ :: _, _, _, e, .cons x r => ob e fun b h1 e => ob e fun bs h2 e => os (P := fun ss => PyProof.Rows.StrsAre _ ss) e (by
      cases strD_eq h1
      cases x with
      | str _ t => exact .cons b t (strsD_ok h2 r))
theorem se_join {x m : Str} {p p' pos : Pos} {k : Nat} {e : Expr} {c : CE} (hm : (m == ("join" : Str)) = true) (hline : (p'.endLine == pos.line) = true) (hn : noStar e = true) (H : SE prog w base ec G n Φ sc e c) : SE prog w base ec G n Φ sc (.Call (.Attribute (.Constant (.str x) k p) m p') [e] [] pos) (.prim .join [.const (.str x), c]) := by
  intro A env ρ σ σ' av S μ s Q E hA hs I F q P
  refine i_prim q fun vs ds q₁ q₂ q₃ => i_lcons q₁ fun v σ₁ vs' k1 k2 z1 => i_lcons k2 fun v' σ₂ vs'' k3 k4 z2 => ?_
  subst z1
  subst z2
  obtain ⟨rfl, rfl⟩ := i_lnil k4
  obtain rfl := (pr k1).1
  obtain rfl := (pr k1).2
  refine ob q₂ fun d1 e1 q₂ => ob q₂ fun ds' e2 q₂ => ob e2 fun d2 e3 e2 => ?_
  obtain rfl := Option.some.inj e2
  obtain rfl := Option.some.inj q₂
  obtain rfl := Option.some.inj e1
  refine ob q₃ fun ys h3 q₄ => ob q₄ fun ss h4 q₅ => og q₅ fun hz q₆ => ?_
  cases listD_eq h3
  obtain rfl := Option.some.inj q₆
  cases eq_of_beq hm
  refine Call_method1 rfl (starEach_no hn) hline (PySem.wpAny_Constant_str ⟨"str", _, PySem.F.plainAttrs_str, PySem.F.slot_str_join, PySem.F.type_str_join, typeIs_str _ _ _, (fun _ e => nomatch e), Calls.callWith_builtin rfl (evalArgs_plain (spliced_cons (seq1 (s := { s with toks := s.toks + 1 }) H hA hs I F k3 fun u h' tk S' x r F' => spliced_nil ?_)))⟩)
  have t := r.rt x.inv e3
  obtain ⟨b, us, mb, rfl, eb, rb⟩ := t.lstD
  refine join_list (s := { s with heap := h', toks := tk }) (items := us.toArray) ⟨_, eb, rfl, mb, rfl⟩ (strsD_ok h4 rb) hz fun t' k' => ?_
  exact P _ h' k' S' x (.old (.dat (by
    show Rd h' S' (.str (Builtin.Str.glued _ ss) t') _
    rw [StrLaws.glued_eq_join]
    exact .str _ _)))
end
end Mine
namespace Mine
open PySem PySem.Calls PyProof.Rows
section
variable {prog : Program} {w : World} {base : Bs} {ec : ExcCls} {G : Cfg} {n : Nat} {Φ : Phi}
theorem trL_ses {f : Expr → Option CE} {sc : Sc} (hf : ∀ e c, f e = some c → SE prog w base ec G n Φ sc e c) : ∀ {es : List Expr} {cs : List CE}, trL f es = some cs → es.all noStar = true → SEs prog w base ec G n Φ sc es cs
  | [], _, h, _ => os (P := SEs prog w base ec G n Φ sc []) h .nil
  | _ :: _, _, h, hn => ob h fun c hc h => ob h fun cs hcs h => os (P := SEs prog w base ec G n Φ sc _) h (ba hn fun h1 h2 => .cons h1 (hf _ c hc) (trL_ses hf hcs h2))
theorem trL_sbs {f : Expr → Option CE} {sc : Sc} (hf : ∀ e c, f e = some c → SB prog w base ec G n Φ sc e c) : ∀ {es : List Expr} {cs : List CE}, trL f es = some cs → SBs prog w base ec G n Φ sc es cs
  | [], _, h => os (P := SBs prog w base ec G n Φ sc []) h .nil
  | _ :: _, _, h => ob h fun c hc h => ob h fun cs hcs h => os (P := SBs prog w base ec G n Φ sc _) h (.cons (hf _ c hc) (trL_sbs hf hcs))
theorem isG_inv {sc : Sc} {g h : Str} {P : Prop} (q : isG sc g h = true) (k : isGlob sc g = true → okName g = true → (g == h) = true → P) : P := ba q fun h1 q => ba q fun h2 h3 => k h1 h2 h3
theorem trI2_inv {f : Expr → Option CE} {k : ItK} {args : List Expr} {r : ItK × List CE} {P : List Expr → ItK × List CE → Prop} (h : trI2 f k args = some r) (q : ∀ a b c d, noStar a = true → noStar b = true → f a = some c → f b = some d → P [a, b] (k, [c, d])) : P args r :=
  ob h fun p h1 h => ob h fun c h2 h => ob h fun d h3 h => a_two (P := fun es => P es r) h1 fun h4 h5 => os (P := P [p.1, p.2]) h (q _ _ c d h4 h5 h2 h3)
theorem trI1_ok (W : Wd base ec G) {f : Expr → Option CE} {sc : Sc} (hf : ∀ e c, f e = some c → SE prog w base ec G n Φ sc e c) {e : Expr} {r : ItK × List CE} (h : trI1 sc f e = some r) : SI prog w base ec G n Φ sc e r.1 r.2 :=
  og h fun h1 h => ob h fun c h2 h => os (P := fun r => SI prog w base ec G n Φ sc e r.1 r.2) h (si_seq W.cold h1 (hf _ _ h2))
theorem trI_ok (W : Wd base ec G) {f : Expr → Option CE} {sc : Sc} (hf : ∀ e c, f e = some c → SE prog w base ec G n Φ sc e c) {e : Expr} {r : ItK × List CE} (h : trI sc f e = some r) : SI prog w base ec G n Φ sc e r.1 r.2 := by
  unfold trI at h
  cases q : nameCall e with
  | none => rw [q] at h; exact trI1_ok W hf h
  | some p =>
    rw [q] at h
    replace h : (if isG sc p.1 "range" = true then trIr f p.2 else if isG sc p.1 "zip" = true then trI2 f .zip p.2 else trI1 sc f e) = some r := h
    by_cases h1 : isG sc p.1 "range" = true
    · rw [if_pos h1] at h
      refine e_call (P := fun e => SI prog w base ec G n Φ sc e r.1 r.2) q fun p1 p2 => isG_inv h1 fun g1 g2 g3 => ?_
      unfold trIr at h
      cases q1 : args1 p.2 with
      | some a => rw [q1] at h; exact ob h fun c h2 h => os (P := fun r => SI prog w base ec G n Φ sc _ r.1 r.2) h (a_one (P := fun es => SI prog w base ec G n Φ sc (.Call (.Name p.1 p1) es [] p2) _ _) q1 fun h3 => si_range1 W g1 g2 g3 h3 (hf _ _ h2))
      | none => rw [q1] at h; exact nsm h
    · rw [if_neg h1] at h
      by_cases h2 : isG sc p.1 "zip" = true
      · rw [if_pos h2] at h
        exact e_call (P := fun e => SI prog w base ec G n Φ sc e r.1 r.2) q fun p1 p2 => isG_inv h2 fun g1 g2 g3 => trI2_inv (P := fun es r => SI prog w base ec G n Φ sc (.Call (.Name p.1 p1) es [] p2) r.1 r.2) h fun a b c d h1 h2 h3 h4 => si_zip W g1 g2 g3 h1 h2 (hf _ _ h3) (hf _ _ h4)
      · rw [if_neg h2] at h
        exact trI1_ok W hf h
section
variable {f : Expr → Option CE} {sc : Sc} (hf : ∀ e c, f e = some c → SE prog w base ec G n Φ sc e c)
include hf
theorem trCmp1_ok {l : Expr} {a : CE} (ha : SE prog w base ec G n Φ sc l a) {op : CmpOp} {rs : List Expr} {pos : Pos} {c : CE} (h : trCmp1 f a op rs = some c) : SB prog w base ec G n Φ sc (.Compare l [op] rs pos) c := by
  cases rs with
  | nil => exact nsm h
  | cons r t => exact og h fun h1 h => ob h fun b hb h => og h fun hn h => os (P := SB prog w base ec G n Φ sc _) h (l_one (P := fun t => SB prog w base ec G n Φ sc (.Compare l [op] (r :: t) pos) _) h1 ⟨se_cmp hn ha (hf _ _ hb), st_cmp hn ha (hf _ _ hb)⟩)
theorem trCmp2_ok {l : Expr} {a : CE} (ha : SE prog w base ec G n Φ sc l a) {o1 o2 : CmpOp} {rs : List Expr} {pos : Pos} {c : CE} (h : trCmp2 f a o1 o2 rs = some c) : SB prog w base ec G n Φ sc (.Compare l [o1, o2] rs pos) c := by
  cases rs with
  | nil => exact nsm h
  | cons m t =>
    refine ob h fun b hb h => ?_
    cases t with
    | nil => exact nsm h
    | cons r t => exact og h fun h1 h => ob h fun d hd h => og h fun hn h => os (P := SB prog w base ec G n Φ sc _) h (l_one (P := fun t => SB prog w base ec G n Φ sc (.Compare l [o1, o2] (m :: r :: t) pos) _) h1 ⟨se_cmp2 hn ha (hf _ _ hb) (hf _ _ hd), st_cmp2 hn ha (hf _ _ hb) (hf _ _ hd)⟩)
theorem trCmp_ok {l : Expr} {a : CE} (ha : SE prog w base ec G n Φ sc l a) {ops : List CmpOp} {rs : List Expr} {pos : Pos} {c : CE} (h : trCmp f a ops rs = some c) : SB prog w base ec G n Φ sc (.Compare l ops rs pos) c := by
  cases ops with
  | nil => exact nsm h
  | cons o1 t =>
    cases t with
    | nil => exact trCmp1_ok hf ha h
    | cons o2 t => exact og h fun h1 h => l_one (P := fun t => SB prog w base ec G n Φ sc (.Compare l (o1 :: o2 :: t) rs pos) c) h1 (trCmp2_ok hf ha h)
theorem optE_ok {o : Option Expr} {c : CE} (h : optE f o = some c) : (∃ x, o = some x ∧ SE prog w base ec G n Φ sc x c) ∨ (o = none ∧ c = .const .none) := by
  cases o with
  | none => exact .inr ⟨rfl, (Option.some.inj h).symm⟩
  | some x => exact .inl ⟨x, rfl, hf _ _ h⟩
theorem trSl_ok {v : Expr} {a : CE} (ha : SE prog w base ec G n Φ sc v a) {lo hi st : Option Expr} {pos p' : Pos} {c : CE} (h : trSl f a lo hi st = some c) : SE prog w base ec G n Φ sc (.Subscript v (.Slice lo hi st p') pos) c := by
  cases st with
  | none => exact ob h fun l hl h => ob h fun u hu h => os (P := SE prog w base ec G n Φ sc _) h (se_slice ha (optE_ok hf hl) (optE_ok hf hu))
  | some e =>
    refine og h fun h1 h' => ba h1 fun h1 h2 => ba h2 fun h2 h3 => ?_
    cases lo with
    | some _ => exact bft h1
    | none => cases hi with
      | some _ => exact bft h2
      | none => exact os (P := SE prog w base ec G n Φ sc _) h' (e_rev (P := fun e => SE prog w base ec G n Φ sc (.Subscript v (.Slice none none (some e) p') pos) _) h3 fun j p p' => se_rev ha)
theorem trSub_ok {v i : Expr} {a : CE} (ha : SE prog w base ec G n Φ sc v a) {pos : Pos} {c : CE} (h : trSub f a i = some c) : SE prog w base ec G n Φ sc (.Subscript v i pos) c := by
  cases q : noSlice i with
  | true =>
    have h : (f i).bind (fun b => some (.idx a b)) = some c := by
      cases i <;> first | exact bft q | exact h
    exact ob h fun b hb h => os (P := SE prog w base ec G n Φ sc _) h (se_idx q ha (hf _ _ hb))
  | false => cases i <;> first | exact trSl_ok hf ha h | cases q
theorem trIsi_ok (W : Wd base ec G) {g : Str} {p pos : Pos} {x t : Expr} {a c : CE} (hn : noStar x = true) (hg : isGlob sc g = true) (ho : okName g = true) (hgi : (g == ("isinstance" : Str)) = true) (H : SE prog w base ec G n Φ sc x a) (h : trIsi G sc a t = some c) :
    SE prog w base ec G n Φ sc (.Call (.Name g p) [x, t] [] pos) c :=
  ob h fun y hy h => og h fun h1 h => ob h fun ty ht h => os (P := SE prog w base ec G n Φ sc _) h (ba h1 fun h1 h2 => e_name (P := fun t => SE prog w base ec G n Φ sc (.Call (.Name g p) [x, t] [] pos) _) hy fun p' => se_isin W hn hg ho hgi h1 h2 ht H)
theorem trCallN_ok (W : Wd base ec G) (HP : PhiOk prog w base ec G n Φ) {g : Str} {p pos : Pos} {args : List Expr} {c : CE} (h : trCallN G sc f g args = some c) : SE prog w base ec G n Φ sc (.Call (.Name g p) args [] pos) c := by
  refine og h fun h1 h => ba h1 fun h1 h2 => ba h2 fun h2 h3 => ba h3 fun h3 h4 => ?_
  have hne : args ≠ [] := fun q => by rw [q] at h4; exact bft h4
  cases hk : slotL (G.fns.map (·.1)) 0 g with
  | some k => rw [hk] at h; exact ob h fun cs hc h => os (P := SE prog w base ec G n Φ sc _) h (se_call W HP h1 h2 hk hne (trL_ses hf hc h3))
  | none =>
    rw [hk] at h
    replace h : (if (g == ("isinstance" : Str)) = true then (args2 args).bind fun p => (f p.1).bind fun a => trIsi G sc a p.2 else (primOf g).bind fun p => (trL f args).bind fun cs => some (.prim p cs)) = some c := h
    by_cases hi : (g == ("isinstance" : Str)) = true
    · rw [if_pos hi] at h
      exact ob h fun q hq h => ob h fun a ha h => a_two (P := fun args => SE prog w base ec G n Φ sc (.Call (.Name g p) args [] pos) c) hq fun n1 _ => trIsi_ok hf W n1 h1 h2 hi (hf _ _ ha) h
    · rw [if_neg hi] at h
      exact ob h fun q hq h => ob h fun cs hc h => os (P := SE prog w base ec G n Φ sc _) h (se_prim W h1 h2 hq hne (trL_ses hf hc h3))
theorem trCallA_ok {o : Expr} {m : Str} {p pos : Pos} {args : List Expr} {c : CE} (h : trCallA G sc f o m args (p.endLine == pos.line) = some c) : SE prog w base ec G n Φ sc (.Call (.Attribute o m p) args [] pos) c := by
  refine og h fun hln h => ?_
  replace h : (if (m == ("pop" : Str)) = true then (nameOf o).bind fun x => (varOf G sc x).bind fun i => trPop i args else if (m == ("join" : Str)) = true then (strOf o).bind fun x => trJoin f x args else none) = some c := h
  by_cases hm : (m == ("pop" : Str)) = true
  · rw [if_pos hm] at h
    refine ob h fun x hx h => ob h fun i hi h => e_name (P := fun o => SE prog w base ec G n Φ sc (.Call (.Attribute o m p) args [] pos) c) hx fun p' => ?_
    cases args with
    | nil => exact os (P := SE prog w base ec G n Φ sc _) h (se_pop hm hln hi)
    | cons z r => exact og h fun h1 h => os (P := SE prog w base ec G n Φ sc _) h (ba h1 fun h1 h2 => l_one (P := fun r => SE prog w base ec G n Φ sc (.Call (.Attribute (.Name x p') m p) (z :: r) [] pos) _) h2 (e_int (P := fun z => SE prog w base ec G n Φ sc (.Call (.Attribute (.Name x p') m p) [z] [] pos) _) h1 fun j p'' => se_pop0 hm hln hi))
  · rw [if_neg hm] at h
    exact og h fun hm h => ob h fun x hx h => ob h fun a ha h => ob h fun d hd h => os (P := SE prog w base ec G n Φ sc _) h (e_str (P := fun o => SE prog w base ec G n Φ sc (.Call (.Attribute o m p) args [] pos) _) hx fun j p' => a_one (P := fun args => SE prog w base ec G n Φ sc (.Call (.Attribute (.Constant (.str x) j p') m p) args [] pos) _) ha fun hn => se_join hm hln hn (hf _ _ hd))
end
theorem comp_eta {P : Comprehension → Prop} : ∀ {g : Comprehension}, (g.is_async == 0) = true → P ⟨g.target, g.iter, g.ifs, 0⟩ → P g
  | ⟨_, _, _, _⟩, h, k => by cases eq_of_beq h; exact k
theorem comp_parts {sc : Sc} {f : Sc → Expr → Option CE} {elt : Expr} {g : Comprehension} {scope : Scope} {c : CE} {P : Comprehension → CE → Prop} (h : trComp G sc f elt g scope = some c)
    (k : ∀ target iter ifs tg r ce cs, scopeFits sc scope = true → localT scope.names target = true → trT G scope.names target = some tg → trI sc (f sc) iter = some r → f scope.names elt = some ce → trL (f scope.names) ifs = some cs → tgtFits r.1 tg = true → locsIn G scope tg = true → P ⟨target, iter, ifs, 0⟩ (.comp ce tg r.1 r.2 cs)) : P g c :=
  og h fun h1 h => ob h fun tg h2 h => ob h fun r h3 h => ob h fun ce h4 h => ob h fun cs h5 h => og h fun h6 h => ba h1 fun h0 h1 => ba h1 fun h7 h8 => ba h6 fun h9 h10 => os (P := P g) h (comp_eta (P := fun g => P g (.comp ce tg r.1 r.2 cs)) h0 (k g.target g.iter g.ifs tg r ce cs h7 h8 h2 h3 h4 h5 h9 h10))
theorem sb_of {sc : Sc} {e : Expr} {c : CE} (he : ∀ env whole, isTrue e env whole = (do let v ← whole; standAt e.pos; holding [v] (truthy v))) (H : SE prog w base ec G n Φ sc e c) : SB prog w base ec G n Φ sc e c := ⟨H, st_of_se he H⟩
theorem trName_ok (W : Wd base ec G) {sc : Sc} {x : Str} {p : Pos} {c : CE} (h : trName G sc x = some c) : SE prog w base ec G n Φ sc (.Name x p) c := by
  replace h : (if isVar sc x = true then (varOf G sc x).bind fun i => some (.var i) else if (isGlob sc x && okName x) = true then (G.consts.lookup x).bind fun d => some (.const d) else none) = some c := h
  by_cases q : isVar sc x = true
  · rw [if_pos q] at h; exact ob h fun i hi h => os (P := SE prog w base ec G n Φ sc _) h (se_var hi)
  · rw [if_neg q] at h; exact og h fun h1 h => ob h fun d hd h => os (P := SE prog w base ec G n Φ sc _) h (ba h1 fun h1 h2 => se_cst W h1 h2 hd)
theorem unE_ok {sc : Sc} {op : UnaryOp} {x : Expr} {a c : CE} {p : Pos} (H : SB prog w base ec G n Φ sc x a) (h : unE op a = some c) : SB prog w base ec G n Φ sc (.UnaryOp op x p) c := by
  cases op <;> first | exact nsm h | skip
  · exact os (P := SB prog w base ec G n Φ sc _) h ⟨se_not H.1, st_not H.2⟩
  · exact os (P := SB prog w base ec G n Φ sc _) h (sb_of (fun _ _ => rfl) (se_neg H.1))
theorem trCall_ok (W : Wd base ec G) (HP : PhiOk prog w base ec G n Φ) {f : Expr → Option CE} {sc : Sc} (hf : ∀ e c, f e = some c → SE prog w base ec G n Φ sc e c) {g : Expr} {pos : Pos} {args : List Expr} {c : CE} (h : trCall G sc f args pos g = some c) : SE prog w base ec G n Φ sc (.Call g args [] pos) c := by
  cases g <;> first | exact nsm h | exact trCallN_ok hf W HP h | exact trCallA_ok hf h
theorem comp1_inv {l : List Comprehension} {g : Comprehension} {P : List Comprehension → Prop} (h : comp1 l = some g) (k : P [g]) : P l := by
  cases l with
  | nil => exact nsm h
  | cons a r => exact og h fun h1 h => l_one (P := fun r => P (a :: r)) h1 (os (P := fun g => P [g] → P [a]) h id k)
theorem trE_ok (W : Wd base ec G) (HP : PhiOk prog w base ec G n Φ) : ∀ (m : Nat) (sc : Sc) (e : Expr) (c : CE), trE G m sc e = some c → SB prog w base ec G n Φ sc e c
  | 0, _, _, _, h => nsm h
  | m + 1, sc, e, c, h => by
    have ih := trE_ok W HP m
    have ihE : ∀ sc e c, trE G m sc e = some c → SE prog w base ec G n Φ sc e c := fun sc e c h => (ih sc e c h).1
    cases e <;> first | exact nsm h | skip
    · exact og h fun h1 h => ob h fun cs hc h => os (P := SB prog w base ec G n Φ sc _) h ⟨se_bop (fun q => by rw [q] at h1; cases h1) (trL_sbs (ih _) hc), st_bop (trL_sbs (ih _) hc)⟩
    · exact sb_of (fun _ _ => rfl) (ob h fun a ha h => ob h fun b hb h => os (P := SE prog w base ec G n Φ sc _) h (se_bin (ihE _ _ _ ha) (ihE _ _ _ hb)))
    · exact ob h fun a ha h => unE_ok (ih _ _ _ ha) h
    · exact ob h fun x hx h => ob h fun y hy h => ob h fun z hz h => os (P := SB prog w base ec G n Φ sc _) h ⟨se_ite (ih _ _ _ hx).2 (ihE _ _ _ hy) (ihE _ _ _ hz), st_ite (ih _ _ _ hx).2 (ih _ _ _ hy).2 (ih _ _ _ hz).2⟩
    · exact sb_of (fun _ _ => rfl) (ob h fun g hg h => comp1_inv (P := fun l => SE prog w base ec G n Φ sc (.ListComp _ l _ _) c) hg (comp_parts (P := fun g c => SE prog w base ec G n Φ sc (.ListComp _ [g] _ _) c) h fun target iter ifs tg r ce cs h1 h2 h3 h4 h5 h6 h7 h8 => se_comp W.cold (scopeFits_ok h1) h8 h7 h3 h2 (trI_ok W (ihE _) h4) (ihE _ _ _ h5) (trL_sbs (ih _) h6)))
    · exact ob h fun a ha h => trCmp_ok (ihE _) (ihE _ _ _ ha) h
    · exact sb_of (fun _ _ => rfl) (og h fun h1 h => l_one (P := fun kws => SE prog w base ec G n Φ sc (.Call _ _ kws _) c) h1 (trCall_ok W HP (ihE _) h))
    · exact sb_of (fun _ _ => rfl) (ob h fun d hd h => os (P := SE prog w base ec G n Φ sc _) h (se_const hd))
    · exact sb_of (fun _ _ => rfl) (ob h fun a ha h => trSub_ok (ihE _) (ihE _ _ _ ha) h)
    · exact sb_of (fun _ _ => rfl) (trName_ok W h)
    · exact sb_of (fun _ _ => rfl) (og h fun h1 h => ob h fun cs hc h => os (P := SE prog w base ec G n Φ sc _) h (ba h1 fun h1 h2 => se_lst (of_decide_eq_true h1) (trL_ses (ihE _) hc h2)))
    · exact sb_of (fun _ _ => rfl) (og h fun h1 h => ob h fun cs hc h => os (P := SE prog w base ec G n Φ sc _) h (ba h1 fun h1 h2 => se_tup (of_decide_eq_true h1) (trL_ses (ihE _) hc h2)))
end
end Mine
namespace Mine
open PySem PySem.Calls PyProof.Rows
noncomputable def FrZ (base : Bs) (h : Heap) (l : List Env) : Prop := ∀ env ∈ l, env.scope.kind ≠ .module ∧ ∃ L o es n, env.frame = some L ∧ base.get? L = none ∧ h.get? L = some o ∧ o.data = .dict es n
theorem FrZ.frames {base : Bs} {h : Heap} : ∀ {l : List Env}, FrZ base h l → h.FunFrames base.hp l
  | [], _ => trivial
  | env :: l, z => by
    obtain ⟨hk, L, o, es, n, h1, h2, h3, h4⟩ := z env (.head _)
    exact ⟨hk, ⟨L, o, h1, h2, h3, fun vs q => by rw [h4] at q; cases q⟩, FrZ.frames fun e he => z e (.tail _ he)⟩
theorem FrZ.keep {base : Bs} {h h' : Heap} {l : List Env} (z : FrZ base h l) (k : ∀ L o es n, base.get? L = none → h.get? L = some o → o.data = .dict es n → Lk o (h'.get? L)) : FrZ base h' l := fun env he => by
  obtain ⟨hk, L, o, es, n, h1, h2, h3, h4⟩ := z env he
  refine ⟨hk, L, ?_⟩
  rcases k L o es n h2 h3 h4 with q | ⟨_, sl, q⟩
  · exact ⟨o, es, n, h1, h2, q, h4⟩
  · exact ⟨_, es, n, h1, h2, q, h4⟩
theorem FrZ.mem {base : Bs} {h : Heap} {l : List Env} (z : FrZ base h l) {b : Addr} (hb : b ∈ l.filterMap (·.frame)) : base.get? b = none ∧ ∃ o es n, h.get? b = some o ∧ o.data = .dict es n := by
  obtain ⟨env, he, hf⟩ := List.mem_filterMap.mp hb
  obtain ⟨_, L, o, es, n, h1, h2, h3, h4⟩ := z env he
  rw [h1] at hf
  cases hf
  exact ⟨h2, o, es, n, h3, h4⟩
structure ExcN (h₀ h : Heap) (S : Addr → Prop) (e : Addr) (cls : Value) (tb : Bool) : Prop where
  new : h₀.get? e = none
  out : ¬ S e
  obj : ∃ oe vs, h.get? e = some oe ∧ (oe.cls = cls ∧ oe.dict = none) ∧ oe.data = .fields vs ∧ ((tb = false ∧ vs[1]? = some .none) ∨ (tb = true ∧ ∃ T oT ts, vs[1]? = some (.ref T) ∧ T ≠ e ∧ h₀.get? T = none ∧ ¬ S T ∧ h.get? T = some oT ∧ oT.data = .fields ts ∧ 3 < ts.size))
theorem dict_mapFields (f : Array Value → Array Value) (o : Obj) : (Obj.mapFields f o).dict = o.dict := by
  unfold Obj.mapFields
  split <;> rfl
structure Noted (h h' : Heap) (e : Addr) (isT : Addr → Prop) (l : List Addr) : Prop where
  rest : ∀ b o, b ≠ e → ¬ isT b → b ∉ l → h.get? b = some o → h'.get? b = some o
  frame : ∀ b o, b ∈ l → h.get? b = some o → ∃ sl, h'.get? b = some { o with slots := sl }
  stay : ∀ b o, h.get? b = some o → ∃ o', h'.get? b = some o'
section
variable {base : Bs} {X : Addr → Prop} {μ μ' : List Addr} {S S' : Addr → Prop} {σ σ' : Store} {h₀ h h' : Heap}
theorem Evo.noted {e : Addr} {isT : Addr → Prop} {l : List Env} (I₀ : Inv base S μ σ h₀) (x : Evo base X μ μ' S S' σ σ' h₀ h) (z : FrZ base h l) (ne : h₀.get? e = none) (oe : ¬ S' e) (fe : ∃ o vs, h.get? e = some o ∧ o.data = .fields vs)
    (nT : ∀ b, isT b → h₀.get? b = none ∧ ¬ S' b ∧ ∃ o vs, h.get? b = some o ∧ o.data = .fields vs) (n : Noted h h' e isT (l.filterMap (·.frame))) : Evo base X μ μ' S S' σ σ' h₀ h' ∧ FrZ base h' l := by
  have hb : ∀ b o, base.get? b = some o → h₀.get? b = some o := I₀.keepB
  have fields : ∀ b o, (b = e ∨ isT b) → h.get? b = some o → ∃ vs, o.data = .fields vs := fun b o q eo => by
    rcases q with rfl | q
    · obtain ⟨o', vs, e1, e2⟩ := fe
      rw [eo] at e1; cases e1
      exact ⟨vs, e2⟩
    · obtain ⟨_, _, o', vs, e1, e2⟩ := nT b q
      rw [eo] at e1; cases e1
      exact ⟨vs, e2⟩
  have frm : ∀ b o, b ∈ l.filterMap (·.frame) → h.get? b = some o → ∃ es n, o.data = .dict es n := fun b o q eo => by
    obtain ⟨_, o', es, n, e1, e2⟩ := z.mem q
    rw [eo] at e1; cases e1
    exact ⟨es, n, e2⟩
  have plain : ∀ b o, h.get? b = some o → (∀ es n, o.data ≠ .dict es n) → (∀ vs, o.data ≠ .fields vs) → h'.get? b = some o := fun b o eo hd hf =>
    n.rest b o (fun q => by obtain ⟨vs, q'⟩ := fields b o (.inl q) eo; exact hf vs q') (fun q => by obtain ⟨vs, q'⟩ := fields b o (.inr q) eo; exact hf vs q') (fun q => by obtain ⟨es, m, q'⟩ := frm b o q eo; exact hd es m q') eo
  have kS : ∀ b o, S' b → h.get? b = some o → h'.get? b = some o := fun b o hs eo => by
    obtain ⟨o', e', p⟩ := x.inv.inS b hs
    rw [eo] at e'; cases e'
    exact n.rest b o (fun q => oe (q ▸ hs)) (fun q => (nT b q).2.1 hs) (fun q => by obtain ⟨es, m, q'⟩ := frm b o q eo; exact p.1 es m q') eo
  refine ⟨⟨x.ext, x.sub, x.new, ⟨fun b o eb => ?_, x.inv.len, fun i a f ds e1 e2 => ?_, x.inv.nodup, x.inv.new, fun a hs => ?_, fun L zz => ⟨(x.inv.zs L zz).1, ?_⟩⟩, fun b o hx hl eb => ?_, x.live, fun b o eb => ?_⟩, z.keep fun L o es m hn eL hd => ?_⟩
  · have e0 := hb b o eb
    refine n.rest b o (fun q => by rw [q, ne] at e0; cases e0) (fun q => by rw [(nT b q).1] at e0; cases e0) (fun q => by rw [(z.mem q).1] at eb; cases eb) (x.inv.keepB b o eb)
  · obtain ⟨vs, m, e, r, q1, q2⟩ := x.inv.cells i a f ds e1 e2
    exact ⟨vs, m, plain a _ e (lst_plain _ _).1 (fun _ q => by cases q), r.mono kS fun _ q => q, q1, q2⟩
  · obtain ⟨o, e', p⟩ := x.inv.inS a hs
    exact ⟨o, kS a o hs e', p⟩
  · obtain ⟨o, es, m, eL, hd⟩ := (x.inv.zs L zz).2
    by_cases q : L ∈ l.filterMap (·.frame)
    · obtain ⟨sl, e'⟩ := n.frame L o q eL
      exact ⟨_, es, m, e', hd⟩
    · refine ⟨o, es, m, n.rest L o (fun q => ?_) (fun q => ?_) q eL, hd⟩
      · obtain ⟨vs, q'⟩ := fields L o (.inl q) eL
        rw [hd] at q'; cases q'
      · obtain ⟨vs, q'⟩ := fields L o (.inr q) eL
        rw [hd] at q'; cases q'
  · have hne : b ≠ e := fun q => by rw [q, ne] at eb; cases eb
    have hnT : ¬ isT b := fun q => by rw [(nT b q).1] at eb; cases eb
    refine (x.keep b o hx hl eb).trans fun o' eo => ?_
    by_cases q : b ∈ l.filterMap (·.frame)
    · obtain ⟨sl, e'⟩ := n.frame b o' q eo
      exact .inr ⟨frm b o' q eo, sl, e'⟩
    · exact .inl (n.rest b o' hne hnT q eo)
  · obtain ⟨o', e'⟩ := x.stay b o eb
    exact n.stay b o' e'
  · by_cases q : L ∈ l.filterMap (·.frame)
    · obtain ⟨sl, e'⟩ := n.frame L o q eL
      exact .inr ⟨⟨es, m, hd⟩, sl, e'⟩
    · refine .inl (n.rest L o (fun q => ?_) (fun q => ?_) q eL)
      · obtain ⟨vs, q'⟩ := fields L o (.inl q) eL
        rw [hd] at q'; cases q'
      · obtain ⟨vs, q'⟩ := fields L o (.inr q) eL
        rw [hd] at q'; cases q'
end
section
variable {M : Model} {A : Around} {E : Value → Shared → Prop} {s : Shared} {base : Bs} {env : Env} {outer : List Env} {L e : Addr} {oe : Obj} {vs : Array Value} {Q : Unit → Shared → Prop}
theorem entry_step {head : Value} {hadNext : Bool} (hfr : A.frames = some (env :: outer)) (hl : s.heap.FunFrames base.hp (env :: outer)) (hf : env.frame = some L) (he : s.heap.get? e = some oe) (hd : oe.data = .fields vs) (hsz : 1 < vs.size)
    (h : ∀ h' T oe' oT ts, Noted s.heap h' e (fun _ => False) ((env :: outer).filterMap (·.frame)) → s.heap.get? T = none → T ≠ e → h'.get? e = some oe' → (oe'.cls = oe.cls ∧ oe'.dict = oe.dict) → oe'.data = .fields (vs.setIfInBounds 1 (.ref T)) → h'.get? T = some oT → oT.data = .fields ts → 3 < ts.size → Q () { s with heap := h' }) :
    wpAny M A (do let a ← frameOf env; let pl ← entryPlaceOf L hadNext; let b ← EntryCells.newEntry head a .none (rawInt L) .none pl; setField (.ref e) 1 b) Q E s := by
  have hene : e ∉ (env :: outer).filterMap (·.frame) := fun hm => by
    obtain ⟨_, o, ho, hnf⟩ := hl.mem hm
    rw [he] at ho; cases ho; exact hnf vs hd
  refine wpAny_bind (wpAny_frameOf_fun hfr hl hf fun h₁ hs₁ => ?_)
  refine wpAny_bind (wpAny_entryPlaceOf fun pl hpl => ?_)
  unfold EntryCells.newEntry newFields
  refine wpAny_bind (wpAny_newObj_type ?_ (hpl.sizeOk5 _ _ _ _ _))
  dsimp only
  generalize hob : ({ cls := .type "traceback", dict := none, data := .fields ([head, .ref L, .none, rawInt L, .none] ++ (if pl.isEmpty then List.replicate 6 Value.none else pl)).toArray } : Obj) = ob
  have hodata : ∃ ts, ob.data = .fields ts ∧ 3 < ts.size := by
    rw [← hob]
    exact ⟨_, rfl, by simp only [List.size_toArray, List.length_append, List.length_cons, List.length_nil] <;> omega⟩
  obtain ⟨ts, hots, hts⟩ := hodata
  have he₁ : h₁.get? e = some oe := (hs₁.2.1 e hene).trans he
  have he₂ := Heap.get?_push_of_some (h := h₁) ob he₁
  refine wpAny_setField he₂ hd hsz ?_
  have hTe : h₁.objs.size ≠ e := Nat.ne_of_gt (Heap.lt_size he₁)
  have hd₃ := Obj.data_mapFields hd (·.setIfInBounds 1 (Value.ref h₁.objs.size))
  have he₃ := Heap.get?_update_self (Obj.mapFields (·.setIfInBounds 1 (Value.ref h₁.objs.size))) he₂ (Obj.isFreed_of_fields hd₃)
  have hT₃ := (Heap.get?_update_other (h₁.push ob) (Obj.mapFields (·.setIfInBounds 1 (Value.ref h₁.objs.size))) (Ne.symm hTe)).trans (Heap.get?_push_size h₁ (Obj.isFreed_of_fields hots))
  have keep : ∀ b o, b ≠ e → h₁.get? b = some o → ((h₁.push ob).update e (Obj.mapFields (·.setIfInBounds 1 (Value.ref h₁.objs.size)))).get? b = some o := fun b o hbe hb => by
    rw [Heap.get?_update_other _ _ (Ne.symm hbe)]
    exact Heap.get?_push_of_some _ hb
  refine h _ h₁.objs.size _ ob ts ⟨fun b o hbe _ hbl eb => keep b o hbe ((hs₁.2.1 b hbl).trans eb), fun b o hbl eb => ?_, fun b o eb => ?_⟩ ?_ hTe he₃ ⟨Obj.cls_mapFields _ _, dict_mapFields _ _⟩ hd₃ hT₃ hots hts
  · obtain ⟨sl, e'⟩ := hs₁.2.2 b o eb
    exact ⟨sl, keep b _ (fun q => hene (q ▸ hbl)) e'⟩
  · obtain ⟨sl, e'⟩ := hs₁.2.2 b o eb
    by_cases q : b = e
    · subst q; exact ⟨_, he₃⟩
    · exact ⟨_, keep b _ q e'⟩
  · rw [hs₁.1]; exact fresh_none s.heap
theorem note_ok {X : Addr → Prop} {μ μ' : List Addr} {S S' : Addr → Prop} {σ σ' : Store} {h₀ : Heap} {cls : Value} {tb : Bool} (hfr : A.frames = some (env :: outer)) (hf : env.frame = some L) (I₀ : Inv base S μ σ h₀) (x : Evo base X μ μ' S S' σ σ' h₀ s.heap) (z : FrZ base s.heap (env :: outer)) (q : ExcN h₀ s.heap S' e cls tb)
    (h : ∀ h', Evo base X μ μ' S S' σ σ' h₀ h' → FrZ base h' (env :: outer) → ExcN h₀ h' S' e cls true → Q () { s with heap := h' }) : wpAny M A (noteFrame (.ref e) env) Q E s := by
  obtain ⟨oe, vs, he, hcls, hd, hv⟩ := q.obj
  have newT : ∀ T, s.heap.get? T = none → h₀.get? T = none ∧ ¬ S' T := fun T hT => ⟨x.gone hT, fun hs => by
    obtain ⟨o, e', _⟩ := x.inv.inS T hs
    rw [hT] at e'; cases e'⟩
  unfold noteFrame
  simp only [hf]
  rcases hv with ⟨_, h1⟩ | ⟨_, T, oT, ts, h1, hTe, nT, oTS, hT, hdT, h3⟩
  · refine wpAny_bind (wpAny_field he hd h1 ?_)
    rw [if_neg (by decide)]
    have hsz : 1 < vs.size := (Array.getElem?_eq_some_iff.mp h1).1
    refine entry_step hfr z.frames hf he hd hsz fun h' T oe' oT ts n hTn hTe k1 k2 k3 k4 k5 k6 => ?_
    obtain ⟨n1, n2⟩ := newT T hTn
    obtain ⟨y1, y2⟩ := x.noted (isT := fun _ => False) I₀ z q.new q.out ⟨oe, vs, he, hd⟩ (fun _ q => q.elim) n
    exact h h' y1 y2 ⟨q.new, q.out, oe', _, k1, ⟨k2.1.trans hcls.1, k2.2.trans hcls.2⟩, k3, .inr ⟨rfl, T, oT, ts, by simp [hsz], hTe, n1, n2, k4, k5, k6⟩⟩
  · refine wpAny_bind (wpAny_field he hd h1 ?_)
    rw [if_pos (show (Value.ref T != Value.none) = true from by simp)]
    have hsz : 1 < vs.size := (Array.getElem?_eq_some_iff.mp h1).1
    have ht3 : ts[3]? = some ts[3] := Array.getElem?_eq_getElem h3
    refine wpAny_bind (wpAny_field hT hdT ht3 ?_)
    by_cases hr : (ts[3] == rawInt L) = true
    · rw [if_pos hr]
      refine wpAny_pure ?_
      have := h s.heap x z ⟨q.new, q.out, oe, vs, he, hcls, hd, .inr ⟨rfl, T, oT, ts, h1, hTe, nT, oTS, hT, hdT, h3⟩⟩
      exact this
    · rw [if_neg hr]
      refine wpAny_bind (wpAny_setField hT hdT h3 ?_)
      have hdT' := Obj.data_mapFields hdT (·.setIfInBounds 3 Value.none)
      have hT' := Heap.get?_update_self (Obj.mapFields (·.setIfInBounds 3 Value.none)) hT (Obj.isFreed_of_fields hdT')
      have other : ∀ b, b ≠ T → (s.heap.update T (Obj.mapFields (·.setIfInBounds 3 Value.none))).get? b = s.heap.get? b := fun b hb => Heap.get?_update_other _ _ (Ne.symm hb)
      have n1 : Noted s.heap (s.heap.update T (Obj.mapFields (·.setIfInBounds 3 Value.none))) e (fun b => b = T) ((env :: outer).filterMap (·.frame)) := ⟨fun b o _ hb _ eb => (other b hb).trans eb, fun b o hl eb => ⟨o.slots, (other b fun q => by
        obtain ⟨_, o', es, m, e1, e2⟩ := z.mem hl
        rw [q, hT] at e1; cases e1
        rw [hdT] at e2; cases e2).trans eb⟩, fun b o eb => by
          by_cases q : b = T
          · subst q; exact ⟨_, hT'⟩
          · exact ⟨o, (other b q).trans eb⟩⟩
      obtain ⟨y1, y2⟩ := x.noted (isT := fun b => b = T) I₀ z q.new q.out ⟨oe, vs, he, hd⟩ (fun b q => q ▸ ⟨nT, oTS, oT, ts, hT, hdT⟩) n1
      refine entry_step (s := { s with heap := s.heap.update T (Obj.mapFields (·.setIfInBounds 3 Value.none)) }) hfr y2.frames hf ((other e (Ne.symm hTe)).trans he) hd hsz fun h' T' oe' oT' ts' n hTn hTe' k1 k2 k3 k4 k5 k6 => ?_
      have n2 : h₀.get? T' = none ∧ ¬ S' T' := ⟨y1.gone hTn, fun hs => by
        obtain ⟨o, e', _⟩ := y1.inv.inS T' hs
        rw [hTn] at e'; cases e'⟩
      obtain ⟨w1, w2⟩ := y1.noted (isT := fun _ => False) I₀ y2 q.new q.out ⟨oe, vs, (other e (Ne.symm hTe)).trans he, hd⟩ (fun _ q => q.elim) n
      exact h h' w1 w2 ⟨q.new, q.out, oe', _, k1, ⟨k2.1.trans hcls.1, k2.2.trans hcls.2⟩, k3, .inr ⟨rfl, T', oT', ts', by simp [hsz], hTe', n2.1, n2.2, k4, k5, k6⟩⟩
theorem flight_ok {X : Addr → Prop} {μ μ' : List Addr} {S S' : Addr → Prop} {σ σ' : Store} {h₀ : Heap} {cls : Value} {l : List Env} {fr : Option Addr} (I₀ : Inv base S μ σ h₀) (x : Evo base X μ μ' S S' σ σ' h₀ s.heap) (z : FrZ base s.heap l) (q : ExcN h₀ s.heap S' e cls true)
    (h : ∀ h', Evo base X μ μ' S S' σ σ' h₀ h' → FrZ base h' l → ExcN h₀ h' S' e cls true → Q () { s with heap := h' }) : wpAny M A (setFlight (.ref e) fr) Q E s := by
  obtain ⟨oe, vs, he, hcls, hd, hv⟩ := q.obj
  rcases hv with ⟨hh, _⟩ | ⟨_, T, oT, ts, h1, hTe, nT, oTS, hT, hdT, h3⟩
  · cases hh
  unfold setFlight
  refine wpAny_bind (wpAny_field he hd h1 ?_)
  rw [if_pos (show (Value.ref T != Value.none) = true from by simp)]
  refine wpAny_setField hT hdT h3 ?_
  have hdT' := Obj.data_mapFields hdT (·.setIfInBounds 3 (fr.elim Value.none fun f => rawInt f))
  have hT' := Heap.get?_update_self (Obj.mapFields (·.setIfInBounds 3 (fr.elim Value.none fun f => rawInt f))) hT (Obj.isFreed_of_fields hdT')
  have other : ∀ b, b ≠ T → (s.heap.update T (Obj.mapFields (·.setIfInBounds 3 (fr.elim Value.none fun f => rawInt f)))).get? b = s.heap.get? b := fun b hb => Heap.get?_update_other _ _ (Ne.symm hb)
  have n1 : Noted s.heap (s.heap.update T (Obj.mapFields (·.setIfInBounds 3 (fr.elim Value.none fun f => rawInt f)))) e (fun b => b = T) (l.filterMap (·.frame)) := ⟨fun b o _ hb _ eb => (other b hb).trans eb, fun b o hl eb => ⟨o.slots, (other b fun q => by
        obtain ⟨_, o', es, m, e1, e2⟩ := z.mem hl
        rw [q, hT] at e1; cases e1
        rw [hdT] at e2; cases e2).trans eb⟩, fun b o eb => by
          by_cases q : b = T
          · subst q; exact ⟨_, hT'⟩
          · exact ⟨o, (other b q).trans eb⟩⟩
  obtain ⟨y1, y2⟩ := x.noted (isT := fun b => b = T) I₀ z q.new q.out ⟨oe, vs, he, hd⟩ (fun b q => q ▸ ⟨nT, oTS, oT, ts, hT, hdT⟩) n1
  exact h _ y1 y2 ⟨q.new, q.out, oe, vs, (other e (Ne.symm hTe)).trans he, hcls, hd, .inr ⟨rfl, T, _, _, h1, hTe, nT, oTS, hT', hdT', by simpa using h3⟩⟩
end
theorem came_ok {M : Model} {A : Around} {E : Value → Shared → Prop} {s : Shared} {base : Bs} {env : Env} {e : Addr} {X : Addr → Prop} {μ μ' : List Addr} {S S' : Addr → Prop} {σ σ' : Store} {h₀ : Heap} {cls : Value} {l : List Env} (I₀ : Inv base S μ σ h₀) (x : Evo base X μ μ' S S' σ σ' h₀ s.heap) (z : FrZ base s.heap l) (q : ExcN h₀ s.heap S' e cls true)
    (h : ∀ h', Evo base X μ μ' S S' σ σ' h₀ h' → FrZ base h' l → ExcN h₀ h' S' e cls true → E (.ref e) { s with heap := h' }) : cameBackBy M A env E (.ref e) s := by
  obtain ⟨oe, vs, he, hcls, hd, hv⟩ := q.obj
  rcases hv with ⟨hh, _⟩ | ⟨_, T, oT, ts, h1, _⟩
  · cases hh
  unfold cameBackBy
  refine wpAny_bind (wpAny_field he hd h1 ?_)
  rw [if_neg (by simp)]
  exact flight_ok I₀ x z q h
theorem frz {base : Bs} {n : Nat} {A : Around} {S : Addr → Prop} {μ : List Addr} {σ : Store} {h : Heap} (hA : AOk base n A) (I : Inv base S μ σ h) : ∃ l, A.frames = some l ∧ FrZ base h l := by
  obtain ⟨l, hl, k⟩ := hA.fr
  refine ⟨l, hl, fun env he => ?_⟩
  obtain ⟨hk, L, hf, z⟩ := k env he
  obtain ⟨hn, o, es, m, e, d⟩ := I.zs L z
  exact ⟨hk, L, o, es, m, hf, hn, e, d⟩
noncomputable def FxOk (prog : Program) (w : World) (base : Bs) (ec : ExcCls) (n : Nat) (a : Addr) (g : List AV → Store → Option (CR × Store)) : Prop :=
  ∀ (A : Around) (S : Addr → Prop) (μ : List Addr) (σ σ' : Store) (s : Shared) (vals : List Value) (args : List AV) (c : Nat) (Q : Value → Shared → Prop) (E : Value → Shared → Prop),
    AOk base n A → Inv base S μ σ s.heap → RdAs ec s.heap S μ vals args → g args σ = some (.exc c, σ') →
    (∀ e h' tk S', Ev base μ S S' σ σ' s.heap h' → ExcN s.heap h' S' e (.ref (ec c)) true → E (.ref e) { s with heap := h', toks := tk }) → wpAny (model prog w) A (call (.ref a) vals) Q E s
noncomputable def PhiX (prog : Program) (w : World) (base : Bs) (ec : ExcCls) (G : Cfg) (n : Nat) (Φ : Phi) : Prop := ∀ (k : Nat) f a, G.fns[k]? = some (f, a) → FxOk prog w base ec n a (Φ k)
noncomputable def Top (A : Around) (env : Env) : Prop := env.frame = some env.locals ∧ ∃ outer, A.frames = some (env :: outer)
section
variable {base : Bs} {X : Addr → Prop} {μ μ' : List Addr} {S S' S'' : Addr → Prop} {σ σ' : Store} {h₀ h h' : Heap}
theorem ExcN.back {e : Addr} {cls : Value} {tb : Bool} (x : Evo base X μ μ' S S' σ σ' h₀ h) (q : ExcN h h' S'' e cls tb) : ExcN h₀ h' S'' e cls tb := by
  obtain ⟨oe, vs, h1, h2, h3, h4⟩ := q.obj
  refine ⟨x.gone q.new, q.out, oe, vs, h1, h2, h3, h4.imp id fun ⟨k, T, oT, ts, t1, t2, t3, t4, t5⟩ => ⟨k, T, oT, ts, t1, t2, x.gone t3, t4, t5⟩⟩
end
end Mine
namespace Mine
open PySem PySem.Calls PyProof.Rows
inductive FlOk (base : Bs) (ec : ExcCls) (V : List Str) (env : Env) (h₀ h : Heap) (S : Addr → Prop) (μ : List Addr) : Fl → Flow → Prop
  | next {ρ : Rho} : FrOk base ec V S μ env ρ h → FlOk base ec V env h₀ h S μ (.next ρ) .next
  | ret {v : Value} {av : AV} : RdR ec h₀ h S μ v av → (∃ m, h.Ns env.locals m) → FlOk base ec V env h₀ h S μ (.ret av) (.ret v)
noncomputable def SPost (ec : ExcCls) (base : Bs) (V : List Str) (env : Env) (μ : List Addr) (S : Addr → Prop) (σ σ' : Store) (s : Shared) (fl : Fl) (Q : Flow → Shared → Prop) : Prop :=
  ∀ f h' tk S' μ', Evo base (Own env) μ μ' S S' σ σ' s.heap h' → FlOk base ec V env s.heap h' S' μ' fl f → Q f { s with heap := h', toks := tk }
noncomputable def XPost (ec : ExcCls) (base : Bs) (A : Around) (env : Env) (μ : List Addr) (S : Addr → Prop) (σ σ' : Store) (s : Shared) (fl : Fl) (E : Value → Shared → Prop) : Prop :=
  Top A env ∧ ∀ c, fl = .exc c → ∀ e h' tk S' μ' tb, Evo base (Own env) μ μ' S S' σ σ' s.heap h' → ExcN s.heap h' S' e (.ref (ec c)) tb → E (.ref e) { s with heap := h', toks := tk }
noncomputable def SS (prog : Program) (w : World) (base : Bs) (ec : ExcCls) (G : Cfg) (n : Nat) (sc : Sc) (m : Env → Sem Flow) (ev : Rho → Store → Option (Fl × Store)) : Prop :=
  ∀ (A : Around) (env : Env) (ρ : Rho) (σ σ' : Store) (fl : Fl) (S : Addr → Prop) (μ : List Addr) (s : Shared) (Q : Flow → Shared → Prop) (E : Value → Shared → Prop),
    AOk base n A → ScOk env sc → Inv base S μ σ s.heap → FrOk base ec G.V S μ env ρ s.heap → ev ρ σ = some (fl, σ') → XPost ec base A env μ S σ σ' s fl E → SPost ec base G.V env μ S σ σ' s fl Q → wpAny (model prog w) A (m env) Q E s
section
variable {base : Bs} {ec : ExcCls} {V : List Str} {env : Env} {μ μ' μ₁ : List Addr} {S S' S₁ : Addr → Prop} {σ σ' σ₁ : Store} {h h' h₁ : Heap} {ρ : Rho} {s : Shared} {fl : Fl}
theorem RdR.backo {X : Addr → Prop} {h'' : Heap} {v : Value} {av : AV} (x : Evo base X μ μ' S S' σ σ' h h') (r : RdR ec h' h'' S₁ μ₁ v av) : RdR ec h h'' S₁ μ₁ v av := by
  cases r with
  | old r => exact .old r
  | fresh e r s n => exact .fresh e r s (x.gone n)
theorem FlOk.back {X : Addr → Prop} {h'' : Heap} {f : Flow} (x : Evo base X μ μ' S S' σ σ' h h') (r : FlOk base ec V env h' h'' S₁ μ₁ fl f) : FlOk base ec V env h h'' S₁ μ₁ fl f := by
  cases r with
  | next F => exact .next F
  | ret r z => exact .ret (r.backo x) z
theorem SPost.past {Q : Flow → Shared → Prop} {tk : Nat} (x : Evo base (Own env) μ μ₁ S S₁ σ σ₁ s.heap h₁) (P : SPost ec base V env μ S σ σ' s fl Q) : SPost ec base V env μ₁ S₁ σ₁ σ' { s with heap := h₁, toks := tk } fl Q :=
  fun f h' tk' S' μ' y r => P f h' tk' S' μ' (x.trans y fun _ _ q _ => q) (r.back x)
theorem XPost.past {A : Around} {E : Value → Shared → Prop} {tk : Nat} (x : Evo base (Own env) μ μ₁ S S₁ σ σ₁ s.heap h₁) (P : XPost ec base A env μ S σ σ' s fl E) : XPost ec base A env μ₁ S₁ σ₁ σ' { s with heap := h₁, toks := tk } fl E :=
  ⟨P.1, fun c e e' h' tk' S' μ' tb y q => P.2 c e e' h' tk' S' μ' tb (x.trans y fun _ _ q _ => q) (q.back x)⟩
theorem XPost.no {A : Around} {E : Value → Shared → Prop} (t : Top A env) (h : ∀ c, fl ≠ .exc c) : XPost ec base A env μ S σ σ' s fl E := ⟨t, fun c e => absurd e (h c)⟩
end
section
variable {prog : Program} {w : World} {base : Bs} {ec : ExcCls} {G : Cfg} {n N : Nat} {Φ : Phi} {sc : Sc}
theorem ss_nil : SS prog w base ec G n sc (execs []) (fun ρ σ => evSs N Φ [] ρ σ) := by
  intro A env ρ σ σ' fl S μ s Q E hA hs I F q hx P
  cases q
  exact wpAny_execs_nil (P .next s.heap s.toks S μ (.refl I) (.next F))
theorem ss_cons {st : Stmt} {rest : List Stmt} {c : CS} {cs : List CS} (H : SS prog w base ec G n sc (exec st) (fun ρ σ => evS N Φ c ρ σ)) (H' : SS prog w base ec G n sc (execs rest) (fun ρ σ => evSs N Φ cs ρ σ)) :
    SS prog w base ec G n sc (execs (st :: rest)) (fun ρ σ => evSs N Φ (c :: cs) ρ σ) := by
  intro A env ρ σ σ' fl S μ s Q E hA hs I F q hx P
  refine wpAny_execs_cons ?_
  refine i_scons q (fun ρ₁ σ₁ q₁ q => ?_) (fun q hn => ?_)
  · refine H A env ρ σ σ₁ _ S μ s _ E hA hs I F q₁ (.no hx.1 fun c e => nomatch e) fun f h' tk S' μ' x r => ?_
    cases r with
    | next F' => exact H' A env ρ₁ σ₁ σ' fl S' μ' { s with heap := h', toks := tk } Q E hA hs x.inv F' q (hx.past x) (P.past x)
  · refine H A env ρ σ σ' fl S μ s _ E hA hs I F q hx fun f h' tk S' μ' x r => ?_
    cases r with
    | next F' => exact (hn _ rfl).elim
    | ret r z => exact P _ h' tk S' μ' x (.ret r z)
theorem ss_ret {e : Expr} {c : CE} {pos : Pos} (H : SE prog w base ec G n Φ sc e c) : SS prog w base ec G n sc (exec (.Return (some e) pos)) (fun ρ σ => evS N Φ (.ret c) ρ σ) := by
  intro A env ρ σ σ' fl S μ s Q E hA hs I F q hx P
  refine i_ret q fun v q₁ z1 => ?_
  subst z1
  exact wpAny_Return_some (H A env ρ σ _ v S μ s _ E hA hs I F q₁ fun u h' tk S' x r => P _ h' tk S' μ (.of x) (.ret r (let ⟨m, hn, _⟩ := (F.ev I x).ns; ⟨m, hn⟩)))
theorem ss_if {t : Expr} {a b : List Stmt} {c : CE} {x y : List CS} {pos : Pos} (H : ST prog w base ec G n Φ sc t c) (Ha : SS prog w base ec G n sc (execs a) (fun ρ σ => evSs N Φ x ρ σ)) (Hb : SS prog w base ec G n sc (execs b) (fun ρ σ => evSs N Φ y ρ σ)) :
    SS prog w base ec G n sc (exec (.If t a b pos)) (fun ρ σ => evS N Φ (.ite c x y) ρ σ) := by
  intro A env ρ σ σ' fl S μ s Q E hA hs I F q hx P
  refine i_site q fun b σ₁ q₁ q => ?_
  refine wpAny_If (H A env ρ σ σ₁ _ b S μ s _ E hA hs I F q₁ rfl fun h' tk S' x => ?_)
  cases b with
  | true => exact Ha A env ρ σ₁ σ' fl S' μ { s with heap := h', toks := tk } Q E hA hs x.inv (F.ev I x) q (hx.past (.of x)) (P.past (.of x))
  | false => exact Hb A env ρ σ₁ σ' fl S' μ { s with heap := h', toks := tk } Q E hA hs x.inv (F.ev I x) q (hx.past (.of x)) (P.past (.of x))
noncomputable def resA (nc : Bool) (i : Nat) (ρ : Rho) (σ : Store) : AV → Rho × Store
  | .fresh ds => if nc then (ρ.set i (.cell σ.length), σ ++ [(.live, ds)]) else (ρ.set i (.dat (.list ds)), σ)
  | v => (ρ.set i v, σ)
theorem live_append {μ : List Addr} {σ : Store} {a b : Addr} {ds : List PyData} (hl : μ.length = σ.length) (l : Live (μ ++ [a]) (σ ++ [(.live, ds)]) b) : Live μ σ b ∨ b = a := by
  obtain ⟨i, es, e1, e2⟩ := l
  rcases Nat.lt_trichotomy i μ.length with q | q | q
  · rw [List.getElem?_append_left q] at e1
    rw [List.getElem?_append_left (hl ▸ q)] at e2
    exact .inl ⟨i, es, e1, e2⟩
  · subst q
    simp at e1
    exact .inr e1.symm
  · rw [List.getElem?_eq_none (by simp; omega)] at e1; cases e1
theorem Inv.addCell {S : Addr → Prop} {μ : List Addr} {σ : Store} {h : Heap} (I : Inv base S μ σ h) {a : Addr} {vs : List Value} {m : Nat} {ds : List PyData} (e : h.get? a = some (lstO vs m)) (r : RdL h S vs ds) (hS : ¬ S a) (hm : a ∉ μ) (hb : base.get? a = none) : Inv base S (μ ++ [a]) (σ ++ [(.live, ds)]) h where
  keepB := I.keepB
  len := by simp [I.len]
  cells := fun i b f es e1 e2 => by
    rcases Nat.lt_trichotomy i μ.length with q | q | q
    · rw [List.getElem?_append_left q] at e1
      rw [List.getElem?_append_left (I.len ▸ q)] at e2
      exact I.cells i b f es e1 e2
    · subst q
      simp at e1
      rw [I.len] at e2
      simp at e2
      obtain ⟨rfl, rfl⟩ := e2
      subst e1
      exact ⟨vs, m, e, r, fun z => (nomatch z), fun _ => hS⟩
    · rw [List.getElem?_eq_none (by simp; omega)] at e1; cases e1
  nodup := fun i j b e1 e2 => by
    have key : ∀ i : Nat, (μ ++ [a])[i]? = some b → (μ[i]? = some b ∧ i < μ.length) ∨ (i = μ.length ∧ b = a) := fun i e => by
      rcases Nat.lt_trichotomy i μ.length with q | q | q
      · rw [List.getElem?_append_left q] at e; exact .inl ⟨e, q⟩
      · subst q; simp at e; exact .inr ⟨rfl, e.symm⟩
      · rw [List.getElem?_eq_none (by simp; omega)] at e; cases e
    rcases key i e1 with ⟨h1, _⟩ | ⟨h1, q1⟩ <;> rcases key j e2 with ⟨h2, _⟩ | ⟨h2, q2⟩
    · exact I.nodup i j b h1 h2
    · subst q2; exact absurd (List.mem_of_getElem? h1) hm
    · subst q1; exact absurd (List.mem_of_getElem? h2) hm
    · rw [h1, h2]
  new := fun b hb' => by
    rcases List.mem_append.mp hb' with q | q
    · exact I.new b q
    · rcases List.mem_singleton.mp q with rfl; exact hb
  inS := I.inS
  zs := I.zs
theorem store_res {A : Around} {env : Env} {ρ : Rho} {σ σ₁ : Store} {S S₁ : Addr → Prop} {μ : List Addr} {h₀ : Heap} {s : Shared} {E : Value → Shared → Prop} {Q : Unit → Shared → Prop} {v : Value} {av : AV} {x : Str} {i : Nat} {p : Pos} (nc : Bool) (hs : ScOk env sc)
    (I : Inv base S μ σ h₀) (ev : Ev base μ S S₁ σ σ₁ h₀ s.heap) (r : RdR ec h₀ s.heap S₁ μ v av) (F : FrOk base ec G.V S₁ μ env ρ s.heap) (hx : ownOf G sc x = some i)
    (P : ∀ h' tk S' μ', Evo base (Own env) μ μ' S S' σ (resA nc i ρ σ₁ av).2 h₀ h' → FrOk base ec G.V S' μ' env (resA nc i ρ σ₁ av).1 h' → (∀ b o, ¬ Own env b → s.heap.get? b = some o → h'.get? b = some o) → Q () { s with heap := h', toks := tk }) :
    wpAny (model prog w) A (assign (.Name x p) env v) Q E s := by
  have fin : ∀ (S' : Addr → Prop) (μ' : List Addr) (σ' : Store) (aw : AV), Evo base (Own env) μ μ' S S' σ σ' h₀ s.heap → FrOk base ec G.V S' μ' env ρ s.heap → RdA ec s.heap S' μ' v aw → (ρ.set i aw, σ') = resA nc i ρ σ₁ av → wpAny (model prog w) A (assign (.Name x p) env v) Q E s := by
    intro S' μ' σ' aw ev' F' r' e
    refine name_ok (lc := false) hs hx (fun z => nomatch z) ev'.inv F' r' fun h' tk I' F'' k st => ?_
    have k' : ∀ b o, ¬ Own env b → s.heap.get? b = some o → h'.get? b = some o := fun b o hb e => k b o (fun q => hb q.1) e
    have ev'' : Evo base (Own env) μ μ' S S' σ σ' h₀ h' := ev'.poke (wr := Own env) (Mv.same k') (fun a o ha _ => ha) (fun a ha => ha.notS ev'.inv F') (fun a ha => ha.notMu ev'.inv F') (fun a ha => ha.new F') (fun a _ z => (I'.zs a z).2) fun a o ha e => let ⟨o', e'⟩ := ev'.stay a o e; st a o' e'
    have e1 := congrArg Prod.fst e
    have e2 := congrArg Prod.snd e
    dsimp only at e1 e2
    exact P h' tk S' μ' (e2 ▸ ev'') (e1 ▸ F'') k'
  cases r with
  | old r =>
    refine fin S₁ μ σ₁ av (.of ev) F r ?_
    cases r <;> rfl
  | @fresh a vs m ds e r hS hn =>
    cases nc with
    | false =>
      have ev' := ev.add I hn e (lst_plain _ _)
      refine fin _ μ σ₁ (.dat (.list ds)) (.of ev') (F.mono (fun _ _ _ q => .inl q) fun _ _ r => r.sub fun _ => .inl) (.dat (.list (.inr rfl) e (r.sub fun _ => .inl))) rfl
    | true =>
      have hm : a ∉ μ := fun q => by obtain ⟨_, _, e'⟩ := I.mem q; rw [hn] at e'; cases e'
      have hb : base.get? a = none := by
        cases e' : base.get? a with
        | none => rfl
        | some o => have := I.keepB a o e'; rw [hn] at this; cases this
      have I' := ev.inv.addCell e r hS hm hb
      have evo : Evo base (Own env) μ (μ ++ [a]) S S₁ σ (σ₁ ++ [(.live, ds)]) h₀ s.heap := ⟨⟨[a], rfl, fun b hb => by rcases List.mem_singleton.mp hb with rfl; exact hn⟩, ev.sub, ev.new, I', fun b o _ hl e => ev.keep b o hl e,
        fun b l => (live_append ev.inv.len l).elim (fun q => .inl (ev.live b q)) fun q => .inr (q ▸ hn), fun b o e => ev.stays e⟩
      have hmu : ∀ (i : Nat) (b : Addr), μ[i]? = some b → (μ ++ [a])[i]? = some b := fun i b e => by rw [List.getElem?_append_left (List.getElem?_eq_some_iff.mp e).1]; exact e
      refine fin S₁ (μ ++ [a]) _ (.cell σ₁.length) evo (F.mono (fun _ _ _ q => .inl q) fun _ _ r => r.mono (fun _ _ _ q => q) (fun _ q => q) hmu) (.cell (by rw [← ev.inv.len]; simp)) rfl
noncomputable def isComp : Expr → Bool
  | .ListComp .. => true
  | .SetComp .. => true
  | .DictComp .. => true
  | _ => false
theorem swaps_no {e : Expr} (h : isComp e = false) (t : Expr) (l : Nat) (env : Env) : swapsWith e (some t) l env = pure false := by
  cases e <;> first | rfl | cases h
noncomputable def asg (nc : Bool) (i : Nat) (c : CE) : CS := if nc then .newcell i c else .assign i c
theorem asg_ev {nc : Bool} {i : Nat} {c : CE} {ρ : Rho} {σ σ' : Store} {fl : Fl} (q : evS N Φ (asg nc i c) ρ σ = some (fl, σ')) : ∃ av σ₁, evE Φ c ρ σ = some (av, σ₁) ∧ fl = .next (resA nc i ρ σ₁ av).1 ∧ σ' = (resA nc i ρ σ₁ av).2 := by
  cases nc with
  | false =>
    refine i_assign q fun v q₁ z1 => ?_
    subst z1
    refine ⟨v, _, q₁, ?_, ?_⟩ <;> cases v <;> rfl
  | true =>
    refine i_newcell q fun v σ₁ q₁ q₂ => ?_
    refine ⟨v, σ₁, q₁, ?_, ?_⟩ <;> cases v <;> cases q₂ <;> rfl
theorem ss_asg {nc : Bool} {x : Str} {p pos : Pos} {e : Expr} {c : CE} {i : Nat} (hx : ownOf G sc x = some i) (hn : isComp e = false) (H : SE prog w base ec G n Φ sc e c) : SS prog w base ec G n sc (exec (.Assign [.Name x p] e pos)) (fun ρ σ => evS N Φ (asg nc i c) ρ σ) := by
  intro A env ρ σ σ' fl S μ s Q E hA hs I F q hxx P
  obtain ⟨av, σ₁, q₁, rfl, rfl⟩ := asg_ev q
  rw [exec_Assign_Name env x p e pos (swaps_no hn _ _ _)]
  refine wpAny_bind (wpAny_standAt (wpAny_bind ?_))
  refine H A env ρ σ σ₁ av S μ s _ E hA hs I F q₁ fun v h' tk S' ev r => ?_
  have := store_res (prog := prog) (w := w) (A := A) (E := E) (p := p) (s := { s with heap := h', toks := tk }) (Q := fun _ s' => Q .next s') nc hs I ev r (F.ev I ev) hx fun h'' tk' S'' μ'' evo F'' _ => P .next h'' tk' S'' μ'' evo (.next F'')
  rw [PySem.assign_Name] at this
  show wpAny _ A (standAt p >>= fun _ => bindName env x v >>= fun _ => pure .next) Q E _
  have e : (standAt p >>= fun _ => bindName env x v >>= fun _ => pure Flow.next) = ((standAt p >>= fun _ => bindName env x v) >>= fun _ => pure Flow.next) := by rw [bind_assoc]
  rw [e]
  exact wpAny_bind (wpAny_mono this (fun _ _ h => wpAny_pure h) fun _ _ h => h)
end
end Mine
namespace Mine
open PySem PySem.Calls PyProof.Rows
section
variable {prog : Program} {w : World} {base : Bs} {ec : ExcCls} {G : Cfg} {n N : Nat} {Φ : Phi} {sc : Sc}
theorem asg_plain {nc : Bool} {x : Str} {p pos : Pos} {e : Expr} {c : CE} {i : Nat} (hx : ownOf G sc x = some i) (H : SE prog w base ec G n Φ sc e c) {A : Around} {env : Env} {ρ : Rho} {σ σ' : Store} {fl : Fl} {S : Addr → Prop} {μ : List Addr} {s : Shared} {Q : Flow → Shared → Prop} {E : Value → Shared → Prop}
    (hn : swapsWith e (some (.Name x p)) pos.line env = pure false) (hA : AOk base n A) (hs : ScOk env sc) (I : Inv base S μ σ s.heap) (F : FrOk base ec G.V S μ env ρ s.heap) (q : evS N Φ (asg nc i c) ρ σ = some (fl, σ')) (P : SPost ec base G.V env μ S σ σ' s fl Q) :
    wpAny (model prog w) A (exec (.Assign [.Name x p] e pos) env) Q E s := by
  obtain ⟨av, σ₁, q₁, rfl, rfl⟩ := asg_ev q
  rw [exec_Assign_Name env x p e pos hn]
  refine wpAny_bind (wpAny_standAt (wpAny_bind ?_))
  refine H A env ρ σ σ₁ av S μ s _ E hA hs I F q₁ fun v h' tk S' ev r => ?_
  have := store_res (prog := prog) (w := w) (A := A) (E := E) (p := p) (s := { s with heap := h', toks := tk }) (Q := fun _ s' => Q .next s') nc hs I ev r (F.ev I ev) hx fun h'' tk' S'' μ'' evo F'' _ => P .next h'' tk' S'' μ'' evo (.next F'')
  rw [PySem.assign_Name] at this
  show wpAny _ A (standAt p >>= fun _ => bindName env x v >>= fun _ => pure .next) Q E _
  have e : (standAt p >>= fun _ => bindName env x v >>= fun _ => pure Flow.next) = ((standAt p >>= fun _ => bindName env x v) >>= fun _ => pure Flow.next) := by rw [bind_assoc]
  rw [e]
  exact wpAny_bind (wpAny_mono this (fun _ _ h => wpAny_pure h) fun _ _ h => h)
theorem ss_asgC (hot0 : base.hot = false) {nc : Bool} {x : Str} {p spos : Pos} {i : Nat} {elt iter target : Expr} {ifs : List Expr} {scope : Scope} {pos : Pos} {tg : Tgt} {k : ItK} {its cs : List CE} {ce : CE} (hx : ownOf G sc x = some i) (ft : Fits sc scope) (hl : locsIn G scope tg = true) (hk : tgtFits k tg = true) (htr : trT G scope.names target = some tg) (hloc : localT scope.names target = true)
    (HI : SI prog w base ec G n Φ sc iter k its) (H : SE prog w base ec G n Φ scope.names elt ce) (hS : SBs prog w base ec G n Φ scope.names ifs cs) :
    SS prog w base ec G n sc (exec (.Assign [.Name x p] (.ListComp elt [⟨target, iter, ifs, 0⟩] scope pos) spos)) (fun ρ σ => evS N Φ (asg nc i (.comp ce tg k its cs)) ρ σ) := by
  intro A env ρ σ σ' fl S μ s Q E hA hs I F q hxx P
  obtain ⟨b, hb⟩ : ∃ b, swapsWith (.ListComp elt [⟨target, iter, ifs, 0⟩] scope pos) (some (.Name x p)) spos.line env = pure b := ⟨_, rfl⟩
  cases b with
  | false => exact asg_plain hx (se_comp hot0 ft hl hk htr hloc HI H hS) hb hA hs I F q P
  | true =>
    obtain ⟨av, σ₁, q₁, rfl, rfl⟩ := asg_ev q
    rw [exec_Assign_Name_used _ _ _ _ hb]
    refine wpAny_bind (wpAny_standAt (wpAny_bind ?_))
    show wpAny _ A (do let _ ← comprehension (.ListComp elt [⟨target, iter, ifs, 0⟩] scope pos) scope env _ (newList []) false (eval iter env) (some (assign (.Name x p) env))) _ _ s
    obtain ⟨cl, hcl, h⟩ := comp_core hot0 (pos := pos) (E := E) (RR := fun acc C => compPost (model prog w) A E (some (assign (.Name x p) env)) (fun _ s' => Q .next s') acc C) ft hl hk htr hloc HI H hS hA hs I F q₁ (by
      intro D C h' tk S' ds ys m mm hav x' l r hD hD0 hn hC0
      show wpAny _ A (assign (.Name x p) env (.ref D)) _ _ _
      subst hav
      refine store_res (s := { s with heap := h', toks := tk }) nc hs I x' (.fresh l r hD hD0) (F.ev I x') hx fun h'' tk' S'' μ'' evo F'' k => ?_
      have hOC : ∀ a, Own env a → a ≠ C := fun a ha q => by
        obtain ⟨o, e⟩ := ha.has F
        rw [q, hC0] at e; cases e
      have hn'' : h''.Ns C mm := hn.at' fun o e => k C o (fun q => hOC C q rfl) e
      have nP : ∀ o, h''.get? C = some o → ¬ Plainly o := fun o e p => by
        obtain ⟨o', es, ep, e', d, _⟩ := hn''
        rw [e] at e'; cases e'
        exact p.1 es ep d
      have hCS : ¬ S'' C := fun q => by
        obtain ⟨o, e, p⟩ := evo.inv.inS C q
        exact nP o e p
      have hCm : C ∉ μ'' := fun q => by
        obtain ⟨vs, j, e⟩ := evo.inv.mem q
        exact nP _ e (lst_plain _ _)
      have hCb : base.get? C = none := by
        cases e : base.get? C with
        | none => rfl
        | some o => have := I.keepB C o e; rw [hC0] at this; cases this
      refine ⟨mm, hn'', fun h₃ sb => ?_⟩
      have k₃ : ∀ b o, ¬ (b = C) → h''.get? b = some o → h₃.get? b = some o := fun b o hb e => sb.extBut b o hb e
      refine P .next h₃ tk' S'' μ'' (evo.poke (wr := fun b => b = C) (Mv.same k₃) (fun a o ha e => by rw [ha, hC0] at e; cases e) (fun a ha => ha ▸ hCS) (fun a ha => ha ▸ hCm) (fun a ha => ha ▸ hCb) (fun a ha z => by obtain ⟨o, _, _, e, _⟩ := (I.zs a z).2; rw [ha, hC0] at e; cases e) fun a o ha e => by rw [ha, hC0] at e; cases e) (.next ?_)
      exact F''.mv (Mv.same k₃) (fun a ha => ha ▸ hCS) hOC)
    exact wpAny_bind (wpAny_mono (wpAny_comprehension_free (use := some (assign (.Name x p) env)) (Q := fun _ s' => Q .next s') rfl (HI.1 env) hcl ft.kind ft.loc h) (fun _ s' hq => wpAny_pure (wpAny_pure hq)) fun _ _ e => e)
theorem ss_unpack (hot0 : base.hot = false) {es : List Expr} {k : Nat} {p pos : Pos} {e : Expr} {c : CE} {is : List Nat} (hi : ownsOf G sc es = some is) (hc : isComp e = false) (ht : isTupT e = false) (H : SE prog w base ec G n Φ sc e c) : SS prog w base ec G n sc (exec (.Assign [.Tuple es k p] e pos)) (fun ρ σ => evS N Φ (.unpack is c) ρ σ) := by
  intro A env ρ σ σ' fl S μ s Q E hA hs I F q hx P
  refine i_unpack q fun ds ρ' q₁ hb z1 => ?_
  subst z1
  refine wpAny_Assign_stores (H A env ρ σ _ _ S μ s _ E hA hs I F q₁ fun v h' tk S' x r => ?_) (by unfold swapsWithSole; exact swaps_no hc _ _ _) (by cases e <;> first | rfl | cases ht)
  cases r with
  | old r => cases r with
    | dat r =>
      show wpAny _ A (assign (.Tuple es k p) env v) _ _ _
      have F' := F.ev I x
      refine bind_ok (lc := false) (s := { s with heap := h', toks := tk }) (tg := .many is) (d := .tuple ds) (by show (ownsOf G sc es).bind _ = _; rw [hi]; rfl) (hA.hd hot0) hs (fun z => nomatch z) x.inv F' r hb fun h'' tk' I'' F'' k st => ?_
      refine P .next h'' tk' S' μ ((Evo.of x).poke (wr := Own env) (Mv.same fun b o hb e => k b o (fun q => hb q.1) e) (fun a o ha _ => ha) (fun a ha => ha.notS x.inv F') (fun a ha => ha.notMu x.inv F') (fun a ha => ha.new F') (fun a _ z => (I''.zs a z).2) fun a o ha e => ?_) (.next F'')
      obtain ⟨o', e'⟩ := x.stays e
      exact st a o' e'
noncomputable def LX (ec : ExcCls) (base : Bs) (A : Around) (env : Env) (μ : List Addr) (S₀ : Addr → Prop) (σ₀ σ' : Store) (h₀ : Heap) (fl : Fl) (s : Shared) (R : Result → Shared → Prop) : Prop :=
  Top A env ∧ ∀ c, fl = .exc c → Inv base S₀ μ σ₀ h₀ ∧ ∀ e h' tk S' μ'', Evo base (Own env) μ μ'' S₀ S' σ₀ σ' h₀ h' → ExcN h₀ h' S' e (.ref (ec c)) true → R (.error (.ref e)) { s with heap := h', toks := tk }
theorem frt {A : Around} {env : Env} {S : Addr → Prop} {μ : List Addr} {σ : Store} {h : Heap} (hA : AOk base n A) (t : Top A env) (I : Inv base S μ σ h) : ∃ outer, A.frames = some (env :: outer) ∧ FrZ base h (env :: outer) := by
  obtain ⟨l, hl, z⟩ := frz hA I
  obtain ⟨_, o, ho⟩ := t
  rw [hl] at ho
  cases ho
  exact ⟨o, hl, z⟩
theorem LX.body {A : Around} {env : Env} {μ μ₁ : List Addr} {S₀ S₁ : Addr → Prop} {σ₀ σ₁ σ' : Store} {h₀ h₁ : Heap} {fl : Fl} {s : Shared} {R : Result → Shared → Prop} {tk : Nat} {M : Model} (hA : AOk base n A) (hx : LX ec base A env μ S₀ σ₀ σ' h₀ fl s R) (x : Evo base (Own env) μ μ₁ S₀ S₁ σ₀ σ₁ h₀ h₁) :
    XPost ec base A env μ₁ S₁ σ₁ σ' { s with heap := h₁, toks := tk } fl (notedBy M A env fun e s' => R (.error e) s') := ⟨hx.1, fun c e e' h' tk' S' μ' tb y q => by
  obtain ⟨I₀, k⟩ := hx.2 c e
  obtain ⟨l, z2, z3⟩ := frt hA hx.1 y.inv
  exact note_ok (s := { s with heap := h', toks := tk' }) z2 hx.1.1 I₀ (x.trans y fun _ _ q _ => q) z3 (q.back x) fun h'' w1 _ w3 => k e' h'' tk' S' μ' w1 w3⟩
theorem LX.out {A : Around} {env : Env} {μ : List Addr} {S : Addr → Prop} {σ σ' : Store} {fl : Fl} {s : Shared} {E : Value → Shared → Prop} {M : Model} (hA : AOk base n A) (I : Inv base S μ σ s.heap) (hx : XPost ec base A env μ S σ σ' s fl E) {e : Addr} {c : Nat} (hc : fl = .exc c)
    {h' : Heap} {tk : Nat} {S' : Addr → Prop} {μ' : List Addr} (x : Evo base (Own env) μ μ' S S' σ σ' s.heap h') (q : ExcN s.heap h' S' e (.ref (ec c)) true) : cameBackBy M A env E (.ref e) { s with heap := h', toks := tk } := by
  obtain ⟨l, z2, z3⟩ := frt hA hx.1 x.inv
  exact came_ok (s := { s with heap := h', toks := tk }) I x z3 q fun h'' w1 _ w3 => hx.2 c hc e h'' tk S' μ' true w1 w3
theorem for_loop (hot0 : base.hot = false) {A : Around} {target : Expr} {body : List Stmt} {I : Addr} {xs : List PyData} {fp wr : Addr → Prop} {St : Nat → Heap → Prop} {Mid : Nat → Value → Heap → Prop} {Ok : (Addr → Prop) → Heap → Prop} {T : Expr → Prop} {env : Env} {tg : Tgt} {μ : List Addr} {S₀ : Addr → Prop} {σ₀ : Store} {h₀ : Heap} {cs : List CS}
    (Z : Src prog w A I fp wr xs T St Mid Ok) (hA : AOk base n A) (hs : ScOk env sc) (hT : T target) (htr : trT G sc target = some tg) (H : SS prog w base ec G n sc (execs body) (fun ρ σ => evSs N Φ cs ρ σ)) :
    ∀ (rest : List PyData) (i : Nat) (S : Addr → Prop) (μ' : List Addr) (ρ : Rho) (σ σ' : Store) (fl : Fl) (s : Shared) (R : Result → Shared → Prop), xs.drop i = rest → i ≤ xs.length → Lp base (Own env) μ S₀ σ₀ h₀ fp wr St Ok i μ' S σ s.heap → FrOk base ec G.V S μ' env ρ s.heap →
      forGo tg (fun ρ' σ' => evSs N Φ cs ρ' σ') rest ρ σ = some (fl, σ') → LX ec base A env μ S₀ σ₀ σ' h₀ fl s R →
      (∀ f h' tk S' μ'', Evo base (Own env) μ μ'' S₀ S' σ₀ σ' h₀ h' → FlOk base ec G.V env h₀ h' S' μ'' fl f → R (.ok f) { s with heap := h', toks := tk }) →
      codeAny (model prog w) A (.forLoop target (.ref I) body [] env) R s := by
  intro rest
  induction rest with
  | nil =>
    intro i S μ' ρ σ σ' fl s R hd hi L F q hx P
    cases q
    have hi' : i = xs.length := by have := List.drop_eq_nil_iff.mp hd; omega
    subst hi'
    refine codeAny_of_tree ?_
    show wpAny _ A ((forTurn target (.ref I) body [] env).onRaise (fun x => do noteFrame x env; theTreesLotGoes x)) _ _ s
    refine wpAny_noted ?_
    simp only [forTurn]
    refine wpAny_bind (wpAny_standAt (wpAny_bind (wpAny_onRaise (L.done Z fun h₂ tk mv ev => ?_))))
    have hwO : ∀ a, Own env a → ¬ wr a := fun a ha q => by
      obtain ⟨o, e, p⟩ := Z.alloc _ _ a L.st (Z.sub a q)
      exact ha.notList F e p
    exact wpAny_pure ⟨rfl, codeAny_block (wpAny_execs_nil (P .next h₂ tk S μ' ev (.next (F.mv mv (fun a q hs => L.nw a hs q) hwO))))⟩
  | cons d rest ih =>
    intro i S μ' ρ σ σ' fl s R hd hi L F q hx P
    have hlt : i < xs.length := by
      rcases Nat.lt_or_ge i xs.length with q | q
      · exact q
      · rw [List.drop_eq_nil_of_le q] at hd; cases hd
    have hxi : xs[i]? = some d := by
      have := congrArg (fun l => l[0]?) hd
      simpa using this
    have hd' : xs.drop (i + 1) = rest := by
      have := congrArg List.tail hd
      simpa using this
    refine ob q fun ρ₁ hb q => ?_
    refine codeAny_of_tree ?_
    show wpAny _ A ((forTurn target (.ref I) body [] env).onRaise (fun x => do noteFrame x env; theTreesLotGoes x)) _ _ s
    refine wpAny_noted ?_
    simp only [forTurn]
    refine wpAny_bind (wpAny_standAt (wpAny_bind (wpAny_onRaise (L.next Z hxi hT fun v h₂ tk₂ S₂ go => ?_))))
    refine wpAny_bind (go _ _ fun h₃ mv L₃ rv => ?_)
    have hwO : ∀ a, Own env a → ¬ wr a := fun a ha q => by
      obtain ⟨o, e, p⟩ := Z.alloc _ _ a L.st (Z.sub a q)
      exact ha.notList F e p
    have F₃ := F.mv mv (fun a q hs => L.nw a hs q) hwO
    refine wpAny_bind (bind_ok (lc := false) (s := { s with heap := h₃, toks := tk₂ }) htr (hA.hd hot0) hs (fun z => nomatch z) L₃.ev.inv F₃ rv hb fun h₄ tk₄ I₄ F₄ k₄ st₄ => ?_)
    have hOS : ∀ a, Own env a → ¬ S₂ a := fun a ha => ha.notS L₃.ev.inv F₃
    have hOf : ∀ a, Own env a → ¬ fp a := fun a ha q => by
      obtain ⟨o, e, p⟩ := Z.alloc _ _ a L₃.st q
      exact ha.notList F₃ e p
    have L₄ : Lp base (Own env) μ S₀ σ₀ h₀ fp wr St Ok (i + 1) μ' S₂ σ h₄ := L₃.poke Z (P := Own env) (fun b o hb e => k₄ b o (fun q => hb q.1) e) (fun a o ha _ => ha) hOS (fun a ha => ha.notMu L₃.ev.inv F₃) (fun a ha => ha.new F₃) (fun a _ z => (I₄.zs a z).2) hOf fun a o _ e => st₄ a o e
    refine ob q fun p hp q => fl_on q (fun ρ₂ e q => ?_) (fun e hn => ?_)
    · refine wpAny_bind (H A env ρ₁ σ p.2 (.next ρ₂) S₂ μ' { s with heap := h₄, toks := tk₄ } _ _ hA hs I₄ F₄ (nx hp e) (.no hx.1 fun c e => nomatch e) fun f h₅ tk₅ S₅ μ₅ x₅ r₅ => ?_)
      cases r₅ with
      | next F₅ =>
        have L₅ := L₄.step Z x₅ (fun a o ha _ => ha) hOf (fun a ha => ha.notS I₄ F₄)
        refine wpAny_pure ⟨rfl, ?_⟩
        exact ih (i + 1) S₅ μ₅ ρ₂ p.2 σ' fl { s with heap := h₅, toks := tk₅ } R hd' hlt L₅ F₅ q hx P
    · refine wpAny_bind (H A env ρ₁ σ σ' fl S₂ μ' { s with heap := h₄, toks := tk₄ } _ _ hA hs I₄ F₄ (hp.trans (congrArg some e)) (hx.body hA L₄.ev) fun f h₅ tk₅ S₅ μ₅ x₅ r₅ => ?_)
      have L₅ := L₄.step Z x₅ (fun a o ha _ => ha) hOf (fun a ha => ha.notS I₄ F₄)
      cases r₅ with
      | next F₅ => exact (hn _ rfl).elim
      | ret r₅ z₅ => exact wpAny_pure (P (.ret _) h₅ tk₅ S₅ μ₅ L₅.ev (.ret (r₅.backo L₄.ev) z₅))
theorem ss_for (hot0 : base.hot = false) {target iter : Expr} {body : List Stmt} {pos : Pos} {tg : Tgt} {k : ItK} {its : List CE} {cs : List CS} (hk : tgtFits k tg = true) (htr : trT G sc target = some tg) (HI : SI prog w base ec G n Φ sc iter k its) (H : SS prog w base ec G n sc (execs body) (fun ρ σ => evSs N Φ cs ρ σ)) :
    SS prog w base ec G n sc (exec (.For target iter body [] pos)) (fun ρ σ => evS N Φ (.forr tg k its cs) ρ σ) := by
  intro A env ρ σ σ' fl S μ s Q E hA hs I F q hx P
  refine i_forr q fun vs σ₁ ds xs σ₂ q₁ q₂ q₃ q₄ z1 => ?_
  subst z1
  refine wpAny_For (HI.2 A env ρ σ σ₁ vs ds xs S μ s _ E hA hs I F q₁ q₂ q₃ fun It h₀ h₁ tk S₀ fp wr St Mid Ok x M => ?_) (HI.1 env)
  have lk := lock_ev (L := liveOf σ₁ vs) x.inv liveOf_ok
  have F₀ := F.ev I x
  have F₁ : FrOk base ec G.V S₀ μ env ρ h₁ := F₀.mono (fun a o _ e => .inl (M.grow a o e)) fun v av r => r.mono (fun a o _ e => M.grow a o e) (fun _ q => q) fun _ _ q => q
  refine for_loop hot0 M.src hA hs (tgt_kind hk htr) htr H xs 0 S₀ μ ρ _ σ₂ fl { s with heap := h₁, toks := tk } _ rfl (Nat.zero_le _) (M.lp lk.inv fun _ _ e => e) F₁ q₄ ⟨hx.1, fun c e => ?_⟩ ?_
  · refine ⟨lk.inv, fun e' h' tk' S' μ' ev' q => ?_⟩
    have e1 := unlock x.inv liveOf_ok ev'
    exact LX.out (tk := tk') hA I hx e ((Evo.of x).trans e1 fun _ _ q _ => q) (q.back (Evo.of (X := fun _ => False) x))
  intro f' h' tk' S' μ' ev' r'
  have e1 := unlock x.inv liveOf_ok ev'
  exact P f' h' tk' S' μ' ((Evo.of x).trans e1 fun _ _ q _ => q) (r'.back (Evo.of (X := fun _ => False) x))
theorem while_loop {A : Around} {test : Expr} {body : List Stmt} {env : Env} {c : CE} {cs : List CS} (hA : AOk base n A) (hs : ScOk env sc) (HT : ST prog w base ec G n Φ sc test c) (H : SS prog w base ec G n sc (execs body) (fun ρ σ => evSs N Φ cs ρ σ)) {μ : List Addr} {S₀ : Addr → Prop} {σ₀ : Store} {h₀ : Heap} :
    ∀ (k : Nat) (S : Addr → Prop) (μ' : List Addr) (ρ : Rho) (σ σ' : Store) (fl : Fl) (s : Shared) (R : Result → Shared → Prop), Evo base (Own env) μ μ' S₀ S σ₀ σ h₀ s.heap → FrOk base ec G.V S μ' env ρ s.heap →
      whileGo (fun ρ' σ' => evE Φ c ρ' σ') (fun ρ' σ' => evSs N Φ cs ρ' σ') k ρ σ = some (fl, σ') → LX ec base A env μ S₀ σ₀ σ' h₀ fl s R →
      (∀ f h' tk S' μ'', Evo base (Own env) μ μ'' S₀ S' σ₀ σ' h₀ h' → FlOk base ec G.V env h₀ h' S' μ'' fl f → R (.ok f) { s with heap := h', toks := tk }) →
      codeAny (model prog w) A (.whileLoop test body [] env) R s := by
  intro k
  induction k with
  | zero => intro S μ' ρ σ σ' fl s R x F q; cases q
  | succ k ih =>
    intro S μ' ρ σ σ' fl s R x F q hx P
    refine ob q fun p₀ q₁ q => ob q fun b qb q => ?_
    refine codeAny_of_tree ?_
    show wpAny _ A ((whileTurn test body [] env).onRaise (fun x => do noteFrame x env; theTreesLotGoes x)) _ _ s
    refine wpAny_noted ?_
    simp only [whileTurn]
    refine wpAny_bind (HT A env ρ σ p₀.2 p₀.1 b S μ' s _ _ hA hs x.inv F q₁ qb fun h₁ tk₁ S₁ x₁ => ?_)
    cases b with
    | false =>
      refine wpAny_bind (wpAny_execs_nil (wpAny_pure ?_))
      obtain rfl := (pr q).1
      obtain rfl := (pr q).2
      exact P .next h₁ tk₁ S₁ μ' (x.trans (Evo.of (X := fun _ => False) x₁) fun _ _ q => q.elim) (.next (F.ev x.inv x₁))
    | true =>
      have x' := x.trans (Evo.of (X := fun _ => False) x₁) fun _ _ q => q.elim
      have F₁ := F.ev x.inv x₁
      refine ob q fun p hp q => fl_on q (fun ρ₂ e q => ?_) (fun e hn => ?_)
      · refine wpAny_bind (H A env ρ p₀.2 p.2 (.next ρ₂) S₁ μ' { s with heap := h₁, toks := tk₁ } _ _ hA hs x₁.inv F₁ (nx hp e) (.no hx.1 fun c e => nomatch e) fun f h₅ tk₅ S₅ μ₅ x₅ r₅ => ?_)
        cases r₅ with
        | next F₅ =>
          refine wpAny_pure ⟨rfl, ?_⟩
          exact ih S₅ μ₅ ρ₂ p.2 σ' fl { s with heap := h₅, toks := tk₅ } R (x'.trans x₅ fun _ _ q _ => q) F₅ q hx P
      · refine wpAny_bind (H A env ρ p₀.2 σ' fl S₁ μ' { s with heap := h₁, toks := tk₁ } _ _ hA hs x₁.inv F₁ (hp.trans (congrArg some e)) (hx.body hA x') fun f h₅ tk₅ S₅ μ₅ x₅ r₅ => ?_)
        cases r₅ with
        | next F₅ => exact (hn _ rfl).elim
        | ret r₅ z₅ => exact wpAny_pure (P (.ret _) h₅ tk₅ S₅ μ₅ (x'.trans x₅ fun _ _ q _ => q) (.ret (r₅.backo x') z₅))
theorem ss_while {test : Expr} {body : List Stmt} {pos : Pos} {c : CE} {cs : List CS} (HT : ST prog w base ec G n Φ sc test c) (H : SS prog w base ec G n sc (execs body) (fun ρ σ => evSs N Φ cs ρ σ)) :
    SS prog w base ec G n sc (exec (.While test body [] pos)) (fun ρ σ => evS N Φ (.whil c cs) ρ σ) := by
  intro A env ρ σ σ' fl S μ s Q E hA hs I F q hx P
  refine wpAny_While (while_loop hA hs HT H N S μ ρ σ σ' fl s _ (.refl I) F q ⟨hx.1, fun c e => ⟨I, fun e' h' tk' S' μ' ev' q => LX.out (tk := tk') hA I hx e ev' q⟩⟩ ?_)
  intro f h' tk S' μ' x r
  exact P f h' tk S' μ' x r
end
end Mine
namespace Mine
open PySem PySem.Calls PyProof.Rows
section
variable {prog : Program} {w : World} {base : Bs} {ec : ExcCls} {G : Cfg} {n N : Nat} {Φ : Phi} {sc : Sc}
theorem no_inter {env : Env} (h : env.scope.kind = .function) : interactive env = false := by
  unfold interactive
  rw [h]
  rfl
theorem set_list {A : Around} {E : Value → Shared → Prop} {s : Shared} {l : Addr} {xs : List Value} {m : Nat} {k : Int} {t : Tok} {v : Value} {Q : Unit → Shared → Prop} (e : s.heap.get? l = some (lstO xs m)) (h0 : 0 ≤ k) (hfit : k < 2 ^ 63) (hk : k.toNat < xs.length)
    (hQ : Q () { s with heap := s.heap.update l (Obj.mapSeq fun ys => ys.setIfInBounds k.toNat v) }) : wpAny (model prog w) A (setItem (.ref l) (.int k t) v) Q E s := by
  have hT : s.TypeIs (.ref l) "list" := ⟨_, e, rfl⟩
  unfold setItem
  try with_reducible refine wpAny_holding ?_
  first | refine wpAny_bind (wpAny_pure ?_) | skip
  refine wpAny_bind (wpAny_sequenceKey hT (by decide) ?_)
  refine wpAny_bind (wpAny_callSpecial?_slot (name := Str.ofString "__setitem__") hT slot_list_setitem (wpAny_call_entry slot_list_setitem hT entry_list_setitem ?_ (args_list_setitem _ _ _)))
  show wpAny _ _ (Builtin.List.listSubscript? (.int k t) >>= _) _ _ s
  refine wpAny_bind (wpAny_listSubscript_int (fitsIndex_of h0 hfit) ?_)
  clear hfit
  obtain ⟨j, rfl⟩ := Int.eq_ofNat_of_zero_le h0
  have hj : j < xs.length := hk
  show wpAny _ _ ((seqItemAt l j >>= fun r => pure (r.map (j, ·))) >>= _) _ _ s
  refine wpAny_bind (wpAny_bind (wpAny_seqItemAt e rfl (wpAny_pure ?_)))
  rw [List.getElem?_toArray, List.getElem?_eq_getElem hj]
  show wpAny _ _ (setSeqItemAt l j v >>= _) _ _ s
  refine wpAny_bind (wpAny_setSeqItemAt e rfl ?_)
  first
    | exact wpAny_bind (wpAny_pure (wpAny_pure ⟨.none, rfl, wpAny_pure hQ⟩))
    | exact wpAny_pure ⟨.none, rfl, wpAny_pure hQ⟩
theorem ss_setItem {x : Str} {p p' pos : Pos} {ie e : Expr} {ci c : CE} {i : Nat} (hc : isComp e = false) (hx : varOf G sc x = some i) (Hi : SE prog w base ec G n Φ sc ie ci) (H : SE prog w base ec G n Φ sc e c) :
    SS prog w base ec G n sc (exec (.Assign [.Subscript (.Name x p) ie p'] e pos)) (fun ρ σ => evS N Φ (.setItem i ci c) ρ σ) := by
  intro A env ρ σ σ' fl S μ s Q E hA hs I F q _ P
  refine i_setItem q fun k v σ₁ d σ₂ j σ₃ ds hk q₁ q₂ q₃ q₄ hz z1 z2 => ?_
  subst z1
  subst z2
  refine wpAny_Assign_Subscript (seq1 H hA hs I F q₁ fun u h₁ tk₁ S₁ x₁ r₁ F₁ => ?_) (swaps_no hc _ _ _)
  obtain ⟨S₂, x₂, r₂, F₂⟩ := own_step x₁ (settle_notFresh v) r₁ q₂
  have F₂ := F.ev I x₂
  refine var_cell (s := { s with heap := h₁, toks := tk₁ }) hs x₂.inv F₂ hx hk fun a vs m ha e => ?_
  refine seq1 (s := { s with heap := h₁, toks := tk₁ }) Hi hA hs x₂.inv F₂ q₃ fun u' h₃ tk₃ S₃ x₃ r₃ F₃ => ?_
  obtain ⟨t, rfl⟩ := (rtOf (d := .int j) x₃.inv r₃ rfl).intD
  obtain ⟨vs₃, m₃, e₃, rl, _⟩ := x₃.inv.cells k a _ ds ha q₄
  refine set_list (s := { s with heap := h₃, toks := tk₃ }) e₃ hz.1 (by have : lim = 16777216 := rfl; omega) (by rw [rl.length]; exact hz.2.1) ?_
  obtain ⟨m₄, e₄⟩ := upd_list e₃ (fun ys => ys.setIfInBounds j.toNat u)
  have y := cell_set (ds' := ds.set j.toNat d) x₃.inv q₄ ha (Heap.SameBut.update ..) e₄ (by rw [List.setIfInBounds_toArray]; exact rl.set (r₂.mono (fun b o hb e => x₃.keepS x₂.inv b o hb e) x₃.sub) j.toNat)
  have z := (x₂.trans x₃).trans y
  exact P .next _ tk₃ S₃ μ (.of z) (.next (F.ev I z))
theorem ss_append {x : Str} {m : Str} {p ap pos spos : Pos} {e : Expr} {c : CE} {i : Nat} (hm : (m == ("append" : Str)) = true) (hl : (ap.endLine == pos.line) = true) (hx : varOf G sc x = some i) (hn : noStar e = true) (H : SE prog w base ec G n Φ sc e c) :
    SS prog w base ec G n sc (exec (.Expr (.Call (.Attribute (.Name x p) m ap) [e] [] pos) spos)) (fun ρ σ => evS N Φ (.append i c) ρ σ) := by
  intro A env ρ σ σ' fl S μ s Q E hA hs I F q _ P
  refine i_append q fun k v σ₁ d σ₂ ds hk q₁ q₂ q₃ hz z1 z2 => ?_
  subst z1
  subst z2
  rw [beq_iff_eq] at hm
  subst hm
  refine wpAny_Expr_any ?_ (no_inter F.kind) rfl
  refine Call_method1 rfl (starEach_no hn) hl (var_cell hs I F hx hk fun a vs j ha e => ?_)
  refine method_list PySem.F.slot_list_append type_list_append e (PySem.P.append_list ?_)
  refine seq1 H hA hs I F q₁ fun u h' tk S' x r F' => ?_
  obtain ⟨S₂, x₂, r₂, _⟩ := own_step x (settle_notFresh v) r q₂
  obtain ⟨vs₂, m₂, e₂, rl, _⟩ := x₂.inv.cells k a _ ds ha q₃
  refine ⟨vs₂.toArray, m₂, ?_, e₂, ?_⟩
  · have := rl.length
    rw [← lim_eq]; simp; omega
  · obtain ⟨m₃, e₃⟩ := upd_list e₂ (fun xs => xs.push u)
    have y := cell_set (ds' := ds ++ [d]) x₂.inv q₃ ha (Heap.SameBut.update ..) e₃ (by simpa using rl.append (.one r₂))
    have z := x₂.trans y
    exact P .next _ tk S₂ μ (.of z) (.next (F.ev I z))
theorem ss_extend {x : Str} {m : Str} {p ap pos spos : Pos} {e : Expr} {c : CE} {i : Nat} (hm : (m == ("extend" : Str)) = true) (hl : (ap.endLine == pos.line) = true) (hx : varOf G sc x = some i) (hn : noStar e = true) (H : SE prog w base ec G n Φ sc e c) :
    SS prog w base ec G n sc (exec (.Expr (.Call (.Attribute (.Name x p) m ap) [e] [] pos) spos)) (fun ρ σ => evS N Φ (.extend i c) ρ σ) := by
  intro A env ρ σ σ' fl S μ s Q E hA hs I F q _ P
  refine i_extend q fun k v σ₁ es ds hk q₁ q₂ q₃ hz z1 z2 => ?_
  subst z1
  subst z2
  rw [beq_iff_eq] at hm
  subst hm
  refine wpAny_Expr_any ?_ (no_inter F.kind) rfl
  refine Call_method1 rfl (starEach_no hn) hl (var_cell hs I F hx hk fun a vs j ha e => ?_)
  refine method_list PySem.F.slot_list_extend PySem.F.type_list_extend e (PySem.P.extend_list ?_)
  refine seq1 H hA hs I F q₁ fun u h' tk S' x r F' => ?_
  obtain ⟨b, us, mb, rfl, eb, rb⟩ := (r.rt x.inv q₂).lstD
  obtain ⟨vs₂, m₂, e₂, rl, _⟩ := x.inv.cells k a _ ds ha q₃
  have l1 := rl.length
  have l2 := rb.length
  refine ⟨b, vs₂.toArray, us.toArray, m₂, mb, ?_, ?_, ?_, rfl, e₂, eb, ?_⟩
  · rw [← lim_eq]; simp; omega
  · rw [← lim_eq]; simp; omega
  · unfold Builtin.List.listTooLong
    rw [← lim_eq]
    simp
    intro _
    omega
  · obtain ⟨m₃, e₃⟩ := upd_list e₂ (fun xs => xs ++ us.toArray)
    have y := cell_set (ds' := ds ++ es) x.inv q₃ ha (Heap.SameBut.update ..) e₃ (by simpa using rl.append rb)
    have z := x.trans y
    exact P .next _ tk S' μ (.of z) (.next (F.ev I z))
theorem ss_call (W : Wd base ec G) (HP : PhiOk prog w base ec G n Φ) (HX : PhiX prog w base ec G n Φ) {g : Str} {p pos spos : Pos} {es : List Expr} {cs : List CE} {k : Nat} (hg : isGlob sc g = true) (ho : okName g = true) (hk : slotL (G.fns.map (·.1)) 0 g = some k) (hne : es ≠ []) (hS : SEs prog w base ec G n Φ sc es cs) :
    SS prog w base ec G n sc (exec (.Expr (.Call (.Name g p) es [] pos) spos)) (fun ρ σ => evS N Φ (.expr (.call k cs)) ρ σ) := by
  intro A env ρ σ σ' fl S μ s Q E hA hs I F q hx P
  refine i_expr q fun f es' vs σ₁ r h0 q₁ q₂ z1 => ?_
  subst z1
  cases h0
  refine wpAny_Expr_any ?_ (no_inter F.kind) rfl
  cases r with
  | exc c =>
    have px := hx.2 c rfl
    have e := slotL_lt hk
    rw [List.getElem?_map] at e
    cases qf : G.fns[k]? with
    | none => rw [qf] at e; cases e
    | some fa =>
      obtain ⟨f, a⟩ := fa
      rw [qf] at e
      obtain rfl : f = g := Option.some.inj e
      obtain ⟨hgl, o, fd, ho', hd⟩ := W.fn k f a qf
      refine wpAny_Call_Name_kw (eval_glob F I.keepB ((hs.gl f).trans hg) ho hgl ?_)
      cases hS with
      | nil => exact absurd rfl hne
      | @cons e es' c' cs' hn H hS =>
        have full := SEs.cons hn H hS
        refine PyProof.Rows.callWith_def hd (es_ok full hA hs I F q₁ fun vs' h' tk S' x r F' hf hl => ⟨x.inv.keepB _ _ ho', ?_⟩) (starEach_no hn)
        refine HX k f a qf A S' μ σ₁ _ { s with heap := h', toks := tk } vs' _ c _ _ hA x.inv r q₂ fun e' h'' tk' S'' x' qe => ?_
        have ev := x.trans x'
        exact px e' h'' tk' S'' μ true (.of ev) (qe.back (Evo.of (X := fun _ => False) x))
  | ret v =>
    have ev : evE Φ (.call k cs) ρ σ = some (v, σ') := by rw [ev_call, q₁, Option.bind_some, q₂]; rfl
    exact se_call W HP hg ho hk hne hS A env ρ σ σ' v S μ s _ E hA hs I F ev fun u h' tk S' x r => P .next h' tk S' μ (.of x) (.next (F.ev I x))
end
end Mine
namespace Mine
open PySem PySem.Calls PyProof.Rows
noncomputable def vMro : List Value := [.type "ValueError", .type "Exception", .type "BaseException", .type "object"]
noncomputable def ExcIn (base : Bs) (ec : ExcCls) (G : Cfg) : Prop := ∀ x c, G.excs.lookup x = some c → ∃ mg, base.hp.Ns mainGlobals mg ∧ OwnCls x (ec c) vMro "ValueError.__new__" mg base.hp
section
variable {prog : Program} {w : World} {base : Bs} {ec : ExcCls} {G : Cfg} {n N : Nat} {Φ : Phi} {sc : Sc}
theorem ss_raise (hot0 : base.hot = false) (WX : ExcIn base ec G) {x str : Str} {np cpos pos p' : Pos} {k c : Nat} (hg : isGlob sc x = true) (ho : okName x = true) (hx : G.excs.lookup x = some c) :
    SS prog w base ec G n sc (exec (.Raise (some (.Call (.Name x np) [.Constant (.str str) k p'] [] cpos)) none pos)) (fun ρ σ => evS N Φ (.raise c) ρ σ) := by
  intro A env ρ σ σ' fl S μ s Q E hA hs I F q hX P
  obtain ⟨rfl, rfl⟩ := pr q
  obtain ⟨mg, hmg, O⟩ := WX x c hx
  obtain ⟨tl, N', nm, q', bs, hdct, sn, sub, ab, col, dd, k0, k1, k2, k3, k5, mN, hC, hN, hni, T⟩ := O.obj
  refine wpAny_Raise_call_subU (C := ec c) (nm := nm) (q := q') (N := N') (bs := bs) (bm := tl) (hdct := hdct) (sn := sn) (sub := sub) (ab := ab) (col := col) (dd := dd) (k0 := k0) (k1 := k1) (k2 := k2) (k3 := k3) (k5 := k5)
    PySem.F.excBase_ValueError (by decide) PySem.F.excBase_ValueError (mN := mN) (T.hasType PySem.F.excBase_ValueError.hasBase) (hA.hd hot0) rfl hni ?_
  refine eval_glob F I.keepB ((hs.gl x).trans hg) ho ⟨mg, hmg, .inl O.bound⟩ ⟨rfl, ?_⟩
  refine Calls.evalArgs_plain (spliced_more (PySem.wpAny_Constant_str (spliced_none ?_)))
  refine ⟨rfl, Nat.le_trans (Nat.le_refl 1) (by decide), I.keepB _ _ hC, hN.keeps I.keepB, T.keeps I.keepB, fun h' e m => ?_⟩
  have st : Step S S s.heap h' := .grown m.keeps
  have y : Evo base (Own env) μ μ S S σ σ s.heap h' := .of (st.ev I)
  refine hX.2 c rfl e h' _ S μ false y ⟨m.new, fun hs' => ?_, ?_⟩
  · obtain ⟨o, eo, _⟩ := I.inS e hs'
    rw [m.new] at eo; cases eo
  · obtain ⟨t, he, _⟩ := m.there
    exact ⟨_, _, he, ⟨rfl, rfl⟩, rfl, .inl ⟨rfl, rfl⟩⟩
end
end Mine
namespace Mine
open PySem PySem.Spec PySem.Calls PySem.W PyProof.Rows
section
variable {prog : Program} {w : World} {A : Around} {E : Value → Shared → Prop} {s : Shared} {K : Frag} {x D : Addr} {ox : Obj}
theorem kx_entry {tk : Tok} {R : Result → Shared → Prop} (X : K.In s.heap) (I : InstAt s.heap x ox D none) (hf : findObj K D none "__class__" = some (.bind (.builtin "getset_descriptor.__get__") (.builtin "object.__class__"))) (hm : mroIn K D (.type "object") = some true) (hb : mroIn K D (.type "BaseException") = some true)
    (h : R (.ok (.ret (.ref D))) s) : codeAny (model prog w) A (.call (.builtin "BaseException.__getattribute__") ⟨[.ref x, .str "__class__" tk], []⟩) R s := by
  have L0 := I.type (M := model prog w)
  have L1 := looks_find (M := model prog w) X I hf
  have L2 := looks_mroIn (M := model prog w) X hb
  have hk : builtinKind "BaseException.__getattribute__" = some .slot := by decide +kernel
  have hsplit : splitId "BaseException.__getattribute__" = some ("BaseException", "__getattribute__") := by decide +kernel
  have ha := PySem.F.args_bexc_ga (.ref x) (.str "__class__" tk)
  refine codeAny_call_builtin PySem.F.attrBase_ValueError.ga.plain PySem.F.entry_bexc_ga ?_
  obtain ⟨hh, g, dr, t, os⟩ := s
  simp only [checkBuiltinCall, hk, hsplit]
  unfold isInstance
  repeat (first | with_reducible refine wpAny_call (class_get X I hm ?_) | lk)
  exact h
theorem kx_class {Q : Option Value → Shared → Prop} (X : K.In s.heap) (I : InstAt s.heap x ox D none) (hga : findIn K (.ref D) "__getattribute__" = some (some (.builtin "BaseException.__getattribute__"))) (hgt : findIn K (.ref D) "__getattr__" = some none)
    (hf : findObj K D none "__class__" = some (.bind (.builtin "getset_descriptor.__get__") (.builtin "object.__class__"))) (hm : mroIn K D (.type "object") = some true) (hb : mroIn K D (.type "BaseException") = some true) (h : Q (some (.ref D)) { s with toks := s.toks + 1 }) :
    wpAny (model prog w) A (getAttr? (.ref x) "__class__") Q E s := by
  obtain ⟨hh, g, dr, t, os⟩ := s
  have L0 := I.type (M := model prog w)
  have L1 := looks_findIn (M := model prog w) X hga
  have L2 := looks_findIn (M := model prog w) X hgt
  have f3 := PySem.F.attrBase_ValueError.ga.bind (.ref x)
  have hx2 : (Value.builtin "BaseException.__getattribute__" == Value.builtin "object.__getattribute__") = false := by decide +kernel
  have hx1 : (onTheHeap (Value.ref D) && Value.builtin "BaseException.__getattribute__" == Value.builtin "object.__getattribute__") = false := by rw [hx2]; rfl
  unfold getAttr? getAttrBy? getAttrBy
  refine wpAny_bind (wpAny_mkText (wpAny_bind (wpAny_attempt (wpAny_holding (wpAny_bind (L0.at (wpAny_bind (L1.at ?_))))))))
  show wpAny _ _ (if (onTheHeap (Value.ref D) && Value.builtin "BaseException.__getattribute__" == Value.builtin "object.__getattribute__") = true then _ else _) _ _ _
  rw [if_neg (by rw [hx1]; exact Bool.false_ne_true)]
  unfold getAttrByItsOwn hookBefore
  refine wpAny_bind ?_
  rw [if_pos (show onTheHeap (Value.ref D) = true from rfl)]
  refine L2.at ?_
  refine wpAny_bind (wpAny_attempt (wpAny_holding ?_))
  unfold callGetattribute
  rw [if_neg (by simp)]
  unfold boundAndCalled
  refine wpAny_bind (wpAny_of_eq f3 ?_)
  refine wpAny_call (kx_entry (s := ⟨hh, g, dr, t + 1, os⟩) X I hf hm hb ?_)
  exact handed_on rfl (wpAny_pure h)
structure KX (K : Frag) (D : Addr) : Prop where
  ga : findIn K (.ref D) "__getattribute__" = some (some (.builtin "BaseException.__getattribute__"))
  gt : findIn K (.ref D) "__getattr__" = some none
  cl : findObj K D none "__class__" = some (.bind (.builtin "getset_descriptor.__get__") (.builtin "object.__class__"))
  ob : mroIn K D (.type "object") = some true
  be : mroIn K D (.type "BaseException") = some true
  cls : (clsIn K D).isSome = true
  ty : typeIn K (.ref D) = some (.type "type")
theorem looks_isType {M : Model} {h : Heap} {C : Addr} (X : K.In h) (e : (clsIn K C).isSome = true) : Looks M h (isType (.ref C)) true := by
  unfold clsIn at e
  split at e
  · rename_i c' d' cd' sl' ho
    intro A' Q' E' s' k q
    unfold isType loadHead
    exact wpAny_bind (wpAny_loadPart (k _ _ (X _ _ ho)) (wpAny_pure q))
  · cases e
theorem kitx_exc (kD : KX K D) : KitX K (.ref x) (.ref D) (fun h => ∃ ox, InstAt h x ox D none) where
  ty := fun _ _ _ ⟨_, I⟩ => I.type
  it := fun _ _ X _ => looks_isType X kD.cls
  ne := fun h tp dd its n sl X e => Bool.eq_false_iff.mpr fun q => by
    have hD := beq_iff_eq.mp q
    cases hD
    have hc := kD.cls
    unfold clsIn at hc
    split at hc
    · rename_i c' d' cd' sl' ho
      have := X _ _ ho
      rw [e] at this
      cases this
    · cases hc
  ca := fun X ⟨_, I⟩ h => kx_class X I kD.ga kD.gt kD.cl kD.ob kD.be h
theorem kx_match {C : Addr} {Q : Bool → Shared → Prop} (X : K.In s.heap) (I : InstAt s.heap x ox D none) (kD : KX K D) (kC : KX K C) (hs : subIn K (.ref D) (.ref C) = some true) (h : Q true s) : wpAny (model prog w) A (excMatches (.ref x) (.ref C)) Q E s := by
  obtain ⟨hh, g, dr, t, os⟩ := s
  have L0 := I.type (M := model prog w)
  have L1 := looks_subIn (M := model prog w) X hs
  have L2 := looks_typeIn (M := model prog w) X kC.ty
  have L3 := looks_isType (M := model prog w) X kC.cls
  have L4 := looks_mroIn (M := model prog w) X kC.be
  have f := tc_notTuple
  unfold excMatches
  repeat (first | lk | wp_step)
  exact h
theorem handle_as {env : Env} {C : Addr} {t : Expr} {n : Str} {b₀ : Stmt} {suite : List Stmt} {pos : Pos} {Q : Flow → Shared → Prop} {e : Addr}
    (h : wpAny (model prog w) (A.mark (some (.ref e))) (eval t env) (fun c s₁ => c = .ref C ∧ (K.In s₁.heap ∧ (∃ oe, InstAt s₁.heap e oe D none) ∧ KX K D ∧ KX K C ∧ subIn K (.ref D) (.ref C) = some true) ∧
      wpAny (model prog w) (A.mark (some (.ref e))) (setFlight (.ref e) none) (fun _ s₂ =>
          wpAny (model prog w) (A.mark (some (.ref e))) (storeName env n (.ref e)) (fun _ s₃ =>
            wpAny (model prog w) (A.mark (some (.ref e))) (execs (b₀ :: suite) env)
              (fun f s₄ => wpAny (model prog w) A (do bindName env n .none; unbindBehindTheSuite env n pos) (fun _ s₅ => Q f s₅) E s₄)
              (fun _ _ => False) s₃) (fun _ _ => False) s₂) (fun _ _ => False) s₁) (fun _ _ => False) s) :
    wpAny (model prog w) A (handleBy (.ref e) env [.ExceptHandler (some t) (some n) (b₀ :: suite) pos]) Q E s := by
  refine wpAny_handleBy_cons (codeAny_handlers_test (wpAny_mono h (fun c s₁ h₁ => ?_) fun _ _ y => y.elim)) (by intro q; cases q)
  obtain ⟨rfl, ⟨X, ⟨oe, I⟩, kD, kC, hs⟩, hk⟩ := h₁
  refine kx_match X I kD kC hs (codeAny_handlers_suite_as ?_)
  exact wpAny_mono hk (fun _ s₂ h₂ => wpAny_mono h₂ (fun _ s₃ h₃ => wpAny_mono h₃ (fun _ _ h₄ => h₄) fun _ _ y => y.elim) fun _ _ y => y.elim) fun _ _ y => y.elim
end
end Mine
namespace Mine
open PySem PySem.Spec PySem.Calls PySem.W PyProof.Rows
noncomputable def Bs.heat (b : Bs) : Bs := ⟨b.hp, b.Z, true⟩
section
variable {base : Bs} {ec : ExcCls} {V : List Str} {env : Env} {X : Addr → Prop} {μ μ' : List Addr} {S S' : Addr → Prop} {σ σ' : Store} {h h' : Heap} {ρ : Rho}
theorem Inv.heat (I : Inv base S μ σ h) : Inv base.heat S μ σ h := ⟨I.keepB, I.len, I.cells, I.nodup, I.new, I.inS, I.zs⟩
theorem Inv.cool (I : Inv base.heat S μ σ h) : Inv base S μ σ h := ⟨I.keepB, I.len, I.cells, I.nodup, I.new, I.inS, I.zs⟩
theorem FrOk.heat (F : FrOk base ec V S μ env ρ h) : FrOk base.heat ec V S μ env ρ h := ⟨F.kind, F.glob, F.blt, F.ns, F.cell, F.val, F.has, F.apart, F.newL, F.newC⟩
theorem Evo.cool (x : Evo base.heat X μ μ' S S' σ σ' h h') : Evo base X μ μ' S S' σ σ' h h' := ⟨x.ext, x.sub, x.new, x.inv.cool, x.keep, x.live, x.stay⟩
end
structure XK (K : Frag) (base : Bs) (ec : ExcCls) : Prop where
  inn : K.In base.hp
  kx : ∀ c, c < 5 → KX K (ec c)
  sub : ∀ c, c < 5 → subIn K (.ref (ec c)) (.ref (ec 0)) = some true
  one : ∀ c d, c < 5 → d < 5 → kitOne K (.ref (ec c)) (.ref (ec d)) = some (excSub c d)
  val : ∀ c, c < 5 → kitOne K (.ref (ec c)) (.type "ValueError") = some true
noncomputable def excN (G : Cfg) (y : Str) : Option Nat := if (y == ("ValueError" : Str)) = true then some 99 else (G.excs.lookup y).bind fun c => if c < 5 then some c else none
noncomputable def excOf (G : Cfg) (sc : Sc) (e : Expr) : Option Nat := (nameOf e).bind fun y => if (isGlob sc y && okName y) = true then excN G y else none
noncomputable def excsOf (G : Cfg) (sc : Sc) : List Expr → Option (List Nat)
  | [] => some []
  | t :: ts => (excOf G sc t).bind fun c => (excsOf G sc ts).bind fun cs => some (c :: cs)
noncomputable def excV (ec : ExcCls) (c : Nat) : Value := if c = 99 then .type "ValueError" else .ref (ec c)
theorem i_isexc {Φ : Phi} {ρ : Rho} {σ σ' : Store} {av : AV} {e : CE} {cs : List Nat} {R : Prop} (q : evE Φ (.isexc e cs) ρ σ = some (av, σ')) (k : ∀ c, evE Φ e ρ σ = some (.exc c, σ') → c < 5 → av = .dat (.bool (cs.any (excSub c))) → R) : R :=
  ob q fun x h1 q => ob q fun c h2 q => og q fun h3 q => k c (h1.trans (congrArg some (Prod.ext (excA_eq h2) (pr q).2))) h3 (pr q).1.symm
section
variable {prog : Program} {w : World} {base : Bs} {ec : ExcCls} {G : Cfg} {n N : Nat} {Φ : Phi} {sc : Sc} {K : Frag}
theorem excN_inv {y : Str} {c : Nat} {R : Prop} (h : excN G y = some c) (k1 : (y == ("ValueError" : Str)) = true → c = 99 → R) (k2 : c < 5 → G.excs.lookup y = some c → R) : R := by
  replace h : (if (y == ("ValueError" : Str)) = true then some 99 else (G.excs.lookup y).bind fun c => if c < 5 then some c else none) = some c := h
  by_cases q : (y == ("ValueError" : Str)) = true
  · rw [if_pos q] at h; exact k1 q (Option.some.inj h).symm
  · rw [if_neg q] at h; exact ob h fun d h1 h => og h fun h5 h => os (P := fun c => (c < 5 → G.excs.lookup y = some c → R) → R) h (fun k => k h5 h1) k2
theorem exc_inv {e : Expr} {c : Nat} {P : Expr → Prop} (h : excOf G sc e = some c) (k : ∀ y p, isGlob sc y = true → okName y = true → excN G y = some c → P (.Name y p)) : P e :=
  ob h fun y h1 h => og h fun h2 h => e_name h1 fun p => ba h2 fun h3 h4 => k y p h3 h4 h
theorem excOf_lt {e : Expr} {c : Nat} (h : excOf G sc e = some c) : c = 99 ∨ c < 5 := exc_inv (P := fun _ => c = 99 ∨ c < 5) h fun _ _ _ _ h => excN_inv h (fun _ => .inl) fun h _ => .inr h
theorem excV_lt {c : Nat} (h : c < 5) : excV ec c = .ref (ec c) := if_neg (Nat.ne_of_lt (Nat.lt_trans h (by decide)))
theorem eval_exc (W : Wd base ec G) {A : Around} {env : Env} {ρ : Rho} {S : Addr → Prop} {μ : List Addr} {s : Shared} {Q : Value → Shared → Prop} {E : Value → Shared → Prop} {e : Expr} {c : Nat} (hs : ScOk env sc) (kb : ∀ b o, base.get? b = some o → s.heap.get? b = some o) (F : FrOk base.heat ec G.V S μ env ρ s.heap) (h : excOf G sc e = some c) (hQ : Q (excV ec c) s) :
    wpAny (model prog w) A (eval e env) Q E s :=
  exc_inv (P := fun e => wpAny (model prog w) A (eval e env) Q E s) h fun y p h1 h2 h => eval_glob (v := excV ec c) F kb ((hs.gl _).trans h1) h2 (excN_inv h (fun h3 h4 => by
    rw [h4, eq_of_beq h3]
    exact W.blt _ _ (blt_rest (.tail _ (.tail _ (.tail _ (.head _)))))) fun h3 h4 => by rw [excV_lt h3]; exact W.exc _ _ h4) hQ
theorem excs_ok (W : Wd base ec G) {A : Around} {env : Env} {ρ : Rho} {S : Addr → Prop} {μ : List Addr} {s : Shared} {E : Value → Shared → Prop} {pos : Pos} (hs : ScOk env sc) (kb : ∀ b o, base.get? b = some o → s.heap.get? b = some o) (F : FrOk base.heat ec G.V S μ env ρ s.heap) : ∀ {ts : List Expr} {cs : List Nat} {R : List Value → Shared → Prop}, excsOf G sc ts = some cs → R (cs.map (excV ec)) s →
    wpAny (model prog w) A (spliced (backTo pos (starEach ts env))) R E s := by
  intro ts
  induction ts with
  | nil => intro cs R h hR; exact os (P := fun cs => R (cs.map (excV ec)) s → wpAny (model prog w) A (spliced (backTo pos (starEach [] env))) R E s) h wpAny_items_nil hR
  | cons t ts ih =>
    intro cs R h hR
    exact ob h fun c h1 h => ob h fun cs' h2 h => os (P := fun cs => R (cs.map (excV ec)) s → wpAny (model prog w) A (spliced (backTo pos (starEach (t :: ts) env))) R E s) h (fun hR => wpAny_items_cons (eval_exc W hs kb F h1 (ih h2 hR)) (starEach_no (exc_inv (P := fun t => noStar t = true) h1 fun _ _ _ _ _ => rfl))) hR
theorem excsOf_len : ∀ {ts : List Expr} {cs : List Nat}, excsOf G sc ts = some cs → cs.length = ts.length ∧ ∀ c ∈ cs, c = 99 ∨ c < 5
  | [], _, h => os (P := fun cs => cs.length = 0 ∧ ∀ c ∈ cs, c = 99 ∨ c < 5) h ⟨rfl, fun _ h => nomatch h⟩
  | _ :: ts, _, h => ob h fun c h1 h => ob h fun cs' h2 h => os (P := fun cs => cs.length = ts.length + 1 ∧ ∀ c ∈ cs, c = 99 ∨ c < 5) h ⟨congrArg Nat.succ (excsOf_len h2).1, fun d hd => (List.mem_cons.mp hd).elim (fun e => e ▸ excOf_lt h1) fun hd => (excsOf_len h2).2 d hd⟩
theorem XK.kit (X : XK K base ec) {c d : Nat} (hc : c < 5) (hd : d = 99 ∨ d < 5) : kitOne K (.ref (ec c)) (excV ec d) = some (excSub c d) := by
  rcases hd with rfl | hd
  · exact (X.val c hc).trans (congrArg some (by unfold excSub; simp))
  · rw [excV_lt hd]
    exact X.one c d hc hd
theorem XK.any (X : XK K base ec) {c : Nat} (hc : c < 5) : ∀ {cs : List Nat}, (∀ d ∈ cs, d = 99 ∨ d < 5) → kitAny K (.ref (ec c)) (cs.map (excV ec)) = some (cs.any (excSub c)) := by
  intro cs
  induction cs with
  | nil => intro _; rfl
  | cons d cs ih =>
    intro h
    have h1 := X.kit hc (h d (.head _))
    have h2 := ih fun e he => h e (.tail _ he)
    show kitAny K _ (excV ec d :: _) = _
    unfold kitAny
    rw [h1, List.any_cons]
    cases excSub c d with
    | true => rfl
    | false => rw [h2, Bool.false_or]
theorem inst_of {h : Heap} {S : Addr → Prop} {μ : List Addr} {v : Value} {c : Nat} (r : RdA ec h S μ v (.exc c)) : ∃ a ox, v = .ref a ∧ InstAt h a ox (ec c) none := by
  cases r with
  | exc _ e q =>
    obtain ⟨q1, q2, vs, q3⟩ := q
    refine ⟨_, _, rfl, e, q1, ?_, ?_⟩
    · unfold notCls; rw [q3]
    · rw [q2]; trivial
theorem se_isexc (W : Wd base ec G) (X : XK K base ec) {g : Str} {p pos : Pos} {x t : Expr} {a : CE} {c : Nat} (hn : noStar x = true) (hg : isGlob sc g = true) (ho : okName g = true) (hgi : (g == ("isinstance" : Str)) = true) (ht : excOf G sc t = some c) (H : SE prog w base.heat ec G n Φ sc x a) :
    SE prog w base.heat ec G n Φ sc (.Call (.Name g p) [x, t] [] pos) (.isexc a [c]) := by
  intro A env ρ σ σ' av S μ s Q E hA hs I F ev P
  refine i_isexc ev fun d q₁ h5 z => ?_
  subst z
  cases eq_of_beq hgi
  refine wpAny_Call_Name_kw (eval_glob F I.keepB ((hs.gl _).trans hg) ho (W.blt _ (.builtin "isinstance") (blt_rest (.head _))) ?_)
  have hnt := exc_inv (P := fun t => noStar t = true) ht fun _ _ _ _ _ => rfl
  refine PyProof.Rows.callWith_builtin1 ?_ (starEach_no hn) (by rw [starEach_no hnt]; rfl)
  refine wpAny_items_cons (seq1 H hA hs I F q₁ fun v h' tk S' x r F' => ?_) (starEach_no hn)
  refine wpAny_items_cons (eval_exc (s := { s with heap := h', toks := tk }) W hs x.inv.keepB F' ht ?_) (starEach_no hnt)
  refine wpAny_items_nil ?_
  obtain ⟨b, ox, rfl, inst⟩ := inst_of r
  refine kia_one (s := { s with heap := h', toks := tk }) (kitx_exc (X.kx d h5)) (fun b o e => x.inv.keepB b o (X.inn b o e)) ⟨ox, inst⟩ (X.kit h5 (excOf_lt ht)) (by intro q; cases q) fun tk' => ?_
  have : [c].any (excSub d) = excSub d c := by simp
  rw [← this]
  exact P _ h' tk' S' x (.old (.dat (.bool _)))
theorem se_isexcs (W : Wd base ec G) (X : XK K base ec) {g : Str} {p p' pos : Pos} {k : Nat} {x : Expr} {ts : List Expr} {a : CE} {cs : List Nat} (hn : noStar x = true) (hg : isGlob sc g = true) (ho : okName g = true) (hgi : (g == ("isinstance" : Str)) = true) (hl : ts.length ≤ 1000) (ht : excsOf G sc ts = some cs) (H : SE prog w base.heat ec G n Φ sc x a) :
    SE prog w base.heat ec G n Φ sc (.Call (.Name g p) [x, .Tuple ts k p'] [] pos) (.isexc a cs) := by
  intro A env ρ σ σ' av S μ s Q E hA hs I F ev P
  refine i_isexc ev fun d q₁ h5 z => ?_
  subst z
  cases eq_of_beq hgi
  have hlen := (excsOf_len ht).1
  have hall := (excsOf_len ht).2
  refine wpAny_Call_Name_kw (eval_glob F I.keepB ((hs.gl _).trans hg) ho (W.blt _ (.builtin "isinstance") (blt_rest (.head _))) ?_)
  refine PyProof.Rows.callWith_builtin1 ?_ (starEach_no hn) rfl
  refine wpAny_items_cons (seq1 H hA hs I F q₁ fun v h' tk S' x r F' => ?_) (starEach_no hn)
  refine wpAny_items_cons (wpAny_Tuple (excs_ok (s := { s with heap := h', toks := tk }) W hs x.inv.keepB F' ht ⟨by rw [List.length_map, hlen, ← lim_eq]; unfold lim; omega, ?_⟩)) rfl
  refine wpAny_items_nil ?_
  obtain ⟨b, ox, rfl, inst⟩ := inst_of r
  have inst' : InstAt (h'.push (tupO (cs.map (excV ec)) 0)) b ox (ec d) none := ⟨Heap.get?_push_of_some _ inst.at_, inst.cls, inst.no, by have := inst.dict; revert this; cases ox.dict <;> exact id⟩
  refine kia_tup (s := { s with heap := h'.push (tupO (cs.map (excV ec)) 0), toks := tk }) (dd := none) (sl := #[]) (kitx_exc (X.kx d h5)) (fun b o e => Heap.get?_push_of_some _ (x.inv.keepB b o (X.inn b o e))) ⟨ox, inst'⟩ (Heap.get?_push_size h' (o := tupO (cs.map (excV ec)) 0) rfl) (X.any h5 hall) (by intro q; cases q) fun tk' => ?_
  have st : Step S' S' h' (h'.push (tupO (cs.map (excV ec)) 0)) := .grown fun b o e => Heap.get?_push_of_some _ e
  exact P _ _ tk' S' (x.trans (st.ev x.inv)) (.old (.dat (.bool _)))
end
end Mine
namespace Mine
open PySem PySem.Spec PySem.Calls PySem.W PyProof.Rows
noncomputable def trLS (f : Stmt → Option CS) : List Stmt → Option (List CS)
  | [] => some []
  | e :: es => (f e).bind fun c => (trLS f es).bind fun cs => some (c :: cs)
noncomputable def tupOf : Expr → Option (List Expr)
  | .Tuple es _ _ => some es
  | _ => none
noncomputable def trHI (G : Cfg) (sc : Sc) (a : CE) (e : Expr) : Option CE := match tupOf e with
  | some ts => if ts.length ≤ 1000 then (excsOf G sc ts).bind fun cs => some (.isexc a cs) else none
  | none => (excOf G sc e).bind fun c => some (.isexc a [c])
noncomputable def trHC (G : Cfg) (sc : Sc) (f : Expr → Option CE) (g : Str) (args : List Expr) : Option CE :=
  if (g == ("isinstance" : Str)) = true then (args2 args).bind fun p => (f p.1).bind fun a => trHI G sc a p.2
  else if (g == ("int" : Str)) = true then (args1 args).bind fun x => (f x).bind fun a => some (.prim .int [a]) else none
noncomputable def unH : UnaryOp → CE → Option CE
  | .Not, a => some (.nott a)
  | _, _ => none
noncomputable def trH (G : Cfg) : Nat → Sc → Expr → Option CE
  | 0, _, _ => none
  | n + 1, sc, e => match e with
    | .Constant c _ _ => (constD c).bind fun d => some (.const d)
    | .Name x _ => (varOf G sc x).bind fun i => some (.var i)
    | .BinOp l op r _ => (trH G n sc l).bind fun a => (trH G n sc r).bind fun b => some (.bin op a b)
    | .UnaryOp op x _ => (trH G n sc x).bind fun a => unH op a
    | .BoolOp op vs _ => if vs.isEmpty = false then (trL (trH G n sc) vs).bind fun cs => some (.bop op cs) else none
    | .Call g args kws _ => if kws.isEmpty = true then (nameOf g).bind fun x => if (isGlob sc x && okName x) = true then trHC G sc (trH G n sc) x args else none else none
    | _ => none
noncomputable def one1 : List Expr → Option Expr
  | [] => none
  | a :: r => if r.isEmpty = true then some a else none
noncomputable def trH1 (G : Cfg) (sc : Sc) : Stmt → Option CS
  | .Assign ts e _ => (one1 ts).bind fun t => (nameOf t).bind fun x => if isComp e = false then (ownOf G sc x).bind fun i => (trH G 20 sc e).bind fun c => some (asg false i c) else none
  | .Return e _ => e.bind fun e => (trH G 20 sc e).bind fun c => some (.ret c)
  | _ => none
theorem o_one {es : List Expr} {a : Expr} {P : List Expr → Prop} (h : one1 es = some a) (k : P [a]) : P es := by
  cases es with
  | nil => exact nsm h
  | cons b r => exact og h fun h1 h => l_one (P := fun r => P (b :: r)) h1 (os (P := fun a => P [a] → P [b]) h id k)
theorem e_tup {e : Expr} {es : List Expr} {P : Expr → Prop} (h : tupOf e = some es) (k : ∀ j p, P (.Tuple es j p)) : P e := by
  cases e <;> first | exact nsm h | (cases h; exact k _ _)
section
variable {prog : Program} {w : World} {base : Bs} {ec : ExcCls} {G : Cfg} {n N : Nat} {Φ : Phi} {sc : Sc} {K : Frag}
theorem trLS_ok {f : Stmt → Option CS} (hf : ∀ st c, f st = some c → SS prog w base ec G n sc (exec st) (fun ρ σ => evS N Φ c ρ σ)) : ∀ {b : List Stmt} {cs : List CS}, trLS f b = some cs → SS prog w base ec G n sc (execs b) (fun ρ σ => evSs N Φ cs ρ σ) := by
  intro b
  induction b with
  | nil => intro cs h; exact os (P := fun cs => SS prog w base ec G n sc (execs []) (fun ρ σ => evSs N Φ cs ρ σ)) h ss_nil
  | cons st b ih => intro cs h; exact ob h fun c hc h => ob h fun cs' hc' h => os (P := fun cs => SS prog w base ec G n sc (execs (st :: b)) (fun ρ σ => evSs N Φ cs ρ σ)) h (ss_cons (hf st c hc) (ih hc'))
theorem se_int (W : Wd base ec G) {g : Str} {p pos : Pos} {x : Expr} {a : CE} (hn : noStar x = true) (hg : isGlob sc g = true) (ho : okName g = true) (hgi : (g == ("int" : Str)) = true) (H : SE prog w base.heat ec G n Φ sc x a) :
    SE prog w base.heat ec G n Φ sc (.Call (.Name g p) [x] [] pos) (.prim .int [a]) := by
  intro A env ρ σ σ' av S μ s Q E hA hs I F ev P
  refine i_prim ev fun avs ds q₁ q₂ q₃ => ?_
  rw [beq_iff_eq] at hgi
  subst hgi
  refine i_lcons q₁ fun v σ₁ vs k1 k2 z1 => ?_
  subst z1
  obtain ⟨rfl, rfl⟩ := i_lnil k2
  obtain ⟨d, q, e₁⟩ := bnd q₂
  obtain ⟨ds', q', e₂⟩ := bnd e₁
  cases q'
  cases e₂
  obtain ⟨b, h2, e₂⟩ := bnd q₃
  cases boolD_eq h2
  cases e₂
  refine wpAny_Call_Name_kw (eval_glob F I.keepB ((hs.gl _).trans hg) ho (W.blt _ (.type "int") (blt_ty (y := .int) rfl)) ?_)
  refine PyProof.Rows.callWith_type1 ?_ (starEach_no hn) rfl
  refine wpAny_items_cons (seq1 H hA hs I F k1 fun v h' tk S' x r F' => ?_) (starEach_no hn)
  refine wpAny_items_nil ?_
  obtain rfl := (r.rt x.inv q).boolD
  exact call_int_bool (P _ h' _ S' x (.old (.dat (.int _ _))))
theorem call_x (W : Wd base ec G) (HX : PhiX prog w base ec G n Φ) {g : Str} {p pos : Pos} {es : List Expr} {cs : List CE} {k c : Nat} {vs : List AV} (hg : isGlob sc g = true) (ho : okName g = true) (hk : slotL (G.fns.map (·.1)) 0 g = some k) (hne : es ≠ []) (hS : SEs prog w base ec G n Φ sc es cs)
    {A : Around} {env : Env} {ρ : Rho} {σ σ₁ σ' : Store} {S : Addr → Prop} {μ : List Addr} {s : Shared} {Q : Value → Shared → Prop} {E : Value → Shared → Prop} (hA : AOk base n A) (hs : ScOk env sc) (I : Inv base S μ σ s.heap) (F : FrOk base ec G.V S μ env ρ s.heap) (q₁ : evEs Φ cs ρ σ = some (vs, σ₁)) (q₂ : Φ k vs σ₁ = some (.exc c, σ'))
    (px : ∀ e h' tk S', Ev base μ S S' σ σ' s.heap h' → ExcN s.heap h' S' e (.ref (ec c)) true → E (.ref e) { s with heap := h', toks := tk }) : wpAny (model prog w) A (eval (.Call (.Name g p) es [] pos) env) Q E s := by
  have e := slotL_lt hk
  rw [List.getElem?_map] at e
  cases qf : G.fns[k]? with
  | none => rw [qf] at e; cases e
  | some fa =>
    obtain ⟨f, a⟩ := fa
    rw [qf] at e
    obtain rfl : f = g := Option.some.inj e
    obtain ⟨hgl, o, fd, ho', hd⟩ := W.fn k f a qf
    refine wpAny_Call_Name_kw (eval_glob F I.keepB ((hs.gl f).trans hg) ho hgl ?_)
    cases hS with
    | nil => exact absurd rfl hne
    | @cons e es' c' cs' hn H hS =>
      have full := SEs.cons hn H hS
      refine PyProof.Rows.callWith_def hd (es_ok full hA hs I F q₁ fun vs' h' tk S' x r F' hf hl => ⟨x.inv.keepB _ _ ho', ?_⟩) (starEach_no hn)
      refine HX k f a qf A S' μ σ₁ _ { s with heap := h', toks := tk } vs' _ c _ _ hA x.inv r q₂ fun e' h'' tk' S'' x' qe => ?_
      exact px e' h'' tk' S'' (x.trans x') (qe.back (Evo.of (X := fun _ => False) x))
section
variable (W : Wd base ec G) (X : XK K base ec)
include W X
theorem trHI_ok {g : Str} {p pos : Pos} {x t : Expr} {a c : CE} (hn : noStar x = true) (hg : isGlob sc g = true) (ho : okName g = true) (hgi : (g == ("isinstance" : Str)) = true) (H : SE prog w base.heat ec G n Φ sc x a) (h : trHI G sc a t = some c) : SE prog w base.heat ec G n Φ sc (.Call (.Name g p) [x, t] [] pos) c := by
  unfold trHI at h
  cases q : tupOf t with
  | none => rw [q] at h; exact ob h fun d hd h => os (P := SE prog w base.heat ec G n Φ sc _) h (se_isexc W X hn hg ho hgi hd H)
  | some ts => rw [q] at h; exact og h fun hl h => ob h fun cs hc h => os (P := SE prog w base.heat ec G n Φ sc _) h (e_tup (P := fun t => SE prog w base.heat ec G n Φ sc (.Call (.Name g p) [x, t] [] pos) _) q fun j p' => se_isexcs W X hn hg ho hgi hl hc H)
theorem trHC_ok {f : Expr → Option CE} (hf : ∀ e c, f e = some c → SE prog w base.heat ec G n Φ sc e c) {g : Str} {p pos : Pos} {args : List Expr} {c : CE} (hg : isGlob sc g = true) (ho : okName g = true) (h : trHC G sc f g args = some c) : SE prog w base.heat ec G n Φ sc (.Call (.Name g p) args [] pos) c := by
  replace h : (if (g == ("isinstance" : Str)) = true then (args2 args).bind fun p => (f p.1).bind fun a => trHI G sc a p.2 else if (g == ("int" : Str)) = true then (args1 args).bind fun x => (f x).bind fun a => some (.prim .int [a]) else none) = some c := h
  by_cases hi : (g == ("isinstance" : Str)) = true
  · rw [if_pos hi] at h
    exact ob h fun q hq h => ob h fun a ha h => a_two (P := fun args => SE prog w base.heat ec G n Φ sc (.Call (.Name g p) args [] pos) c) hq fun n1 _ => trHI_ok W X n1 hg ho hi (hf _ _ ha) h
  · rw [if_neg hi] at h
    exact og h fun hi h => ob h fun x hx h => ob h fun a ha h => os (P := SE prog w base.heat ec G n Φ sc _) h (a_one (P := fun args => SE prog w base.heat ec G n Φ sc (.Call (.Name g p) args [] pos) _) hx fun n1 => se_int W n1 hg ho hi (hf _ _ ha))
theorem trH_ok : ∀ (m : Nat) (e : Expr) (c : CE), trH G m sc e = some c → SB prog w base.heat ec G n Φ sc e c
  | 0, _, _, h => nsm h
  | m + 1, e, c, h => by
    have ih := trH_ok m
    cases e <;> first | exact nsm h | skip
    · exact og h fun h1 h => ob h fun cs hc h => os (P := SB prog w base.heat ec G n Φ sc _) h ⟨se_bop (fun q => by rw [q] at h1; cases h1) (trL_sbs ih hc), st_bop (trL_sbs ih hc)⟩
    · exact sb_of (fun _ _ => rfl) (ob h fun a ha h => ob h fun b hb h => os (P := SE prog w base.heat ec G n Φ sc _) h (se_bin (ih _ _ ha).1 (ih _ _ hb).1))
    · rename_i op x pos
      refine ob h fun a ha h => ?_
      cases op <;> first | exact nsm h | exact os (P := SB prog w base.heat ec G n Φ sc _) h ⟨se_not (ih _ _ ha).1, st_not (ih _ _ ha).2⟩
    · exact sb_of (fun _ _ => rfl) (og h fun h1 h => l_one (P := fun kws => SE prog w base.heat ec G n Φ sc (.Call _ _ kws _) c) h1 (ob h fun x hx h => og h fun hg h => e_name (P := fun g => SE prog w base.heat ec G n Φ sc (.Call g _ [] _) c) hx fun p => ba hg fun h1 h2 => trHC_ok W X (fun e c h => (ih e c h).1) h1 h2 h))
    · exact sb_of (fun _ _ => rfl) (ob h fun d hd h => os (P := SE prog w base.heat ec G n Φ sc _) h (se_const hd))
    · exact sb_of (fun _ _ => rfl) (ob h fun i hi h => os (P := SE prog w base.heat ec G n Φ sc _) h (se_var hi))
theorem trH1_ok {st : Stmt} {c : CS} (h : trH1 G sc st = some c) : SS prog w base.heat ec G n sc (exec st) (fun ρ σ => evS N Φ c ρ σ) := by
  cases st <;> first | exact nsm h | skip
  · exact ob h fun e he h => os (P := fun e => SS prog w base.heat ec G n sc (exec (.Return e _)) (fun ρ σ => evS N Φ c ρ σ)) (congrArg some he.symm) (ob h fun a ha h => os (P := fun c => SS prog w base.heat ec G n sc (exec (.Return (some e) _)) (fun ρ σ => evS N Φ c ρ σ)) h (ss_ret (trH_ok W X 20 _ _ ha).1))
  · exact ob h fun t ht h => ob h fun x hx h => og h fun hc h => ob h fun i hi h => ob h fun a ha h => os (P := fun c => SS prog w base.heat ec G n sc (exec (.Assign _ _ _)) (fun ρ σ => evS N Φ c ρ σ)) h (o_one (P := fun ts => SS prog w base.heat ec G n sc (exec (.Assign ts _ _)) (fun ρ σ => evS N Φ (asg false i a) ρ σ)) ht (e_name (P := fun t => SS prog w base.heat ec G n sc (exec (.Assign [t] _ _)) (fun ρ σ => evS N Φ (asg false i a) ρ σ)) hx fun p => ss_asg hi hc (trH_ok W X 20 _ _ ha).1))
end
theorem caught (W : Wd base ec G) (X : XK K base ec) {C x : Str} {pC hpos : Pos} {b₀ : Stmt} {suite : List Stmt} {i c : Nat} {cs : List CS} {v : AV} (hgC : isGlob sc C = true) (hoC : okName C = true) (hC : G.excs.lookup C = some 0) (hx : ownOf G sc x = some i) (hl : sc.lookup x = some .local) (h5 : c < 5)
    (Hh : SS prog w base.heat ec G n sc (execs (b₀ :: suite)) (fun ρ σ => evSs N Φ cs ρ σ)) {A : Around} {env : Env} {ρ : Rho} {σ σ₁ σ' : Store} {S S' : Addr → Prop} {μ : List Addr} {s : Shared} {h' : Heap} {tk : Nat} {e : Addr} {Q : Flow → Shared → Prop} {E : Value → Shared → Prop}
    (hA : AOk base n A) (ht : Top A env) (hs : ScOk env sc) (I : Inv base S μ σ s.heap) (F : FrOk base ec G.V S μ env ρ s.heap) (ev : Ev base μ S S' σ σ₁ s.heap h') (qe : ExcN s.heap h' S' e (.ref (ec c)) true) (q : evSs N Φ cs (ρ.set i (.exc c)) σ₁ = some (.ret v, σ'))
    (P : SPost ec base G.V env μ S σ σ' s (.ret v) Q) :
    wpAny (model prog w) A (noteFrame (.ref e) env) (fun _ s₂ => wpAny (model prog w) A (setFlight (.ref e) none) (fun _ s₃ => wpAny (model prog w) A (handleBy (.ref e) env [.ExceptHandler (some (.Name C pC)) (some x) (b₀ :: suite) hpos]) Q E s₃) E s₂) E { s with heap := h', toks := tk } := by
  obtain ⟨l, z2, z3⟩ := frt hA ht ev.inv
  refine note_ok (base := base) (s := { s with heap := h', toks := tk }) z2 ht.1 I (Evo.of (X := fun _ => False) ev) z3 qe fun h₂ w1 w2 w3 => ?_
  refine flight_ok (base := base) (s := { s with heap := h₂, toks := tk }) I w1 w2 w3 fun h₃ v1 v2 v3 => ?_
  have ev3 := v1.toEv I fun _ q => q.elim
  have F3 := F.ev I ev3
  have kin : ∀ {h : Heap}, (∀ b o, base.get? b = some o → h.get? b = some o) → K.In h := fun kb b o e => kb b o (X.inn b o e)
  refine handle_as (K := K) (D := ec c) (C := ec 0) (s := { s with heap := h₃, toks := tk }) ?_
  refine eval_glob (s := { s with heap := h₃, toks := tk }) F3 ev3.inv.keepB ((hs.gl C).trans hgC) hoC (W.exc C 0 hC) ?_
  refine ⟨rfl, ⟨kin ev3.inv.keepB, ?_, X.kx c h5, X.kx 0 (by omega), X.sub c h5⟩, ?_⟩
  · obtain ⟨oe, vs, he, ⟨hcls, hdct⟩, hd, _⟩ := v3.obj
    exact ⟨oe, he, hcls, by unfold notCls; rw [hd], by rw [hdct]; trivial⟩
  refine flight_ok (base := base) (s := { s with heap := h₃, toks := tk }) I v1 v2 v3 fun h₄ u1 u2 u3 => ?_
  have ev4 := u1.toEv I fun _ q => q.elim
  obtain ⟨oe, vs, he, ⟨hcls, hdct⟩, hd, _⟩ := u3.obj
  have ev5 := ev4.add I u3.new he ⟨fun _ _ q => (by rw [hd] at q; cases q), fun _ q => (by rw [hd] at q; cases q)⟩
  have F5 := F.ev I ev5
  refine own_kind hs hx fun hsl hki => ?_
  refine store_name (s := { s with heap := h₄, toks := tk }) ev5.inv F5 hsl hki (.exc (.inr rfl) he ⟨hcls, hdct, _, hd⟩) fun h₆ tk₆ cc hcc hcl I₆ F₆ hk st => ?_
  have x6 : Evo base (Own env) μ μ S (fun b => S' b ∨ b = e) σ σ₁ s.heap h₆ := (Evo.of (X := Own env) ev5).poke (wr := Own env) (Mv.same fun b o hb e => hk b o (fun q => hb (q ▸ hcc)) e) (fun a o ha _ => ha) (fun a ha => ha.notS ev5.inv F5) (fun a ha => ha.notMu ev5.inv F5) (fun a ha => ha.new F5) (fun a _ z => (I₆.zs a z).2) fun a o ha e => let ⟨o', e'⟩ := ev5.stays e; st a o' e'
  have hA' : AOk base.heat n (A.mark (some (.ref e))) := ⟨hA.fr, (fun q => by cases q), hA.dp, hA.un⟩
  refine Hh _ env (ρ.set i (.exc c)) σ₁ σ' (.ret v) _ μ { s with heap := h₆, toks := tk₆ } _ _ hA' hs I₆.heat F₆.heat q (.no ⟨ht.1, ht.2⟩ fun c e => nomatch e) fun f h₇ tk₇ S₇ μ₇ y r => ?_
  have x7 := x6.trans y.cool fun _ _ q _ => q
  cases r with
  | ret r hns =>
    obtain ⟨m, hn⟩ := hns
    have hkl : env.kindOf x = some .local := by
      rcases hs x with q | ⟨q, _⟩
      · exact q.trans hl
      · rw [hl] at q; cases q
    refine wpAny_nameGoes (s := { s with heap := h₇, toks := tk₇ }) hkl hn (by rw [F.kind]; rfl) fun h₈ m₈ hn₈ sb => ?_
    obtain ⟨o, es, ep, e0, d0, _⟩ := hn
    have hnS : ¬ S₇ env.locals := fun z => by
      obtain ⟨o', e', p⟩ := x7.inv.inS _ z
      rw [e0] at e'; cases e'
      exact p.1 _ _ d0
    have x8 : Evo base (Own env) μ μ₇ S S₇ σ σ' s.heap h₈ := x7.poke (wr := fun b => b = env.locals) (Mv.same fun b o hb e => sb.extBut b o hb e) (fun a o ha _ => .inl ha) (fun a ha => ha ▸ hnS) (fun a ha z => by
      obtain ⟨_, _, e'⟩ := x7.inv.mem z
      rw [ha, e0] at e'; cases e'; cases d0) (fun a ha => ha ▸ F.newL) (fun a ha z => by obtain ⟨o', es', ep', e', d', _⟩ := hn₈; exact ⟨o', es', ep', ha ▸ e', d'⟩) (fun a o ha e => by obtain ⟨o', es', ep', e', d', _⟩ := hn₈; exact ⟨o', ha ▸ e'⟩)
    have kS : ∀ a o, S₇ a → h₇.get? a = some o → h₈.get? a = some o := fun a o hs e => sb.extBut a o (fun q => hnS (q ▸ hs)) e
    refine P _ h₈ _ S₇ μ₇ x8 (.ret ?_ ⟨m₈, hn₈⟩)
    have r' := r.backo x6
    cases r' with
    | old r => exact .old (r.mono kS (fun _ q => q) fun _ _ q => q)
    | fresh e1 r1 s1 n1 => exact .fresh (sb.extBut _ _ (fun q => by rw [q, e0] at e1; cases e1; cases d0) e1) (r1.mono kS fun _ q => q) s1 n1
theorem i_tryy {wr : Bool} {f : Nat} {es : List CE} {x : Nat} {hd : List CS} {ρ : Rho} {σ σ' : Store} {fl : Fl} {R : Prop} (q : evS N Φ (.tryy wr f es x hd) ρ σ = some (fl, σ')) (k : ∀ vs σ₁ r σ₂, evEs Φ es ρ σ = some (vs, σ₁) → Φ f vs σ₁ = some (r, σ₂) → tryC wr ρ (fun c σ₂ => evSs N Φ hd (ρ.set x (.exc c)) σ₂) (r, σ₂) = some (fl, σ') → R) : R :=
  ob q fun x h1 q => ob q fun y h2 q => k x.1 x.2 y.1 y.2 h1 h2 q
theorem retF_eq {v : Fl} {b : AV} (h : retF v = some b) : v = .ret b := by cases v <;> cases h; rfl
theorem i_tryx {wr : Bool} {c : Nat} {ρ : Rho} {σ σ' : Store} {fl : Fl} {f : Nat → Store → Option (Fl × Store)} {R : Prop} (q : tryC wr ρ f (.exc c, σ) = some (fl, σ')) (k : c < 5 → ∀ v, f c σ = some (.ret v, σ') → fl = .ret v → R) : R :=
  og q fun h5 q => ob q fun x h1 q => ob q fun v h2 q => k h5 v (h1.trans (congrArg some (Prod.ext (retF_eq h2) (pr q).2))) (pr q).1.symm
theorem ss_try (W : Wd base ec G) (X : XK K base ec) (HP : PhiOk prog w base ec G n Φ) (HX : PhiX prog w base ec G n Φ) {g : Str} {p pos spos tpos : Pos} {es : List Expr} {cs : List CE} {k : Nat} (hg : isGlob sc g = true) (ho : okName g = true) (hk : slotL (G.fns.map (·.1)) 0 g = some k) (hne : es ≠ []) (hS : SEs prog w base ec G n Φ sc es cs)
    {C x : Str} {pC hpos : Pos} {b₀ : Stmt} {suite : List Stmt} {i : Nat} {hd : List CS} (hgC : isGlob sc C = true) (hoC : okName C = true) (hC : G.excs.lookup C = some 0) (hx : ownOf G sc x = some i) (hl : sc.lookup x = some .local)
    (Hh : SS prog w base.heat ec G n sc (execs (b₀ :: suite)) (fun ρ σ => evSs N Φ hd ρ σ)) :
    SS prog w base ec G n sc (exec (.Try [.Expr (.Call (.Name g p) es [] pos) spos] [.ExceptHandler (some (.Name C pC)) (some x) (b₀ :: suite) hpos] [] [] tpos)) (fun ρ σ => evS N Φ (.tryy false k cs i hd) ρ σ) := by
  intro A env ρ σ σ' fl S μ s Q E hA hs I F q hxx P
  refine i_tryy q fun vs σ₁ r σ₂ q₁ q₂ q₃ => ?_
  refine wpAny_Try_except (wpAny_execs_cons (wpAny_Expr_any ?_ (no_inter F.kind) rfl))
  cases r with
  | ret v =>
    obtain ⟨rfl, rfl⟩ := pr (show some (Fl.next ρ, σ₂) = some (fl, σ') from q₃)
    have ev : evE Φ (.call k cs) ρ σ = some (v, σ₂) := by rw [ev_call, q₁, Option.bind_some, q₂]; rfl
    exact se_call W HP hg ho hk hne hS A env ρ σ σ₂ v S μ s _ _ hA hs I F ev fun u h' tk S' x r => wpAny_execs_nil (wpAny_execs_nil (P .next h' tk S' μ (.of x) (.next (F.ev I x))))
  | exc c =>
    refine i_tryx q₃ fun h5 v q₄ z1 => ?_
    subst z1
    exact call_x W HX hg ho hk hne hS hA hs I F q₁ q₂ fun e h' tk S' x qe => caught W X hgC hoC hC hx hl h5 Hh hA hxx.1 hs I F x qe q₄ P
end
end Mine
namespace Mine
open PySem PySem.Spec PySem.Calls PySem.W PyProof.Rows
noncomputable def xkB (K : Frag) (ec : ExcCls) : Bool := (List.range 5).all fun c => findIn K (.ref (ec c)) "__getattribute__" == some (some (.builtin "BaseException.__getattribute__")) && findIn K (.ref (ec c)) "__getattr__" == some none && mroIn K (ec c) (.type "object") == some true && mroIn K (ec c) (.type "BaseException") == some true && (clsIn K (ec c)).isSome && typeIn K (.ref (ec c)) == some (.type "type") &&
  (subIn K (.ref (ec c)) (.ref (ec 0)) == some true && kitOne K (.ref (ec c)) (.type "ValueError") == some true && (List.range 5).all fun d => kitOne K (.ref (ec c)) (.ref (ec d)) == some (excSub c d))
theorem xk_of {K : Frag} {base : Bs} {ec : ExcCls} (X : K.In base.hp) (h : xkB K ec = true) (hc : ∀ c, c < 5 → findObj K (ec c) none "__class__" = some (.bind (.builtin "getset_descriptor.__get__") (.builtin "object.__class__"))) : XK K base ec := by
  have H : ∀ c, c < 5 → _ := fun c h5 => List.all_eq_true.mp h c (List.mem_range.mpr h5)
  simp only [Bool.and_eq_true, beq_iff_eq] at H
  exact ⟨X, fun c h5 => let ⟨⟨⟨⟨⟨⟨a1, a2⟩, a3⟩, a4⟩, a5⟩, a6⟩, _⟩ := H c h5; ⟨a1, a2, hc c h5, a3, a4, a5, a6⟩, fun c h5 => (H c h5).2.1.1, fun c d h5 hd => beq_iff_eq.mp (List.all_eq_true.mp (H c h5).2.2 d (List.mem_range.mpr hd)), fun c h5 => (H c h5).2.1.2⟩
end Mine
namespace Mine
open PySem PySem.Spec PySem.Calls PySem.W PyProof.Rows
noncomputable def trAsgN (G : Cfg) (sc : Sc) (e : Expr) (x : Str) : Option CS := (ownOf G sc x).bind fun i => (trE G 40 sc e).bind fun c => some (asg (G.cells.contains x) i c)
noncomputable def trAsgT (G : Cfg) (sc : Sc) (e t : Expr) : Option CS := (tupOf t).bind fun es => (ownsOf G sc es).bind fun is => (trE G 40 sc e).bind fun c => if (!isComp e && !isTupT e) = true then some (.unpack is c) else none
noncomputable def subOf : Expr → Option (Expr × Expr)
  | .Subscript v i _ => some (v, i)
  | _ => none
noncomputable def trAsgI (G : Cfg) (sc : Sc) (e : Expr) (v i : Expr) : Option CS := (nameOf v).bind fun x => (varOf G sc x).bind fun k => (trE G 40 sc i).bind fun ci => (trE G 40 sc e).bind fun c => if isComp e = false then some (.setItem k ci c) else none
noncomputable def trAsg2 (G : Cfg) (sc : Sc) (e t : Expr) : Option CS := match subOf t with
  | some p => trAsgI G sc e p.1 p.2
  | none => trAsgT G sc e t
noncomputable def trAsg (G : Cfg) (sc : Sc) (e : Expr) (ts : List Expr) : Option CS := (one1 ts).bind fun t => match nameOf t with
  | some x => trAsgN G sc e x
  | none => trAsg2 G sc e t
noncomputable def trMth1 (G : Cfg) (sc : Sc) (x : Str) (args : List Expr) (f : Nat → CE → CS) : Option CS := (args1 args).bind fun a => (varOf G sc x).bind fun i => (trE G 40 sc a).bind fun c => some (f i c)
noncomputable def trMth (G : Cfg) (sc : Sc) (x m : Str) (args : List Expr) : Option CS :=
  if (m == ("append" : Str)) = true then trMth1 G sc x args .append else if (m == ("extend" : Str)) = true then trMth1 G sc x args .extend else none
noncomputable def okCall (sc : Sc) (g : Str) (args : List Expr) : Bool := isGlob sc g && (okName g && (args.all noStar && !args.isEmpty))
noncomputable def trDo (G : Cfg) (sc : Sc) (g : Str) (args : List Expr) : Option CS :=
  if okCall sc g args = true then (slotL (G.fns.map (·.1)) 0 g).bind fun k => (trL (trE G 40 sc) args).bind fun cs => some (.expr (.call k cs)) else none
noncomputable def trCallS (G : Cfg) (sc : Sc) (pos : Pos) (args : List Expr) : Expr → Option CS
  | .Attribute o m ap => if (ap.endLine == pos.line) = true then (nameOf o).bind fun x => trMth G sc x m args else none
  | .Name g _ => trDo G sc g args
  | _ => none
noncomputable def trExpS (G : Cfg) (sc : Sc) : Expr → Option CS
  | .Call g args kws pos => if kws.isEmpty = true then trCallS G sc pos args g else none
  | _ => none
noncomputable def trRaise (G : Cfg) (sc : Sc) (e f : Option Expr) : Option CS := if f.isNone = true then e.bind fun e => (nameCall e).bind fun p => (one1 p.2).bind fun a => (strOf a).bind fun _ => if (isGlob sc p.1 && okName p.1) = true then (G.excs.lookup p.1).bind fun c => some (.raise c) else none else none
noncomputable def isLoc (sc : Sc) (x : Str) : Bool := match sc.lookup x with
  | some .local => true
  | _ => false
noncomputable def hd1 : List ExceptHandler → Option ExceptHandler
  | [] => none
  | h :: r => if r.isEmpty = true then some h else none
noncomputable def trTryH (G : Cfg) (sc : Sc) (hs : List ExceptHandler) : Option (Nat × List CS) := (hd1 hs).bind fun h => match h with
  | .ExceptHandler t n b _ => t.bind fun t => (nameOf t).bind fun C => n.bind fun x => if (isGlob sc C && (okName C && ((G.excs.lookup C == some 0) && (isLoc sc x && !b.isEmpty)))) = true then (ownOf G sc x).bind fun i => (trLS (trH1 G sc) b).bind fun cs => some (i, cs) else none
noncomputable def trTryC (G : Cfg) (sc : Sc) (wr : Bool) (hs : List ExceptHandler) (g : Str) (args : List Expr) : Option CS :=
  if okCall sc g args = true then
    (slotL (G.fns.map (·.1)) 0 g).bind fun k => (trL (trE G 40 sc) args).bind fun cs => (trTryH G sc hs).bind fun h => some (.tryy wr k cs h.1 h.2)
  else none
noncomputable def trTry1 (G : Cfg) (sc : Sc) (hs : List ExceptHandler) : Stmt → Option CS
  | .Expr e _ => (nameCall e).bind fun p => trTryC G sc false hs p.1 p.2
  | _ => none
noncomputable def st1 : List Stmt → Option Stmt
  | [] => none
  | h :: r => if r.isEmpty = true then some h else none
noncomputable def trS (G : Cfg) : Nat → Sc → Stmt → Option CS
  | 0, _, _ => none
  | m + 1, sc, st => match st with
    | .Assign ts e _ => trAsg G sc e ts
    | .Expr e _ => trExpS G sc e
    | .If t a b _ => (trE G 40 sc t).bind fun c => (trLS (trS G m sc) a).bind fun x => (trLS (trS G m sc) b).bind fun y => some (.ite c x y)
    | .While t b o _ => if o.isEmpty = true then (trE G 40 sc t).bind fun c => (trLS (trS G m sc) b).bind fun x => some (.whil c x) else none
    | .For t it b o _ => if o.isEmpty = true then (trT G sc t).bind fun tg => (trI sc (trE G 40 sc) it).bind fun r => (trLS (trS G m sc) b).bind fun x => if tgtFits r.1 tg = true then some (.forr tg r.1 r.2 x) else none else none
    | .Return e _ => (match e with
      | some e => (trE G 40 sc e).bind fun c => some (.ret c)
      | none => some (.ret (.const .none)))
    | .Raise e f _ => trRaise G sc e f
    | .Try b hs o f _ => if (o.isEmpty && f.isEmpty) = true then (st1 b).bind fun s => trTry1 G sc hs s else none
    | _ => none
theorem s_one {es : List Stmt} {a : Stmt} {P : List Stmt → Prop} (h : st1 es = some a) (k : P [a]) : P es := by
  cases es with
  | nil => exact nsm h
  | cons b r => exact og h fun h1 h => l_one (P := fun r => P (b :: r)) h1 (os (P := fun a => P [a] → P [b]) h id k)
theorem h_one {es : List ExceptHandler} {a : ExceptHandler} {P : List ExceptHandler → Prop} (h : hd1 es = some a) (k : P [a]) : P es := by
  cases es with
  | nil => exact nsm h
  | cons b r => exact og h fun h1 h => l_one (P := fun r => P (b :: r)) h1 (os (P := fun a => P [a] → P [b]) h id k)
theorem e_sub {e : Expr} {p : Expr × Expr} {P : Expr → Prop} (h : subOf e = some p) (k : ∀ q, P (.Subscript p.1 p.2 q)) : P e := by
  cases e <;> first | exact nsm h | (cases h; exact k _)
theorem isLoc_eq {sc : Sc} {x : Str} (h : isLoc sc x = true) : sc.lookup x = some .local := by
  unfold isLoc at h
  split at h
  · rename_i q; exact q
  · exact bft h
section
variable {prog : Program} {w : World} {base : Bs} {ec : ExcCls} {G : Cfg} {n N : Nat} {Φ : Phi} {sc : Sc} {K : Frag}
theorem ss_ret0 {pos : Pos} : SS prog w base ec G n sc (exec (.Return none pos)) (fun ρ σ => evS N Φ (.ret (.const .none)) ρ σ) := by
  intro A env ρ σ σ' fl S μ s Q E hA hs I F q hx P
  cases q
  exact wpAny_Return_none (P _ s.heap s.toks S μ (.refl I) (.ret (.old (.dat .none)) (let ⟨m, hn, _⟩ := F.ns; ⟨m, hn⟩)))
abbrev SSt (prog : Program) (w : World) (base : Bs) (ec : ExcCls) (G : Cfg) (n N : Nat) (Φ : Phi) (sc : Sc) (st : Stmt) (c : CS) : Prop := SS prog w base ec G n sc (exec st) (fun ρ σ => evS N Φ c ρ σ)
theorem comp_asg (W : Wd base ec G) (HP : PhiOk prog w base ec G n Φ) {nc : Bool} {e : Expr} {c : CE} {x : Str} {p pos : Pos} {i : Nat} : ∀ (m : Nat), trE G m sc e = some c → isComp e = true → ownOf G sc x = some i → SSt prog w base ec G n N Φ sc (.Assign [.Name x p] e pos) (asg nc i c)
  | 0, h, _, _ => nsm h
  | m + 1, h, hc, hi => by
    have HE : ∀ (sc : Sc) (e : Expr) (c : CE), trE G m sc e = some c → SB prog w base ec G n Φ sc e c := fun sc e c h => trE_ok W HP m sc e c h
    cases e <;> first | exact bft hc | exact nsm h | skip
    exact ob h fun g hg h => comp1_inv (P := fun l => SSt prog w base ec G n N Φ sc (.Assign [.Name x p] (.ListComp _ l _ _) pos) (asg nc i c)) hg (comp_parts (P := fun g c => SSt prog w base ec G n N Φ sc (.Assign [.Name x p] (.ListComp _ [g] _ _) pos) (asg nc i c)) h fun target iter ifs tg r ce cs h1 h2 h3 h4 h5 h6 h7 h8 => ss_asgC W.cold hi (scopeFits_ok h1) h8 h7 h3 h2 (trI_ok W (fun e c h => (HE _ e c h).1) h4) (HE _ _ _ h5).1 (trL_sbs (HE _) h6))
theorem trAsgN_ok (W : Wd base ec G) (HP : PhiOk prog w base ec G n Φ) {e : Expr} {x : Str} {p pos : Pos} {c : CS} (h : trAsgN G sc e x = some c) : SSt prog w base ec G n N Φ sc (.Assign [.Name x p] e pos) c := by
  refine ob h fun i hi h => ob h fun d hd h => os (P := SSt prog w base ec G n N Φ sc _) h ?_
  cases hc : isComp e with
  | false => exact ss_asg hi hc (trE_ok W HP 40 _ _ _ hd).1
  | true => exact comp_asg W HP 40 hd hc hi
theorem trAsg_ok (W : Wd base ec G) (HP : PhiOk prog w base ec G n Φ) {e : Expr} {ts : List Expr} {pos : Pos} {c : CS} (h : trAsg G sc e ts = some c) : SSt prog w base ec G n N Φ sc (.Assign ts e pos) c := by
  refine ob h fun t ht h => o_one (P := fun ts => SSt prog w base ec G n N Φ sc (.Assign ts e pos) c) ht ?_
  cases q : nameOf t with
  | some x => rw [q] at h; exact e_name (P := fun t => SSt prog w base ec G n N Φ sc (.Assign [t] e pos) c) q fun p => trAsgN_ok W HP h
  | none =>
    rw [q] at h
    unfold trAsg2 at h
    cases q2 : subOf t with
    | some p => rw [q2] at h; exact ob h fun x hx h => ob h fun k hk h => ob h fun ci hci h => ob h fun d hd h => og h fun hc h => os (P := SSt prog w base ec G n N Φ sc _) h (e_sub (P := fun t => SSt prog w base ec G n N Φ sc (.Assign [t] e pos) _) q2 fun p1 => e_name (P := fun v => SSt prog w base ec G n N Φ sc (.Assign [.Subscript v p.2 p1] e pos) _) hx fun p2 => ss_setItem hc hk (trE_ok W HP 40 _ _ _ hci).1 (trE_ok W HP 40 _ _ _ hd).1)
    | none =>
    rw [q2] at h
    exact ob h fun es hes h => ob h fun is hi h => ob h fun d hd h => og h fun hn h => os (P := SSt prog w base ec G n N Φ sc _) h (ba hn fun h1 h2 => e_tup (P := fun t => SSt prog w base ec G n N Φ sc (.Assign [t] e pos) _) hes fun j p => ss_unpack W.cold hi ((Bool.not_eq_true' _).mp h1) ((Bool.not_eq_true' _).mp h2) (trE_ok W HP 40 _ _ _ hd).1)
section
variable (W : Wd base ec G) (HP : PhiOk prog w base ec G n Φ)
include W HP
theorem trMth1_ok {x m : Str} {p ap pos spos : Pos} {args : List Expr} {f : Nat → CE → CS} {c : CS} (hf : ∀ a c i, noStar a = true → varOf G sc x = some i → SE prog w base ec G n Φ sc a c → SSt prog w base ec G n N Φ sc (.Expr (.Call (.Attribute (.Name x p) m ap) [a] [] pos) spos) (f i c)) (h : trMth1 G sc x args f = some c) : SSt prog w base ec G n N Φ sc (.Expr (.Call (.Attribute (.Name x p) m ap) args [] pos) spos) c :=
  ob h fun a ha h => ob h fun i hi h => ob h fun d hd h => os (P := SSt prog w base ec G n N Φ sc _) h (a_one (P := fun args => SSt prog w base ec G n N Φ sc (.Expr (.Call (.Attribute (.Name x p) m ap) args [] pos) spos) _) ha fun hn => hf a d i hn hi (trE_ok W HP 40 _ _ _ hd).1)
theorem trMth_ok {x m : Str} {p ap pos spos : Pos} {args : List Expr} {c : CS} (hl : (ap.endLine == pos.line) = true) (h : trMth G sc x m args = some c) : SSt prog w base ec G n N Φ sc (.Expr (.Call (.Attribute (.Name x p) m ap) args [] pos) spos) c := by
  replace h : (if (m == ("append" : Str)) = true then trMth1 G sc x args .append else if (m == ("extend" : Str)) = true then trMth1 G sc x args .extend else none) = some c := h
  by_cases h1 : (m == ("append" : Str)) = true
  · rw [if_pos h1] at h; exact trMth1_ok W HP (fun a d i hn hi H => ss_append h1 hl hi hn H) h
  · rw [if_neg h1] at h
    by_cases h2 : (m == ("extend" : Str)) = true
    · rw [if_pos h2] at h; exact trMth1_ok W HP (fun a d i hn hi H => ss_extend h2 hl hi hn H) h
    · rw [if_neg h2] at h
      exact nsm h
theorem okCall_inv {g : Str} {args : List Expr} {cs : List CE} {R : Prop} (h : okCall sc g args = true) (hc : trL (trE G 40 sc) args = some cs) (k : isGlob sc g = true → okName g = true → args ≠ [] → SEs prog w base ec G n Φ sc args cs → R) : R :=
  ba h fun h1 h => ba h fun h2 h => ba h fun h3 h4 => k h1 h2 (fun q => by rw [q] at h4; exact bft h4) (trL_ses (fun e c h => (trE_ok W HP 40 sc e c h).1) hc h3)
theorem trExpS_ok (HX : PhiX prog w base ec G n Φ) {e : Expr} {spos : Pos} {c : CS} (h : trExpS G sc e = some c) : SSt prog w base ec G n N Φ sc (.Expr e spos) c := by
  cases e <;> first | exact nsm h | skip
  rename_i g args kws pos
  refine og h fun h1 h => l_one (P := fun kws => SSt prog w base ec G n N Φ sc (.Expr (.Call g args kws pos) spos) c) h1 ?_
  cases g <;> first | exact nsm h | skip
  · exact og h fun hl h => ob h fun x hx h => e_name (P := fun o => SSt prog w base ec G n N Φ sc (.Expr (.Call (.Attribute o _ _) args [] pos) spos) c) hx fun p => trMth_ok W HP hl h
  · exact og h fun h2 h => ob h fun k hk h => ob h fun cs hc h => os (P := SSt prog w base ec G n N Φ sc _) h (okCall_inv W HP h2 hc fun h1 h2 h3 h4 => ss_call W HP HX h1 h2 hk h3 h4)
theorem trTry_ok (X : XK K base ec) (HX : PhiX prog w base ec G n Φ) {s : Stmt} {hs : List ExceptHandler} {pos : Pos} {c : CS} (h : trTry1 G sc hs s = some c) : SSt prog w base ec G n N Φ sc (.Try [s] hs [] [] pos) c := by
  have key : ∀ {wr : Bool} {g : Str} {es : List Expr} {R : List ExceptHandler → CS → Prop}, trTryC G sc wr hs g es = some c → (∀ k cs C x b₀ suite pC hpos i hd, isGlob sc g = true → okName g = true → slotL (G.fns.map (·.1)) 0 g = some k → es ≠ [] → SEs prog w base ec G n Φ sc es cs →
      isGlob sc C = true → okName C = true → G.excs.lookup C = some 0 → ownOf G sc x = some i → sc.lookup x = some .local → SS prog w base.heat ec G n sc (execs (b₀ :: suite)) (fun ρ σ => evSs N Φ hd ρ σ) → R [.ExceptHandler (some (.Name C pC)) (some x) (b₀ :: suite) hpos] (.tryy wr k cs i hd)) → R hs c := by
    intro wr g es R h kk
    refine og h fun h1 h => ob h fun k hk h => ob h fun cs hc h => ob h fun q hh h => os (P := R hs) h (okCall_inv W HP h1 hc fun h1 h2 h3 h4 => ob hh fun H hH hh => h_one (P := fun hs => R hs (.tryy wr k cs q.1 q.2)) hH ?_)
    cases H with
    | ExceptHandler t nm b hpos =>
      refine ob hh fun t' ht hh => ob hh fun C hC hh => ob hh fun x hx hh => og hh fun hq hh => ob hh fun i hi hh => ob hh fun ds hds hz => ?_
      cases ht
      cases hx
      refine ba hq fun k1 hq => ba hq fun k2 hq => ba hq fun k3 hq => ba hq fun k4 k5 => e_name (P := fun t => R [.ExceptHandler (some t) (some x) b hpos] (.tryy wr k cs q.1 q.2)) hC fun pC => ?_
      cases b with
      | nil => exact bft k5
      | cons b₀ suite => exact os (P := fun q => R _ (.tryy wr k cs q.1 q.2)) hz (kk k cs C x b₀ suite pC hpos i ds h1 h2 hk h3 h4 k1 k2 (eq_of_beq k3) hi (isLoc_eq k4) (trLS_ok (fun st c h => trH1_ok W X h) hds))
  cases s <;> first | exact nsm h | skip
  · exact ob h fun p hp h => e_call (P := fun e => SSt prog w base ec G n N Φ sc (.Try [.Expr e _] hs [] [] pos) c) hp fun p1 p2 =>
      key (R := fun hs c => SSt prog w base ec G n N Φ sc (.Try [.Expr (.Call (.Name p.1 p1) p.2 [] p2) _] hs [] [] pos) c) h fun k cs C x b₀ suite pC hpos i hd h1 h2 h3 h4 h5 h6 h7 h8 h9 h10 h11 => ss_try W X HP HX h1 h2 h3 h4 h5 h6 h7 h8 h9 h10 h11
end
theorem trRaise_ok (W : Wd base ec G) (WX : ExcIn base ec G) {e f : Option Expr} {pos : Pos} {c : CS} (h : trRaise G sc e f = some c) : SSt prog w base ec G n N Φ sc (.Raise e f pos) c := by
  refine og h fun h1 h => ob h fun e' he h => ob h fun p hp h => ob h fun a ha h => ob h fun x hx h => og h fun h2 h => ob h fun d hd h => os (P := SSt prog w base ec G n N Φ sc _) h ?_
  cases he
  cases f with
  | some _ => exact bft h1
  | none => exact e_call (P := fun e => SSt prog w base ec G n N Φ sc (.Raise (some e) none pos) _) hp fun p1 p2 => o_one (P := fun l => SSt prog w base ec G n N Φ sc (.Raise (some (.Call (.Name p.1 p1) l [] p2)) none pos) _) ha (e_str (P := fun a => SSt prog w base ec G n N Φ sc (.Raise (some (.Call (.Name p.1 p1) [a] [] p2)) none pos) _) hx fun j p3 => ba h2 fun g1 g2 => ss_raise W.cold WX g1 g2 hd)
theorem trS_ok (W : Wd base ec G) (X : XK K base ec) (WX : ExcIn base ec G) (HP : PhiOk prog w base ec G n Φ) (HX : PhiX prog w base ec G n Φ) : ∀ (m : Nat) (st : Stmt) (c : CS), trS G m sc st = some c → SSt prog w base ec G n N Φ sc st c
  | 0, _, _, h => nsm h
  | m + 1, st, c, h => by
    have ih := trS_ok W X WX HP HX m
    have HE : ∀ (e : Expr) (c : CE), trE G 40 sc e = some c → SB prog w base ec G n Φ sc e c := trE_ok W HP 40 sc
    cases st <;> first | exact nsm h | skip
    · rename_i eo pos
      cases eo with
      | none => exact os (P := SSt prog w base ec G n N Φ sc _) h ss_ret0
      | some e => exact ob h fun d hd h => os (P := SSt prog w base ec G n N Φ sc _) h (ss_ret (HE _ _ hd).1)
    · exact trAsg_ok W HP h
    · exact og h fun ho h => ob h fun tg ht h => ob h fun r hr h => ob h fun x hx h => og h fun hk h => os (P := SSt prog w base ec G n N Φ sc _) h (l_one (P := fun o => SSt prog w base ec G n N Φ sc (.For _ _ _ o _) _) ho (ss_for W.cold hk ht (trI_ok W (fun e c h => (HE e c h).1) hr) (trLS_ok ih hx)))
    · exact og h fun ho h => ob h fun d hd h => ob h fun x hx h => os (P := SSt prog w base ec G n N Φ sc _) h (l_one (P := fun o => SSt prog w base ec G n N Φ sc (.While _ _ o _) _) ho (ss_while (HE _ _ hd).2 (trLS_ok ih hx)))
    · exact ob h fun d hd h => ob h fun x hx h => ob h fun y hy h => os (P := SSt prog w base ec G n N Φ sc _) h (ss_if (HE _ _ hd).2 (trLS_ok ih hx) (trLS_ok ih hy))
    · exact trRaise_ok W WX h
    · exact og h fun ho h => ob h fun s hs h => ba ho fun h1 h2 => l_one (P := fun o => SSt prog w base ec G n N Φ sc (.Try _ _ o _ _) c) h1 (l_one (P := fun o => SSt prog w base ec G n N Φ sc (.Try _ _ [] o _) c) h2 (s_one (P := fun b => SSt prog w base ec G n N Φ sc (.Try b _ [] [] _) c) hs (trTry_ok W HP X HX h)))
    · exact trExpS_ok W HP HX h
end
end Mine
namespace Mine
open PySem PySem.Calls PyProof.Rows
theorem cellsFrom_has : ∀ (names : List (Str × NameKind)) (k : Nat) (acc : List (Str × Addr)) (x : Str), ((x, NameKind.cell) ∈ names ∨ ∃ c, acc.lookup x = some c) → ∃ c, (cellsFrom k names acc).lookup x = some c := by
  intro names
  induction names with
  | nil => intro k acc x h; exact h.elim (fun q => nomatch q) id
  | cons p names ih =>
    intro k acc x h
    obtain ⟨y, kd⟩ := p
    unfold cellsFrom
    split
    · refine ih _ _ x ?_
      rcases h with h | ⟨c, h⟩
      · rcases List.mem_cons.mp h with q | q
        · cases q
          exact .inr ⟨k, by rw [List.lookup_cons]; simp⟩
        · exact .inl q
      · right
        rw [List.lookup_cons]
        cases q : x == y with
        | true => exact ⟨k, rfl⟩
        | false => exact ⟨c, h⟩
    · rename_i hk
      refine ih _ _ x ?_
      rcases h with h | h
      · rcases List.mem_cons.mp h with q | q
        · cases q; exact absurd rfl hk
        · exact .inl q
      · exact .inr h
section
variable {prog : Program} {w : World} {base : Bs} {ec : ExcCls} {G : Cfg} {n N : Nat} {Φ : Phi}
structure PRel (ec : ExcCls) (V : List Str) (kindOf : Str → Option NameKind) (h : Heap) (S : Addr → Prop) (μ : List Addr) (m cm : Str → Option Value) (ρ : Rho) : Prop where
  loc : ∀ x i av, slotL V 0 x = some i → ρ i = some av → kindOf x = some .local → ∃ v, m x = some v ∧ RdA ec h S μ v av
  cel : ∀ x i av, slotL V 0 x = some i → ρ i = some av → kindOf x = some .cell → ∃ v, cm x = some v ∧ RdA ec h S μ v av
noncomputable def slots (V : List Str) : List Str → Option (List Nat)
  | [] => some []
  | x :: xs => match slotL V 0 x with
    | none => none
    | some i => match slots V xs with
      | none => none
      | some is => some (i :: is)
theorem params_ok {V : List Str} {kindOf : Str → Option NameKind} {h : Heap} {S : Addr → Prop} {μ : List Addr} : ∀ {ps : List Str} {is : List Nat} {vals : List Value} {args : List AV} {m cm : Str → Option Value} {ρ ρ' : Rho}, slots V ps = some is → (∀ x ∈ ps, kindOf x = some .local ∨ kindOf x = some .cell) →
    RdAs ec h S μ vals args → bindArgsR is args ρ = some ρ' → PRel ec V kindOf h S μ m cm ρ → PRel ec V kindOf h S μ (bindL kindOf (ps.zip vals) m) (bindC kindOf (ps.zip vals) cm) ρ' ∧ vals.length = ps.length := by
  intro ps
  induction ps with
  | nil =>
    intro is vals args m cm ρ ρ' hs hk r hb R
    cases hs
    cases r with
    | nil => cases hb; exact ⟨R, rfl⟩
    | cons _ _ => cases hb
  | cons x ps ih =>
    intro is vals args m cm ρ ρ' hs hk r hb R
    simp only [slots] at hs
    split at hs
    · cases hs
    · rename_i i hi
      split at hs
      · cases hs
      · rename_i is' hs'
        cases hs
        cases r with
        | nil => cases hb
        | @cons v vs av avs rv r =>
          have key := ih (m := if kindOf x = some .local then fun y => if y = x then some v else m y else m) (cm := if kindOf x = some .local then cm else fun y => if y = x then some v else cm y) (ρ := ρ.set i av) hs' (fun y hy => hk y (.tail _ hy)) r hb ?_
          · exact ⟨key.1, by simp [key.2]⟩
          · have other : ∀ y j aw, slotL V 0 y = some j → (ρ.set i av) j = some aw → (y = x ∧ aw = av) ∨ (y ≠ x ∧ ρ j = some aw) := fun y j aw hy hj => by
              unfold Rho.set at hj
              split at hj
              · rename_i q; subst q; exact .inl ⟨slot_inj hy hi, (Option.some.inj hj).symm⟩
              · rename_i q
                refine .inr ⟨fun z => q ?_, hj⟩
                subst z
                rw [hi] at hy; cases hy; rfl
            constructor
            · intro y j aw hy hj hky
              rcases other y j aw hy hj with ⟨rfl, rfl⟩ | ⟨hne, hj'⟩
              · rw [if_pos hky]; exact ⟨v, by simp, rv⟩
              · obtain ⟨u, e, ru⟩ := R.loc y j aw hy hj' hky
                refine ⟨u, ?_, ru⟩
                split
                · simp [hne, e]
                · exact e
            · intro y j aw hy hj hky
              rcases other y j aw hy hj with ⟨rfl, rfl⟩ | ⟨hne, hj'⟩
              · rw [if_neg (by rw [hky]; intro q; cases q)]; exact ⟨v, by simp, rv⟩
              · obtain ⟨u, e, ru⟩ := R.cel y j aw hy hj' hky
                refine ⟨u, ?_, ru⟩
                split
                · exact e
                · simp [hne, e]
structure DefOk (base : Bs) (V : List Str) (a : Addr) (fd : FuncData) (ps : List Str) (is : List Nat) (body : List Stmt) : Prop where
  rec_ : ∃ o, base.get? a = some o ∧ o.data = .func fd
  code : base.hp.CodeRec fd.code fd.qualname
  stmts : fd.body = .stmts body
  clo : fd.closure = []
  glob : fd.globals = mainGlobals
  blt : fd.builtins = builtinsNs
  kind : fd.scope.kind = .function
  gen : fd.scope.isGenerator = false
  cor : fd.scope.isCoroutine = false
  bind : ∀ vals, vals.length = ps.length → bindArgs fd ⟨vals, []⟩ = pure (ps.zip vals)
  slot : slots V ps = some is
  own : ∀ x ∈ ps, fd.scope.names.lookup x = some .local ∨ fd.scope.names.lookup x = some .cell
  free : ∀ p ∈ fd.scope.names, p.2 ≠ .free
theorem leave_ok {S S' : Addr → Prop} {μ μ' : List Addr} {σ σ' : Store} {h h' : Heap} {X : Addr → Prop} (I : Inv base S μ σ h) (x : Evo base X μ μ' S S' σ σ' h h') (hX : ∀ a, X a → h.get? a = none) : Ev base μ S S' σ (σ'.take σ.length) h h' := by
  obtain ⟨ν, rfl, hν⟩ := x.ext
  have len : (μ ++ ν).length = σ'.length := x.inv.len
  have hl : μ.length = σ.length := I.len
  have low : ∀ (i : Nat) (p : Flag × List PyData), (σ'.take σ.length)[i]? = some p → i < σ.length ∧ σ'[i]? = some p := fun i p e => by
    rw [List.getElem?_take] at e
    split at e
    · rename_i q; exact ⟨q, e⟩
    · cases e
  have up : ∀ (i : Nat) (a : Addr), μ[i]? = some a → (μ ++ ν)[i]? = some a := x.mu
  refine ⟨x.sub, x.new, ⟨x.inv.keepB, ?_, fun i a f ds e1 e2 => ?_, fun i j a e1 e2 => x.inv.nodup i j a (up i a e1) (up j a e2), fun a ha => x.inv.new a (List.mem_append_left _ ha), x.inv.inS, x.inv.zs⟩, fun b o hl' e => x.keep b o (fun q => by rw [hX b q] at e; cases e) hl' e, fun a l => ?_⟩
  · rw [List.length_take]
    simp at len
    omega
  · obtain ⟨_, e2'⟩ := low i _ e2
    exact x.inv.cells i a f ds (up i a e1) e2'
  · obtain ⟨i, ds, e1, e2⟩ := l
    obtain ⟨_, e2'⟩ := low i _ e2
    rcases x.live a ⟨i, ds, up i a e1, e2'⟩ with q | q
    · exact q
    · obtain ⟨_, _, e⟩ := I.mem (List.mem_of_getElem? e1)
      rw [q] at e; cases e
theorem leave_res {S S' : Addr → Prop} {μ μ' : List Addr} {σ σ' : Store} {h h₁ h' : Heap} {X : Addr → Prop} (I : Inv base S μ σ h) (x : Evo base X μ μ' S S' σ σ' h h') (hg : ∀ a, h₁.get? a = none → h.get? a = none) {v : Value} {av r : AV} (rr : RdR ec h₁ h' S' μ' v av) (e : leave σ.length σ' av = some r) : RdR ec h h' S' μ v r := by
  cases rr with
  | fresh e' r' s n =>
    cases e
    exact .fresh e' r' s (hg _ n)
  | old ra =>
    cases ra with
    | dat rd => cases e; exact .old (.dat rd)
    | exc _ _ _ => cases e
    | @cell i a ha =>
      obtain ⟨ν, rfl, hν⟩ := x.ext
      by_cases hi : i < σ.length
      · have e' : (if i < σ.length then some (AV.cell i) else σ'[i]?.bind leaveC) = some r := e
        rw [if_pos hi] at e'
        cases e'
        rw [List.getElem?_append_left (by rw [I.len]; exact hi)] at ha
        exact .old (.cell ha)
      · have e' : (if i < σ.length then some (AV.cell i) else σ'[i]?.bind leaveC) = some r := e
        rw [if_neg hi] at e'
        have hn : h.get? a = none := by
          rw [List.getElem?_append_right (by rw [I.len]; omega)] at ha
          exact hν a (List.mem_of_getElem? ha)
        obtain ⟨⟨f, ds⟩, q, e''⟩ := bnd e'
        cases f with
        | locked => cases e''
        | live =>
          cases e''
          obtain ⟨vs, m, k1, k2, _, k4⟩ := x.inv.cells i a _ ds ha q
          exact .fresh k1 k2 (k4 (by intro z; cases z)) hn
        | frozen =>
          cases e''
          obtain ⟨vs, m, k1, k2, k3, _⟩ := x.inv.cells i a _ ds ha q
          exact .old (.dat (.list (k3 rfl) k1 k2))
noncomputable def Bs.add (b : Bs) (L : Addr) : Bs := ⟨b.hp, fun a => b.Z a ∨ a = L, b.hot⟩
theorem Inv.narrow {L : Addr} {S : Addr → Prop} {μ : List Addr} {σ : Store} {h : Heap} (I : Inv (base.add L) S μ σ h) : Inv base S μ σ h := ⟨I.keepB, I.len, I.cells, I.nodup, I.new, I.inS, fun L z => I.zs L (.inl z)⟩
theorem Evo.narrow {L : Addr} {X : Addr → Prop} {S S' : Addr → Prop} {μ μ' : List Addr} {σ σ' : Store} {h h' : Heap} (x : Evo (base.add L) X μ μ' S S' σ σ' h h') : Evo base X μ μ' S S' σ σ' h h' := ⟨x.ext, x.sub, x.new, x.inv.narrow, x.keep, x.live, x.stay⟩
theorem enter {a : Addr} {fd : FuncData} {ps : List Str} {is : List Nat} {body : List Stmt} {ρ : Rho} (hlim : base.hp.NoLimit) (D : DefOk base G.V a fd ps is body) {A : Around} {S : Addr → Prop} {μ : List Addr} {σ : Store} {s : Shared} {vals : List Value} {args : List AV} {Q : Value → Shared → Prop} {E : Value → Shared → Prop}
    (hA : AOk base (n + 1) A) (I : Inv base S μ σ s.heap) (ra : RdAs ec s.heap S μ vals args) (hρ : bindArgsR is args (fun _ => none) = some ρ)
    (k : ∀ env h₁ tk₁, Top (A.deeper env) env → (∀ b, Own env b → s.heap.get? b = none) → ScOk env fd.scope.names → AOk (base.add env.locals) n (A.deeper env) → Inv (base.add env.locals) S μ σ h₁ → FrOk (base.add env.locals) ec G.V S μ env ρ h₁ → Evo base (fun _ => False) μ μ S S σ σ s.heap h₁ →
      wpAny (model prog w) (A.deeper env) (execs body env) (fun f s' => Q (match f with | .ret v => v | _ => .none) s') (fun e s' => wpAny (model prog w) (A.deeper env) (leaving env e) (fun _ s'' => E e s'') (fun e' s'' => E e' s'') s') { s with heap := h₁, toks := tk₁ }) :
    wpAny (model prog w) A (call (.ref a) vals) Q E s := by
  obtain ⟨o, ho, hd⟩ := D.rec_
  have R0 := params_ok (ec := ec) (V := G.V) (kindOf := (callEnvC fd s.heap.objs.size a).kindOf) (h := s.heap) (S := S) (μ := μ) (m := fun _ => none) (cm := fun _ => none) D.slot D.own ra hρ ⟨(fun _ _ _ _ e => nomatch e), (fun _ _ _ _ e => nomatch e)⟩
  refine wpAny_call (codeAny_call_cells (by have := hA.dp; omega) (I.keepB _ _ ho) hd (hlim.keeps I.keepB) (D.code.keeps I.keepB) D.stmts (D.bind vals R0.2) D.clo ?_ ?_ D.cor D.gen D.kind)
  · intro p hp
    have hm : p.1 ∈ ps := (List.of_mem_zip (a := p.1) (b := p.2) hp).1
    rcases D.own p.1 hm with z | z
    · exact .inl z
    · refine .inr ⟨z, ?_⟩
      obtain ⟨c, hc⟩ := cellsFrom_has fd.scope.names (s.heap.objs.size + 1) [] p.1 (.inl (mem_lookup z))
      rw [hc]; rfl
  · intro s₁ x
    obtain ⟨h₁, tk₁, rfl⟩ := x.toInCall.same
    have keep := x.toInCall.keep
    have R1 := R0.1
    generalize henv : callEnvC fd s.heap.objs.size a = env at x R1 ⊢
    have none_ : ∀ c, s.heap.objs.size ≤ c → s.heap.get? c = none := fun c hc => by
      cases e : s.heap.get? c with
      | none => rfl
      | some o => exact absurd (Heap.lt_size e) (Nat.not_lt.mpr hc)
    have hL : env.locals = s.heap.objs.size := by rw [← henv]; rfl
    have nb : ∀ c, s.heap.get? c = none → base.get? c = none := fun c hc => by
      cases e : base.get? c with
      | none => rfl
      | some o => rw [I.keepB c o e] at hc; cases hc
    have hnL : s.heap.get? env.locals = none := none_ _ (by rw [hL]; exact Nat.le_refl _)
    have hnC : ∀ y c, env.cells.lookup y = some c → s.heap.get? c = none := fun y c hc => none_ c (by
      have : env.locals < c := x.above y c (mem_of_lookup hc)
      rw [hL] at this
      exact Nat.le_of_lt this)
    have hnO : ∀ b, Own env b → s.heap.get? b = none := fun b hb => by
      rcases hb with rfl | ⟨y, hy⟩
      · exact hnL
      · exact hnC y b hy
    have kin : ∀ y, env.kindOf y = fd.scope.names.lookup y := fun y => by rw [← henv]; rfl
    have mv : Mv (fun _ => False) S S s.heap h₁ := Mv.same fun b o _ e => keep b o e
    have I₁ : Inv base S μ σ h₁ := I.mv mv (fun _ q => q.elim) (fun _ q => q.elim) (fun _ q => q.elim) fun _ q => q.elim
    have up : ∀ v av, RdA ec s.heap S μ v av → RdA ec h₁ S μ v av := fun v av r => r.mono (fun b o _ e => keep b o e) (fun _ q => q) fun _ _ q => q
    have F : FrOk (base.add env.locals) ec G.V S μ env ρ h₁ := {
      kind := by rw [← henv]; exact D.kind
      glob := by rw [← henv]; exact D.glob
      blt := by rw [← henv]; exact D.blt
      ns := ⟨_, x.toInCall.ns, fun y i av hy hi hk => let ⟨v, e, r⟩ := R1.loc y i av hy hi hk; ⟨v, e, up v av r⟩⟩
      cell := fun y c hc => ⟨_, x.cell y c hc⟩
      val := fun y c i av h0 hy hi hk => by
        rcases hk with hk | hk
        · obtain ⟨v, e, r⟩ := R1.cel y i av hy hi hk
          exact ⟨v, e ▸ x.cell y c h0, up v av r⟩
        · rw [kin] at hk
          exact absurd rfl (D.free _ (mem_lookup hk))
      has := fun y hk => by
        rcases hk with hk | hk
        · rw [kin] at hk
          obtain ⟨c, hc⟩ := cellsFrom_has fd.scope.names (s.heap.objs.size + 1) [] y (.inl (mem_lookup hk))
          exact ⟨c, by rw [← henv]; exact hc⟩
        · rw [kin] at hk
          exact absurd rfl (D.free _ (mem_lookup hk))
      apart := fun y z c hy hz => name_of_addr x.apart (mem_of_lookup hy) (mem_of_lookup hz)
      newL := nb _ hnL
      newC := fun y c hc => nb _ (hnC y c hc) }
    have hsc : ScOk env fd.scope.names := fun y => .inl (kin y)
    have hfr : env.frame = some env.locals := by rw [← henv]; rfl
    have hkm : env.scope.kind ≠ .module := by rw [F.kind]; intro z; cases z
    obtain ⟨l, hl, hlz⟩ := hA.fr
    have hl' : (A.deeper env).frames = some (env :: l) := by
      show (A.frames.map fun fs => env :: fs) = _
      rw [hl]; rfl
    have hA' : AOk (base.add env.locals) n (A.deeper env) := ⟨⟨env :: l, hl', fun e he => by
      rcases List.mem_cons.mp he with rfl | he
      · exact ⟨hkm, e.locals, hfr, .inr rfl⟩
      · obtain ⟨h1, L, h2, h3⟩ := hlz e he
        exact ⟨h1, L, h2, .inl h3⟩⟩, hA.hd, by have := hA.dp; show A.depth + 1 + n < _; omega, by have := hA.un; show A.units + 3 + _ + _ < _; omega⟩
    have x₀ : Evo base (fun _ => False) μ μ S S σ σ s.heap h₁ := (Evo.refl I).poke (wr := fun _ => False) mv (fun _ _ q => q.elim) (fun _ q => q.elim) (fun _ q => q.elim) (fun _ q => q.elim) (fun _ q => q.elim) fun _ _ q => q.elim
    have I₂ : Inv (base.add env.locals) S μ σ h₁ := ⟨I₁.keepB, I₁.len, I₁.cells, I₁.nodup, I₁.new, I₁.inS, fun L z => by
      rcases z with z | rfl
      · exact I₁.zs L z
      · obtain ⟨m, ⟨o, es, ep, e, d, _⟩, _⟩ := F.ns
        exact ⟨F.newL, o, es, ep, e, d⟩⟩
    exact k env h₁ tk₁ ⟨hfr, l, hl'⟩ hnO hsc hA' I₂ F x₀
theorem fn_ok {a : Addr} {fd : FuncData} {ps : List Str} {is : List Nat} {body : List Stmt} {cs : List CS} (hlim : base.hp.NoLimit) (D : DefOk base G.V a fd ps is body) (H : ∀ Z, SS prog w ⟨base.hp, Z, base.hot⟩ ec G n fd.scope.names (execs body) (fun ρ σ => evSs N Φ cs ρ σ)) :
    FnOk prog w base ec (n + 1) a (runF N Φ is cs) := by
  intro A S μ σ σ' s vals args r Q E hA I ra q P
  obtain ⟨ρ, hρ, q⟩ := bnd q
  obtain ⟨⟨fl, σ₁⟩, q₁, q⟩ := bnd q
  refine enter hlim D hA I ra hρ fun env h₁ tk₁ ht hnO hsc hA' I₁ F x₀ => ?_
  cases fl with
  | next ρ₂ =>
    cases q
    refine H _ _ env ρ σ σ₁ _ S μ _ _ _ hA' hsc I₁ F q₁ (.no ht fun c e => nomatch e) fun f h' tk S' μ' ev rr => ?_
    have ev' := (x₀.wide (Y := Own env) fun _ _ q => q.elim).trans (Evo.narrow (L := env.locals) ev) fun _ _ q _ => q
    cases rr with
    | next F' => exact P _ h' tk S' (leave_ok I ev' hnO) (.old (.dat .none))
  | ret v =>
    obtain ⟨r', hr, q⟩ := bnd q
    cases q
    refine H _ _ env ρ σ σ₁ _ S μ _ _ _ hA' hsc I₁ F q₁ (.no ht fun c e => nomatch e) fun f h' tk S' μ' ev rr => ?_
    have ev' := (x₀.wide (Y := Own env) fun _ _ q => q.elim).trans (Evo.narrow (L := env.locals) ev) fun _ _ q _ => q
    cases rr with
    | ret rr _ => exact P _ h' tk S' (leave_ok I ev' hnO) (leave_res I ev' (fun a e => x₀.gone e) rr hr)
  | exc c => cases q
theorem fx_ok {a : Addr} {fd : FuncData} {ps : List Str} {is : List Nat} {body : List Stmt} {cs : List CS} (hlim : base.hp.NoLimit) (D : DefOk base G.V a fd ps is body) (H : ∀ Z, SS prog w ⟨base.hp, Z, base.hot⟩ ec G n fd.scope.names (execs body) (fun ρ σ => evSs N Φ cs ρ σ)) :
    FxOk prog w base ec (n + 1) a (runF N Φ is cs) := by
  intro A S μ σ σ' s vals args c Q E hA I ra q P
  obtain ⟨ρ, hρ, q⟩ := bnd q
  obtain ⟨⟨fl, σ₁⟩, q₁, q⟩ := bnd q
  cases fl with
  | next ρ₂ => cases q
  | ret v => obtain ⟨r', hr, q⟩ := bnd q; cases q
  | exc c' =>
    cases q
    refine enter hlim D hA I ra hρ fun env h₁ tk₁ ht hnO hsc hA' I₁ F x₀ => ?_
    refine H _ _ env ρ σ σ₁ _ S μ _ _ _ hA' hsc I₁ F q₁ ⟨ht, fun c'' e e' h' tk' S' μ' tb y qe => ?_⟩ fun f h' tk S' μ' ev rr => nomatch rr
    cases e
    obtain ⟨l, z2, z3⟩ := frt hA' ht y.inv
    have ev' := (x₀.wide (Y := Own env) fun _ _ q => q.elim).trans (Evo.narrow (L := env.locals) y) fun _ _ q _ => q
    unfold leaving
    refine wpAny_bind (note_ok (base := base) (s := { s with heap := h', toks := tk' }) z2 ht.1 I ev' z3 (qe.back x₀) fun h₂ w1 w2 w3 => ?_)
    refine flight_ok (base := base) (s := { s with heap := h₂, toks := tk' }) I w1 w2 w3 fun h₃ v1 v2 v3 => ?_
    exact P e' h₃ tk' S' (leave_ok I v1 hnO) v3
end
end Mine
namespace Mine
open PySem PySem.Calls PySem.W PyProof.Rows
structure FnIn (K : Frag) (G : Cfg) (name : Str) (a : Addr) (is : List Nat) (cs : List CS) : Prop where
  glob : nsIn K mainGlobals name = some (some (.ref a))
  body : ∃ o fd c co ovs t body ps, K.lookup a = some o ∧ o.data = .func fd ∧ fd.code = .ref c ∧ K.lookup c = some co ∧ co.data = .fields ovs ∧ ovs[1]? = some (.str fd.qualname t) ∧ fd.body = .stmts body ∧ fd.closure = [] ∧ fd.globals = mainGlobals ∧ fd.builtins = builtinsNs ∧
    fd.scope.kind = .function ∧ fd.scope.isGenerator = false ∧ fd.scope.isCoroutine = false ∧ (∀ vals : List Value, vals.length = ps.length → bindArgs fd ⟨vals, []⟩ = pure (ps.zip vals)) ∧ slots G.V ps = some is ∧
    (ps.all fun x => isOwnN fd.scope.names x) = true ∧ (fd.scope.names.all fun p => match p.2 with | .free => false | _ => true) = true ∧ trLS (trS G 20 fd.scope.names) body = some cs
structure TabIn (K : Frag) (G : Cfg) (tab : List (List Nat × List CS)) : Prop where
  fn : ∀ (k : Nat) f a, G.fns[k]? = some (f, a) → ∃ is cs, tab[k]? = some (is, cs) ∧ FnIn K G f a is cs
  blt : ∀ f v, (f, v) ∈ bltL → nsIn K mainGlobals f = some none ∧ bootBuiltins f = some v ∧ f ≠ "__name__"
  cst : ∀ x d, G.consts.lookup x = some d → ∃ v, nsIn K mainGlobals x = some (some v) ∧ ∀ h S, Rd h S v d
section
variable {prog : Program} {w : World} {G : Cfg} {K : Frag} {tab : List (List Nat × List CS)} {ec : ExcCls} {N : Nat}
theorem wd_of {s : Shared} {mg mb : Str → Option Value} (KX : K.In s.heap) (hg : s.heap.Ns mainGlobals mg) (hb : s.heap.Ns builtinsNs mb) (hbb : ∀ x : Str, x ≠ "__name__" → mb x = bootBuiltins x) (T : TabIn K G tab) (hx : ∀ x c, G.excs.lookup x = some c → nsIn K mainGlobals x = some (some (.ref (ec c)))) (Z : Addr → Prop) : Wd ⟨s.heap, Z, false⟩ ec G where
  cold := rfl
  fn := fun k f a e => by
    obtain ⟨is, cs, _, F⟩ := T.fn k f a e
    obtain ⟨o, fd, c, co, ovs, t, body, ps, h1, h2, _⟩ := F.body
    exact ⟨⟨mg, hg, .inl (mg_of KX hg F.glob)⟩, o, fd, KX _ _ h1, h2⟩
  blt := fun f v h => by
    obtain ⟨h1, h2, h3⟩ := T.blt f v h
    exact ⟨mg, hg, .inr ⟨mg_none_of KX hg h1, mb, hb, (hbb f h3).trans h2⟩⟩
  cst := fun x d e => by
    obtain ⟨v, h1, h2⟩ := T.cst x d e
    exact ⟨v, ⟨mg, hg, .inl (mg_of KX hg h1)⟩, h2⟩
  exc := fun x c e => ⟨mg, hg, .inl (mg_of KX hg (hx x c e))⟩
theorem isOwnN_eq {sc : Sc} {x : Str} (h : isOwnN sc x = true) : sc.lookup x = some .local ∨ sc.lookup x = some .cell := by
  unfold isOwnN at h
  split at h
  · rename_i q; exact .inl q
  · rename_i q; exact .inr q
  · cases h
theorem XK.at {h : Heap} {Y : Addr → Prop} (X : XK K ⟨h, Y, false⟩ ec) (Z : Addr → Prop) : XK K ⟨h, Z, false⟩ ec := ⟨X.inn, X.kx, X.sub, X.one, X.val⟩
theorem ExcIn.at {h : Heap} {Y : Addr → Prop} (X : ExcIn ⟨h, Y, false⟩ ec G) (Z : Addr → Prop) : ExcIn ⟨h, Z, false⟩ ec G := X
theorem phi_ok {s : Shared} (KX : K.In s.heap) (nl : s.heap.NoLimit) (T : TabIn K G tab) (W : ∀ Z, Wd ⟨s.heap, Z, false⟩ ec G) (X : XK K ⟨s.heap, fun _ => False, false⟩ ec) (WX : ExcIn ⟨s.heap, fun _ => False, false⟩ ec G) : ∀ k Z, PhiOk prog w ⟨s.heap, Z, false⟩ ec G k (tabAt tab N k) ∧ PhiX prog w ⟨s.heap, Z, false⟩ ec G k (tabAt tab N k) := by
  intro k
  induction k with
  | zero =>
    intro Z
    refine ⟨(fun j f a e A S μ σ σ' s' vals args r Q E hA I ra q P => by cases q), (fun j f a e A S μ σ σ' s' vals args r Q E hA I ra q P => by cases q)⟩
  | succ k ih =>
    intro Z
    suffices hh : ∀ j f a, G.fns[j]? = some (f, a) → FnOk prog w ⟨s.heap, Z, false⟩ ec (k + 1) a (tabAt tab N (k + 1) j) ∧ FxOk prog w ⟨s.heap, Z, false⟩ ec (k + 1) a (tabAt tab N (k + 1) j) from ⟨fun j f a e => (hh j f a e).1, fun j f a e => (hh j f a e).2⟩
    intro j f a e
    obtain ⟨is, cs, ht, F⟩ := T.fn j f a e
    obtain ⟨o, fd, c, co, ovs, t, body, ps, h1, h2, h3, h4, h5, h6, h7, h8, h9, h10, h11, h12, h13, h14, h15, h16, h17, h18⟩ := F.body
    have D : DefOk ⟨s.heap, Z, false⟩ G.V a fd ps is body := {
      rec_ := ⟨o, KX _ _ h1, h2⟩
      code := ⟨c, co, ovs, t, h3, KX _ _ h4, h5, h6⟩
      stmts := h7
      clo := h8
      glob := h9
      blt := h10
      kind := h11
      gen := h12
      cor := h13
      bind := h14
      slot := h15
      own := fun x hx => isOwnN_eq (List.all_eq_true.mp h16 x hx)
      free := fun p hp e => by
        have := List.all_eq_true.mp h17 p hp
        rw [e] at this; cases this }
    have H := fun Z' => trLS_ok (prog := prog) (w := w) (base := ⟨s.heap, Z', false⟩) (ec := ec) (n := k) (N := N) (fun st c h => trS_ok (W Z') (X.at Z') (WX.at Z') (ih Z').1 (ih Z').2 20 st c h) h18
    have := And.intro (fn_ok (prog := prog) (w := w) (N := N) nl D H) (fx_ok (prog := prog) (w := w) (N := N) nl D H)
    have e : tabAt tab N (k + 1) j = runF N (tabAt tab N k) is cs := by
      funext args σ
      show (tab[j]?.bind _) = _
      rw [ht]
      rfl
    rw [e]
    exact this
theorem run_law {s : Shared} {mg mb : Str → Option Value} (KX : K.In s.heap) (hg : s.heap.Ns mainGlobals mg) (hb : s.heap.Ns builtinsNs mb) (hbb : ∀ x : Str, x ≠ "__name__" → mb x = bootBuiltins x) (nl : s.heap.NoLimit) (T : TabIn K G tab)
    (hx : ∀ x c, G.excs.lookup x = some c → nsIn K mainGlobals x = some (some (.ref (ec c)))) (X : XK K ⟨s.heap, fun _ => False, false⟩ ec) (WX : ExcIn ⟨s.heap, fun _ => False, false⟩ ec G) {k f : Nat} (hk : k ≤ 600) {name : Str} {fa l : Addr} (hf : G.fns[f]? = some (name, fa)) {vs : List Value} {xs : List PyData} (hl : s.heap.get? l = some (lstO vs 0)) (hv : RdL s.heap (fun b => b = l) vs xs)
    {σ' : Store} (hrun : tabAt tab N k f [.dat (.list xs)] [] = some (.ret (.dat (.bool true)), σ')) {Q : Value → Shared → Prop} {E : Value → Shared → Prop}
    (hQ : ∀ h' tk, (∀ b o, s.heap.get? b = some o → h'.get? b = some o) → Q (.bool true) { s with heap := h', toks := tk }) : wpAny (model prog w) callerA (call (.ref fa) [.ref l]) Q E s := by
  have W : ∀ Z, Wd ⟨s.heap, Z, false⟩ ec G := wd_of KX hg hb hbb T hx
  have H := phi_ok (prog := prog) (w := w) (N := N) KX nl T W X WX k (fun _ => False) |>.1 f name fa hf
  have I : Inv ⟨s.heap, fun _ => False, false⟩ (fun b => b = l) [] [] s.heap := ⟨fun _ _ e => e, rfl, fun i a f ds e1 e2 => by simp at e1, fun i j a e1 e2 => by simp at e1, (fun a h => nomatch h), (fun a h => ⟨_, h ▸ hl, lst_plain vs 0⟩), fun _ h => h.elim⟩
  refine H callerA (fun b => b = l) [] [] σ' s [.ref l] [.dat (.list xs)] (.dat (.bool true)) Q E ⟨⟨[], rfl, fun _ h => nomatch h⟩, fun _ => rfl, ?_, ?_⟩ I (.cons (.dat (.list rfl hl hv)) .nil) hrun fun v h' tk S' x r => ?_
  · rw [depth_caller]; unfold recursionLimit; omega
  · show 4 + 8 * k + 400 < cLine
    unfold cLine; omega
  · cases r with
    | old r => cases r with
      | dat r => cases r; exact hQ h' tk x.inv.keepB
end
end Mine
namespace Mine
open PySem
section
variable {Φ : Phi} {ρ : Rho} {σ : Store}
theorem r_next {N : Nat} {Φ : Phi} {ρ ρ₁ : Rho} {σ σ₁ : Store} {c : CS} {cs : List CS} (h : evS N Φ c ρ σ = some (.next ρ₁, σ₁)) : evSs N Φ (c :: cs) ρ σ = evSs N Φ cs ρ₁ σ₁ := by rw [es_cons, h]; rfl
theorem r_stop {N : Nat} {Φ : Phi} {ρ : Rho} {σ σ₁ : Store} {c : CS} {cs : List CS} {v : AV} (h : evS N Φ c ρ σ = some (.ret v, σ₁)) : evSs N Φ (c :: cs) ρ σ = some (.ret v, σ₁) := by rw [es_cons, h]; rfl
theorem r_true {N : Nat} {Φ : Phi} {ρ : Rho} {σ σ₁ : Store} {c : CE} {a b : List CS} (h : evE Φ c ρ σ = some (.dat (.bool true), σ₁)) : evS N Φ (.ite c a b) ρ σ = evSs N Φ a ρ σ₁ := by rw [es_ite, h]; rfl
theorem r_false {N : Nat} {Φ : Phi} {ρ : Rho} {σ σ₁ : Store} {c : CE} {a b : List CS} (h : evE Φ c ρ σ = some (.dat (.bool false), σ₁)) : evS N Φ (.ite c a b) ρ σ = evSs N Φ b ρ σ₁ := by rw [es_ite, h]; rfl
theorem r_skip {N : Nat} {Φ : Phi} {ρ : Rho} {σ σ₁ : Store} {c : CE} {a : List CS} {cs : List CS} (h : evE Φ c ρ σ = some (.dat (.bool false), σ₁)) : evSs N Φ (.ite c a [] :: cs) ρ σ = evSs N Φ cs ρ σ₁ := by
  rw [es_cons, r_false h, es_nil]; rfl
theorem r_ret {N : Nat} {Φ : Phi} {ρ : Rho} {σ σ₁ : Store} {e : CE} {cs : List CS} {v : AV} (h : evE Φ e ρ σ = some (v, σ₁)) : evSs N Φ (.ret e :: cs) ρ σ = some (.ret v, σ₁) := by rw [es_cons, es_ret, h]; rfl
theorem r_taken {N : Nat} {Φ : Phi} {ρ : Rho} {σ σ₁ σ₂ : Store} {c : CE} {a b : List CS} {cs : List CS} {v : AV} (h : evE Φ c ρ σ = some (.dat (.bool true), σ₁)) (h' : evSs N Φ a ρ σ₁ = some (.ret v, σ₂)) : evSs N Φ (.ite c a b :: cs) ρ σ = some (.ret v, σ₂) := by
  rw [es_cons, r_true h, h']; rfl
theorem r_assign {N : Nat} {Φ : Phi} {ρ : Rho} {σ σ₁ : Store} {i : Nat} {e : CE} {cs : List CS} {v : AV} (h : evE Φ e ρ σ = some (v, σ₁)) : evSs N Φ (.assign i e :: cs) ρ σ = evSs N Φ cs (ρ.set i (settle v)) σ₁ := by rw [es_cons, es_assign, h]; rfl
theorem r_run {N : Nat} {Φ : Phi} {is : List Nat} {cs : List CS} {args : List AV} {σ : Store} {ρ : Rho} {v : AV} {r : AV} (h : bindArgsR is args (fun _ => none) = some ρ) (h' : evSs N Φ cs ρ σ = some (.ret v, σ)) (h'' : leave σ.length σ v = some r) : runF N Φ is cs args σ = some (.ret r, σ) := by
  simp only [runF, h, h', Option.bind_some, endF, h'', List.take_length]
theorem r_runD {N : Nat} {Φ : Phi} {is : List Nat} {cs : List CS} {args : List AV} {σ : Store} {ρ : Rho} {d : PyData} (h : bindArgsR is args (fun _ => none) = some ρ) (h' : evSs N Φ cs ρ σ = some (.ret (.dat d), σ)) : runF N Φ is cs args σ = some (.ret (.dat d), σ) := r_run h h' rfl
theorem r_runL {N : Nat} {Φ : Phi} {is : List Nat} {cs : List CS} {args : List AV} {σ : Store} {ρ : Rho} {d : List PyData} (h : bindArgsR is args (fun _ => none) = some ρ) (h' : evSs N Φ cs ρ σ = some (.ret (.fresh d), σ)) : runF N Φ is cs args σ = some (.ret (.fresh d), σ) := r_run h h' rfl
theorem compGo_on {α : Type} {elt : Rho → Store → Option (AV × Store)} {tests : Rho → Store → Option (Bool × Store)} {t : Tgt} (g f : α → PyData) (p : α → Bool) : ∀ (l : List α), (∀ x ∈ l, ∃ ρ', bindT t (g x) ρ = some ρ' ∧ tests ρ' σ = some (p x, σ) ∧ (p x = true → elt ρ' σ = some (.dat (f x), σ))) →
    compGo elt tests t ρ (l.map g) σ = some ((l.filter p).map f, σ) := by
  intro l
  induction l with
  | nil => intro _; rfl
  | cons x l ih =>
    intro h
    obtain ⟨ρ', h1, h2, h3⟩ := h x (.head _)
    have ih' := ih fun y hy => h y (.tail _ hy)
    show (bindT t (g x) ρ).bind _ = _
    rw [h1]
    show (tests ρ' σ).bind _ = _
    rw [h2]
    show (if p x = true then _ else _) = _
    cases hp : p x with
    | false => rw [if_neg Bool.false_ne_true, ih', List.filter_cons_of_neg (by rw [hp]; exact Bool.false_ne_true)]
    | true =>
      rw [if_pos rfl, h3 hp]
      show (compGo elt tests t ρ (l.map g) σ).bind _ = _
      rw [ih', List.filter_cons_of_pos hp]
      rfl
theorem ev_compF {α : Type} {ce : CE} {t : Tgt} {k : ItK} {its ifs : List CE} {vs : List AV} {ds : List PyData} (l : List α) (g f : α → PyData) (p : α → Bool) (h1 : evEs Φ its ρ σ = some (vs, σ)) (h2 : liveOf σ vs = []) (h3 : rdAll σ vs = some ds) (h4 : itemsD k ds = some (l.map g)) (hl : l.length ≤ lim)
    (h : ∀ x ∈ l, ∃ ρ', bindT t (g x) ρ = some ρ' ∧ evB Φ .And ifs ρ' σ = some (p x, σ) ∧ (p x = true → evE Φ ce ρ' σ = some (.dat (f x), σ))) : evE Φ (.comp ce t k its ifs) ρ σ = some (.fresh ((l.filter p).map f), σ) := by
  have := compGo_on (elt := fun ρ' σ' => evE Φ ce ρ' σ') (tests := fun ρ' σ' => evB Φ .And ifs ρ' σ') g f p l h
  simp only [ev_comp, h1, h2, h3, h4, Option.bind_some, flagAll, List.length_map, hl, if_true, this]
theorem ev_compA {α : Type} {ce : CE} {t : Tgt} {k : ItK} {its : List CE} {vs : List AV} {ds : List PyData} (l : List α) (g f : α → PyData) (h1 : evEs Φ its ρ σ = some (vs, σ)) (h2 : liveOf σ vs = []) (h3 : rdAll σ vs = some ds) (h4 : itemsD k ds = some (l.map g)) (hl : l.length ≤ lim)
    (h : ∀ x ∈ l, ∃ ρ', bindT t (g x) ρ = some ρ' ∧ evE Φ ce ρ' σ = some (.dat (f x), σ)) : evE Φ (.comp ce t k its []) ρ σ = some (.fresh (l.map f), σ) := by
  have := ev_compF (Φ := Φ) (ρ := ρ) (ce := ce) (t := t) (ifs := []) l g f (fun _ => true) h1 h2 h3 h4 hl fun x hx => by
    obtain ⟨ρ', a, b⟩ := h x hx
    exact ⟨ρ', a, rfl, fun _ => b⟩
  rw [this, List.filter_eq_self.mpr (fun _ _ => rfl)]
end
theorem tab_step {tab : List (List Nat × List CS)} {N k f : Nat} {is : List Nat} {cs : List CS} {args : List AV} {σ : Store} (h : tab[f]? = some (is, cs)) : tabAt tab N (k + 1) f args σ = runF N (tabAt tab N k) is cs args σ := by
  show (tab[f]?.bind _) = _
  rw [h]
  rfl
theorem canLay_ints (xs : List Int) : PyData.canLayAll0 (xs.map .int) = true := by
  induction xs with
  | nil => rfl
  | cons x xs ih => simp [PyData.canLayAll0, PyData.canLay0, ih]
theorem depth_ints (xs : List Int) : PyData.depthAll (xs.map .int) = 0 := by
  induction xs with
  | nil => rfl
  | cons x xs ih => simp [PyData.depthAll, PyData.depth, ih]
theorem mulOk_r {a b : Int} (h : b.natAbs < 2 ^ 64) : mulOk a b = true := by unfold mulOk; simp [h]
theorem mulOk_l {a b : Int} (h : a.natAbs < 2 ^ 64) : mulOk a b = true := by unfold mulOk; simp [h]
theorem boolsD_map (bs : List Bool) : boolsD (bs.map .bool) = some bs := by
  induction bs with
  | nil => rfl
  | cons b bs ih => show (boolsD (bs.map .bool)).bind _ = _; rw [ih]; rfl
theorem intsD_map (xs : List Int) : intsD (xs.map .int) = some xs := by
  induction xs with
  | nil => rfl
  | cons b bs ih => show (intsD (bs.map .int)).bind _ = _; rw [ih]; rfl
theorem rangeL_nat (n : Nat) : rangeL 0 n = (List.range n).map fun k => PyData.int (k : Nat) := by
  unfold rangeL
  simp
section
theorem bi_add (a b : Int) : binD .Add (.int a) (.int b) = some (.dat (.int (a + b))) := rfl
theorem bi_sub (a b : Int) : binD .Sub (.int a) (.int b) = some (.dat (.int (a - b))) := rfl
theorem bi_mul {a b : Int} (h : mulOk a b = true) : binD .Mult (.int a) (.int b) = some (.dat (.int (a * b))) := by
  show (if mulOk a b = true then _ else _) = _; exact if_pos h
theorem bi_mod {a b : Int} (h : b ≠ 0) : binD .Mod (.int a) (.int b) = some (.dat (.int (a.fmod b))) := by
  show (if b ≠ 0 then _ else _) = _; exact if_pos h
theorem bi_fdiv {a b : Int} (h : b ≠ 0) (h' : b.natAbs < 1073741824) : binD .FloorDiv (.int a) (.int b) = some (.dat (.int (a.fdiv b))) := by
  show (if b ≠ 0 ∧ b.natAbs < 1073741824 then _ else _) = _; exact if_pos ⟨h, h'⟩
theorem bi_pow {a b : Int} (h : 0 ≤ b) (h1 : b ≤ 1000000) (h2 : a.natAbs < 2 ^ 64) : binD .Pow (.int a) (.int b) = some (.dat (.int (a ^ b.toNat))) := by
  show (if 0 ≤ b ∧ b ≤ 1000000 ∧ a.natAbs < 2 ^ 64 then _ else _) = _; exact if_pos ⟨h, h1, h2⟩
theorem bi_addT {xs ys : List PyData} (h : xs.length + ys.length ≤ lim) : binD .Add (.tuple xs) (.tuple ys) = some (.dat (.tuple (xs ++ ys))) := by
  show (if xs.length + ys.length ≤ lim then _ else _) = _; exact if_pos h
theorem bi_addL {xs ys : List PyData} (h : xs.length + ys.length ≤ lim) : binD .Add (.list xs) (.list ys) = some (.fresh (xs ++ ys)) := by
  show (if xs.length + ys.length ≤ lim then _ else _) = _; exact if_pos h
theorem cm_lt (a b : Int) : cmpD .Lt (.int a) (.int b) = some (decide (a < b)) := rfl
theorem cm_le (a b : Int) : cmpD .LtE (.int a) (.int b) = some (decide (a ≤ b)) := rfl
theorem cm_gt (a b : Int) : cmpD .Gt (.int a) (.int b) = some (decide (b < a)) := rfl
theorem cm_ge (a b : Int) : cmpD .GtE (.int a) (.int b) = some (decide (b ≤ a)) := rfl
theorem cm_eqi (a b : Int) : cmpD .Eq (.int a) (.int b) = some (a == b) := rfl
theorem cm_nei (a b : Int) : cmpD .NotEq (.int a) (.int b) = some (!(a == b)) := rfl
theorem cm_eqb (a b : Bool) : cmpD .Eq (.bool a) (.bool b) = some (a == b) := rfl
theorem cm_neb (a b : Bool) : cmpD .NotEq (.bool a) (.bool b) = some (!(a == b)) := rfl
theorem cm_ne_self {d : PyData} (h : SeqAt.shaped d = true) : cmpD .NotEq d d = some false := by
  show (if (SeqAt.shaped d && SeqAt.shaped d) = true then some (!PyData.eqv d d) else none) = _
  rw [h, SeqAt.eqv_refl d (SeqAt.canLay_of_shaped h)]
  rfl
theorem pl_list {xs : List PyData} (h : xs.length ≤ lim) : primD .len [.list xs] = some (.dat (.int xs.length)) := by
  show (if xs.length ≤ lim then _ else _) = _; exact if_pos h
theorem pl_tuple {xs : List PyData} (h : xs.length ≤ lim) : primD .len [.tuple xs] = some (.dat (.int xs.length)) := by
  show (if xs.length ≤ lim then _ else _) = _; exact if_pos h
theorem pt_list {xs : List PyData} (h : xs.length ≤ lim) : primD .tuple [.list xs] = some (.dat (.tuple xs)) := by
  show (if xs.length ≤ lim then _ else _) = _; exact if_pos h
theorem pk_list {xs : List PyData} (h : xs.length ≤ lim) : primD .list [.list xs] = some (.fresh xs) := by
  show (if xs.length ≤ lim then _ else _) = _; exact if_pos h
theorem pk_tuple {xs : List PyData} (h : xs.length ≤ lim) : primD .list [.tuple xs] = some (.fresh xs) := by
  show (if xs.length ≤ lim then _ else _) = _; exact if_pos h
theorem pa_all (bs : List Bool) : primD .all [.list (bs.map .bool)] = some (.dat (.bool (bs.all id))) := by
  show (boolsD (bs.map .bool)).bind _ = _
  rw [boolsD_map]; rfl
theorem pa_sum (xs : List Int) : primD .sum [.list (xs.map .int)] = some (.dat (.int xs.sum)) := by
  show (intsD (xs.map .int)).bind _ = _
  rw [intsD_map]; rfl
theorem pi_bool (b : Bool) : primD .int [.bool b] = some (.dat (.int (if b then 1 else 0))) := rfl
theorem ix_t0 (a : PyData) (r : List PyData) : idxD (.tuple (a :: r)) (.int 0) = some a := rfl
theorem ix_t1 (a b : PyData) (r : List PyData) : idxD (.tuple (a :: b :: r)) (.int 1) = some b := rfl
theorem ix_t2 (a b c : PyData) (r : List PyData) : idxD (.tuple (a :: b :: c :: r)) (.int 2) = some c := rfl
theorem ix_l0 (a : PyData) (r : List PyData) : idxD (.list (a :: r)) (.int 0) = some a := rfl
theorem ix_l1 (a b : PyData) (r : List PyData) : idxD (.list (a :: b :: r)) (.int 1) = some b := rfl
theorem ix_l2 (a b c : PyData) (r : List PyData) : idxD (.list (a :: b :: c :: r)) (.int 2) = some c := rfl
theorem ix_list {xs : List PyData} {j : Nat} {d : PyData} (hj : j < 1048576) (h : xs[j]? = some d) : idxD (.list xs) (.int j) = some d := by
  show (if 0 ≤ (j : Int) ∧ (j : Int).toNat < 4611686018427387904 then _ else none) = _
  rw [if_pos ⟨Int.natCast_nonneg _, Nat.lt_trans hj (by decide)⟩]
  exact h
theorem ix_tuple {xs : List PyData} {j : Nat} {d : PyData} (hj : j < 1048576) (h : xs[j]? = some d) : idxD (.tuple xs) (.int j) = some d := by
  show (if 0 ≤ (j : Int) ∧ (j : Int).toNat < 4611686018427387904 then _ else none) = _
  rw [if_pos ⟨Int.natCast_nonneg _, Nat.lt_trans hj (by decide)⟩]
  exact h
theorem bo_or : (BoolOp.Or == BoolOp.And) = false := rfl
theorem bo_and : (BoolOp.And == BoolOp.And) = true := rfl
theorem ev_idxR {Φ : Phi} {ρ : Rho} {σ : Store} {a i : CE} {x y : AV} {dx dy r : PyData} (h1 : evE Φ a ρ σ = some (x, σ)) (h2 : evE Φ i ρ σ = some (y, σ)) (h3 : rd σ x = some dx) (h4 : rd σ y = some dy) (h5 : idxD dx dy = some r) : evE Φ (.idx a i) ρ σ = some (.dat r, σ) := by
  rw [ev_idx, h1, Option.bind_some, h2, Option.bind_some, h3, Option.bind_some, h4, Option.bind_some, h5]; rfl
theorem le_lim {n m : Nat} (h : n ≤ m) (hm : m ≤ 1000000) : n ≤ lim := by unfold lim; omega
end
theorem x_ba0 (ρ : Rho) : bindArgsR [] [] ρ = some ρ := rfl
theorem x_ba1 (i : Nat) (is : List Nat) (v : AV) (vs : List AV) (ρ : Rho) : bindArgsR (i :: is) (v :: vs) ρ = bindArgsR is vs (ρ.set i v) := rfl
theorem x_set (ρ : Rho) (i j : Nat) (v : AV) : Rho.set ρ i v j = if j = i then some v else ρ j := rfl
theorem x_rdD (σ : Store) (d : PyData) : rd σ (.dat d) = some d := rfl
theorem x_rdF (σ : Store) (d : List PyData) : rd σ (.fresh d) = some (.list d) := rfl
theorem x_rdC (σ : Store) (i : Nat) : rd σ (.cell i) = σ[i]?.bind fun p => some (.list p.2) := rfl
theorem x_ra0 (σ : Store) : rdAll σ [] = some [] := rfl
theorem x_ra1 (σ : Store) (v : AV) (vs : List AV) : rdAll σ (v :: vs) = (rd σ v).bind fun d => (rdAll σ vs).bind fun ds => some (d :: ds) := rfl
theorem x_oa0 (σ : Store) : ownAll [] σ = some ([], σ) := rfl
theorem x_oa1 (σ : Store) (v : AV) (vs : List AV) : ownAll (v :: vs) σ = (own σ v).bind fun p => (ownAll vs p.2).bind fun q => some (p.1 :: q.1, q.2) := rfl
theorem x_owD (σ : Store) (d : PyData) : own σ (.dat d) = some (d, σ) := rfl
theorem x_owF (σ : Store) (d : List PyData) : own σ (.fresh d) = some (.list d, σ) := rfl
theorem x_stD (d : PyData) : settle (.dat d) = .dat d := rfl
theorem x_stF (d : List PyData) : settle (.fresh d) = .dat (.list d) := rfl
theorem x_stC (i : Nat) : settle (.cell i) = .cell i := rfl
theorem x_bA (b : Bool) : boolA (.dat (.bool b)) = some b := rfl
theorem x_iA (b : Int) : intA (.dat (.int b)) = some b := rfl
theorem x_tA (b : List PyData) : tupA (.dat (.tuple b)) = some b := rfl
theorem x_rC (v : AV) : retC (.ret v) = some v := rfl
theorem x_on (k : Rho → Store → Option (Fl × Store)) (ρ : Rho) (σ : Store) : Fl.on k (.next ρ, σ) = k ρ σ := rfl
theorem x_onR (k : Rho → Store → Option (Fl × Store)) (v : AV) (σ : Store) : Fl.on k (.ret v, σ) = some (.ret v, σ) := rfl
theorem x_run (N : Nat) (Φ : Phi) (is : List Nat) (cs : List CS) (vs : List AV) (σ : Store) : runF N Φ is cs vs σ = (bindArgsR is vs (fun _ => none)).bind fun ρ => (evSs N Φ cs ρ σ).bind (endF σ.length) := rfl
theorem x_end (n : Nat) (v : AV) (σ : Store) : endF n (.ret v, σ) = (leave n σ v).bind fun r => some (.ret r, σ.take n) := rfl
theorem x_lvD (n : Nat) (σ : Store) (d : PyData) : leave n σ (.dat d) = some (.dat d) := rfl
theorem x_lvF (n : Nat) (σ : Store) (d : List PyData) : leave n σ (.fresh d) = some (.fresh d) := rfl
theorem x_for1 (t : Tgt) (body : Rho → Store → Option (Fl × Store)) (d : PyData) (ds : List PyData) (ρ : Rho) (σ : Store) : forGo t body (d :: ds) ρ σ = (bindT t d ρ).bind fun ρ₁ => (body ρ₁ σ).bind (Fl.on fun ρ₂ σ₂ => forGo t body ds ρ₂ σ₂) := rfl
end Mine
namespace Mine
open PySem PySem.Calls PySem.W PyProof.Rows
theorem has_int {d : WData} (h : WShape.has [] d .int = true) : ∃ i, d = .int i := by
  cases d <;> first | exact ⟨_, rfl⟩ | (cases h; done)
theorem has_ints : ∀ {xs : List WData}, WShape.hasItems [] xs .int = true → ∃ is : List Int, xs = is.map .int := by
  intro xs
  induction xs with
  | nil => intro _; exact ⟨[], rfl⟩
  | cons x xs ih =>
    intro h
    rw [WShape.hasItems, Bool.and_eq_true] at h
    obtain ⟨i, rfl⟩ := has_int h.1
    obtain ⟨is, rfl⟩ := ih h.2
    exact ⟨i :: is, rfl⟩
theorem has_list {d : WData} (h : WShape.has [] d (.list .int) = true) : ∃ is : List Int, d = .list (is.map .int) := by
  cases d <;> first | (cases h; done) | skip
  rename_i xs
  have h' : (WShape.hasItems [] xs .int || false) = true := h
  rw [Bool.or_false] at h'
  obtain ⟨is, rfl⟩ := has_ints h'
  exact ⟨is, rfl⟩
theorem pre_law (is : List Int) (b : Bool) (hb : decide ((63 : Int) < ((is.map WData.int).length : Nat)) = b) : WTm.value [] (.and (.not (.lt (.lit (.int 63)) (.len (.arg 0)))) (.lit (.bool true))) { args := [.list (is.map .int)] } = some (.bool (!b)) := by
  have e : WTm.value [] (.and (.not (.lt (.lit (.int 63)) (.len (.arg 0)))) (.lit (.bool true))) { args := [.list (is.map .int)] } = WTm.value [] (.and (.not (.lit (.bool (decide ((63 : Int) < ((is.map WData.int).length : Nat)))))) (.lit (.bool true))) { args := [.list (is.map .int)] } := rfl
  rw [e, hb]
  cases b <;> rfl
theorem law_args {l : OpenLaw} (hm : l.most = some 63) (hb : l.bound = none) {args : List WData} (h : l.row.claim.pre args = true) : ∃ is : List Int, args = [.list (is.map .int)] ∧ is.length ≤ 63 := by
  obtain ⟨h1, h2⟩ := pre_splitW h
  have h1' : WShape.hasAll [] args [.list .int] = true := h1
  have h2' : l.pre.holds [] { args := args } = true := h2
  cases args with
  | nil => cases h1'
  | cons d r =>
    have h1'' : (WShape.has [] d (.list .int) && WShape.hasAll [] r []) = true := h1'
    rw [Bool.and_eq_true] at h1''
    obtain ⟨is, rfl⟩ := has_list h1''.1
    cases r with
    | cons _ _ => cases h1''.2
    | nil =>
      refine ⟨is, rfl, ?_⟩
      have hp : l.pre = .and (.not (.lt (.lit (.int 63)) (.len (.arg 0)))) (.lit (.bool true)) := by
        unfold OpenLaw.pre; rw [hm, hb]; rfl
      rw [hp] at h2'
      unfold WTm.holds at h2'
      rw [pre_law is _ rfl] at h2'
      rcases Nat.lt_or_ge 63 is.length with q | q
      · rw [decide_eq_true (by rw [List.length_map]; omega)] at h2'
        cases h2'
      · exact q
theorem well_list {P : Params} {h : Heap} {vals : List Value} {is : List Int} (W : WellAll P h vals [.list (is.map .int)]) : ∃ l vs, vals = [.ref l] ∧ h.get? l = some (lstO vs 0) ∧ RdL h (fun b => b = l) vs (is.map .int) := by
  cases W with
  | cons w r =>
    cases r
    cases w with
    | @list l vs _ e ws =>
      refine ⟨l, vs, rfl, e, ?_⟩
      clear e
      induction is generalizing vs with
      | nil => cases ws; exact .nil
      | cons i is ih =>
        cases ws with
        | cons w ws =>
          cases w with
          | int _ t => exact .cons (.int i t) (ih ws)
theorem law_good {l : OpenLaw} {cl : Str → Option Addr} {mean : ExcName → Option Value} {args : List WData} {s₁ : Shared} (hg : s₁.gens = #[]) {h' : Heap} {tk : Nat} (hk : ∀ b o, s₁.heap.get? b = some o → h'.get? b = some o) :
    GoodWG l.row.claim cl mean args s₁ (.ok (.ret (.bool true))) { s₁ with heap := h', toks := tk } := by
  refine ⟨.inl ⟨.bool true, .bool true, [], rfl, fun _ => rfl, .bool true, ?_, fun _ => ⟨List.nodup_nil, fun a h => nomatch h⟩⟩, .of_keep hk, rfl, .of_eq hg⟩
  show (WShape.has [] (.bool true) .bool && (WTm.eq .res (.lit (.bool true))).holds [] { args := args, res := some (.bool true), after := args }) = true
  have e : WTm.value [] (.eq .res (.lit (.bool true))) { args := args, res := some (.bool true), after := args } = some (.bool (same (.bool true) (.bool true))) := rfl
  have e' : same (.bool true) (.bool true) = true := by decide +kernel
  unfold WTm.holds
  rw [e, e']
  rfl
end Mine
namespace Mine
open PySem
noncomputable def c_is_whole : List CS := [.ret (.bop .And [(.isin (.var 0) .int), (.nott (.isin (.var 0) .bool))])]
noncomputable def c_is_among : List CS := [.ret (.bop .And [(.call 0 [(.var 0)]), (.cmp2 .LtE .LtE (.var 1) (.var 0) (.var 2))])]
noncomputable def c_are_wholes : List CS := [.ret (.bop .And [(.isin (.var 0) .tuple), (.cmp .Eq (.prim .len [(.var 0)]) (.var 3)), (.prim .all [(.comp (.call 0 [(.var 4)]) (.one 4) .seq [(.var 0)] [])])])]
noncomputable def c_need_inputs : List CS := [.ite (.bop .Or [(.nott (.isin (.var 6) .list)), (.cmp .NotEq (.prim .len [(.var 6)]) (.prim .len [(.var 5)]))]) [.raise 3] [],
  .forr (.many [7, 8]) .zip [(.var 5), (.var 6)] [.ite (.nott (.call 1 [(.var 8), (.idx (.var 7) (.const (.int (0)))), (.idx (.var 7) (.const (.int (1))))])) [.raise 3] []]]
noncomputable def c_is_range : List CS := [.ite (.nott (.call 2 [(.var 0), (.const (.int (2)))])) [.ret (.const (.bool false))] [],
  .ret (.cmp2 .LtE .LtE (.idx (.var 0) (.const (.int (0)))) (.idx (.var 0) (.const (.int (1)))) (.bin .Add (.idx (.var 0) (.const (.int (0)))) (.const (.int (20)))))]
noncomputable def c_is_expression : List CS := [.ite (.bop .Or [(.nott (.isin (.var 0) .tuple)), (.cmp .NotEq (.prim .len [(.var 0)]) (.const (.int (3)))), (.nott (.call 0 [(.idx (.var 0) (.const (.int (0))))]))]) [.ret (.const (.bool false))] [],
  .ret (.bop .And [(.call 2 [(.idx (.var 0) (.const (.int (1)))), (.var 6)]), (.call 2 [(.idx (.var 0) (.const (.int (2)))), (.var 9)])])]
noncomputable def c_is_word : List CS := [.ite (.bop .Or [(.nott (.isin (.var 0) .str)), (.nott (.cmp2 .LtE .LtE (.const (.int (1))) (.prim .len [(.var 0)]) (.const (.int (8)))))]) [.ret (.const (.bool false))] [],
  .ret (.prim .all [(.comp (.cmp .In (.var 10) (.const (.str (Str.ofString "abcdefghijklmnopqrstuvwxyz")))) (.one 10) .seq [(.var 0)] [])])]
noncomputable def c_is_statement : List CS := [.ite (.bop .Or [(.nott (.isin (.var 0) .tuple)), (.cmp .Lt (.prim .len [(.var 0)]) (.const (.int (2)))), (.nott (.isin (.idx (.var 0) (.const (.int (0)))) .str))]) [.ret (.const (.bool false))] [],
  .assign 11 (.idx (.var 0) (.const (.int (0)))),
  .ite (.cmp .Eq (.var 11) (.const (.str (Str.ofString "put")))) [.ret (.bop .And [(.cmp .Eq (.prim .len [(.var 0)]) (.const (.int (3)))), (.call 1 [(.idx (.var 0) (.const (.int (1)))), (.const (.int (0))), (.bin .Sub (.var 9) (.const (.int (1))))]), (.call 5 [(.idx (.var 0) (.const (.int (2)))), (.var 6), (.var 9)])])] [],
  .ite (.cmp .Eq (.var 11) (.const (.str (Str.ofString "ask")))) [.ret (.bop .And [(.cmp .Eq (.prim .len [(.var 0)]) (.const (.int (4)))), (.call 5 [(.idx (.var 0) (.const (.int (1)))), (.var 6), (.var 9)])])] [],
  .ite (.cmp .Eq (.var 11) (.const (.str (Str.ofString "times")))) [.ret (.bop .And [(.cmp .Eq (.prim .len [(.var 0)]) (.const (.int (3)))), (.call 1 [(.idx (.var 0) (.const (.int (1)))), (.const (.int (0))), (.const (.int (8)))])])] [],
  .ite (.cmp .Eq (.var 11) (.const (.str (Str.ofString "tell")))) [.ret (.bop .And [(.cmp .Eq (.prim .len [(.var 0)]) (.const (.int (2)))), (.call 5 [(.idx (.var 0) (.const (.int (1)))), (.var 6), (.var 9)])])] [],
  .ret (.bop .And [(.cmp .Eq (.var 11) (.const (.str (Str.ofString "stop")))), (.cmp .Eq (.prim .len [(.var 0)]) (.const (.int (2)))), (.call 6 [(.idx (.var 0) (.const (.int (1))))])])]
noncomputable def c_inner_rows : List CS := [.ite (.cmp .Eq (.idx (.var 12) (.const (.int (0)))) (.const (.str (Str.ofString "ask")))) [.ret (.lst [(.idx (.var 12) (.const (.int (2)))), (.idx (.var 12) (.const (.int (3))))])] [],
  .ite (.cmp .Eq (.idx (.var 12) (.const (.int (0)))) (.const (.str (Str.ofString "times")))) [.ret (.lst [(.idx (.var 12) (.const (.int (2))))])] [],
  .ret (.lst [])]
noncomputable def c_are_rows : List CS := [.newcell 13 (.lst [(.var 0)]),
  .whil (.cmp .Gt (.prim .len [(.var 13)]) (.const (.int (0)))) [.assign 14 (.pop 13), .ite (.nott (.isin (.var 14) .tuple)) [.ret (.const (.bool false))] [], .forr (.one 12) .seq [(.var 14)] [.ite (.nott (.call 7 [(.var 12), (.var 6), (.var 9)])) [.ret (.const (.bool false))] [], .extend 13 (.call 8 [(.var 12)])]],
  .ret (.const (.bool true))]
noncomputable def c_is_program : List CS := [.ite (.bop .Or [(.nott (.isin (.var 0) .tuple)), (.cmp .NotEq (.prim .len [(.var 0)]) (.const (.int (3)))), (.nott (.isin (.idx (.var 0) (.const (.int (0)))) .tuple))]) [.ret (.const (.bool false))] [],
  .ite (.bop .Or [(.cmp .Gt (.prim .len [(.idx (.var 0) (.const (.int (0))))]) (.const (.int (3)))), (.nott (.prim .all [(.comp (.call 4 [(.var 4)]) (.one 4) .seq [(.idx (.var 0) (.const (.int (0))))] [])]))]) [.ret (.const (.bool false))] [],
  .ite (.nott (.call 1 [(.idx (.var 0) (.const (.int (1)))), (.const (.int (1))), (.const (.int (6)))])) [.ret (.const (.bool false))] [],
  .ret (.call 9 [(.idx (.var 0) (.const (.int (2)))), (.prim .len [(.idx (.var 0) (.const (.int (0))))]), (.idx (.var 0) (.const (.int (1))))])]
noncomputable def c_depth : List CS := [.assign 3 (.const (.int (0))),
  .newcell 15 (.lst [(.var 14)]),
  .whil (.cmp .Gt (.prim .len [(.var 15)]) (.const (.int (0)))) [.assign 3 (.bin .Add (.var 3) (.const (.int (1)))), .newcell 16 (.lst []), .forr (.one 17) .seq [(.var 15)] [.forr (.one 12) .seq [(.var 17)] [.extend 16 (.call 8 [(.var 12)])]], .newcell 15 (.var 16)],
  .ret (.var 3)]
noncomputable def c_weight : List CS := [.assign 18 (.const (.int (0))),
  .forr (.one 12) .seq [(.var 14)] [.assign 18 (.bin .Add (.var 18) (.const (.int (1)))), .ite (.cmp .Eq (.idx (.var 12) (.const (.int (0)))) (.const (.str (Str.ofString "ask")))) [.assign 18 (.bin .Add (.bin .Add (.var 18) (.call 12 [(.idx (.var 12) (.const (.int (2))))])) (.call 12 [(.idx (.var 12) (.const (.int (3))))]))] [.ite (.cmp .Eq (.idx (.var 12) (.const (.int (0)))) (.const (.str (Str.ofString "times")))) [.assign 18 (.bin .Add (.var 18) (.bin .Mult (.idx (.var 12) (.const (.int (1)))) (.call 12 [(.idx (.var 12) (.const (.int (2))))])))] []]],
  .ret (.var 18)]
noncomputable def c_need_program : List CS := [.ite (.nott (.call 10 [(.var 0)])) [.raise 1] [],
  .ite (.bop .Or [(.cmp .Gt (.call 11 [(.idx (.var 0) (.const (.int (2))))]) (.const (.int (6)))), (.cmp .Gt (.call 12 [(.idx (.var 0) (.const (.int (2))))]) (.const (.int (200))))]) [.raise 2] []]
noncomputable def c_worth : List CS := [.unpack [20, 21, 22] (.var 19),
  .assign 18 (.var 20),
  .forr (.many [23, 8]) .zip [(.var 21), (.var 6)] [.assign 18 (.bin .Add (.var 18) (.bin .Mult (.var 23) (.var 8)))],
  .forr (.many [23, 8]) .zip [(.var 22), (.var 9)] [.assign 18 (.bin .Add (.var 18) (.bin .Mult (.var 23) (.var 8)))],
  .ret (.var 18)]
noncomputable def c_run : List CS := [.expr (.call 13 [(.var 24)]),
  .expr (.call 3 [(.idx (.var 24) (.const (.int (0)))), (.var 6)]),
  .newcell 9 (.bin .Mult (.lst [(.const (.int (0)))]) (.idx (.var 24) (.const (.int (1))))),
  .newcell 13 (.idx (.var 24) (.const (.int (2)))),
  .whil (.cmp .Gt (.prim .len [(.var 13)]) (.const (.int (0)))) [.assign 12 (.idx (.var 13) (.const (.int (0)))), .newcell 13 (.slice (.var 13) (.const (.int (1))) (.const .none)), .ite (.cmp .Eq (.idx (.var 12) (.const (.int (0)))) (.const (.str (Str.ofString "put")))) [.setItem 9 (.idx (.var 12) (.const (.int (1)))) (.call 14 [(.idx (.var 12) (.const (.int (2)))), (.var 6), (.var 9)])] [.ite (.cmp .Eq (.idx (.var 12) (.const (.int (0)))) (.const (.str (Str.ofString "ask")))) [.assign 25 (.ite (.cmp .GtE (.call 14 [(.idx (.var 12) (.const (.int (1)))), (.var 6), (.var 9)]) (.const (.int (0)))) (.idx (.var 12) (.const (.int (2)))) (.idx (.var 12) (.const (.int (3))))), .newcell 13 (.bin .Add (.var 25) (.var 13))] [.ite (.cmp .Eq (.idx (.var 12) (.const (.int (0)))) (.const (.str (Str.ofString "times")))) [.newcell 13 (.bin .Add (.bin .Mult (.idx (.var 12) (.const (.int (2)))) (.idx (.var 12) (.const (.int (1))))) (.var 13))] [.ite (.cmp .Eq (.idx (.var 12) (.const (.int (0)))) (.const (.str (Str.ofString "tell")))) [.ret (.tup [(.const (.str (Str.ofString "told"))), (.call 14 [(.idx (.var 12) (.const (.int (1)))), (.var 6), (.var 9)])])] [.ret (.tup [(.const (.str (Str.ofString "stop"))), (.idx (.var 12) (.const (.int (1))))])]]]]],
  .ret (.tup [(.const (.str (Str.ofString "end")))])]
noncomputable def c__law_cell_at : List CS := [.ite (.cmp .Lt (.var 27) (.prim .len [(.var 26)])) [.ret (.bin .Add (.idx (.var 26) (.var 27)) (.bin .Mult (.bin .Mod (.idx (.var 26) (.var 27)) (.const (.int (251)))) (.const (.int (381840)))))] [],
  .ret (.const (.int (0)))]
noncomputable def c__law_mixed : List CS := [.ret (.bin .Mod (.bin .Add (.bin .Add (.bin .Mult (.var 28) (.bin .Add (.bin .Add (.const (.int (48271))) (.bin .Mult (.bin .Mult (.const (.int (7919))) (.var 27)) (.var 27))) (.bin .Mult (.const (.int (104729))) (.var 27)))) (.bin .Mult (.const (.int (7919))) (.var 27))) (.const (.int (12345)))) (.const (.int (2147483647))))]
noncomputable def c__law_whole : List CS := [.ret (.bop .And [(.isin (.var 29) .int), (.nott (.isin (.var 29) .bool))])]
noncomputable def c__law_ranges : List CS := [.assign 30 (.idx (.lst [(.const (.int (1))), (.const (.int (2))), (.const (.int (1))), (.const (.int (2))), (.const (.int (0))), (.const (.int (3))), (.const (.int (1)))]) (.bin .Mod (.var 28) (.const (.int (7))))),
  .newcell 31 (.lst []),
  .forr (.one 27) .range1 [(.var 30)] [.assign 32 (.call 17 [(.bin .FloorDiv (.var 28) (.const (.int (7)))), (.var 27)]), .assign 33 (.idx (.lst [(.bin .Sub (.bin .Mod (.var 32) (.const (.int (11)))) (.const (.int (5)))), (.bin .Sub (.bin .Mod (.var 32) (.const (.int (11)))) (.const (.int (5)))), (.bin .Add (.bin .Pow (.const (.int (10))) (.const (.int (20)))) (.bin .Mod (.var 32) (.const (.int (7))))), (.bin .Sub (.const (.int (0))) (.bin .Pow (.const (.int (10))) (.const (.int (20)))))]) (.bin .Mod (.bin .FloorDiv (.var 32) (.const (.int (11)))) (.const (.int (4))))), .assign 34 (.bin .Mod (.bin .FloorDiv (.var 32) (.const (.int (44)))) (.idx (.lst [(.const (.int (1))), (.const (.int (9))), (.const (.int (5))), (.const (.int (3)))]) (.var 30))), .ite (.bop .And [(.cmp .Eq (.var 30) (.const (.int (1)))), (.cmp .Eq (.bin .Mod (.bin .FloorDiv (.var 32) (.const (.int (396)))) (.const (.int (8)))) (.const (.int (1))))]) [.assign 34 (.bin .Sub (.const (.int (20))) (.bin .Mod (.bin .FloorDiv (.var 32) (.const (.int (3168)))) (.const (.int (2)))))] [], .append 31 (.tup [(.var 33), (.bin .Add (.var 33) (.var 34))])],
  .ret (.prim .tuple [(.var 31)])]
noncomputable def c__law_expression : List CS := [.assign 36 (.comp (.idx (.lst [(.const (.int (0))), (.const (.int (1))), (.neg (.const (.int (1)))), (.const (.int (2))), (.neg (.const (.int (3)))), (.const (.int (1))), (.const (.int (0)))]) (.bin .Mod (.call 17 [(.var 28), (.var 27)]) (.const (.int (7))))) (.one 27) .range1 [(.idx (.var 35) (.const (.int (0))))] []),
  .assign 37 (.comp (.idx (.lst [(.const (.int (0))), (.const (.int (1))), (.const (.int (0))), (.neg (.const (.int (1)))), (.const (.int (2))), (.const (.int (0)))]) (.bin .Mod (.bin .FloorDiv (.call 17 [(.var 28), (.bin .Add (.const (.int (7))) (.var 27))]) (.const (.int (5)))) (.const (.int (6))))) (.one 27) .range1 [(.idx (.var 35) (.const (.int (1))))] []),
  .assign 38 (.bin .Sub (.bin .Mod (.var 28) (.const (.int (13)))) (.const (.int (6)))),
  .ite (.bop .And [(.cmp .Eq (.bin .Mod (.bin .FloorDiv (.var 28) (.const (.int (13)))) (.const (.int (3)))) (.const (.int (1)))), (.cmp .Gt (.idx (.var 35) (.const (.int (0)))) (.const (.int (0))))]) [.assign 38 (.bin .Sub (.var 38) (.bin .Mult (.idx (.var 36) (.const (.int (0)))) (.idx (.idx (.var 31) (.const (.int (0)))) (.const (.int (0))))))] [],
  .ite (.cmp .Eq (.bin .Mod (.bin .FloorDiv (.var 28) (.const (.int (39)))) (.const (.int (9)))) (.const (.int (1)))) [.assign 38 (.bin .Mult (.var 38) (.bin .Pow (.const (.int (10))) (.const (.int (18)))))] [],
  .ret (.tup [(.var 38), (.prim .tuple [(.var 36)]), (.prim .tuple [(.var 37)])])]
noncomputable def c__law_word_by : List CS := [.assign 39 (.const (.str (Str.ofString "abcdefghijklmnopqrstuvwxyz"))),
  .ret (.prim .join [(.const (.str (Str.ofString ""))), (.comp (.idx (.var 39) (.bin .Mod (.bin .FloorDiv (.call 17 [(.bin .FloorDiv (.var 28) (.const (.int (8)))), (.var 27)]) (.const (.int (3)))) (.const (.int (26))))) (.one 27) .range1 [(.bin .Add (.const (.int (1))) (.bin .Mod (.var 28) (.const (.int (8)))))] [])])]
noncomputable def c__law_statement : List CS := [.setItem 40 (.const (.int (0))) (.bin .Add (.idx (.var 40) (.const (.int (0)))) (.const (.int (1)))),
  .assign 28 (.call 17 [(.call 16 [(.var 26), (.bin .Mod (.idx (.var 40) (.const (.int (0)))) (.const (.int (40))))]), (.idx (.var 40) (.const (.int (0))))]),
  .assign 42 (.bin .Mod (.var 28) (.const (.int (9)))),
  .assign 43 (.call 20 [(.bin .FloorDiv (.var 28) (.const (.int (9)))), (.var 35), (.var 31)]),
  .ite (.bop .Or [(.cmp .Lt (.var 42) (.const (.int (3)))), (.bop .And [(.cmp .Eq (.var 41) (.const (.int (0)))), (.cmp .Lt (.var 42) (.const (.int (6))))])]) [.ret (.tup [(.const (.str (Str.ofString "put"))), (.bin .Mod (.bin .FloorDiv (.var 28) (.const (.int (9)))) (.idx (.var 35) (.const (.int (1))))), (.var 43)])] [],
  .ite (.cmp .Lt (.var 42) (.const (.int (6)))) [.assign 44 (.call 23 [(.var 26), (.var 40), (.bin .Sub (.var 41) (.const (.int (1)))), (.var 35), (.var 31)]), .ret (.tup [(.const (.str (Str.ofString "ask"))), (.var 43), (.var 44), (.call 23 [(.var 26), (.var 40), (.bin .Sub (.var 41) (.const (.int (1)))), (.var 35), (.var 31)])])] [],
  .ite (.bop .And [(.cmp .Eq (.var 42) (.const (.int (6)))), (.cmp .Gt (.var 41) (.const (.int (0))))]) [.ret (.tup [(.const (.str (Str.ofString "times"))), (.bin .Mod (.bin .FloorDiv (.var 28) (.const (.int (9)))) (.const (.int (3)))), (.call 23 [(.var 26), (.var 40), (.bin .Sub (.var 41) (.const (.int (1)))), (.var 35), (.var 31)])])] [],
  .ite (.bop .And [(.cmp .Eq (.var 42) (.const (.int (7)))), (.cmp .Eq (.bin .Mod (.bin .FloorDiv (.var 28) (.const (.int (9)))) (.const (.int (3)))) (.const (.int (1))))]) [.ret (.tup [(.const (.str (Str.ofString "stop"))), (.call 21 [(.bin .FloorDiv (.var 28) (.const (.int (27))))])])] [],
  .ite (.bop .And [(.cmp .Eq (.var 42) (.const (.int (8)))), (.cmp .Gt (.bin .Mod (.bin .FloorDiv (.var 28) (.const (.int (9)))) (.const (.int (3)))) (.const (.int (0))))]) [.ret (.tup [(.const (.str (Str.ofString "tell"))), (.var 43)])] [],
  .ret (.tup [(.const (.str (Str.ofString "put"))), (.bin .Mod (.bin .FloorDiv (.var 28) (.const (.int (9)))) (.idx (.var 35) (.const (.int (1))))), (.tup [(.idx (.var 43) (.const (.int (0)))), (.bin .Mult (.tup [(.const (.int (0)))]) (.idx (.var 35) (.const (.int (0))))), (.idx (.var 43) (.const (.int (2))))])])]
noncomputable def c__law_rows : List CS := [.setItem 40 (.const (.int (0))) (.bin .Add (.idx (.var 40) (.const (.int (0)))) (.const (.int (1)))),
  .assign 28 (.call 17 [(.call 16 [(.var 26), (.bin .Mod (.idx (.var 40) (.const (.int (0)))) (.const (.int (40))))]), (.idx (.var 40) (.const (.int (0))))]),
  .assign 30 (.bin .Add (.const (.int (1))) (.bin .Mod (.var 28) (.const (.int (2))))),
  .ite (.cmp .Gt (.idx (.var 40) (.const (.int (0)))) (.const (.int (30)))) [.assign 30 (.const (.int (0)))] [],
  .ret (.prim .tuple [(.comp (.call 22 [(.var 26), (.var 40), (.var 41), (.var 35), (.var 31)]) (.one 27) .range1 [(.var 30)] [])])]
noncomputable def c__law_program : List CS := [.newcell 31 (.call 19 [(.call 16 [(.var 26), (.var 45)])]),
  .assign 35 (.tup [(.prim .len [(.var 31)]), (.idx (.lst [(.const (.int (1))), (.const (.int (2))), (.const (.int (3))), (.const (.int (2))), (.const (.int (6)))]) (.bin .Mod (.call 16 [(.var 26), (.bin .Add (.var 45) (.const (.int (1))))]) (.const (.int (5)))))]),
  .newcell 40 (.lst [(.bin .Add (.var 45) (.const (.int (1))))]),
  .assign 32 (.bin .FloorDiv (.call 16 [(.var 26), (.bin .Add (.var 45) (.const (.int (1))))]) (.const (.int (10)))),
  .newcell 46 (.tup []),
  .ite (.cmp .Eq (.bin .Mod (.var 32) (.const (.int (3)))) (.const (.int (1)))) [.assign 43 (.tup [(.const (.int (1))), (.bin .Mult (.tup [(.const (.int (1)))]) (.idx (.var 35) (.const (.int (0))))), (.bin .Add (.tup [(.bin .Add (.const (.int (1))) (.bin .Mod (.bin .FloorDiv (.var 32) (.const (.int (3)))) (.const (.int (2)))))]) (.bin .Mult (.tup [(.const (.int (0)))]) (.bin .Sub (.idx (.var 35) (.const (.int (1)))) (.const (.int (1))))))]), .newcell 46 (.tup [(.tup [(.const (.str (Str.ofString "times"))), (.bin .Mod (.bin .FloorDiv (.var 32) (.const (.int (6)))) (.const (.int (9)))), (.tup [(.tup [(.const (.str (Str.ofString "put"))), (.const (.int (0))), (.var 43)])])])])] [],
  .ite (.bop .And [(.cmp .Eq (.bin .Mod (.var 32) (.const (.int (3)))) (.const (.int (2)))), (.cmp .Gt (.idx (.var 35) (.const (.int (1)))) (.const (.int (1))))]) [.assign 37 (.bin .Add (.tup [(.const (.int (1)))]) (.bin .Mult (.tup [(.const (.int (0)))]) (.bin .Sub (.idx (.var 35) (.const (.int (1)))) (.const (.int (1)))))), .assign 47 (.bin .Mult (.tup [(.const (.int (0)))]) (.idx (.var 35) (.const (.int (0))))), .assign 48 (.tup [(.const (.str (Str.ofString "put"))), (.bin .Sub (.idx (.var 35) (.const (.int (1)))) (.const (.int (1)))), (.tup [(.const (.int (2))), (.bin .Mult (.tup [(.const (.int (1)))]) (.idx (.var 35) (.const (.int (0))))), (.rev (.var 37))])]), .assign 44 (.idx (.lst [(.tup [(.var 48)]), (.tup [(.tup [(.const (.str (Str.ofString "stop"))), (.const (.str (Str.ofString "later")))])])]) (.prim .int [(.cmp .Eq (.bin .Mod (.bin .FloorDiv (.var 32) (.const (.int (54)))) (.const (.int (4)))) (.const (.int (1))))])), .assign 49 (.tup [(.const (.str (Str.ofString "ask"))), (.tup [(.neg (.const (.int (3)))), (.var 47), (.var 37)]), (.var 44), (.tup [])]), .newcell 46 (.tup [(.tup [(.const (.str (Str.ofString "times"))), (.bin .Mod (.bin .FloorDiv (.var 32) (.const (.int (6)))) (.const (.int (9)))), (.tup [(.tup [(.const (.str (Str.ofString "put"))), (.const (.int (0))), (.tup [(.const (.int (1))), (.var 47), (.var 37)])]), (.var 49)])])])] [],
  .forr (.one 27) .range1 [(.bin .Add (.const (.int (1))) (.bin .Mod (.bin .FloorDiv (.call 16 [(.var 26), (.bin .Add (.var 45) (.const (.int (1))))]) (.const (.int (5)))) (.const (.int (2)))))] [.newcell 46 (.bin .Add (.var 46) (.tup [(.call 22 [(.var 26), (.var 40), (.const (.int (2))), (.var 35), (.var 31)])]))],
  .assign 43 (.call 20 [(.bin .FloorDiv (.call 16 [(.var 26), (.bin .Add (.var 45) (.const (.int (1))))]) (.const (.int (9)))), (.var 35), (.var 31)]),
  .ret (.tup [(.var 31), (.idx (.var 35) (.const (.int (1)))), (.bin .Add (.var 46) (.tup [(.tup [(.const (.str (Str.ofString "tell"))), (.var 43)])]))])]
noncomputable def c__law_value : List CS := [.assign 29 (.bin .Add (.idx (.var 43) (.const (.int (0)))) (.prim .sum [(.comp (.bin .Mult (.idx (.idx (.var 43) (.const (.int (1)))) (.var 27)) (.idx (.var 50) (.var 27))) (.one 27) .range1 [(.prim .len [(.var 50)])] [])])),
  .ret (.bin .Add (.var 29) (.prim .sum [(.comp (.bin .Mult (.idx (.idx (.var 43) (.const (.int (2)))) (.var 27)) (.idx (.var 51) (.var 27))) (.one 27) .range1 [(.prim .len [(.var 51)])] [])]))]
noncomputable def c__law_going : List CS := [.newcell 51 (.bin .Mult (.lst [(.const (.int (0)))]) (.idx (.var 52) (.const (.int (1))))),
  .newcell 46 (.prim .list [(.idx (.var 52) (.const (.int (2))))]),
  .whil (.cmp .NotEq (.var 46) (.lst [])) [.assign 53 (.pop0 46), .ite (.cmp .Eq (.idx (.var 53) (.const (.int (0)))) (.const (.str (Str.ofString "tell")))) [.ret (.tup [(.const (.str (Str.ofString "told"))), (.call 25 [(.idx (.var 53) (.const (.int (1)))), (.var 50), (.var 51)])])] [], .ite (.cmp .Eq (.idx (.var 53) (.const (.int (0)))) (.const (.str (Str.ofString "stop")))) [.ret (.var 53)] [], .ite (.cmp .Eq (.idx (.var 53) (.const (.int (0)))) (.const (.str (Str.ofString "put")))) [.setItem 51 (.idx (.var 53) (.const (.int (1)))) (.call 25 [(.idx (.var 53) (.const (.int (2)))), (.var 50), (.var 51)])] [.ite (.cmp .Eq (.idx (.var 53) (.const (.int (0)))) (.const (.str (Str.ofString "times")))) [.newcell 46 (.bin .Add (.bin .Mult (.prim .list [(.idx (.var 53) (.const (.int (2))))]) (.idx (.var 53) (.const (.int (1))))) (.var 46))] [.ite (.cmp .Lt (.call 25 [(.idx (.var 53) (.const (.int (1)))), (.var 50), (.var 51)]) (.const (.int (0)))) [.newcell 46 (.bin .Add (.prim .list [(.idx (.var 53) (.const (.int (3))))]) (.var 46))] [.newcell 46 (.bin .Add (.prim .list [(.idx (.var 53) (.const (.int (2))))]) (.var 46))]]]],
  .ret (.tup [(.const (.str (Str.ofString "end")))])]
noncomputable def c__law_refused : List CS := [.tryy false 15 [(.var 52), (.var 50)] 43 [.assign 54 (.isexc (.var 43) [1, 2, 4]), .ret (.bop .And [(.isexc (.var 43) [3]), (.isexc (.var 43) [99]), (.nott (.var 54))])],
  .ret (.const (.bool false))]
noncomputable def c_law : List CS := [.assign 52 (.call 24 [(.var 26), (.const (.int (0)))]),
  .newcell 31 (.idx (.var 52) (.const (.int (0)))),
  .ite (.bop .And [(.cmp .Eq (.bin .Mod (.call 16 [(.var 26), (.const (.int (44)))]) (.const (.int (3)))) (.const (.int (1)))), (.cmp .Lt (.call 12 [(.idx (.var 52) (.const (.int (2))))]) (.const (.int (60))))]) [.assign 52 (.tup [(.var 31), (.idx (.var 52) (.const (.int (1)))), (.tup [(.tup [(.const (.str (Str.ofString "times"))), (.bin .Add (.const (.int (2))) (.bin .Mod (.bin .FloorDiv (.call 16 [(.var 26), (.const (.int (44)))]) (.const (.int (3)))) (.const (.int (2))))), (.idx (.var 52) (.const (.int (2))))])])])] [],
  .forr (.one 27) .range1 [(.const (.int (8)))] [.assign 28 (.call 17 [(.call 16 [(.var 26), (.bin .Add (.const (.int (41))) (.bin .Mod (.var 27) (.const (.int (3)))))]), (.var 27)]), .newcell 50 (.lst []), .forr (.one 55) .range1 [(.prim .len [(.var 31)])] [.unpack [33, 56] (.idx (.var 31) (.var 55)), .append 50 (.idx (.lst [(.var 33), (.var 56), (.bin .Add (.var 33) (.bin .Mod (.bin .FloorDiv (.var 28) (.const (.int (9)))) (.bin .Add (.bin .Sub (.var 56) (.var 33)) (.const (.int (1))))))]) (.bin .Mod (.bin .FloorDiv (.var 28) (.bin .Add (.const (.int (1))) (.bin .Mult (.const (.int (2))) (.var 55)))) (.const (.int (3)))))], .assign 57 (.prim .list [(.var 50)]), .forr (.one 58) .range1 [(.const (.int (2)))] [.assign 29 (.call 15 [(.var 52), (.var 57)]), .ite (.bop .Or [(.nott (.isin (.var 29) .tuple)), (.cmp .NotEq (.var 29) (.call 26 [(.var 52), (.var 50)])), (.cmp .NotEq (.var 57) (.var 50))]) [.ret (.const (.bool false))] [], .ite (.bop .And [(.cmp .Eq (.idx (.var 29) (.const (.int (0)))) (.const (.str (Str.ofString "told")))), (.nott (.call 18 [(.idx (.var 29) (.const (.int (1))))]))]) [.ret (.const (.bool false))] []], .assign 59 (.idx (.lst [(.const .none), (.const (.str (Str.ofString "0"))), (.const (.bool true)), (.var 50), (.bin .Pow (.const (.int (10))) (.const (.int (40)))), (.bin .Sub (.const (.int (0))) (.bin .Pow (.const (.int (10))) (.const (.int (40)))))]) (.bin .Mod (.bin .FloorDiv (.var 28) (.const (.int (81)))) (.const (.int (6))))), .newcell 40 (.bin .Mod (.bin .FloorDiv (.var 28) (.const (.int (486)))) (.bin .Add (.prim .len [(.var 50)]) (.const (.int (1))))), .assign 60 (.idx (.lst [(.bin .Add (.bin .Add (.slice (.var 50) (.const .none) (.var 40)) (.lst [(.var 59)])) (.slice (.var 50) (.bin .Add (.var 40) (.const (.int (1)))) (.const .none))), (.bin .Add (.var 50) (.lst [(.const (.int (0)))])), (.prim .tuple [(.var 50)]), (.const .none), (.const (.int (5)))]) (.bin .Mod (.bin .FloorDiv (.var 28) (.const (.int (7)))) (.const (.int (5))))), .ite (.bop .And [(.cmp .Lt (.var 40) (.prim .len [(.var 50)])), (.cmp .Eq (.bin .Mod (.bin .FloorDiv (.var 28) (.const (.int (3)))) (.const (.int (4)))) (.const (.int (1))))]) [.assign 60 (.bin .Add (.bin .Add (.slice (.var 50) (.const .none) (.var 40)) (.lst [(.idx (.lst [(.bin .Sub (.idx (.idx (.var 31) (.var 40)) (.const (.int (0)))) (.const (.int (1)))), (.bin .Add (.idx (.idx (.var 31) (.var 40)) (.const (.int (1)))) (.const (.int (1))))]) (.bin .Mod (.var 28) (.const (.int (2)))))])) (.slice (.var 50) (.bin .Add (.var 40) (.const (.int (1)))) (.const .none)))] [], .ite (.nott (.call 27 [(.var 52), (.var 60)])) [.ret (.const (.bool false))] []],
  .ret (.const (.bool true))]
noncomputable def tab3 : List (List Nat × List CS) := [([0], c_is_whole), ([0, 1, 2], c_is_among), ([0, 3], c_are_wholes), ([5, 6], c_need_inputs), ([0], c_is_range), ([0, 6, 9], c_is_expression), ([0], c_is_word), ([0, 6, 9], c_is_statement), ([12], c_inner_rows), ([0, 6, 9], c_are_rows), ([0], c_is_program), ([14], c_depth), ([14], c_weight), ([0], c_need_program), ([19, 6, 9], c_worth), ([24, 6], c_run), ([26, 27], c__law_cell_at), ([28, 27], c__law_mixed), ([29], c__law_whole), ([28], c__law_ranges), ([28, 35, 31], c__law_expression), ([28], c__law_word_by), ([26, 40, 41, 35, 31], c__law_statement), ([26, 40, 41, 35, 31], c__law_rows), ([26, 45], c__law_program), ([43, 50, 51], c__law_value), ([52, 50], c__law_going), ([52, 50], c__law_refused), ([26], c_law)]
theorem forGo_cnt {t : Tgt} {body : Rho → Store → Option (Fl × Store)} (P : Nat → Rho → Store → Prop) : ∀ (ds : List PyData) (i : Nat) (ρ : Rho) (σ : Store), (∀ j d, ds[j]? = some d → ∀ ρ σ, P (i + j) ρ σ → ∃ ρ₁ ρ₂ σ₂, bindT t d ρ = some ρ₁ ∧ body ρ₁ σ = some (.next ρ₂, σ₂) ∧ P (i + j + 1) ρ₂ σ₂) → P i ρ σ → ∃ ρ' σ', forGo t body ds ρ σ = some (.next ρ', σ') ∧ P (i + ds.length) ρ' σ' := by
  intro ds
  induction ds with
  | nil => intro i ρ σ _ h; exact ⟨ρ, σ, rfl, h⟩
  | cons d ds ih =>
    intro i ρ σ h hp
    obtain ⟨ρ₁, ρ₂, σ₂, h1, h2, h3⟩ := h 0 d rfl ρ σ hp
    obtain ⟨ρ', σ', h4, h5⟩ := ih (i + 1) ρ₂ σ₂ (fun j e he ρ σ hP => by
      have := h (j + 1) e (by simpa using he) ρ σ (by rw [show i + (j + 1) = i + 1 + j by omega]; exact hP)
      rw [show i + (j + 1) + 1 = i + 1 + j + 1 by omega] at this
      exact this) h3
    exact ⟨ρ', σ', by rw [x_for1, h1, Option.bind_some, h2]; exact h4, by rw [List.length_cons, show i + (ds.length + 1) = i + 1 + ds.length by omega]; exact h5⟩
theorem r_forS {N : Nat} {Φ : Phi} {ρ ρ' : Rho} {σ σ' : Store} {t : Tgt} {k : ItK} {its : List CE} {body cs : List CS} {vs : List AV} {ds xs : List PyData} (h1 : evEs Φ its ρ σ = some (vs, σ)) (h2 : liveOf σ vs = []) (h3 : rdAll σ vs = some ds) (h4 : itemsD k ds = some xs)
    (h5 : forGo t (fun ρ' σ' => evSs N Φ body ρ' σ') xs ρ σ = some (.next ρ', σ')) : evSs N Φ (.forr t k its body :: cs) ρ σ = evSs N Φ cs ρ' σ' := by
  refine r_next ?_
  simp only [es_forr, h1, h2, h3, h4, Option.bind_some, flagAll, h5]
theorem r_newcell {N : Nat} {Φ : Phi} {ρ : Rho} {σ σ₁ : Store} {i : Nat} {e : CE} {cs : List CS} {ds : List PyData} (h : evE Φ e ρ σ = some (.fresh ds, σ₁)) : evSs N Φ (.newcell i e :: cs) ρ σ = evSs N Φ cs (ρ.set i (.cell σ₁.length)) (σ₁ ++ [(.live, ds)]) := by rw [es_cons, es_newcell, h]; rfl
theorem r_newdat {N : Nat} {Φ : Phi} {ρ : Rho} {σ σ₁ : Store} {i : Nat} {e : CE} {cs : List CS} {d : PyData} (h : evE Φ e ρ σ = some (.dat d, σ₁)) : evSs N Φ (.newcell i e :: cs) ρ σ = evSs N Φ cs (ρ.set i (.dat d)) σ₁ := by rw [es_cons, es_newcell, h]; rfl
theorem r_append {N : Nat} {Φ : Phi} {ρ : Rho} {σ : Store} {x c : Nat} {e : CE} {cs : List CS} {d : PyData} {ds : List PyData} (hx : ρ x = some (.cell c)) (h : evE Φ e ρ σ = some (.dat d, σ)) (hc : σ[c]? = some (.live, ds)) (hl : ds.length < lim) : evSs N Φ (.append x e :: cs) ρ σ = evSs N Φ cs ρ (σ.set c (.live, ds ++ [d])) := by
  rw [es_cons, es_append, show cellIn ρ x = some c by rw [cellIn, hx]; rfl, Option.bind_some, h]
  show ((liveAt σ c).bind _).bind _ = _
  rw [show liveAt σ c = some ds by rw [liveAt, hc], Option.bind_some, if_pos hl]
  rfl
theorem r_extend {N : Nat} {Φ : Phi} {ρ : Rho} {σ : Store} {x c : Nat} {e : CE} {cs : List CS} {es ds : List PyData} (hx : ρ x = some (.cell c)) (h : evE Φ e ρ σ = some (.fresh es, σ)) (hc : σ[c]? = some (.live, ds)) (hl : ds.length + es.length ≤ lim) : evSs N Φ (.extend x e :: cs) ρ σ = evSs N Φ cs ρ (σ.set c (.live, ds ++ es)) := by
  rw [es_cons, es_extend, show cellIn ρ x = some c by rw [cellIn, hx]; rfl, Option.bind_some, h]
  show ((liveAt σ c).bind _).bind _ = _
  rw [show liveAt σ c = some ds by rw [liveAt, hc], Option.bind_some, if_pos hl]
  rfl
theorem range_it {n : Nat} (hn : n < 1000) : itemsD .range1 [.int n] = some ((List.range n).map fun k => PyData.int (k : Nat)) := by
  show (if (n : Int).toNat < 1048576 then some (rangeL 0 n) else none) = _
  rw [if_pos (by omega), rangeL_nat]
theorem fmod_range (a : Int) {b : Int} (h : 0 < b) : 0 ≤ a.fmod b ∧ a.fmod b < b := ⟨Int.fmod_nonneg_of_pos a h, Int.fmod_lt_of_pos a h⟩
theorem fmod_nat (a : Int) {b : Nat} (h : 0 < b) : ∃ n : Nat, n < b ∧ a.fmod b = n := by
  obtain ⟨h0, h1⟩ := fmod_range a (b := b) (by omega)
  exact ⟨(a.fmod b).toNat, by omega, by omega⟩
noncomputable def mixed (c j : Int) : Int := (c * (48271 + 7919 * j * j + 104729 * j) + 7919 * j + 12345).fmod 2147483647
theorem s_mixed (N k : Nat) (c : Int) (j : Nat) (hj : j < 1000) (σ : Store) : tabAt tab3 N (k + 1) 17 [.dat (.int c), .dat (.int j)] σ = some (.ret (.dat (.int (mixed c j))), σ) := by
  have h1 : mulOk 7919 (j : Int) = true := mulOk_l (by decide)
  have h2 : mulOk (7919 * (j : Int)) j = true := mulOk_r (by omega)
  have h3 : mulOk 104729 (j : Int) = true := mulOk_l (by decide)
  have h5 : 7919 * (j : Int) * j ≤ 7919 * 1000 * 1000 := by
    have := Int.mul_le_mul (a := 7919 * (j : Int)) (b := j) (c := 7919 * 1000) (d := 1000) (by omega) (by omega) (by omega) (by omega)
    omega
  have h6 : 0 ≤ 7919 * (j : Int) * j := Int.mul_nonneg (by omega) (by omega)
  have h4 : mulOk c (48271 + 7919 * (j : Int) * j + 104729 * j) = true := mulOk_r (by omega)
  rw [tab_step (by rfl : tab3[17]? = some ([28, 27], c__law_mixed))]
  simp [es_nil, es_cons, es_assign, es_newcell, es_unpack, es_append, es_extend, es_insert, es_ite, es_ret, el_nil, el_cons, eb_nil, eb_cons, ev_const, ev_var, ev_bin, ev_neg, ev_nott, ev_bop, ev_cmp, ev_ite, ev_idx, ev_tup, ev_lst, ev_call, ev_prim, ev_isin, x_run, x_ba0, x_ba1, x_set, x_rdD, x_rdF, x_rdC, x_ra0, x_ra1, x_oa0, x_oa1, x_owD, x_owF, x_stD, x_stF, x_stC, x_bA, x_iA, x_tA, x_rC, x_on, x_onR, x_end, x_lvD, x_lvF, bi_add, bi_sub, bi_mod, bi_fdiv, cm_lt, cm_le, cm_gt, cm_ge, cm_eqi, cm_nei, cm_eqb, cm_neb, pi_bool, ix_t0, ix_t1, ix_t2, ix_l0, ix_l1, ix_l2, bo_or, bo_and, c__law_mixed, bi_mul h1, bi_mul h2, bi_mul h3, bi_mul h4, mixed]
noncomputable def wholeB : PyData → Bool
  | .int _ => true
  | _ => false
theorem s_whole (N k : Nat) (d : PyData) (σ : Store) : tabAt tab3 N (k + 1) 18 [.dat d] σ = some (.ret (.dat (.bool (wholeB d))), σ) := by
  rw [tab_step (by rfl : tab3[18]? = some ([29], c__law_whole))]
  refine r_runD rfl ?_
  cases d <;> rfl
noncomputable def cellAt (xs : List Int) (k : Nat) : Int := match xs[k]? with
  | some x => x + x.fmod 251 * 381840
  | none => 0
theorem s_cell_at (N k : Nat) (xs : List Int) (hx : xs.length ≤ 63) (j : Nat) (hj : j < 1000) (σ : Store) : tabAt tab3 N (k + 1) 16 [.dat (.list (xs.map .int)), .dat (.int j)] σ = some (.ret (.dat (.int (cellAt xs j))), σ) := by
  rw [tab_step (by rfl : tab3[16]? = some ([26, 27], c__law_cell_at))]
  have hp := pl_list (xs := xs.map PyData.int) (le_lim (m := 63) (by simpa using hx) (by decide))
  rw [List.length_map] at hp
  refine r_runD rfl ?_
  by_cases h : j < xs.length
  · have h1 : xs[j]? = some xs[j] := List.getElem?_eq_getElem h
    have h2 : mulOk (xs[j].fmod 251) 381840 = true := mulOk_r (by decide)
    have h3 : idxD (.list (xs.map .int)) (.int j) = some (.int xs[j]) := ix_list (by omega) (by simp [h1])
    refine r_taken (σ₁ := σ) (by simp [es_nil, es_cons, es_assign, es_newcell, es_unpack, es_append, es_extend, es_insert, es_ite, es_ret, el_nil, el_cons, eb_nil, eb_cons, ev_const, ev_var, ev_bin, ev_neg, ev_nott, ev_bop, ev_cmp, ev_ite, ev_idx, ev_tup, ev_lst, ev_call, ev_prim, ev_isin, x_run, x_ba0, x_ba1, x_set, x_rdD, x_rdF, x_rdC, x_ra0, x_ra1, x_oa0, x_oa1, x_owD, x_owF, x_stD, x_stF, x_stC, x_bA, x_iA, x_tA, x_rC, x_on, x_onR, x_end, x_lvD, x_lvF, bi_add, bi_sub, bi_mod, bi_fdiv, cm_lt, cm_le, cm_gt, cm_ge, cm_eqi, cm_nei, cm_eqb, cm_neb, pi_bool, ix_t0, ix_t1, ix_t2, ix_l0, ix_l1, ix_l2, bo_or, bo_and, hp, h]) (r_ret ?_)
    simp [es_nil, es_cons, es_assign, es_newcell, es_unpack, es_append, es_extend, es_insert, es_ite, es_ret, el_nil, el_cons, eb_nil, eb_cons, ev_const, ev_var, ev_bin, ev_neg, ev_nott, ev_bop, ev_cmp, ev_ite, ev_idx, ev_tup, ev_lst, ev_call, ev_prim, ev_isin, x_run, x_ba0, x_ba1, x_set, x_rdD, x_rdF, x_rdC, x_ra0, x_ra1, x_oa0, x_oa1, x_owD, x_owF, x_stD, x_stF, x_stC, x_bA, x_iA, x_tA, x_rC, x_on, x_onR, x_end, x_lvD, x_lvF, bi_add, bi_sub, bi_mod, bi_fdiv, cm_lt, cm_le, cm_gt, cm_ge, cm_eqi, cm_nei, cm_eqb, cm_neb, pi_bool, ix_t0, ix_t1, ix_t2, ix_l0, ix_l1, ix_l2, bo_or, bo_and, bi_mul h2, h3, cellAt, h1]
  · have h1 : xs[j]? = none := List.getElem?_eq_none (by omega)
    refine (r_skip (σ₁ := σ) (by simp [es_nil, es_cons, es_assign, es_newcell, es_unpack, es_append, es_extend, es_insert, es_ite, es_ret, el_nil, el_cons, eb_nil, eb_cons, ev_const, ev_var, ev_bin, ev_neg, ev_nott, ev_bop, ev_cmp, ev_ite, ev_idx, ev_tup, ev_lst, ev_call, ev_prim, ev_isin, x_run, x_ba0, x_ba1, x_set, x_rdD, x_rdF, x_rdC, x_ra0, x_ra1, x_oa0, x_oa1, x_owD, x_owF, x_stD, x_stF, x_stC, x_bA, x_iA, x_tA, x_rC, x_on, x_onR, x_end, x_lvD, x_lvF, bi_add, bi_sub, bi_mod, bi_fdiv, cm_lt, cm_le, cm_gt, cm_ge, cm_eqi, cm_nei, cm_eqb, cm_neb, pi_bool, ix_t0, ix_t1, ix_t2, ix_l0, ix_l1, ix_l2, bo_or, bo_and, hp, h])).trans (r_ret ?_)
    simp [es_nil, es_cons, es_assign, es_newcell, es_unpack, es_append, es_extend, es_insert, es_ite, es_ret, el_nil, el_cons, eb_nil, eb_cons, ev_const, ev_var, ev_bin, ev_neg, ev_nott, ev_bop, ev_cmp, ev_ite, ev_idx, ev_tup, ev_lst, ev_call, ev_prim, ev_isin, x_run, x_ba0, x_ba1, x_set, x_rdD, x_rdF, x_rdC, x_ra0, x_ra1, x_oa0, x_oa1, x_owD, x_owF, x_stD, x_stF, x_stC, x_bA, x_iA, x_tA, x_rC, x_on, x_onR, x_end, x_lvD, x_lvF, bi_add, bi_sub, bi_mod, bi_fdiv, cm_lt, cm_le, cm_gt, cm_ge, cm_eqi, cm_nei, cm_eqb, cm_neb, pi_bool, ix_t0, ix_t1, ix_t2, ix_l0, ix_l1, ix_l2, bo_or, bo_and, cellAt, h1]
noncomputable def pairD (r : Int × Int) : PyData := .tuple [.int r.1, .int r.2]
noncomputable def okR (r : Int × Int) : Prop := (r.2 - r.1 + 1).toNat ≤ 21 ∧ r.1 ≤ r.2
theorem ev_and2 {Φ : Phi} {ρ : Rho} {σ : Store} {a b : CE} {p q : Bool} (h1 : evE Φ a ρ σ = some (.dat (.bool p), σ)) (h2 : p = true → evE Φ b ρ σ = some (.dat (.bool q), σ)) : evE Φ (.bop .And [a, b]) ρ σ = some (.dat (.bool (p && q)), σ) := by
  cases p
  · simp [es_nil, es_cons, es_assign, es_newcell, es_unpack, es_append, es_extend, es_insert, es_ite, es_ret, el_nil, el_cons, eb_nil, eb_cons, ev_const, ev_var, ev_bin, ev_neg, ev_nott, ev_bop, ev_cmp, ev_ite, ev_idx, ev_tup, ev_lst, ev_call, ev_prim, ev_isin, x_run, x_ba0, x_ba1, x_set, x_rdD, x_rdF, x_rdC, x_ra0, x_ra1, x_oa0, x_oa1, x_owD, x_owF, x_stD, x_stF, x_stC, x_bA, x_iA, x_tA, x_rC, x_on, x_onR, x_end, x_lvD, x_lvF, bi_add, bi_sub, bi_mod, bi_fdiv, cm_lt, cm_le, cm_gt, cm_ge, cm_eqi, cm_nei, cm_eqb, cm_neb, pi_bool, ix_t0, ix_t1, ix_t2, ix_l0, ix_l1, ix_l2, bo_or, bo_and, h1]
  · cases q <;> simp [es_nil, es_cons, es_assign, es_newcell, es_unpack, es_append, es_extend, es_insert, es_ite, es_ret, el_nil, el_cons, eb_nil, eb_cons, ev_const, ev_var, ev_bin, ev_neg, ev_nott, ev_bop, ev_cmp, ev_ite, ev_idx, ev_tup, ev_lst, ev_call, ev_prim, ev_isin, x_run, x_ba0, x_ba1, x_set, x_rdD, x_rdF, x_rdC, x_ra0, x_ra1, x_oa0, x_oa1, x_owD, x_owF, x_stD, x_stF, x_stC, x_bA, x_iA, x_tA, x_rC, x_on, x_onR, x_end, x_lvD, x_lvF, bi_add, bi_sub, bi_mod, bi_fdiv, cm_lt, cm_le, cm_gt, cm_ge, cm_eqi, cm_nei, cm_eqb, cm_neb, pi_bool, ix_t0, ix_t1, ix_t2, ix_l0, ix_l1, ix_l2, bo_or, bo_and, h1, h2 rfl]
theorem ev_or2 {Φ : Phi} {ρ : Rho} {σ : Store} {a b : CE} {p q : Bool} (h1 : evE Φ a ρ σ = some (.dat (.bool p), σ)) (h2 : p = false → evE Φ b ρ σ = some (.dat (.bool q), σ)) : evE Φ (.bop .Or [a, b]) ρ σ = some (.dat (.bool (p || q)), σ) := by
  cases p
  · cases q <;> simp [es_nil, es_cons, es_assign, es_newcell, es_unpack, es_append, es_extend, es_insert, es_ite, es_ret, el_nil, el_cons, eb_nil, eb_cons, ev_const, ev_var, ev_bin, ev_neg, ev_nott, ev_bop, ev_cmp, ev_ite, ev_idx, ev_tup, ev_lst, ev_call, ev_prim, ev_isin, x_run, x_ba0, x_ba1, x_set, x_rdD, x_rdF, x_rdC, x_ra0, x_ra1, x_oa0, x_oa1, x_owD, x_owF, x_stD, x_stF, x_stC, x_bA, x_iA, x_tA, x_rC, x_on, x_onR, x_end, x_lvD, x_lvF, bi_add, bi_sub, bi_mod, bi_fdiv, cm_lt, cm_le, cm_gt, cm_ge, cm_eqi, cm_nei, cm_eqb, cm_neb, pi_bool, ix_t0, ix_t1, ix_t2, ix_l0, ix_l1, ix_l2, bo_or, bo_and, h1, h2 rfl]
  · simp [es_nil, es_cons, es_assign, es_newcell, es_unpack, es_append, es_extend, es_insert, es_ite, es_ret, el_nil, el_cons, eb_nil, eb_cons, ev_const, ev_var, ev_bin, ev_neg, ev_nott, ev_bop, ev_cmp, ev_ite, ev_idx, ev_tup, ev_lst, ev_call, ev_prim, ev_isin, x_run, x_ba0, x_ba1, x_set, x_rdD, x_rdF, x_rdC, x_ra0, x_ra1, x_oa0, x_oa1, x_owD, x_owF, x_stD, x_stF, x_stC, x_bA, x_iA, x_tA, x_rC, x_on, x_onR, x_end, x_lvD, x_lvF, bi_add, bi_sub, bi_mod, bi_fdiv, cm_lt, cm_le, cm_gt, cm_ge, cm_eqi, cm_nei, cm_eqb, cm_neb, pi_bool, ix_t0, ix_t1, ix_t2, ix_l0, ix_l1, ix_l2, bo_or, bo_and, h1]
theorem s_is_whole (N k : Nat) (d : PyData) (σ : Store) : tabAt tab3 N (k + 1) 0 [.dat d] σ = some (.ret (.dat (.bool (wholeB d))), σ) := by
  rw [tab_step (by rfl : tab3[0]? = some ([0], c_is_whole))]
  refine r_runD rfl ?_
  cases d <;> rfl
noncomputable def amongB (d : PyData) (r : Int × Int) : Bool := match d with
  | .int x => decide (r.1 ≤ x) && decide (x ≤ r.2)
  | _ => false
theorem s_is_among (N k : Nat) (d : PyData) (r : Int × Int) (σ : Store) : tabAt tab3 N (k + 2) 1 [.dat d, .dat (.int r.1), .dat (.int r.2)] σ = some (.ret (.dat (.bool (amongB d r))), σ) := by
  rw [tab_step (by rfl : tab3[1]? = some ([0, 1, 2], c_is_among))]
  refine r_runD rfl (r_ret ?_)
  have h0 := s_is_whole N k d σ
  have hcall : evE (tabAt tab3 N (k + 1)) (.call 0 [(.var 0)]) (Rho.set (Rho.set (Rho.set (fun _ => none) 0 (.dat d)) 1 (.dat (.int r.1))) 2 (.dat (.int r.2))) σ = some (.dat (.bool (wholeB d)), σ) := by simp [es_nil, es_cons, es_assign, es_newcell, es_unpack, es_append, es_extend, es_insert, es_ite, es_ret, el_nil, el_cons, eb_nil, eb_cons, ev_const, ev_var, ev_bin, ev_neg, ev_nott, ev_bop, ev_cmp, ev_ite, ev_idx, ev_tup, ev_lst, ev_call, ev_prim, ev_isin, x_run, x_ba0, x_ba1, x_set, x_rdD, x_rdF, x_rdC, x_ra0, x_ra1, x_oa0, x_oa1, x_owD, x_owF, x_stD, x_stF, x_stC, x_bA, x_iA, x_tA, x_rC, x_on, x_onR, x_end, x_lvD, x_lvF, bi_add, bi_sub, bi_mod, bi_fdiv, cm_lt, cm_le, cm_gt, cm_ge, cm_eqi, cm_nei, cm_eqb, cm_neb, pi_bool, ix_t0, ix_t1, ix_t2, ix_l0, ix_l1, ix_l2, bo_or, bo_and, h0]
  cases d with
  | int x =>
    have := ev_and2 (q := amongB (.int x) r) (b := (.cmp2 .LtE .LtE (.var 1) (.var 0) (.var 2))) hcall (fun _ => by
      by_cases h1 : r.1 ≤ x <;> simp [es_nil, es_cons, es_assign, es_newcell, es_unpack, es_append, es_extend, es_insert, es_ite, es_ret, el_nil, el_cons, eb_nil, eb_cons, ev_const, ev_var, ev_bin, ev_neg, ev_nott, ev_bop, ev_cmp, ev_ite, ev_idx, ev_tup, ev_lst, ev_call, ev_prim, ev_isin, x_run, x_ba0, x_ba1, x_set, x_rdD, x_rdF, x_rdC, x_ra0, x_ra1, x_oa0, x_oa1, x_owD, x_owF, x_stD, x_stF, x_stC, x_bA, x_iA, x_tA, x_rC, x_on, x_onR, x_end, x_lvD, x_lvF, bi_add, bi_sub, bi_mod, bi_fdiv, cm_lt, cm_le, cm_gt, cm_ge, cm_eqi, cm_nei, cm_eqb, cm_neb, pi_bool, ix_t0, ix_t1, ix_t2, ix_l0, ix_l1, ix_l2, bo_or, bo_and, ev_cmp2, amongB, h1])
    exact this
  | _ => exact ev_and2 (q := true) (p := false) hcall (fun h => nomatch h)
noncomputable def itD (p : (Int × Int) × PyData) : PyData := .tuple [pairD p.1, p.2]
noncomputable def okB (p : (Int × Int) × PyData) : Bool := amongB p.2 p.1
noncomputable def nBody : List CS := [.ite (.nott (.call 1 [(.var 8), (.idx (.var 7) (.const (.int (0)))), (.idx (.var 7) (.const (.int (1))))])) [.raise 3] []]
theorem n_loop (N k : Nat) (σ : Store) : ∀ (l : List ((Int × Int) × PyData)) (ρ : Rho), (l.all okB = true → ∃ ρ', forGo (.many [7, 8]) (fun ρ' σ' => evSs N (tabAt tab3 N (k + 2)) nBody ρ' σ') (l.map itD) ρ σ = some (.next ρ', σ)) ∧ (l.all okB = false → forGo (.many [7, 8]) (fun ρ' σ' => evSs N (tabAt tab3 N (k + 2)) nBody ρ' σ') (l.map itD) ρ σ = some (.exc 3, σ)) := by
  intro l
  induction l with
  | nil => intro ρ; exact ⟨fun _ => ⟨ρ, rfl⟩, (fun h => nomatch h)⟩
  | cons p l ih =>
    intro ρ
    have he : evE (tabAt tab3 N (k + 2)) (.nott (.call 1 [(.var 8), (.idx (.var 7) (.const (.int (0)))), (.idx (.var 7) (.const (.int (1))))])) (Rho.set (Rho.set ρ 7 (.dat (pairD p.1))) 8 (.dat p.2)) σ = some (.dat (.bool (!okB p)), σ) := by
      have h1 := s_is_among N k p.2 p.1 σ
      have e0 : idxD (pairD p.1) (.int 0) = some (.int p.1.1) := rfl
      have e1 : idxD (pairD p.1) (.int 1) = some (.int p.1.2) := rfl
      simp [es_nil, es_cons, es_assign, es_newcell, es_unpack, es_append, es_extend, es_insert, es_ite, es_ret, el_nil, el_cons, eb_nil, eb_cons, ev_const, ev_var, ev_bin, ev_neg, ev_nott, ev_bop, ev_cmp, ev_ite, ev_idx, ev_tup, ev_lst, ev_call, ev_prim, ev_isin, x_run, x_ba0, x_ba1, x_set, x_rdD, x_rdF, x_rdC, x_ra0, x_ra1, x_oa0, x_oa1, x_owD, x_owF, x_stD, x_stF, x_stC, x_bA, x_iA, x_tA, x_rC, x_on, x_onR, x_end, x_lvD, x_lvF, bi_add, bi_sub, bi_mod, bi_fdiv, cm_lt, cm_le, cm_gt, cm_ge, cm_eqi, cm_nei, cm_eqb, cm_neb, pi_bool, ix_t0, ix_t1, ix_t2, ix_l0, ix_l1, ix_l2, bo_or, bo_and, e0, e1, h1, okB]
    obtain ⟨i1, i2⟩ := ih (Rho.set (Rho.set ρ 7 (.dat (pairD p.1))) 8 (.dat p.2))
    rw [List.map_cons, x_for1]
    show (_ → ∃ ρ', ((evSs N (tabAt tab3 N (k + 2)) nBody (Rho.set (Rho.set ρ 7 (.dat (pairD p.1))) 8 (.dat p.2)) σ).bind _) = _) ∧ (_ → ((evSs N (tabAt tab3 N (k + 2)) nBody (Rho.set (Rho.set ρ 7 (.dat (pairD p.1))) 8 (.dat p.2)) σ).bind _) = _)
    cases hp : okB p with
    | true =>
      rw [hp] at he
      have hs : evSs N (tabAt tab3 N (k + 2)) nBody (Rho.set (Rho.set ρ 7 (.dat (pairD p.1))) 8 (.dat p.2)) σ = some (.next (Rho.set (Rho.set ρ 7 (.dat (pairD p.1))) 8 (.dat p.2)), σ) := (r_skip he).trans es_nil
      rw [hs, Option.bind_some, x_on, List.all_cons, hp, Bool.true_and]
      exact ⟨i1, i2⟩
    | false =>
      rw [hp] at he
      have hs : evSs N (tabAt tab3 N (k + 2)) nBody (Rho.set (Rho.set ρ 7 (.dat (pairD p.1))) 8 (.dat p.2)) σ = some (.exc 3, σ) := by
        rw [show nBody = [.ite (.nott (.call 1 [(.var 8), (.idx (.var 7) (.const (.int (0)))), (.idx (.var 7) (.const (.int (1))))])) [.raise 3] []] from rfl, es_cons, r_true he]
        rfl
      rw [hs, List.all_cons, hp, Bool.false_and]
      exact ⟨(fun h => nomatch h), fun _ => rfl⟩
noncomputable def BadIn (rs : List (Int × Int)) (d : PyData) : Prop := (∀ ds, d ≠ .list ds) ∨ ∃ ds, d = .list ds ∧ ds.length ≤ 1000 ∧ (ds.length ≠ rs.length ∨ (rs.zip ds).all okB = false)
theorem zip_it (rs : List (Int × Int)) (ds : List PyData) : itemsD .zip [.tuple (rs.map pairD), .list ds] = some ((rs.zip ds).map itD) := by
  show some (((rs.map pairD).zip ds).map fun p => PyData.tuple [p.1, p.2]) = _
  congr 1
  induction rs generalizing ds with
  | nil => rfl
  | cons r rs ih => cases ds with
    | nil => rfl
    | cons d ds => simp [itD, ih]
theorem need_cond {N k : Nat} {rs : List (Int × Int)} {ds : List PyData} (hl : rs.length ≤ 3) (hd : ds.length ≤ 1000) (σ : Store) : evE (tabAt tab3 N k) (.bop .Or [(.nott (.isin (.var 6) .list)), (.cmp .NotEq (.prim .len [(.var 6)]) (.prim .len [(.var 5)]))]) (Rho.set (Rho.set (fun _ => none) 5 (.dat (.tuple (rs.map pairD)))) 6 (.dat (.list ds))) σ = some (.dat (.bool (!((ds.length : Int) == rs.length))), σ) := by
  have h1 := pl_tuple (xs := rs.map pairD) (le_lim (m := 3) (by simpa using hl) (by decide))
  rw [List.length_map] at h1
  have h2 := pl_list (xs := ds) (le_lim (m := 1000) hd (by decide))
  have := ev_or2 (Φ := tabAt tab3 N k) (ρ := Rho.set (Rho.set (fun _ => none) 5 (.dat (.tuple (rs.map pairD)))) 6 (.dat (.list ds))) (σ := σ) (a := (.nott (.isin (.var 6) .list))) (b := (.cmp .NotEq (.prim .len [(.var 6)]) (.prim .len [(.var 5)]))) (p := false) (q := !((ds.length : Int) == rs.length)) rfl (fun _ => by simp [es_nil, es_cons, es_assign, es_newcell, es_unpack, es_append, es_extend, es_insert, es_ite, es_ret, el_nil, el_cons, eb_nil, eb_cons, ev_const, ev_var, ev_bin, ev_neg, ev_nott, ev_bop, ev_cmp, ev_ite, ev_idx, ev_tup, ev_lst, ev_call, ev_prim, ev_isin, x_run, x_ba0, x_ba1, x_set, x_rdD, x_rdF, x_rdC, x_ra0, x_ra1, x_oa0, x_oa1, x_owD, x_owF, x_stD, x_stF, x_stC, x_bA, x_iA, x_tA, x_rC, x_on, x_onR, x_end, x_lvD, x_lvF, bi_add, bi_sub, bi_mod, bi_fdiv, cm_lt, cm_le, cm_gt, cm_ge, cm_eqi, cm_nei, cm_eqb, cm_neb, pi_bool, ix_t0, ix_t1, ix_t2, ix_l0, ix_l1, ix_l2, bo_or, bo_and, h1, h2])
  exact this
theorem s_need_ok (N k : Nat) (rs : List (Int × Int)) (hl : rs.length ≤ 3) (ds : List PyData) (hd : ds.length = rs.length) (ho : (rs.zip ds).all okB = true) (σ : Store) : tabAt tab3 N (k + 3) 3 [.dat (.tuple (rs.map pairD)), .dat (.list ds)] σ = some (.ret (.dat .none), σ) := by
  rw [tab_step (by rfl : tab3[3]? = some ([5, 6], c_need_inputs))]
  obtain ⟨ρ', h1⟩ := (n_loop N k σ (rs.zip ds) (Rho.set (Rho.set (fun _ => none) 5 (.dat (.tuple (rs.map pairD)))) 6 (.dat (.list ds)))).1 ho
  have hc := need_cond (N := N) (k := k + 2) hl (ds := ds) (by omega) σ
  rw [hd, show ((rs.length : Int) == rs.length) = true from by simp] at hc
  have hb : evSs N (tabAt tab3 N (k + 2)) c_need_inputs (Rho.set (Rho.set (fun _ => none) 5 (.dat (.tuple (rs.map pairD)))) 6 (.dat (.list ds))) σ = some (.next ρ', σ) := by
    refine (r_skip hc).trans ((r_forS (vs := [.dat (.tuple (rs.map pairD)), .dat (.list ds)]) (by simp [es_nil, es_cons, es_assign, es_newcell, es_unpack, es_append, es_extend, es_insert, es_ite, es_ret, el_nil, el_cons, eb_nil, eb_cons, ev_const, ev_var, ev_bin, ev_neg, ev_nott, ev_bop, ev_cmp, ev_ite, ev_idx, ev_tup, ev_lst, ev_call, ev_prim, ev_isin, x_run, x_ba0, x_ba1, x_set, x_rdD, x_rdF, x_rdC, x_ra0, x_ra1, x_oa0, x_oa1, x_owD, x_owF, x_stD, x_stF, x_stC, x_bA, x_iA, x_tA, x_rC, x_on, x_onR, x_end, x_lvD, x_lvF, bi_add, bi_sub, bi_mod, bi_fdiv, cm_lt, cm_le, cm_gt, cm_ge, cm_eqi, cm_nei, cm_eqb, cm_neb, pi_bool, ix_t0, ix_t1, ix_t2, ix_l0, ix_l1, ix_l2, bo_or, bo_and]) rfl rfl (zip_it rs ds) h1).trans es_nil)
  rw [x_run, x_ba1, x_ba1, x_ba0, Option.bind_some, hb]
  show some (CR.ret (.dat .none), σ.take σ.length) = _
  rw [List.take_length]
theorem s_need_bad (N k : Nat) (rs : List (Int × Int)) (hl : rs.length ≤ 3) (d : PyData) (hb : BadIn rs d) (σ : Store) : tabAt tab3 N (k + 3) 3 [.dat (.tuple (rs.map pairD)), .dat d] σ = some (.exc 3, σ) := by
  rw [tab_step (by rfl : tab3[3]? = some ([5, 6], c_need_inputs))]
  have fin : evSs N (tabAt tab3 N (k + 2)) c_need_inputs (Rho.set (Rho.set (fun _ => none) 5 (.dat (.tuple (rs.map pairD)))) 6 (.dat d)) σ = some (.exc 3, σ) → runF N (tabAt tab3 N (k + 2)) [5, 6] c_need_inputs [.dat (.tuple (rs.map pairD)), .dat d] σ = some (.exc 3, σ) := fun h => by
    rw [x_run, x_ba1, x_ba1, x_ba0, Option.bind_some, h]
    show some (CR.exc 3, σ.take σ.length) = _
    rw [List.take_length]
  apply fin
  have raised : ∀ c, evE (tabAt tab3 N (k + 2)) c (Rho.set (Rho.set (fun _ => none) 5 (.dat (.tuple (rs.map pairD)))) 6 (.dat d)) σ = some (.dat (.bool true), σ) → ∀ cs, evSs N (tabAt tab3 N (k + 2)) (.ite c [.raise 3] [] :: cs) (Rho.set (Rho.set (fun _ => none) 5 (.dat (.tuple (rs.map pairD)))) 6 (.dat d)) σ = some (.exc 3, σ) := fun c h cs => by
    rw [es_cons, r_true h]
    rfl
  rcases hb with hn | ⟨ds, rfl, hd, hb⟩
  · refine raised _ ?_ _
    have : isinD .list d = false := by
      cases d <;> first | rfl | exact absurd rfl (hn _)
    exact ev_or2 (p := true) (q := true) (by simp [es_nil, es_cons, es_assign, es_newcell, es_unpack, es_append, es_extend, es_insert, es_ite, es_ret, el_nil, el_cons, eb_nil, eb_cons, ev_const, ev_var, ev_bin, ev_neg, ev_nott, ev_bop, ev_cmp, ev_ite, ev_idx, ev_tup, ev_lst, ev_call, ev_prim, ev_isin, x_run, x_ba0, x_ba1, x_set, x_rdD, x_rdF, x_rdC, x_ra0, x_ra1, x_oa0, x_oa1, x_owD, x_owF, x_stD, x_stF, x_stC, x_bA, x_iA, x_tA, x_rC, x_on, x_onR, x_end, x_lvD, x_lvF, bi_add, bi_sub, bi_mod, bi_fdiv, cm_lt, cm_le, cm_gt, cm_ge, cm_eqi, cm_nei, cm_eqb, cm_neb, pi_bool, ix_t0, ix_t1, ix_t2, ix_l0, ix_l1, ix_l2, bo_or, bo_and, this]) (fun h => nomatch h)
  · have hc := need_cond (N := N) (k := k + 2) hl (ds := ds) hd σ
    by_cases hne : ds.length = rs.length
    · have hb : (rs.zip ds).all okB = false := hb.resolve_left fun h => h hne
      rw [hne, show ((rs.length : Int) == rs.length) = true from by simp] at hc
      have h1 := (n_loop N k σ (rs.zip ds) (Rho.set (Rho.set (fun _ => none) 5 (.dat (.tuple (rs.map pairD)))) 6 (.dat (.list ds)))).2 hb
      refine (r_skip hc).trans ?_
      have he : evEs (tabAt tab3 N (k + 2)) [(.var 5), (.var 6)] (Rho.set (Rho.set (fun _ => none) 5 (.dat (.tuple (rs.map pairD)))) 6 (.dat (.list ds))) σ = some ([.dat (.tuple (rs.map pairD)), .dat (.list ds)], σ) := by simp [es_nil, es_cons, es_assign, es_newcell, es_unpack, es_append, es_extend, es_insert, es_ite, es_ret, el_nil, el_cons, eb_nil, eb_cons, ev_const, ev_var, ev_bin, ev_neg, ev_nott, ev_bop, ev_cmp, ev_ite, ev_idx, ev_tup, ev_lst, ev_call, ev_prim, ev_isin, x_run, x_ba0, x_ba1, x_set, x_rdD, x_rdF, x_rdC, x_ra0, x_ra1, x_oa0, x_oa1, x_owD, x_owF, x_stD, x_stF, x_stC, x_bA, x_iA, x_tA, x_rC, x_on, x_onR, x_end, x_lvD, x_lvF, bi_add, bi_sub, bi_mod, bi_fdiv, cm_lt, cm_le, cm_gt, cm_ge, cm_eqi, cm_nei, cm_eqb, cm_neb, pi_bool, ix_t0, ix_t1, ix_t2, ix_l0, ix_l1, ix_l2, bo_or, bo_and]
      have hz := zip_it rs ds
      have hr : rdAll σ [.dat (.tuple (rs.map pairD)), .dat (.list ds)] = some [.tuple (rs.map pairD), .list ds] := rfl
      have hlv : liveOf σ [.dat (.tuple (rs.map pairD)), .dat (.list ds)] = [] := rfl
      rw [es_cons, es_forr, he, Option.bind_some, hr, Option.bind_some, hz, Option.bind_some, hlv]
      show ((forGo (.many [7, 8]) (fun ρ' σ' => evSs N (tabAt tab3 N (k + 2)) nBody ρ' σ') ((rs.zip ds).map itD) _ σ).bind _).bind _ = _
      rw [h1]
      rfl
    · rw [show ((ds.length : Int) == rs.length) = false from by simp; omega] at hc
      exact raised _ hc _
theorem cutA (ds : List PyData) (m : Nat) : cutL ds none (some m) = ds.take m := by simp [cutL]
theorem cutB (ds : List PyData) (m : Nat) : cutL ds (some m) none = ds.drop m := by simp [cutL]
theorem sl_lA {ds : List PyData} {m : Nat} (h : ds.length ≤ 1000) (hm : m ≤ 1000) : sliceD (.list ds) .none (.int m) = some (.fresh (ds.take m)) := by
  show ((if 0 ≤ (m : Int) ∧ (m : Int).toNat < 4611686018427387904 then some (some (m : Int).toNat) else none).bind fun h => if ds.length ≤ lim then some (AV.fresh (cutL ds none h)) else none) = _
  rw [if_pos (by omega), Option.bind_some, if_pos (le_lim (m := 1000) h (by decide)), Int.toNat_natCast, cutA]
theorem sl_lB {ds : List PyData} {m : Nat} (h : ds.length ≤ 1000) (hm : m ≤ 1000) : sliceD (.list ds) (.int m) .none = some (.fresh (ds.drop m)) := by
  show ((if 0 ≤ (m : Int) ∧ (m : Int).toNat < 4611686018427387904 then some (some (m : Int).toNat) else none).bind fun l => if ds.length ≤ lim then some (AV.fresh (cutL ds l none)) else none) = _
  rw [if_pos (by omega), Option.bind_some, if_pos (le_lim (m := 1000) h (by decide)), Int.toNat_natCast, cutB]
theorem sl_tB {ds : List PyData} {m : Nat} (h : ds.length ≤ 1000) (hm : m ≤ 1000) : sliceD (.tuple ds) (.int m) .none = some (.dat (.tuple (ds.drop m))) := by
  show ((if 0 ≤ (m : Int) ∧ (m : Int).toNat < 4611686018427387904 then some (some (m : Int).toNat) else none).bind fun l => if ds.length ≤ lim then some (AV.dat (.tuple (cutL ds l none))) else none) = _
  rw [if_pos (by omega), Option.bind_some, if_pos (le_lim (m := 1000) h (by decide)), Int.toNat_natCast, cutB]
noncomputable def putAt (ds : List PyData) (m : Nat) (d : PyData) : List PyData := ds.take m ++ [d] ++ ds.drop (m + 1)
theorem put_len {ds : List PyData} {m : Nat} {d : PyData} (h : m ≤ ds.length) : (putAt ds m d).length = if m < ds.length then ds.length else ds.length + 1 := by
  unfold putAt
  simp
  split <;> omega
theorem put_at {ds : List PyData} {m : Nat} {d : PyData} (h : m ≤ ds.length) : (putAt ds m d)[m]? = some d := by
  unfold putAt
  rw [List.append_assoc, List.getElem?_append_right (by simp; omega)]
  simp
  rw [show m - min m ds.length = 0 by omega]
  rfl
theorem bad_put {rs : List (Int × Int)} {ds : List PyData} {m : Nat} {d : PyData} (h3 : rs.length ≤ 3) (hx : ds.length = rs.length) (hm : m ≤ rs.length) (hd : ∀ r, rs[m]? = some r → amongB d r = false) : BadIn rs (.list (putAt ds m d)) := by
  have hl := put_len (ds := ds) (m := m) (d := d) (by omega)
  refine .inr ⟨_, rfl, by rw [hl]; split <;> omega, ?_⟩
  by_cases h : m < rs.length
  · right
    rw [List.all_eq_false]
    refine ⟨(rs[m], d), ?_, ?_⟩
    · apply List.mem_of_getElem? (i := m)
      rw [List.getElem?_zip_eq_some]
      exact ⟨List.getElem?_eq_getElem h, put_at (by omega)⟩
    · have := hd rs[m] (List.getElem?_eq_getElem h)
      simp [okB, this]
  · left
    rw [hl, if_neg (by omega)]
    omega
theorem ev_binR {Φ : Phi} {ρ : Rho} {σ : Store} {op : Operator} {a b : CE} {x y r : AV} {dx dy : PyData} (h1 : evE Φ a ρ σ = some (x, σ)) (h2 : evE Φ b ρ σ = some (y, σ)) (h3 : rd σ x = some dx) (h4 : rd σ y = some dy) (h5 : binD op dx dy = some r) : evE Φ (.bin op a b) ρ σ = some (r, σ) := by
  rw [ev_bin, h1, Option.bind_some, h2, Option.bind_some, h3, Option.bind_some, h4, Option.bind_some, h5, Option.bind_some]
noncomputable def at0 (fs : List Int) (k : Nat) : Int := fs.getD k 0
theorem range_zip {α : Type} (F : Int → Int → α) {fs gs : List Int} {n : Nat} (hf : fs.length = n) (hg : gs.length = n) : (List.range n).map (fun k => F (at0 fs k) (at0 gs k)) = List.zipWith F fs gs := by
  apply List.ext_getElem
  · simp [hf, hg]
  · intro i h1 h2
    simp at h1
    simp [at0, List.getD, List.getElem?_eq_getElem (show i < fs.length by omega), List.getElem?_eq_getElem (show i < gs.length by omega)]
theorem at0_mem {fs : List Int} {k : Nat} (h : k < fs.length) : at0 fs k ∈ fs := by
  simp [at0, List.getD, List.getElem?_eq_getElem h]
theorem flat_rep {α : Type} (n : Nat) (x : α) : (List.replicate n [x]).flatten = List.replicate n x := by
  induction n with
  | zero => rfl
  | succ n ih => rw [List.replicate_succ, List.flatten_cons, ih]; rfl
theorem bi_reps {n : Nat} (i : Int) (h : n ≤ 1000) : binD .Mult (.tuple [.int i]) (.int n) = some (.dat (.tuple ((List.replicate n i).map .int))) := by
  show (if (n : Int).natAbs * 1 ≤ 65536 ∧ (n : Int).natAbs ≤ 65536 then some (AV.dat (.tuple ((List.replicate (n : Int).toNat [PyData.int i]).flatten))) else none) = _
  rw [if_pos (by omega), Int.toNat_natCast, flat_rep, List.map_replicate]
theorem ix_getD {l : List Int} {j : Nat} (h : j < l.length) (hl : l.length < 1000) : idxD (.list (l.map .int)) (.int j) = some (.int (l.getD j 0)) :=
  ix_list (by omega) (by simp [List.getD, List.getElem?_eq_getElem h])
theorem all_abs {l : List Int} {x : Int} {m : Nat} (h : x ∈ l) (c : (l.all fun x => decide (x.natAbs ≤ m)) = true) : x.natAbs ≤ m := of_decide_eq_true (List.all_eq_true.mp c x h)
theorem pick_nat {l : List Int} {x : Int} (h : x ∈ l) (lo hi : Nat) (c : (l.all fun x => decide (x = (x.toNat : Int)) && (decide (lo ≤ x.toNat) && decide (x.toNat ≤ hi))) = true) : ∃ m : Nat, x = m ∧ lo ≤ m ∧ m ≤ hi :=
  have a := Bool.and_eq_true_iff.mp (List.all_eq_true.mp c x h)
  have b := Bool.and_eq_true_iff.mp a.2
  ⟨x.toNat, of_decide_eq_true a.1, of_decide_eq_true b.1, of_decide_eq_true b.2⟩
theorem getD_mem {l : List Int} {j : Nat} (h : j < l.length) : l.getD j 0 ∈ l := by
  simp [List.getD, List.getElem?_eq_getElem h]
theorem ev_pick {Φ : Phi} {ρ : Rho} {σ : Store} {es : CE} {i : CE} (l : List Int) (j : Nat) (h1 : evE Φ es ρ σ = some (.fresh (l.map .int), σ)) (h2 : evE Φ i ρ σ = some (.dat (.int j), σ)) (h : j < l.length) (hl : l.length < 1000) : evE Φ (.idx es i) ρ σ = some (.dat (.int (l.getD j 0)), σ) :=
  ev_idxR h1 h2 rfl rfl (ix_getD h hl)
noncomputable def rBody : List CS := [.assign 32 (.call 17 [(.bin .FloorDiv (.var 28) (.const (.int (7)))), (.var 27)]), .assign 33 (.idx (.lst [(.bin .Sub (.bin .Mod (.var 32) (.const (.int (11)))) (.const (.int (5)))), (.bin .Sub (.bin .Mod (.var 32) (.const (.int (11)))) (.const (.int (5)))), (.bin .Add (.bin .Pow (.const (.int (10))) (.const (.int (20)))) (.bin .Mod (.var 32) (.const (.int (7))))), (.bin .Sub (.const (.int (0))) (.bin .Pow (.const (.int (10))) (.const (.int (20)))))]) (.bin .Mod (.bin .FloorDiv (.var 32) (.const (.int (11)))) (.const (.int (4))))), .assign 34 (.bin .Mod (.bin .FloorDiv (.var 32) (.const (.int (44)))) (.idx (.lst [(.const (.int (1))), (.const (.int (9))), (.const (.int (5))), (.const (.int (3)))]) (.var 30))), .ite (.bop .And [(.cmp .Eq (.var 30) (.const (.int (1)))), (.cmp .Eq (.bin .Mod (.bin .FloorDiv (.var 32) (.const (.int (396)))) (.const (.int (8)))) (.const (.int (1))))]) [.assign 34 (.bin .Sub (.const (.int (20))) (.bin .Mod (.bin .FloorDiv (.var 32) (.const (.int (3168)))) (.const (.int (2)))))] [], .append 31 (.tup [(.var 33), (.bin .Add (.var 33) (.var 34))])]
theorem r_pow {b : Nat} (h : b ≤ 1000) : binD .Pow (.int 10) (.int b) = some (.dat (.int (10 ^ b))) := bi_pow (a := 10) (b := (b : Int)) (by omega) (by omega) (by decide)
noncomputable def farR (r : Int × Int) : Prop := -(10 ^ 21) ≤ r.1 ∧ r.1 ≤ 10 ^ 21
theorem r_body (N k : Nat) (c : Int) (m j : Nat) (hm : m ≤ 3) (hj : j < 1000) (σ : Store) (ds : List PyData) (hd : ds.length < 1000) (ρ : Rho) (h15 : ρ 28 = some (.dat (.int c))) (h17 : ρ 30 = some (.dat (.int m))) (h14 : ρ 27 = some (.dat (.int j))) (h18 : ρ 31 = some (.cell σ.length)) :
    ∃ ρ₂ r, evSs N (tabAt tab3 N (k + 1)) rBody ρ (σ ++ [(.live, ds)]) = some (.next ρ₂, σ ++ [(.live, ds ++ [pairD r])]) ∧ (okR r ∧ farR r) ∧ ρ₂ 28 = ρ 28 ∧ ρ₂ 30 = ρ 30 ∧ ρ₂ 31 = ρ 31 := by
  generalize hσ : σ ++ [(Flag.live, ds)] = σ'
  have hget : σ'[σ.length]? = some (.live, ds) := by rw [← hσ]; simp
  have hset : ∀ es, σ'.set σ.length (.live, es) = σ ++ [(.live, es)] := fun es => by rw [← hσ]; simp
  have h7 := s_mixed N k (c.fdiv 7) j hj σ'
  generalize mixed (c.fdiv 7) j = x at h7
  obtain ⟨i4, hi4, e4⟩ := fmod_nat (x.fdiv 11) (b := 4) (by decide)
  have hp20 : binD .Pow (.int 10) (.int 20) = some (.dat (.int (10 ^ 20))) := r_pow (b := 20) (by decide)
  have e4' : (x.fdiv 11).fmod 4 = (i4 : Int) := e4
  have hlow : ∀ ρ : Rho, ρ 32 = some (.dat (.int x)) → evE (tabAt tab3 N (k + 1)) (.idx (.lst [(.bin .Sub (.bin .Mod (.var 32) (.const (.int (11)))) (.const (.int (5)))), (.bin .Sub (.bin .Mod (.var 32) (.const (.int (11)))) (.const (.int (5)))), (.bin .Add (.bin .Pow (.const (.int (10))) (.const (.int (20)))) (.bin .Mod (.var 32) (.const (.int (7))))), (.bin .Sub (.const (.int (0))) (.bin .Pow (.const (.int (10))) (.const (.int (20)))))]) (.bin .Mod (.bin .FloorDiv (.var 32) (.const (.int (11)))) (.const (.int (4))))) ρ σ' = some (.dat (.int (([x.fmod 11 - 5, x.fmod 11 - 5, 10 ^ 20 + x.fmod 7, 0 - 10 ^ 20] : List Int).getD i4 0)), σ') := fun ρ h =>
    ev_pick [x.fmod 11 - 5, x.fmod 11 - 5, 10 ^ 20 + x.fmod 7, 0 - 10 ^ 20] i4 (by simp [es_nil, es_cons, es_assign, es_newcell, es_unpack, es_append, es_extend, es_insert, es_ite, es_ret, el_nil, el_cons, eb_nil, eb_cons, ev_const, ev_var, ev_bin, ev_neg, ev_nott, ev_bop, ev_cmp, ev_ite, ev_idx, ev_tup, ev_lst, ev_call, ev_prim, ev_isin, x_run, x_ba0, x_ba1, x_set, x_rdD, x_rdF, x_rdC, x_ra0, x_ra1, x_oa0, x_oa1, x_owD, x_owF, x_stD, x_stF, x_stC, x_bA, x_iA, x_tA, x_rC, x_on, x_onR, x_end, x_lvD, x_lvF, bi_add, bi_sub, bi_mod, bi_fdiv, cm_lt, cm_le, cm_gt, cm_ge, cm_eqi, cm_nei, cm_eqb, cm_neb, pi_bool, ix_t0, ix_t1, ix_t2, ix_l0, ix_l1, ix_l2, bo_or, bo_and, h, hp20]) (by simp [es_nil, es_cons, es_assign, es_newcell, es_unpack, es_append, es_extend, es_insert, es_ite, es_ret, el_nil, el_cons, eb_nil, eb_cons, ev_const, ev_var, ev_bin, ev_neg, ev_nott, ev_bop, ev_cmp, ev_ite, ev_idx, ev_tup, ev_lst, ev_call, ev_prim, ev_isin, x_run, x_ba0, x_ba1, x_set, x_rdD, x_rdF, x_rdC, x_ra0, x_ra1, x_oa0, x_oa1, x_owD, x_owF, x_stD, x_stF, x_stC, x_bA, x_iA, x_tA, x_rC, x_on, x_onR, x_end, x_lvD, x_lvF, bi_add, bi_sub, bi_mod, bi_fdiv, cm_lt, cm_le, cm_gt, cm_ge, cm_eqi, cm_nei, cm_eqb, cm_neb, pi_bool, ix_t0, ix_t1, ix_t2, ix_l0, ix_l1, ix_l2, bo_or, bo_and, h, e4']) hi4 (by simp)
  have hlm := getD_mem (l := [x.fmod 11 - 5, x.fmod 11 - 5, 10 ^ 20 + x.fmod 7, 0 - 10 ^ 20]) (j := i4) hi4
  generalize ([x.fmod 11 - 5, x.fmod 11 - 5, 10 ^ 20 + x.fmod 7, 0 - 10 ^ 20] : List Int).getD i4 0 = low at hlow hlm
  have hfar : ∀ w : Int, farR (low, w) := fun w => by
    obtain ⟨f0, f1⟩ := fmod_range x (b := 11) (by decide)
    obtain ⟨f2, f3⟩ := fmod_range x (b := 7) (by decide)
    simp only [List.mem_cons, List.not_mem_nil, or_false] at hlm
    show -(10 ^ 21) ≤ low ∧ low ≤ 10 ^ 21
    omega
  have hw : ∃ wd : Int, (∀ ρ : Rho, ρ 32 = some (.dat (.int x)) → ρ 30 = some (.dat (.int m)) → evE (tabAt tab3 N (k + 1)) (.bin .Mod (.bin .FloorDiv (.var 32) (.const (.int (44)))) (.idx (.lst [(.const (.int (1))), (.const (.int (9))), (.const (.int (5))), (.const (.int (3)))]) (.var 30))) ρ σ' = some (.dat (.int wd), σ')) ∧ 0 ≤ wd ∧ wd ≤ 20 := by
    have hmem := getD_mem (l := [1, 9, 5, 3]) (j := m) (by simp; omega)
    have hpk := fun (ρ : Rho) (h : ρ 30 = some (.dat (.int m))) => ev_pick (Φ := tabAt tab3 N (k + 1)) (ρ := ρ) (σ := σ') (es := (.lst [(.const (.int (1))), (.const (.int (9))), (.const (.int (5))), (.const (.int (3)))])) (i := .var 30) [1, 9, 5, 3] m (by first | with_reducible_and_instances rfl | rfl | simp [es_nil, es_cons, es_assign, es_newcell, es_unpack, es_append, es_extend, es_insert, es_ite, es_ret, el_nil, el_cons, eb_nil, eb_cons, ev_const, ev_var, ev_bin, ev_neg, ev_nott, ev_bop, ev_cmp, ev_ite, ev_idx, ev_tup, ev_lst, ev_call, ev_prim, ev_isin, x_run, x_ba0, x_ba1, x_set, x_rdD, x_rdF, x_rdC, x_ra0, x_ra1, x_oa0, x_oa1, x_owD, x_owF, x_stD, x_stF, x_stC, x_bA, x_iA, x_tA, x_rC, x_on, x_onR, x_end, x_lvD, x_lvF, bi_add, bi_sub, bi_mod, bi_fdiv, cm_lt, cm_le, cm_gt, cm_ge, cm_eqi, cm_nei, cm_eqb, cm_neb, pi_bool, ix_t0, ix_t1, ix_t2, ix_l0, ix_l1, ix_l2, bo_or, bo_and]) (by simp [es_nil, es_cons, es_assign, es_newcell, es_unpack, es_append, es_extend, es_insert, es_ite, es_ret, el_nil, el_cons, eb_nil, eb_cons, ev_const, ev_var, ev_bin, ev_neg, ev_nott, ev_bop, ev_cmp, ev_ite, ev_idx, ev_tup, ev_lst, ev_call, ev_prim, ev_isin, x_run, x_ba0, x_ba1, x_set, x_rdD, x_rdF, x_rdC, x_ra0, x_ra1, x_oa0, x_oa1, x_owD, x_owF, x_stD, x_stF, x_stC, x_bA, x_iA, x_tA, x_rC, x_on, x_onR, x_end, x_lvD, x_lvF, bi_add, bi_sub, bi_mod, bi_fdiv, cm_lt, cm_le, cm_gt, cm_ge, cm_eqi, cm_nei, cm_eqb, cm_neb, pi_bool, ix_t0, ix_t1, ix_t2, ix_l0, ix_l1, ix_l2, bo_or, bo_and, h]) (by simp; omega) (by simp)
    generalize ([1, 9, 5, 3] : List Int).getD m 0 = w at hmem hpk
    obtain ⟨w, rfl, hw0⟩ := pick_nat hmem 1 9 rfl
    obtain ⟨f0, f1⟩ := fmod_range (x.fdiv 44) (b := (w : Int)) (Int.ofNat_lt.mpr hw0.1)
    refine ⟨(x.fdiv 44).fmod w, fun ρ h19 h17 => ?_, f0, by omega⟩
    have hpk' := hpk ρ h17
    have hmod : binD .Mod (.int (x.fdiv 44)) (.int w) = _ := bi_mod (show (w : Int) ≠ 0 by omega)
    exact ev_binR (x := .dat (.int (x.fdiv 44))) (by simp [es_nil, es_cons, es_assign, es_newcell, es_unpack, es_append, es_extend, es_insert, es_ite, es_ret, el_nil, el_cons, eb_nil, eb_cons, ev_const, ev_var, ev_bin, ev_neg, ev_nott, ev_bop, ev_cmp, ev_ite, ev_idx, ev_tup, ev_lst, ev_call, ev_prim, ev_isin, x_run, x_ba0, x_ba1, x_set, x_rdD, x_rdF, x_rdC, x_ra0, x_ra1, x_oa0, x_oa1, x_owD, x_owF, x_stD, x_stF, x_stC, x_bA, x_iA, x_tA, x_rC, x_on, x_onR, x_end, x_lvD, x_lvF, bi_add, bi_sub, bi_mod, bi_fdiv, cm_lt, cm_le, cm_gt, cm_ge, cm_eqi, cm_nei, cm_eqb, cm_neb, pi_bool, ix_t0, ix_t1, ix_t2, ix_l0, ix_l1, ix_l2, bo_or, bo_and, h19]) hpk' rfl rfl hmod
  obtain ⟨wd, hwd, hw0, hw1⟩ := hw
  have hcond := fun (ρ : Rho) (h19 : ρ 32 = some (.dat (.int x))) (h17 : ρ 30 = some (.dat (.int m))) => ev_and2 (Φ := tabAt tab3 N (k + 1)) (ρ := ρ) (σ := σ') (a := (.cmp .Eq (.var 30) (.const (.int (1))))) (b := (.cmp .Eq (.bin .Mod (.bin .FloorDiv (.var 32) (.const (.int (396)))) (.const (.int (8)))) (.const (.int (1))))) (p := (m : Int) == 1) (q := (x.fdiv 396).fmod 8 == 1) (by simp [es_nil, es_cons, es_assign, es_newcell, es_unpack, es_append, es_extend, es_insert, es_ite, es_ret, el_nil, el_cons, eb_nil, eb_cons, ev_const, ev_var, ev_bin, ev_neg, ev_nott, ev_bop, ev_cmp, ev_ite, ev_idx, ev_tup, ev_lst, ev_call, ev_prim, ev_isin, x_run, x_ba0, x_ba1, x_set, x_rdD, x_rdF, x_rdC, x_ra0, x_ra1, x_oa0, x_oa1, x_owD, x_owF, x_stD, x_stF, x_stC, x_bA, x_iA, x_tA, x_rC, x_on, x_onR, x_end, x_lvD, x_lvF, bi_add, bi_sub, bi_mod, bi_fdiv, cm_lt, cm_le, cm_gt, cm_ge, cm_eqi, cm_nei, cm_eqb, cm_neb, pi_bool, ix_t0, ix_t1, ix_t2, ix_l0, ix_l1, ix_l2, bo_or, bo_and, h17]) (fun _ => by simp [es_nil, es_cons, es_assign, es_newcell, es_unpack, es_append, es_extend, es_insert, es_ite, es_ret, el_nil, el_cons, eb_nil, eb_cons, ev_const, ev_var, ev_bin, ev_neg, ev_nott, ev_bop, ev_cmp, ev_ite, ev_idx, ev_tup, ev_lst, ev_call, ev_prim, ev_isin, x_run, x_ba0, x_ba1, x_set, x_rdD, x_rdF, x_rdC, x_ra0, x_ra1, x_oa0, x_oa1, x_owD, x_owF, x_stD, x_stF, x_stC, x_bA, x_iA, x_tA, x_rC, x_on, x_onR, x_end, x_lvD, x_lvF, bi_add, bi_sub, bi_mod, bi_fdiv, cm_lt, cm_le, cm_gt, cm_ge, cm_eqi, cm_nei, cm_eqb, cm_neb, pi_bool, ix_t0, ix_t1, ix_t2, ix_l0, ix_l1, ix_l2, bo_or, bo_and, h19])
  generalize ((m : Int) == 1 && (x.fdiv 396).fmod 8 == 1) = cb at hcond
  have hfin : ∀ (ρ : Rho) (wd : Int), ρ 33 = some (.dat (.int low)) → ρ 34 = some (.dat (.int wd)) → ρ 31 = some (.cell σ.length) → evSs N (tabAt tab3 N (k + 1)) [.append 31 (.tup [(.var 33), (.bin .Add (.var 33) (.var 34))])] ρ σ' = some (.next ρ, σ ++ [(.live, ds ++ [pairD (low, low + wd)])]) := fun ρ wd h20 h21 h18 => by
    refine (r_append (c := σ.length) (d := pairD (low, low + wd)) (ds := ds) h18 (by simp [es_nil, es_cons, es_assign, es_newcell, es_unpack, es_append, es_extend, es_insert, es_ite, es_ret, el_nil, el_cons, eb_nil, eb_cons, ev_const, ev_var, ev_bin, ev_neg, ev_nott, ev_bop, ev_cmp, ev_ite, ev_idx, ev_tup, ev_lst, ev_call, ev_prim, ev_isin, x_run, x_ba0, x_ba1, x_set, x_rdD, x_rdF, x_rdC, x_ra0, x_ra1, x_oa0, x_oa1, x_owD, x_owF, x_stD, x_stF, x_stC, x_bA, x_iA, x_tA, x_rC, x_on, x_onR, x_end, x_lvD, x_lvF, bi_add, bi_sub, bi_mod, bi_fdiv, cm_lt, cm_le, cm_gt, cm_ge, cm_eqi, cm_nei, cm_eqb, cm_neb, pi_bool, ix_t0, ix_t1, ix_t2, ix_l0, ix_l1, ix_l2, bo_or, bo_and, h20, h21, pairD]) hget (Nat.lt_of_lt_of_le hd (by decide))).trans ?_
    rw [es_nil, hset]
  have ha : evE (tabAt tab3 N (k + 1)) (.call 17 [(.bin .FloorDiv (.var 28) (.const (.int (7)))), (.var 27)]) ρ σ' = some (.dat (.int x), σ') := by simp [es_nil, es_cons, es_assign, es_newcell, es_unpack, es_append, es_extend, es_insert, es_ite, es_ret, el_nil, el_cons, eb_nil, eb_cons, ev_const, ev_var, ev_bin, ev_neg, ev_nott, ev_bop, ev_cmp, ev_ite, ev_idx, ev_tup, ev_lst, ev_call, ev_prim, ev_isin, x_run, x_ba0, x_ba1, x_set, x_rdD, x_rdF, x_rdC, x_ra0, x_ra1, x_oa0, x_oa1, x_owD, x_owF, x_stD, x_stF, x_stC, x_bA, x_iA, x_tA, x_rC, x_on, x_onR, x_end, x_lvD, x_lvF, bi_add, bi_sub, bi_mod, bi_fdiv, cm_lt, cm_le, cm_gt, cm_ge, cm_eqi, cm_nei, cm_eqb, cm_neb, pi_bool, ix_t0, ix_t1, ix_t2, ix_l0, ix_l1, ix_l2, bo_or, bo_and, h15, h14, h7]
  cases cb with
  | false =>
    refine ⟨((ρ.set 32 (.dat (.int x))).set 33 (.dat (.int low))).set 34 (.dat (.int wd)), (low, low + wd), ?_, ?_, rfl, rfl, rfl⟩
    · refine (r_assign ha).trans ?_
      refine (r_assign (hlow _ rfl)).trans ?_
      refine Eq.trans (r_assign (hwd _ (by rfl) (by exact h17))) ?_
      refine Eq.trans (r_skip (hcond _ (by rfl) (by exact h17))) ?_
      exact hfin _ wd (by rfl) (by rfl) (by exact h18)
    · exact ⟨⟨by show (low + wd - low + 1).toNat ≤ 21; omega, by show low ≤ low + wd; omega⟩, hfar _⟩
  | true =>
    obtain ⟨f0, f1⟩ := fmod_range (x.fdiv 3168) (b := 2) (by decide)
    refine ⟨(((ρ.set 32 (.dat (.int x))).set 33 (.dat (.int low))).set 34 (.dat (.int wd))).set 34 (.dat (.int (20 - (x.fdiv 3168).fmod 2))), (low, low + (20 - (x.fdiv 3168).fmod 2)), ?_, ?_, rfl, rfl, rfl⟩
    · refine (r_assign ha).trans ?_
      refine (r_assign (hlow _ rfl)).trans ?_
      refine Eq.trans (r_assign (hwd _ (by rfl) (by exact h17))) ?_
      refine Eq.trans (r_next (Eq.trans (r_true (hcond _ (by rfl) (by exact h17))) ((r_assign (v := .dat (.int (20 - (x.fdiv 3168).fmod 2))) (σ₁ := σ') (by first | with_reducible_and_instances rfl | rfl | simp [es_nil, es_cons, es_assign, es_newcell, es_unpack, es_append, es_extend, es_insert, es_ite, es_ret, el_nil, el_cons, eb_nil, eb_cons, ev_const, ev_var, ev_bin, ev_neg, ev_nott, ev_bop, ev_cmp, ev_ite, ev_idx, ev_tup, ev_lst, ev_call, ev_prim, ev_isin, x_run, x_ba0, x_ba1, x_set, x_rdD, x_rdF, x_rdC, x_ra0, x_ra1, x_oa0, x_oa1, x_owD, x_owF, x_stD, x_stF, x_stC, x_bA, x_iA, x_tA, x_rC, x_on, x_onR, x_end, x_lvD, x_lvF, bi_add, bi_sub, bi_mod, bi_fdiv, cm_lt, cm_le, cm_gt, cm_ge, cm_eqi, cm_nei, cm_eqb, cm_neb, pi_bool, ix_t0, ix_t1, ix_t2, ix_l0, ix_l1, ix_l2, bo_or, bo_and])).trans es_nil))) ?_
      exact hfin _ _ (by rfl) (by rfl) (by exact h18)
    · exact ⟨⟨by show (low + (20 - (x.fdiv 3168).fmod 2) - low + 1).toNat ≤ 21; omega, by show low ≤ low + (20 - (x.fdiv 3168).fmod 2); omega⟩, hfar _⟩
theorem s_ranges (N k : Nat) (c : Int) (σ : Store) : ∃ rs : List (Int × Int), rs.length ≤ 3 ∧ (∀ r ∈ rs, okR r ∧ farR r) ∧ tabAt tab3 N (k + 2) 19 [.dat (.int c)] σ = some (.ret (.dat (.tuple (rs.map pairD))), σ) := by
  rw [tab_step (by rfl : tab3[19]? = some ([28], c__law_ranges))]
  obtain ⟨i7, hi7, e7⟩ := fmod_nat c (b := 7) (by decide)
  have e7' : c.fmod 7 = (i7 : Int) := e7
  have hmem := getD_mem (l := [1, 2, 1, 2, 0, 3, 1]) (j := i7) hi7
  have hpk := fun (ρ : Rho) (h : ρ 28 = some (.dat (.int c))) => ev_pick (Φ := tabAt tab3 N (k + 1)) (ρ := ρ) (σ := σ) (es := (.lst [(.const (.int (1))), (.const (.int (2))), (.const (.int (1))), (.const (.int (2))), (.const (.int (0))), (.const (.int (3))), (.const (.int (1)))])) (i := .bin .Mod (.var 28) (.const (.int (7)))) [1, 2, 1, 2, 0, 3, 1] i7 (by first | with_reducible_and_instances rfl | rfl | simp [es_nil, es_cons, es_assign, es_newcell, es_unpack, es_append, es_extend, es_insert, es_ite, es_ret, el_nil, el_cons, eb_nil, eb_cons, ev_const, ev_var, ev_bin, ev_neg, ev_nott, ev_bop, ev_cmp, ev_ite, ev_idx, ev_tup, ev_lst, ev_call, ev_prim, ev_isin, x_run, x_ba0, x_ba1, x_set, x_rdD, x_rdF, x_rdC, x_ra0, x_ra1, x_oa0, x_oa1, x_owD, x_owF, x_stD, x_stF, x_stC, x_bA, x_iA, x_tA, x_rC, x_on, x_onR, x_end, x_lvD, x_lvF, bi_add, bi_sub, bi_mod, bi_fdiv, cm_lt, cm_le, cm_gt, cm_ge, cm_eqi, cm_nei, cm_eqb, cm_neb, pi_bool, ix_t0, ix_t1, ix_t2, ix_l0, ix_l1, ix_l2, bo_or, bo_and]) (by simp [es_nil, es_cons, es_assign, es_newcell, es_unpack, es_append, es_extend, es_insert, es_ite, es_ret, el_nil, el_cons, eb_nil, eb_cons, ev_const, ev_var, ev_bin, ev_neg, ev_nott, ev_bop, ev_cmp, ev_ite, ev_idx, ev_tup, ev_lst, ev_call, ev_prim, ev_isin, x_run, x_ba0, x_ba1, x_set, x_rdD, x_rdF, x_rdC, x_ra0, x_ra1, x_oa0, x_oa1, x_owD, x_owF, x_stD, x_stF, x_stC, x_bA, x_iA, x_tA, x_rC, x_on, x_onR, x_end, x_lvD, x_lvF, bi_add, bi_sub, bi_mod, bi_fdiv, cm_lt, cm_le, cm_gt, cm_ge, cm_eqi, cm_nei, cm_eqb, cm_neb, pi_bool, ix_t0, ix_t1, ix_t2, ix_l0, ix_l1, ix_l2, bo_or, bo_and, h, e7']) hi7 (by simp)
  generalize ([1, 2, 1, 2, 0, 3, 1] : List Int).getD i7 0 = mi at hmem hpk
  obtain ⟨m, rfl, _, hm⟩ := pick_nat hmem 0 3 rfl
  obtain ⟨ρ', σ', h1, h2, rs, h3, h4, h5⟩ := forGo_cnt (t := .one 27) (body := fun ρ' σ' => evSs N (tabAt tab3 N (k + 1)) rBody ρ' σ') (fun i ρ σ' => (ρ 28 = some (.dat (.int c)) ∧ ρ 30 = some (.dat (.int m)) ∧ ρ 31 = some (.cell σ.length)) ∧ ∃ rs : List (Int × Int), rs.length = i ∧ (∀ r ∈ rs, okR r ∧ farR r) ∧ σ' = σ ++ [(.live, rs.map pairD)])
    ((List.range m).map fun k => PyData.int (k : Nat)) 0 (Rho.set (Rho.set (Rho.set (fun _ => none) 28 (.dat (.int c))) 30 (.dat (.int m))) 31 (.cell σ.length)) (σ ++ [(.live, [])]) (fun j d hd ρ σ' hP => by
      obtain ⟨⟨p1, p2, p3⟩, rs, p4, p5, rfl⟩ := hP
      have hj : j < m := by
        have := (List.getElem?_eq_some_iff.mp hd).1
        simpa using this
      have hd' : d = .int j := by
        rw [List.getElem?_map, List.getElem?_range hj] at hd
        simpa using hd.symm
      subst hd'
      obtain ⟨ρ₂, r, q1, q2, q3, q4, q5⟩ := r_body N k c m j hm (by omega) σ (rs.map pairD) (by rw [List.length_map]; omega) (Rho.set ρ 27 (.dat (.int j))) p1 p2 rfl p3
      refine ⟨_, ρ₂, _, rfl, q1, ⟨q3.trans p1, q4.trans p2, q5.trans p3⟩, rs ++ [r], by simp [p4], fun x hx => ?_, by simp⟩
      rcases List.mem_append.mp hx with h | h
      · exact p5 x h
      · rw [List.mem_singleton.mp h]; exact q2) ⟨⟨rfl, rfl, rfl⟩, [], rfl, (fun _ h => nomatch h), rfl⟩
  subst h5
  rw [List.length_map, List.length_range, Nat.zero_add] at h3
  refine ⟨rs, by omega, h4, ?_⟩
  have hb : evSs N (tabAt tab3 N (k + 1)) c__law_ranges (Rho.set (fun _ => none) 28 (.dat (.int c))) σ = some (.ret (.dat (.tuple (rs.map pairD))), σ ++ [(.live, rs.map pairD)]) := by
    refine (r_assign (hpk _ rfl)).trans ((r_newcell (ds := []) (σ₁ := σ) (by first | with_reducible_and_instances rfl | rfl | simp [es_nil, es_cons, es_assign, es_newcell, es_unpack, es_append, es_extend, es_insert, es_ite, es_ret, el_nil, el_cons, eb_nil, eb_cons, ev_const, ev_var, ev_bin, ev_neg, ev_nott, ev_bop, ev_cmp, ev_ite, ev_idx, ev_tup, ev_lst, ev_call, ev_prim, ev_isin, x_run, x_ba0, x_ba1, x_set, x_rdD, x_rdF, x_rdC, x_ra0, x_ra1, x_oa0, x_oa1, x_owD, x_owF, x_stD, x_stF, x_stC, x_bA, x_iA, x_tA, x_rC, x_on, x_onR, x_end, x_lvD, x_lvF, bi_add, bi_sub, bi_mod, bi_fdiv, cm_lt, cm_le, cm_gt, cm_ge, cm_eqi, cm_nei, cm_eqb, cm_neb, pi_bool, ix_t0, ix_t1, ix_t2, ix_l0, ix_l1, ix_l2, bo_or, bo_and])).trans ?_)
    refine (r_forS (vs := [.dat (.int m)]) (ds := [.int m]) (by first | with_reducible_and_instances rfl | rfl | simp [es_nil, es_cons, es_assign, es_newcell, es_unpack, es_append, es_extend, es_insert, es_ite, es_ret, el_nil, el_cons, eb_nil, eb_cons, ev_const, ev_var, ev_bin, ev_neg, ev_nott, ev_bop, ev_cmp, ev_ite, ev_idx, ev_tup, ev_lst, ev_call, ev_prim, ev_isin, x_run, x_ba0, x_ba1, x_set, x_rdD, x_rdF, x_rdC, x_ra0, x_ra1, x_oa0, x_oa1, x_owD, x_owF, x_stD, x_stF, x_stC, x_bA, x_iA, x_tA, x_rC, x_on, x_onR, x_end, x_lvD, x_lvF, bi_add, bi_sub, bi_mod, bi_fdiv, cm_lt, cm_le, cm_gt, cm_ge, cm_eqi, cm_nei, cm_eqb, cm_neb, pi_bool, ix_t0, ix_t1, ix_t2, ix_l0, ix_l1, ix_l2, bo_or, bo_and]) rfl rfl (range_it (by omega)) h1).trans (r_ret ?_)
    have hp := pt_list (xs := rs.map pairD) (le_lim (m := 3) (by rw [List.length_map]; omega) (by decide))
    simp [es_nil, es_cons, es_assign, es_newcell, es_unpack, es_append, es_extend, es_insert, es_ite, es_ret, el_nil, el_cons, eb_nil, eb_cons, ev_const, ev_var, ev_bin, ev_neg, ev_nott, ev_bop, ev_cmp, ev_ite, ev_idx, ev_tup, ev_lst, ev_call, ev_prim, ev_isin, x_run, x_ba0, x_ba1, x_set, x_rdD, x_rdF, x_rdC, x_ra0, x_ra1, x_oa0, x_oa1, x_owD, x_owF, x_stD, x_stF, x_stC, x_bA, x_iA, x_tA, x_rC, x_on, x_onR, x_end, x_lvD, x_lvF, bi_add, bi_sub, bi_mod, bi_fdiv, cm_lt, cm_le, cm_gt, cm_ge, cm_eqi, cm_nei, cm_eqb, cm_neb, pi_bool, ix_t0, ix_t1, ix_t2, ix_l0, ix_l1, ix_l2, bo_or, bo_and, h2, hp]
  rw [x_run, x_ba1, x_ba0, Option.bind_some, hb, Option.bind_some, x_end, x_lvD, Option.bind_some, List.take_left' rfl]
theorem s_expression (N k : Nat) (c : Int) (rs : List (Int × Int)) (hl : rs.length ≤ 3) (nb : Nat) (hnb : nb ≤ 6) (σ : Store) : ∃ (a : Int) (fs os : List Int), fs.length = rs.length ∧ (∀ f ∈ fs, f.natAbs ≤ 3) ∧ os.length = nb ∧ (∀ f ∈ os, f.natAbs ≤ 3) ∧
    tabAt tab3 N (k + 2) 20 [.dat (.int c), .dat (.tuple [.int rs.length, .int nb]), .dat (.tuple (rs.map pairD))] σ = some (.ret (.dat (.tuple [.int a, .tuple (fs.map .int), .tuple (os.map .int)])), σ) := by
  rw [tab_step (by rfl : tab3[20]? = some ([28, 35, 31], c__law_expression))]
  generalize hn : rs.length = n at hl
  have hrl : (List.range n).length ≤ lim := le_lim (m := 3) (by simpa using hl) (by decide)
  have hrb : (List.range nb).length ≤ lim := le_lim (m := 6) (by simpa using hnb) (by decide)
  have i7 := fun j : Nat => fmod_nat (mixed c j) (b := 7) (by decide)
  have i6 := fun j : Nat => fmod_nat ((mixed c (7 + j)).fdiv 5) (b := 6) (by decide)
  have hF := fun (ρ : Rho) (h15 : ρ 28 = some (.dat (.int c))) (h22 : ρ 35 = some (.dat (.tuple [.int n, .int nb]))) => ev_compA (Φ := tabAt tab3 N (k + 1)) (ρ := ρ) (σ := σ) (ce := (.idx (.lst [(.const (.int (0))), (.const (.int (1))), (.neg (.const (.int (1)))), (.const (.int (2))), (.neg (.const (.int (3)))), (.const (.int (1))), (.const (.int (0)))]) (.bin .Mod (.call 17 [(.var 28), (.var 27)]) (.const (.int (7)))))) (t := .one 27) (k := .range1) (its := [(.idx (.var 35) (.const (.int (0))))])
    (vs := [.dat (.int n)]) (ds := [.int n]) (List.range n) (fun k => .int (k : Nat)) (fun j => .int (([0, 1, -1, 2, -3, 1, 0] : List Int).getD ((mixed c j).fmod 7).toNat 0)) (by simp [es_nil, es_cons, es_assign, es_newcell, es_unpack, es_append, es_extend, es_insert, es_ite, es_ret, el_nil, el_cons, eb_nil, eb_cons, ev_const, ev_var, ev_bin, ev_neg, ev_nott, ev_bop, ev_cmp, ev_ite, ev_idx, ev_tup, ev_lst, ev_call, ev_prim, ev_isin, x_run, x_ba0, x_ba1, x_set, x_rdD, x_rdF, x_rdC, x_ra0, x_ra1, x_oa0, x_oa1, x_owD, x_owF, x_stD, x_stF, x_stC, x_bA, x_iA, x_tA, x_rC, x_on, x_onR, x_end, x_lvD, x_lvF, bi_add, bi_sub, bi_mod, bi_fdiv, cm_lt, cm_le, cm_gt, cm_ge, cm_eqi, cm_nei, cm_eqb, cm_neb, pi_bool, ix_t0, ix_t1, ix_t2, ix_l0, ix_l1, ix_l2, bo_or, bo_and, h22]) rfl rfl (range_it (by omega)) hrl (fun j hj => ⟨_, rfl, by
      have hj' := List.mem_range.mp hj
      obtain ⟨i, hi, e⟩ := i7 j
      have e' : (mixed c j).fmod 7 = (i : Int) := e
      rw [e', Int.toNat_natCast]
      exact ev_pick [0, 1, -1, 2, -3, 1, 0] i (by first | with_reducible_and_instances rfl | rfl | simp [es_nil, es_cons, es_assign, es_newcell, es_unpack, es_append, es_extend, es_insert, es_ite, es_ret, el_nil, el_cons, eb_nil, eb_cons, ev_const, ev_var, ev_bin, ev_neg, ev_nott, ev_bop, ev_cmp, ev_ite, ev_idx, ev_tup, ev_lst, ev_call, ev_prim, ev_isin, x_run, x_ba0, x_ba1, x_set, x_rdD, x_rdF, x_rdC, x_ra0, x_ra1, x_oa0, x_oa1, x_owD, x_owF, x_stD, x_stF, x_stC, x_bA, x_iA, x_tA, x_rC, x_on, x_onR, x_end, x_lvD, x_lvF, bi_add, bi_sub, bi_mod, bi_fdiv, cm_lt, cm_le, cm_gt, cm_ge, cm_eqi, cm_nei, cm_eqb, cm_neb, pi_bool, ix_t0, ix_t1, ix_t2, ix_l0, ix_l1, ix_l2, bo_or, bo_and]) (by simp [es_nil, es_cons, es_assign, es_newcell, es_unpack, es_append, es_extend, es_insert, es_ite, es_ret, el_nil, el_cons, eb_nil, eb_cons, ev_const, ev_var, ev_bin, ev_neg, ev_nott, ev_bop, ev_cmp, ev_ite, ev_idx, ev_tup, ev_lst, ev_call, ev_prim, ev_isin, x_run, x_ba0, x_ba1, x_set, x_rdD, x_rdF, x_rdC, x_ra0, x_ra1, x_oa0, x_oa1, x_owD, x_owF, x_stD, x_stF, x_stC, x_bA, x_iA, x_tA, x_rC, x_on, x_onR, x_end, x_lvD, x_lvF, bi_add, bi_sub, bi_mod, bi_fdiv, cm_lt, cm_le, cm_gt, cm_ge, cm_eqi, cm_nei, cm_eqb, cm_neb, pi_bool, ix_t0, ix_t1, ix_t2, ix_l0, ix_l1, ix_l2, bo_or, bo_and, h15, s_mixed N k c j (by omega) σ, e']) hi (by simp)⟩)
  have hO := fun (ρ : Rho) (h15 : ρ 28 = some (.dat (.int c))) (h22 : ρ 35 = some (.dat (.tuple [.int n, .int nb]))) => ev_compA (Φ := tabAt tab3 N (k + 1)) (ρ := ρ) (σ := σ) (ce := (.idx (.lst [(.const (.int (0))), (.const (.int (1))), (.const (.int (0))), (.neg (.const (.int (1)))), (.const (.int (2))), (.const (.int (0)))]) (.bin .Mod (.bin .FloorDiv (.call 17 [(.var 28), (.bin .Add (.const (.int (7))) (.var 27))]) (.const (.int (5)))) (.const (.int (6)))))) (t := .one 27) (k := .range1) (its := [(.idx (.var 35) (.const (.int (1))))])
    (vs := [.dat (.int nb)]) (ds := [.int nb]) (List.range nb) (fun k => .int (k : Nat)) (fun j => .int (([0, 1, 0, -1, 2, 0] : List Int).getD (((mixed c (7 + j)).fdiv 5).fmod 6).toNat 0)) (by simp [es_nil, es_cons, es_assign, es_newcell, es_unpack, es_append, es_extend, es_insert, es_ite, es_ret, el_nil, el_cons, eb_nil, eb_cons, ev_const, ev_var, ev_bin, ev_neg, ev_nott, ev_bop, ev_cmp, ev_ite, ev_idx, ev_tup, ev_lst, ev_call, ev_prim, ev_isin, x_run, x_ba0, x_ba1, x_set, x_rdD, x_rdF, x_rdC, x_ra0, x_ra1, x_oa0, x_oa1, x_owD, x_owF, x_stD, x_stF, x_stC, x_bA, x_iA, x_tA, x_rC, x_on, x_onR, x_end, x_lvD, x_lvF, bi_add, bi_sub, bi_mod, bi_fdiv, cm_lt, cm_le, cm_gt, cm_ge, cm_eqi, cm_nei, cm_eqb, cm_neb, pi_bool, ix_t0, ix_t1, ix_t2, ix_l0, ix_l1, ix_l2, bo_or, bo_and, h22]) rfl rfl (range_it (by omega)) hrb (fun j hj => ⟨_, rfl, by
      have hj' := List.mem_range.mp hj
      obtain ⟨i, hi, e⟩ := i6 j
      have e' : ((mixed c (7 + j)).fdiv 5).fmod 6 = (i : Int) := e
      rw [e', Int.toNat_natCast]
      have hm : tabAt tab3 N (k + 1) 17 [.dat (.int c), .dat (.int (7 + j))] σ = some (.ret (.dat (.int (mixed c (7 + j)))), σ) := s_mixed N k c (7 + j) (by omega) σ
      exact ev_pick [0, 1, 0, -1, 2, 0] i (by first | with_reducible_and_instances rfl | rfl | simp [es_nil, es_cons, es_assign, es_newcell, es_unpack, es_append, es_extend, es_insert, es_ite, es_ret, el_nil, el_cons, eb_nil, eb_cons, ev_const, ev_var, ev_bin, ev_neg, ev_nott, ev_bop, ev_cmp, ev_ite, ev_idx, ev_tup, ev_lst, ev_call, ev_prim, ev_isin, x_run, x_ba0, x_ba1, x_set, x_rdD, x_rdF, x_rdC, x_ra0, x_ra1, x_oa0, x_oa1, x_owD, x_owF, x_stD, x_stF, x_stC, x_bA, x_iA, x_tA, x_rC, x_on, x_onR, x_end, x_lvD, x_lvF, bi_add, bi_sub, bi_mod, bi_fdiv, cm_lt, cm_le, cm_gt, cm_ge, cm_eqi, cm_nei, cm_eqb, cm_neb, pi_bool, ix_t0, ix_t1, ix_t2, ix_l0, ix_l1, ix_l2, bo_or, bo_and]) (by simp [es_nil, es_cons, es_assign, es_newcell, es_unpack, es_append, es_extend, es_insert, es_ite, es_ret, el_nil, el_cons, eb_nil, eb_cons, ev_const, ev_var, ev_bin, ev_neg, ev_nott, ev_bop, ev_cmp, ev_ite, ev_idx, ev_tup, ev_lst, ev_call, ev_prim, ev_isin, x_run, x_ba0, x_ba1, x_set, x_rdD, x_rdF, x_rdC, x_ra0, x_ra1, x_oa0, x_oa1, x_owD, x_owF, x_stD, x_stF, x_stC, x_bA, x_iA, x_tA, x_rC, x_on, x_onR, x_end, x_lvD, x_lvF, bi_add, bi_sub, bi_mod, bi_fdiv, cm_lt, cm_le, cm_gt, cm_ge, cm_eqi, cm_nei, cm_eqb, cm_neb, pi_bool, ix_t0, ix_t1, ix_t2, ix_l0, ix_l1, ix_l2, bo_or, bo_and, h15, hm, e']) hi (by simp)⟩)
  have hz : (List.range n).map (fun j : Nat => PyData.int (([0, 1, -1, 2, -3, 1, 0] : List Int).getD ((mixed c j).fmod 7).toNat 0)) = ((List.range n).map fun j : Nat => ([0, 1, -1, 2, -3, 1, 0] : List Int).getD ((mixed c j).fmod 7).toNat 0).map .int := by rw [List.map_map]; rfl
  simp only [hz] at hF
  have hlen : ((List.range n).map fun j : Nat => ([0, 1, -1, 2, -3, 1, 0] : List Int).getD ((mixed c j).fmod 7).toNat 0).length = n := by simp
  have hsm : ∀ f ∈ (List.range n).map fun j : Nat => ([0, 1, -1, 2, -3, 1, 0] : List Int).getD ((mixed c j).fmod 7).toNat 0, f.natAbs ≤ 3 := fun f hf => by
    obtain ⟨j, _, rfl⟩ := List.mem_map.mp hf
    obtain ⟨i, hi, e⟩ := i7 j
    have e' : (mixed c j).fmod 7 = (i : Int) := e
    rw [e', Int.toNat_natCast]
    exact all_abs (getD_mem (l := [0, 1, -1, 2, -3, 1, 0]) (j := i) hi) rfl
  generalize ((List.range n).map fun j : Nat => ([0, 1, -1, 2, -3, 1, 0] : List Int).getD ((mixed c j).fmod 7).toNat 0) = fs at hF hlen hsm
  have hzo : (List.range nb).map (fun j : Nat => PyData.int (([0, 1, 0, -1, 2, 0] : List Int).getD (((mixed c (7 + j)).fdiv 5).fmod 6).toNat 0)) = ((List.range nb).map fun j : Nat => ([0, 1, 0, -1, 2, 0] : List Int).getD (((mixed c (7 + j)).fdiv 5).fmod 6).toNat 0).map .int := by rw [List.map_map]; rfl
  simp only [hzo] at hO
  have hleno : ((List.range nb).map fun j : Nat => ([0, 1, 0, -1, 2, 0] : List Int).getD (((mixed c (7 + j)).fdiv 5).fmod 6).toNat 0).length = nb := by simp
  have hsmo : ∀ f ∈ (List.range nb).map fun j : Nat => ([0, 1, 0, -1, 2, 0] : List Int).getD (((mixed c (7 + j)).fdiv 5).fmod 6).toNat 0, f.natAbs ≤ 3 := fun f hf => by
    obtain ⟨j, _, rfl⟩ := List.mem_map.mp hf
    obtain ⟨i, hi, e⟩ := i6 j
    have e' : ((mixed c (7 + j)).fdiv 5).fmod 6 = (i : Int) := e
    rw [e', Int.toNat_natCast]
    exact all_abs (getD_mem (l := [0, 1, 0, -1, 2, 0]) (j := i) hi) rfl
  generalize ((List.range nb).map fun j : Nat => ([0, 1, 0, -1, 2, 0] : List Int).getD (((mixed c (7 + j)).fdiv 5).fmod 6).toNat 0) = os at hO hleno hsmo
  have hc1 := fun (ρ : Rho) (h15 : ρ 28 = some (.dat (.int c))) (h22 : ρ 35 = some (.dat (.tuple [.int n, .int nb]))) => ev_and2 (Φ := tabAt tab3 N (k + 1)) (ρ := ρ) (σ := σ) (a := (.cmp .Eq (.bin .Mod (.bin .FloorDiv (.var 28) (.const (.int (13)))) (.const (.int (3)))) (.const (.int (1))))) (b := (.cmp .Gt (.idx (.var 35) (.const (.int (0)))) (.const (.int (0))))) (p := (c.fdiv 13).fmod 3 == 1) (q := decide (0 < (n : Int))) (by simp [es_nil, es_cons, es_assign, es_newcell, es_unpack, es_append, es_extend, es_insert, es_ite, es_ret, el_nil, el_cons, eb_nil, eb_cons, ev_const, ev_var, ev_bin, ev_neg, ev_nott, ev_bop, ev_cmp, ev_ite, ev_idx, ev_tup, ev_lst, ev_call, ev_prim, ev_isin, x_run, x_ba0, x_ba1, x_set, x_rdD, x_rdF, x_rdC, x_ra0, x_ra1, x_oa0, x_oa1, x_owD, x_owF, x_stD, x_stF, x_stC, x_bA, x_iA, x_tA, x_rC, x_on, x_onR, x_end, x_lvD, x_lvF, bi_add, bi_sub, bi_mod, bi_fdiv, cm_lt, cm_le, cm_gt, cm_ge, cm_eqi, cm_nei, cm_eqb, cm_neb, pi_bool, ix_t0, ix_t1, ix_t2, ix_l0, ix_l1, ix_l2, bo_or, bo_and, h15]) (fun _ => by simp [es_nil, es_cons, es_assign, es_newcell, es_unpack, es_append, es_extend, es_insert, es_ite, es_ret, el_nil, el_cons, eb_nil, eb_cons, ev_const, ev_var, ev_bin, ev_neg, ev_nott, ev_bop, ev_cmp, ev_ite, ev_idx, ev_tup, ev_lst, ev_call, ev_prim, ev_isin, x_run, x_ba0, x_ba1, x_set, x_rdD, x_rdF, x_rdC, x_ra0, x_ra1, x_oa0, x_oa1, x_owD, x_owF, x_stD, x_stF, x_stC, x_bA, x_iA, x_tA, x_rC, x_on, x_onR, x_end, x_lvD, x_lvF, bi_add, bi_sub, bi_mod, bi_fdiv, cm_lt, cm_le, cm_gt, cm_ge, cm_eqi, cm_nei, cm_eqb, cm_neb, pi_bool, ix_t0, ix_t1, ix_t2, ix_l0, ix_l1, ix_l2, bo_or, bo_and, h22])
  have hp18 : binD .Pow (.int 10) (.int 18) = some (.dat (.int (10 ^ 18))) := r_pow (b := 18) (by decide)
  have hfl := pt_list (xs := fs.map PyData.int) (le_lim (m := 3) (by rw [List.length_map]; omega) (by decide))
  have hosl := pt_list (xs := os.map PyData.int) (le_lim (m := 6) (by rw [List.length_map]; omega) (by decide))
  have hend : ∀ (ρ : Rho) (a : Int), ρ 28 = some (.dat (.int c)) → ρ 36 = some (.dat (.list (fs.map .int))) → ρ 37 = some (.dat (.list (os.map .int))) → ρ 38 = some (.dat (.int a)) → ∃ a', evSs N (tabAt tab3 N (k + 1)) [.ite (.cmp .Eq (.bin .Mod (.bin .FloorDiv (.var 28) (.const (.int (39)))) (.const (.int (9)))) (.const (.int (1)))) [.assign 38 (.bin .Mult (.var 38) (.bin .Pow (.const (.int (10))) (.const (.int (18)))))] [], .ret (.tup [(.var 38), (.prim .tuple [(.var 36)]), (.prim .tuple [(.var 37)])])] ρ σ = some (.ret (.dat (.tuple [.int a', .tuple (fs.map .int), .tuple (os.map .int)])), σ) := fun ρ a h15 h23 h24 h25 => by
    have he : evE (tabAt tab3 N (k + 1)) (.cmp .Eq (.bin .Mod (.bin .FloorDiv (.var 28) (.const (.int (39)))) (.const (.int (9)))) (.const (.int (1)))) ρ σ = some (.dat (.bool ((c.fdiv 39).fmod 9 == 1)), σ) := by simp [es_nil, es_cons, es_assign, es_newcell, es_unpack, es_append, es_extend, es_insert, es_ite, es_ret, el_nil, el_cons, eb_nil, eb_cons, ev_const, ev_var, ev_bin, ev_neg, ev_nott, ev_bop, ev_cmp, ev_ite, ev_idx, ev_tup, ev_lst, ev_call, ev_prim, ev_isin, x_run, x_ba0, x_ba1, x_set, x_rdD, x_rdF, x_rdC, x_ra0, x_ra1, x_oa0, x_oa1, x_owD, x_owF, x_stD, x_stF, x_stC, x_bA, x_iA, x_tA, x_rC, x_on, x_onR, x_end, x_lvD, x_lvF, bi_add, bi_sub, bi_mod, bi_fdiv, cm_lt, cm_le, cm_gt, cm_ge, cm_eqi, cm_nei, cm_eqb, cm_neb, pi_bool, ix_t0, ix_t1, ix_t2, ix_l0, ix_l1, ix_l2, bo_or, bo_and, h15]
    cases hb : (c.fdiv 39).fmod 9 == 1 with
    | false =>
      rw [hb] at he
      exact ⟨a, (r_skip he).trans (r_ret (by simp [es_nil, es_cons, es_assign, es_newcell, es_unpack, es_append, es_extend, es_insert, es_ite, es_ret, el_nil, el_cons, eb_nil, eb_cons, ev_const, ev_var, ev_bin, ev_neg, ev_nott, ev_bop, ev_cmp, ev_ite, ev_idx, ev_tup, ev_lst, ev_call, ev_prim, ev_isin, x_run, x_ba0, x_ba1, x_set, x_rdD, x_rdF, x_rdC, x_ra0, x_ra1, x_oa0, x_oa1, x_owD, x_owF, x_stD, x_stF, x_stC, x_bA, x_iA, x_tA, x_rC, x_on, x_onR, x_end, x_lvD, x_lvF, bi_add, bi_sub, bi_mod, bi_fdiv, cm_lt, cm_le, cm_gt, cm_ge, cm_eqi, cm_nei, cm_eqb, cm_neb, pi_bool, ix_t0, ix_t1, ix_t2, ix_l0, ix_l1, ix_l2, bo_or, bo_and, h23, h24, h25, hfl, hosl]))⟩
    | true =>
      rw [hb] at he
      have hm : binD .Mult (.int a) (.int (10 ^ 18)) = some (.dat (.int (a * 10 ^ 18))) := bi_mul (mulOk_r (by decide))
      refine ⟨a * 10 ^ 18, (r_next (ρ₁ := Rho.set ρ 38 (.dat (.int (a * 10 ^ 18)))) (σ₁ := σ) ((r_true he).trans ((r_assign (v := .dat (.int (a * 10 ^ 18))) (σ₁ := σ) ?_).trans es_nil))).trans (r_ret (by simp [es_nil, es_cons, es_assign, es_newcell, es_unpack, es_append, es_extend, es_insert, es_ite, es_ret, el_nil, el_cons, eb_nil, eb_cons, ev_const, ev_var, ev_bin, ev_neg, ev_nott, ev_bop, ev_cmp, ev_ite, ev_idx, ev_tup, ev_lst, ev_call, ev_prim, ev_isin, x_run, x_ba0, x_ba1, x_set, x_rdD, x_rdF, x_rdC, x_ra0, x_ra1, x_oa0, x_oa1, x_owD, x_owF, x_stD, x_stF, x_stC, x_bA, x_iA, x_tA, x_rC, x_on, x_onR, x_end, x_lvD, x_lvF, bi_add, bi_sub, bi_mod, bi_fdiv, cm_lt, cm_le, cm_gt, cm_ge, cm_eqi, cm_nei, cm_eqb, cm_neb, pi_bool, ix_t0, ix_t1, ix_t2, ix_l0, ix_l1, ix_l2, bo_or, bo_and, h23, h24, hfl, hosl]))⟩
      simp [es_nil, es_cons, es_assign, es_newcell, es_unpack, es_append, es_extend, es_insert, es_ite, es_ret, el_nil, el_cons, eb_nil, eb_cons, ev_const, ev_var, ev_bin, ev_neg, ev_nott, ev_bop, ev_cmp, ev_ite, ev_idx, ev_tup, ev_lst, ev_call, ev_prim, ev_isin, x_run, x_ba0, x_ba1, x_set, x_rdD, x_rdF, x_rdC, x_ra0, x_ra1, x_oa0, x_oa1, x_owD, x_owF, x_stD, x_stF, x_stC, x_bA, x_iA, x_tA, x_rC, x_on, x_onR, x_end, x_lvD, x_lvF, bi_add, bi_sub, bi_mod, bi_fdiv, cm_lt, cm_le, cm_gt, cm_ge, cm_eqi, cm_nei, cm_eqb, cm_neb, pi_bool, ix_t0, ix_t1, ix_t2, ix_l0, ix_l1, ix_l2, bo_or, bo_and, h25, hp18, -Int.reducePow, hm]
  have ha25 : ∀ ρ : Rho, ρ 28 = some (.dat (.int c)) → evE (tabAt tab3 N (k + 1)) (.bin .Sub (.bin .Mod (.var 28) (.const (.int (13)))) (.const (.int (6)))) ρ σ = some (.dat (.int (c.fmod 13 - 6)), σ) := fun ρ h => by simp [es_nil, es_cons, es_assign, es_newcell, es_unpack, es_append, es_extend, es_insert, es_ite, es_ret, el_nil, el_cons, eb_nil, eb_cons, ev_const, ev_var, ev_bin, ev_neg, ev_nott, ev_bop, ev_cmp, ev_ite, ev_idx, ev_tup, ev_lst, ev_call, ev_prim, ev_isin, x_run, x_ba0, x_ba1, x_set, x_rdD, x_rdF, x_rdC, x_ra0, x_ra1, x_oa0, x_oa1, x_owD, x_owF, x_stD, x_stF, x_stC, x_bA, x_iA, x_tA, x_rC, x_on, x_onR, x_end, x_lvD, x_lvF, bi_add, bi_sub, bi_mod, bi_fdiv, cm_lt, cm_le, cm_gt, cm_ge, cm_eqi, cm_nei, cm_eqb, cm_neb, pi_bool, ix_t0, ix_t1, ix_t2, ix_l0, ix_l1, ix_l2, bo_or, bo_and, h]
  have hfs : ∃ a', evSs N (tabAt tab3 N (k + 1)) c__law_expression (Rho.set (Rho.set (Rho.set (fun _ => none) 28 (.dat (.int c))) 35 (.dat (.tuple [.int n, .int nb]))) 31 (.dat (.tuple (rs.map pairD)))) σ = some (.ret (.dat (.tuple [.int a', .tuple (fs.map .int), .tuple (os.map .int)])), σ) := by
    cases hb : (c.fdiv 13).fmod 3 == 1 && decide (0 < (n : Int)) with
    | false =>
      simp only [hb] at hc1
      obtain ⟨a', h⟩ := hend (Rho.set (Rho.set (Rho.set (Rho.set (Rho.set (Rho.set (fun _ => none) 28 (.dat (.int c))) 35 (.dat (.tuple [.int n, .int nb]))) 31 (.dat (.tuple (rs.map pairD)))) 36 (.dat (.list (fs.map .int)))) 37 (.dat (.list (os.map .int)))) 38 (.dat (.int (c.fmod 13 - 6)))) _ rfl rfl rfl rfl
      exact ⟨a', (r_assign (hF _ rfl rfl)).trans ((r_assign (hO _ rfl rfl)).trans ((r_assign (ha25 _ rfl)).trans ((r_skip (hc1 _ rfl rfl)).trans h)))⟩
    | true =>
      simp only [hb] at hc1
      have hn0 : 0 < n := by
        have := (Bool.and_eq_true_iff.mp hb).2
        simpa using this
      obtain ⟨r, rs', hrs⟩ : ∃ r rs', rs = r :: rs' := by
        cases rs with
        | nil => simp at hn; omega
        | cons r rs' => exact ⟨r, rs', rfl⟩
      obtain ⟨f, fs', hff⟩ : ∃ f fs', fs = f :: fs' := by
        cases fs with
        | nil => simp at hlen; omega
        | cons f fs' => exact ⟨f, fs', rfl⟩
      have hm : binD .Mult (.int f) (.int r.1) = some (.dat (.int (f * r.1))) := bi_mul (mulOk_l (by
        have := hsm f (by rw [hff]; exact .head _)
        omega))
      obtain ⟨a', h⟩ := hend (Rho.set (Rho.set (Rho.set (Rho.set (Rho.set (Rho.set (Rho.set (fun _ => none) 28 (.dat (.int c))) 35 (.dat (.tuple [.int n, .int nb]))) 31 (.dat (.tuple (rs.map pairD)))) 36 (.dat (.list (fs.map .int)))) 37 (.dat (.list (os.map .int)))) 38 (.dat (.int (c.fmod 13 - 6)))) 38 (.dat (.int (c.fmod 13 - 6 - f * r.1)))) _ rfl rfl rfl rfl
      refine ⟨a', (r_assign (hF _ rfl rfl)).trans ((r_assign (hO _ rfl rfl)).trans ((r_assign (ha25 _ rfl)).trans ((r_next (σ₁ := σ) ((r_true (hc1 _ rfl rfl)).trans ((r_assign (v := .dat (.int (c.fmod 13 - 6 - f * r.1))) (σ₁ := σ) ?_).trans es_nil))).trans h)))⟩
      simp [es_nil, es_cons, es_assign, es_newcell, es_unpack, es_append, es_extend, es_insert, es_ite, es_ret, el_nil, el_cons, eb_nil, eb_cons, ev_const, ev_var, ev_bin, ev_neg, ev_nott, ev_bop, ev_cmp, ev_ite, ev_idx, ev_tup, ev_lst, ev_call, ev_prim, ev_isin, x_run, x_ba0, x_ba1, x_set, x_rdD, x_rdF, x_rdC, x_ra0, x_ra1, x_oa0, x_oa1, x_owD, x_owF, x_stD, x_stF, x_stC, x_bA, x_iA, x_tA, x_rC, x_on, x_onR, x_end, x_lvD, x_lvF, bi_add, bi_sub, bi_mod, bi_fdiv, cm_lt, cm_le, cm_gt, cm_ge, cm_eqi, cm_nei, cm_eqb, cm_neb, pi_bool, ix_t0, ix_t1, ix_t2, ix_l0, ix_l1, ix_l2, bo_or, bo_and, hrs, hff, hm, pairD]
  obtain ⟨a', h⟩ := hfs
  exact ⟨a', fs, os, hlen, hsm, hleno, hsmo, r_runD rfl h⟩
structure Ex where
  c : Int
  f : List Int
  o : List Int
noncomputable def Ex.d (e : Ex) : PyData := .tuple [.int e.c, .tuple (e.f.map .int), .tuple (e.o.map .int)]
structure Ex.ok (ni nb : Nat) (e : Ex) : Prop where
  nf : e.f.length = ni
  no : e.o.length = nb
  sf : ∀ f ∈ e.f, f.natAbs ≤ 3
  so : ∀ f ∈ e.o, f.natAbs ≤ 3
inductive Row where
  | put (b : Nat) (e : Ex)
  | ask (e : Ex) (y n : List Row)
  | times (k : Nat) (r : List Row)
  | tell (e : Ex)
  | stop (w : Str)
noncomputable def W : Fin 5 → Str
  | 0 => Str.ofString "put"
  | 1 => Str.ofString "ask"
  | 2 => Str.ofString "times"
  | 3 => Str.ofString "tell"
  | 4 => Str.ofString "stop"
theorem wq : ∀ i j : Fin 5, cmpD .Eq (.str (W i)) (.str (W j)) = some (i == j) := by decide +kernel
noncomputable def sPut : PyData := .str (Str.ofString "put")
noncomputable def sAsk : PyData := .str (Str.ofString "ask")
noncomputable def sTimes : PyData := .str (Str.ofString "times")
noncomputable def sTell : PyData := .str (Str.ofString "tell")
noncomputable def sStop : PyData := .str (Str.ofString "stop")
mutual
noncomputable def Row.d : Row → PyData
  | .put b e => .tuple [sPut, .int b, e.d]
  | .ask e y n => .tuple [sAsk, e.d, .tuple (rowsD y), .tuple (rowsD n)]
  | .times k r => .tuple [sTimes, .int k, .tuple (rowsD r)]
  | .tell e => .tuple [sTell, e.d]
  | .stop w => .tuple [sStop, .str w]
noncomputable def rowsD : List Row → List PyData
  | [] => []
  | r :: rs => r.d :: rowsD rs
end
theorem rowsD_map : ∀ rs : List Row, rowsD rs = rs.map Row.d
  | [] => rfl
  | r :: rs => congrArg (r.d :: ·) (rowsD_map rs)
noncomputable def Row.inner : Row → List (List Row)
  | .ask _ y n => [y, n]
  | .times _ r => [r]
  | _ => []
noncomputable def wordOk (w : Str) : Prop := 1 ≤ w.length ∧ w.length ≤ 8 ∧ ∀ c ∈ w.cps.toList, 97 ≤ c ∧ c ≤ 122
noncomputable def Row.own (ni nb : Nat) : Row → Prop
  | .put b e => b < nb ∧ e.ok ni nb
  | .ask e _ _ => e.ok ni nb
  | .times k _ => k ≤ 8
  | .tell e => e.ok ni nb
  | .stop w => wordOk w
mutual
noncomputable def Row.ok (ni nb : Nat) : Row → Prop
  | .put b e => b < nb ∧ e.ok ni nb
  | .ask e y n => e.ok ni nb ∧ rowsOk ni nb y ∧ rowsOk ni nb n
  | .times k r => k ≤ 8 ∧ rowsOk ni nb r
  | .tell e => e.ok ni nb
  | .stop w => wordOk w
noncomputable def rowsOk (ni nb : Nat) : List Row → Prop
  | [] => True
  | r :: rs => r.ok ni nb ∧ rowsOk ni nb rs
noncomputable def Row.wt : Row → Nat
  | .ask _ y n => 1 + rowsWt y + rowsWt n
  | .times k r => 1 + k * rowsWt r
  | _ => 1
noncomputable def rowsWt : List Row → Nat
  | [] => 0
  | r :: rs => r.wt + rowsWt rs
noncomputable def Row.ls : Row → Nat
  | .ask _ y n => rowsLs y + rowsLs n
  | .times _ r => rowsLs r
  | _ => 0
noncomputable def rowsLs : List Row → Nat
  | [] => 1
  | r :: rs => r.ls + rowsLs rs
noncomputable def Row.sz : Row → Nat
  | .ask _ y n => 1 + rowsSz y + rowsSz n
  | .times _ r => 1 + rowsSz r
  | _ => 1
noncomputable def rowsSz : List Row → Nat
  | [] => 0
  | r :: rs => r.sz + rowsSz rs
noncomputable def Row.dp : Row → Nat
  | .ask _ y n => max (rowsDp y) (rowsDp n)
  | .times _ r => rowsDp r
  | _ => 0
noncomputable def rowsDp : List Row → Nat
  | [] => 1
  | r :: rs => max (r.dp + 1) (rowsDp rs)
end
theorem ok_mem {ni nb : Nat} : ∀ {rs : List Row} {r : Row}, rowsOk ni nb rs → r ∈ rs → r.ok ni nb
  | _ :: _, _, h, .head _ => h.1
  | _ :: _, _, h, .tail _ m => ok_mem h.2 m
theorem ok_own {ni nb : Nat} {r : Row} (h : r.ok ni nb) : r.own ni nb ∧ ∀ l ∈ r.inner, rowsOk ni nb l := by
  cases r with
  | put b e => exact ⟨h, fun _ m => nomatch m⟩
  | ask e y n => exact ⟨h.1, fun l m => by rcases List.mem_cons.mp m with rfl | m; exact h.2.1; rw [List.mem_singleton.mp m]; exact h.2.2⟩
  | times k r => exact ⟨h.1, fun l m => by rw [List.mem_singleton.mp m]; exact h.2⟩
  | tell e => exact ⟨h, fun _ m => nomatch m⟩
  | stop w => exact ⟨h, fun _ m => nomatch m⟩
theorem ok_app {ni nb : Nat} : ∀ {a b : List Row}, rowsOk ni nb a → rowsOk ni nb b → rowsOk ni nb (a ++ b)
  | [], _, _, h => h
  | _ :: _, _, h, h' => ⟨h.1, ok_app h.2 h'⟩
theorem wt_app : ∀ (a b : List Row), rowsWt (a ++ b) = rowsWt a + rowsWt b
  | [], b => (Nat.zero_add _).symm
  | r :: a, b => by show r.wt + rowsWt (a ++ b) = r.wt + rowsWt a + rowsWt b; rw [wt_app a b]; omega
theorem wt_pos (r : Row) : 1 ≤ r.wt := by
  cases r <;> first | exact Nat.le_refl _ | (show 1 ≤ 1 + _; omega) | skip
  show 1 ≤ 1 + _ + _
  omega
theorem len_wt : ∀ rs : List Row, rs.length ≤ rowsWt rs
  | [] => Nat.le_refl _
  | r :: rs => by
    have := wt_pos r
    have := len_wt rs
    show rs.length + 1 ≤ r.wt + rowsWt rs
    omega
theorem ev_notT {Φ : Phi} {ρ : Rho} {σ : Store} {a : CE} {p : Bool} (h : evE Φ a ρ σ = some (.dat (.bool p), σ)) : evE Φ (.nott a) ρ σ = some (.dat (.bool (!p)), σ) := by rw [ev_nott, h]; rfl
theorem ev_callR {Φ : Phi} {ρ : Rho} {σ σ₁ σ₂ : Store} {f : Nat} {es : List CE} {vs : List AV} {v : AV} (h1 : evEs Φ es ρ σ = some (vs, σ₁)) (h2 : Φ f vs σ₁ = some (.ret v, σ₂)) : evE Φ (.call f es) ρ σ = some (v, σ₂) := by rw [ev_call, h1, Option.bind_some, h2]; rfl
theorem ev_lenT {Φ : Phi} {ρ : Rho} {σ : Store} {a : CE} {xs : List PyData} (h : evE Φ a ρ σ = some (.dat (.tuple xs), σ)) (hl : xs.length ≤ 1000) : evE Φ (.prim .len [a]) ρ σ = some (.dat (.int xs.length), σ) := by
  rw [ev_prim, el_cons, h, Option.bind_some, el_nil]
  show (primD .len [.tuple xs]).bind _ = _
  rw [pl_tuple (le_lim (m := 1000) hl (by decide))]
  rfl
theorem ev_or3 {Φ : Phi} {ρ : Rho} {σ : Store} {a b c : CE} (h1 : evE Φ a ρ σ = some (.dat (.bool false), σ)) (h2 : evE Φ b ρ σ = some (.dat (.bool false), σ)) (h3 : evE Φ c ρ σ = some (.dat (.bool false), σ)) : evE Φ (.bop .Or [a, b, c]) ρ σ = some (.dat (.bool false), σ) := by
  rw [ev_bop, eb_cons, h1]
  show (evB Φ .Or [b, c] ρ σ).bind _ = _
  rw [eb_cons, h2]
  show (evB Φ .Or [c] ρ σ).bind _ = _
  rw [eb_cons, h3]
  rfl
theorem ev_and3 {Φ : Phi} {ρ : Rho} {σ : Store} {a b c : CE} (h1 : evE Φ a ρ σ = some (.dat (.bool true), σ)) (h2 : evE Φ b ρ σ = some (.dat (.bool true), σ)) (h3 : evE Φ c ρ σ = some (.dat (.bool true), σ)) : evE Φ (.bop .And [a, b, c]) ρ σ = some (.dat (.bool true), σ) := by
  rw [ev_bop, eb_cons, h1]
  show (evB Φ .And [b, c] ρ σ).bind _ = _
  rw [eb_cons, h2]
  show (evB Φ .And [c] ρ σ).bind _ = _
  rw [eb_cons, h3]
  rfl
theorem ev_and2T {Φ : Phi} {ρ : Rho} {σ : Store} {a b : CE} (h1 : evE Φ a ρ σ = some (.dat (.bool true), σ)) (h2 : evE Φ b ρ σ = some (.dat (.bool true), σ)) : evE Φ (.bop .And [a, b]) ρ σ = some (.dat (.bool true), σ) := ev_and2 (p := true) (q := true) h1 fun _ => h2
theorem ev_cmpR {Φ : Phi} {ρ : Rho} {σ : Store} {op : CmpOp} {a b : CE} {dx dy : PyData} {r : Bool} (h1 : evE Φ a ρ σ = some (.dat dx, σ)) (h2 : evE Φ b ρ σ = some (.dat dy, σ)) (h3 : cmpD op dx dy = some r) : evE Φ (.cmp op a b) ρ σ = some (.dat (.bool r), σ) := by
  rw [ev_cmp, h1, Option.bind_some, h2, Option.bind_some, x_rdD, Option.bind_some, x_rdD, Option.bind_some, h3]
  rfl
theorem s_are_wholes (N k : Nat) (xs : List Int) (hl : xs.length ≤ 100) (σ : Store) : tabAt tab3 N (k + 2) 2 [.dat (.tuple (xs.map .int)), .dat (.int xs.length)] σ = some (.ret (.dat (.bool true)), σ) := by
  rw [tab_step (by rfl : tab3[2]? = some ([0, 3], c_are_wholes))]
  have hc := ev_compA (Φ := tabAt tab3 N (k + 1)) (ρ := Rho.set (Rho.set (fun _ => none) 0 (.dat (.tuple (xs.map .int)))) 3 (.dat (.int xs.length))) (σ := σ) (ce := .call 0 [(.var 4)]) (t := .one 4) (k := .seq) (its := [.var 0]) (vs := [.dat (.tuple (xs.map .int))]) (ds := [.tuple (xs.map .int)]) xs .int (fun _ => .bool true) rfl rfl rfl rfl (le_lim (m := 100) hl (by decide)) fun x _ => ⟨_, rfl, ev_callR rfl (s_is_whole N k (.int x) σ)⟩
  have hz : xs.map (fun _ => PyData.bool true) = (xs.map fun _ => true).map .bool := by rw [List.map_map]; rfl
  refine r_runD rfl (r_ret (ev_and3 rfl (ev_cmpR (ev_lenT rfl (by rw [List.length_map]; omega)) rfl ?_) ?_))
  · rw [List.length_map, cm_eqi, beq_self_eq_true]
  · rw [ev_prim, el_cons, hc, Option.bind_some, el_nil]
    show (primD .all [.list (xs.map fun _ => PyData.bool true)]).bind _ = _
    rw [hz, pa_all, show (xs.map fun _ => true).all id = true from by simp]
    rfl
theorem s_is_range (N k : Nat) (r : Int × Int) (h : okR r) (σ : Store) : tabAt tab3 N (k + 3) 4 [.dat (pairD r)] σ = some (.ret (.dat (.bool true)), σ) := by
  rw [tab_step (by rfl : tab3[4]? = some ([0], c_is_range))]
  have h1 := s_are_wholes N k [r.1, r.2] (by show 2 ≤ 100; decide) σ
  refine r_runD rfl ((r_skip (σ₁ := σ) (ev_notT (ev_callR rfl h1))).trans (r_ret ?_))
  have e1 : decide (r.1 ≤ r.2) = true := decide_eq_true h.2
  have e2 : decide (r.2 ≤ r.1 + 20) = true := decide_eq_true (by have := h.1; have := h.2; omega)
  show (if decide (r.1 ≤ r.2) = true then some (AV.dat (.bool (decide (r.2 ≤ r.1 + 20))), σ) else _) = _
  rw [e1, if_pos rfl, e2]
theorem s_is_expression (N k ni nb : Nat) (hi : ni ≤ 3) (hb : nb ≤ 6) (e : Ex) (h : e.ok ni nb) (σ : Store) : tabAt tab3 N (k + 3) 5 [.dat e.d, .dat (.int ni), .dat (.int nb)] σ = some (.ret (.dat (.bool true)), σ) := by
  rw [tab_step (by rfl : tab3[5]? = some ([0, 6, 9], c_is_expression))]
  have h1 := s_are_wholes N k e.f (by rw [h.nf]; omega) σ
  have h2 := s_are_wholes N k e.o (by rw [h.no]; omega) σ
  rw [h.nf] at h1
  rw [h.no] at h2
  exact r_runD rfl ((r_skip (σ₁ := σ) (ev_or3 rfl rfl (ev_notT (ev_callR rfl (s_is_whole N (k + 1) (.int e.c) σ))))).trans (r_ret (ev_and2T (ev_callR rfl h1) (ev_callR rfl h2))))
theorem cps_mem {c : Nat} (h : 97 ≤ c ∧ c ≤ 122) : (!(Builtin.Str.occurrences (Str.ofString "abcdefghijklmnopqrstuvwxyz") ⟨#[c]⟩ 0 (Str.ofString "abcdefghijklmnopqrstuvwxyz").length 1).isEmpty) = true := by
  have : ∀ c : Fin 123, 97 ≤ c.val → (!(Builtin.Str.occurrences (Str.ofString "abcdefghijklmnopqrstuvwxyz") ⟨#[c.val]⟩ 0 (Str.ofString "abcdefghijklmnopqrstuvwxyz").length 1).isEmpty) = true := by decide +kernel
  exact this ⟨c, by omega⟩ h.1
theorem s_is_word (N k : Nat) (w : Str) (h : wordOk w) (σ : Store) : tabAt tab3 N (k + 1) 6 [.dat (.str w)] σ = some (.ret (.dat (.bool true)), σ) := by
  rw [tab_step (by rfl : tab3[6]? = some ([0], c_is_word))]
  obtain ⟨h1, h2, h3⟩ := h
  have hlen : ∀ ρ : Rho, ρ 0 = some (.dat (.str w)) → evE (tabAt tab3 N k) (.prim .len [.var 0]) ρ σ = some (.dat (.int w.length), σ) := fun ρ h => by
    rw [ev_prim, el_cons, ev_var, h]
    show (if w.length ≤ lim then some (AV.dat (.int w.length)) else none).bind _ = _
    rw [if_pos (le_lim (m := 8) h2 (by decide))]
    rfl
  have hc := ev_compA (Φ := tabAt tab3 N k) (ρ := Rho.set (fun _ => none) 0 (.dat (.str w))) (σ := σ) (ce := .cmp .In (.var 10) (.const (.str (Str.ofString "abcdefghijklmnopqrstuvwxyz")))) (t := .one 10) (k := .seq) (its := [.var 0]) (vs := [.dat (.str w)]) (ds := [.str w]) w.cps.toList (fun c => .str ⟨#[c]⟩) (fun _ => .bool true) rfl rfl rfl (by
      show (if w.cps.all (· < 128) = true then some (charsD w) else none) = _
      rw [if_pos (by
        rw [← Array.all_toList, List.all_eq_true]
        intro c hc
        exact decide_eq_true (by have := h3 c hc; omega))]
      rfl) (le_lim (m := 8) (by rw [Array.length_toList]; exact h2) (by decide)) fun c hc => ⟨_, rfl, ev_cmpR rfl rfl (congrArg some (cps_mem (h3 c hc)))⟩
  have hz : w.cps.toList.map (fun _ => PyData.bool true) = (w.cps.toList.map fun _ => true).map .bool := by rw [List.map_map]; rfl
  refine r_runD rfl ((r_skip (σ₁ := σ) ?_).trans (r_ret ?_))
  · refine ev_or2 (p := false) (q := false) rfl fun _ => ev_notT (p := true) ?_
    rw [ev_cmp2, ev_const, Option.bind_some, hlen _ rfl]
    show (if decide ((1 : Int) ≤ w.length) = true then some (AV.dat (.bool (decide ((w.length : Int) ≤ 8))), σ) else _) = _
    rw [decide_eq_true (by omega : (1 : Int) ≤ w.length), if_pos rfl, decide_eq_true (by omega : (w.length : Int) ≤ 8)]
  · rw [ev_prim, el_cons, hc, Option.bind_some, el_nil]
    show (primD .all [.list (w.cps.toList.map fun _ => PyData.bool true)]).bind _ = _
    rw [hz, pa_all, show (w.cps.toList.map fun _ => true).all id = true from by simp]
    rfl
theorem s_among (N k : Nat) (x lo hi : Int) (h : lo ≤ x ∧ x ≤ hi) (σ : Store) : tabAt tab3 N (k + 2) 1 [.dat (.int x), .dat (.int lo), .dat (.int hi)] σ = some (.ret (.dat (.bool true)), σ) := by
  have := s_is_among N k (.int x) (lo, hi) σ
  rw [show amongB (.int x) (lo, hi) = true from by simp [amongB, h.1, h.2]] at this
  exact this
theorem s_is_statement (N k ni nb : Nat) (hi : ni ≤ 3) (hb : nb ≤ 6) (r : Row) (h : r.own ni nb) (σ : Store) : tabAt tab3 N (k + 4) 7 [.dat r.d, .dat (.int ni), .dat (.int nb)] σ = some (.ret (.dat (.bool true)), σ) := by
  rw [tab_step (by rfl : tab3[7]? = some ([0, 6, 9], c_is_statement))]
  have E := fun e he => s_is_expression N k ni nb hi hb e he σ
  cases r with
  | put b e => exact r_runD rfl ((r_skip (σ₁ := σ) (ev_or3 rfl rfl rfl)).trans ((r_assign (v := .dat sPut) (σ₁ := σ) rfl).trans (r_taken (σ₁ := σ) (ev_cmpR rfl rfl (wq 0 0)) (r_ret (ev_and3 rfl (ev_callR rfl (s_among N (k + 1) b 0 (nb - 1) ⟨by omega, by have := h.1; omega⟩ σ)) (ev_callR rfl (E e h.2)))))))
  | ask e y n => exact r_runD rfl ((r_skip (σ₁ := σ) (ev_or3 rfl rfl rfl)).trans ((r_assign (v := .dat sAsk) (σ₁ := σ) rfl).trans ((r_skip (σ₁ := σ) (ev_cmpR rfl rfl (wq 1 0))).trans (r_taken (σ₁ := σ) (ev_cmpR rfl rfl (wq 1 1)) (r_ret (ev_and2T rfl (ev_callR rfl (E e h))))))))
  | times j r => exact r_runD rfl ((r_skip (σ₁ := σ) (ev_or3 rfl rfl rfl)).trans ((r_assign (v := .dat sTimes) (σ₁ := σ) rfl).trans ((r_skip (σ₁ := σ) (ev_cmpR rfl rfl (wq 2 0))).trans ((r_skip (σ₁ := σ) (ev_cmpR rfl rfl (wq 2 1))).trans (r_taken (σ₁ := σ) (ev_cmpR rfl rfl (wq 2 2)) (r_ret (ev_and2T rfl (ev_callR rfl (s_among N (k + 1) j 0 8 ⟨by omega, by have : j ≤ 8 := h; omega⟩ σ)))))))))
  | tell e => exact r_runD rfl ((r_skip (σ₁ := σ) (ev_or3 rfl rfl rfl)).trans ((r_assign (v := .dat sTell) (σ₁ := σ) rfl).trans ((r_skip (σ₁ := σ) (ev_cmpR rfl rfl (wq 3 0))).trans ((r_skip (σ₁ := σ) (ev_cmpR rfl rfl (wq 3 1))).trans ((r_skip (σ₁ := σ) (ev_cmpR rfl rfl (wq 3 2))).trans (r_taken (σ₁ := σ) (ev_cmpR rfl rfl (wq 3 3)) (r_ret (ev_and2T rfl (ev_callR rfl (E e h))))))))))
  | stop w => exact r_runD rfl ((r_skip (σ₁ := σ) (ev_or3 rfl rfl rfl)).trans ((r_assign (v := .dat sStop) (σ₁ := σ) rfl).trans ((r_skip (σ₁ := σ) (ev_cmpR rfl rfl (wq 4 0))).trans ((r_skip (σ₁ := σ) (ev_cmpR rfl rfl (wq 4 1))).trans ((r_skip (σ₁ := σ) (ev_cmpR rfl rfl (wq 4 2))).trans ((r_skip (σ₁ := σ) (ev_cmpR rfl rfl (wq 4 3))).trans (r_ret (ev_and3 (ev_cmpR rfl rfl (wq 4 4)) rfl (ev_callR rfl (s_is_word N (k + 2) w h σ))))))))))
noncomputable def listsD (l : List (List Row)) : List PyData := l.map fun rs => .tuple (rowsD rs)
theorem s_inner_rows (N k : Nat) (r : Row) (σ : Store) : tabAt tab3 N (k + 1) 8 [.dat r.d] σ = some (.ret (.fresh (listsD r.inner)), σ) := by
  rw [tab_step (by rfl : tab3[8]? = some ([12], c_inner_rows))]
  cases r with
  | ask e y n => exact r_runL rfl (r_taken (σ₁ := σ) (ev_cmpR rfl rfl (wq 1 1)) (r_ret rfl))
  | times j r => exact r_runL rfl ((r_skip (σ₁ := σ) (ev_cmpR rfl rfl (wq 2 1))).trans (r_taken (σ₁ := σ) (ev_cmpR rfl rfl (wq 2 2)) (r_ret rfl)))
  | put b e => exact r_runL rfl ((r_skip (σ₁ := σ) (ev_cmpR rfl rfl (wq 0 1))).trans ((r_skip (σ₁ := σ) (ev_cmpR rfl rfl (wq 0 2))).trans (r_ret rfl)))
  | tell e => exact r_runL rfl ((r_skip (σ₁ := σ) (ev_cmpR rfl rfl (wq 3 1))).trans ((r_skip (σ₁ := σ) (ev_cmpR rfl rfl (wq 3 2))).trans (r_ret rfl)))
  | stop w => exact r_runL rfl ((r_skip (σ₁ := σ) (ev_cmpR rfl rfl (wq 4 1))).trans ((r_skip (σ₁ := σ) (ev_cmpR rfl rfl (wq 4 2))).trans (r_ret rfl)))
theorem get_last (σ : Store) (x : Flag × List PyData) : (σ ++ [x])[σ.length]? = some x := by simp
theorem set_last (σ : Store) (x y : Flag × List PyData) : (σ ++ [x]).set σ.length y = σ ++ [y] := by simp
theorem evV {Φ : Phi} {ρ : Rho} {σ : Store} {i : Nat} {v : AV} (h : ρ i = some v) : evE Φ (.var i) ρ σ = some (v, σ) := by rw [ev_var, h]; rfl
theorem el_var {Φ : Phi} {ρ : Rho} {σ : Store} {i : Nat} {v : AV} {es : List CE} {vs : List AV} (h : ρ i = some v) (h' : evEs Φ es ρ σ = some (vs, σ)) : evEs Φ (.var i :: es) ρ σ = some (settle v :: vs, σ) := by rw [el_cons, evV h, Option.bind_some, h']; rfl
theorem for_next {t : Tgt} {body : Rho → Store → Option (Fl × Store)} {d : PyData} {ds : List PyData} {ρ ρ₁ ρ₂ : Rho} {σ σ₂ : Store} (h1 : bindT t d ρ = some ρ₁) (h2 : body ρ₁ σ = some (.next ρ₂, σ₂)) : forGo t body (d :: ds) ρ σ = forGo t body ds ρ₂ σ₂ := by rw [x_for1, h1, Option.bind_some, h2]; rfl
theorem wh_step {test : Rho → Store → Option (AV × Store)} {body : Rho → Store → Option (Fl × Store)} {n : Nat} {ρ ρ₂ : Rho} {σ σ₁ σ₂ : Store} (h1 : test ρ σ = some (.dat (.bool true), σ₁)) (h2 : body ρ σ₁ = some (.next ρ₂, σ₂)) : whileGo test body (n + 1) ρ σ = whileGo test body n ρ₂ σ₂ := by
  show (test ρ σ).bind _ = _
  rw [h1]
  show (body ρ σ₁).bind _ = _
  rw [h2]
  rfl
theorem wh_end {test : Rho → Store → Option (AV × Store)} {body : Rho → Store → Option (Fl × Store)} {n : Nat} {ρ : Rho} {σ σ₁ : Store} (h1 : test ρ σ = some (.dat (.bool false), σ₁)) : whileGo test body (n + 1) ρ σ = some (.next ρ, σ₁) := by
  show (test ρ σ).bind _ = _
  rw [h1]
  rfl
theorem wh_ret {test : Rho → Store → Option (AV × Store)} {body : Rho → Store → Option (Fl × Store)} {n : Nat} {ρ : Rho} {σ σ₁ σ₂ : Store} {v : AV} (h1 : test ρ σ = some (.dat (.bool true), σ₁)) (h2 : body ρ σ₁ = some (.ret v, σ₂)) : whileGo test body (n + 1) ρ σ = some (.ret v, σ₂) := by
  show (test ρ σ).bind _ = _
  rw [h1]
  show (body ρ σ₁).bind _ = _
  rw [h2]
  rfl
theorem ev_lenC {Φ : Phi} {ρ : Rho} {σ : Store} {i c : Nat} {f : Flag} {xs : List PyData} (h : ρ i = some (.cell c)) (hc : σ[c]? = some (f, xs)) (hl : xs.length ≤ 100000) : evE Φ (.prim .len [.var i]) ρ σ = some (.dat (.int xs.length), σ) := by
  have hr : rdAll σ [.cell c] = some [.list xs] := by rw [x_ra1, x_rdC, hc]; rfl
  rw [ev_prim, el_cons, ev_var, h]
  show (rdAll σ [.cell c]).bind _ = _
  rw [hr]
  show (primD .len [.list xs]).bind _ = _
  rw [pl_list (le_lim (m := 100000) hl (by decide))]
  rfl
theorem ev_pos {Φ : Phi} {ρ : Rho} {σ : Store} {a : CE} {n : Nat} (h : evE Φ a ρ σ = some (.dat (.int n), σ)) : evE Φ (.cmp .Gt a (.const (.int 0))) ρ σ = some (.dat (.bool (decide (0 < n))), σ) := by
  rw [show decide (0 < n) = decide ((0 : Int) < n) from by simp]
  exact ev_cmpR h rfl rfl
theorem ev_popR {Φ : Phi} {ρ : Rho} {σ : Store} {i : Nat} {xs : List PyData} {d : PyData} (h : ρ i = some (.cell σ.length)) (hl : xs.length < 100000) : evE Φ (.pop i) ρ (σ ++ [(.live, xs ++ [d])]) = some (.dat d, σ ++ [(.live, xs)]) := by
  rw [ev_pop, show cellIn ρ i = some σ.length from by rw [cellIn, h]; rfl, Option.bind_some, show liveAt (σ ++ [(.live, xs ++ [d])]) σ.length = some (xs ++ [d]) from by rw [liveAt, get_last], Option.bind_some, if_pos (le_lim (m := 100000) (by rw [List.length_append]; show xs.length + 1 ≤ _; omega) (by decide)), List.getLast?_concat, Option.bind_some, List.dropLast_concat, set_last]
noncomputable def lsAll : List (List Row) → Nat
  | [] => 0
  | l :: r => rowsLs l + lsAll r
theorem lsAll_app : ∀ a b : List (List Row), lsAll (a ++ b) = lsAll a + lsAll b
  | [], b => (Nat.zero_add _).symm
  | l :: a, b => by show rowsLs l + lsAll (a ++ b) = rowsLs l + lsAll a + lsAll b; rw [lsAll_app a b]; omega
theorem ls_pos : ∀ rs : List Row, 1 ≤ rowsLs rs
  | [] => Nat.le_refl _
  | r :: rs => by have := ls_pos rs; show 1 ≤ r.ls + rowsLs rs; omega
theorem len_ls : ∀ l : List (List Row), l.length ≤ lsAll l
  | [] => Nat.le_refl _
  | l :: r => by have := ls_pos l; have := len_ls r; show r.length + 1 ≤ rowsLs l + lsAll r; omega
theorem inner_ls (r : Row) : lsAll r.inner = r.ls := by
  cases r <;> rfl
theorem flat_ls : ∀ rs : List Row, lsAll (rs.flatMap Row.inner) + 1 = rowsLs rs
  | [] => rfl
  | r :: rs => by
    have := flat_ls rs
    rw [List.flatMap_cons, lsAll_app, inner_ls]
    show _ = r.ls + rowsLs rs
    omega
theorem listsD_app (a b : List (List Row)) : listsD (a ++ b) = listsD a ++ listsD b := List.map_append
theorem listsD_len (a : List (List Row)) : (listsD a).length = a.length := List.length_map ..
noncomputable def arBody : List CS := [.ite (.nott (.call 7 [(.var 12), (.var 6), (.var 9)])) [.ret (.const (.bool false))] [], .extend 13 (.call 8 [(.var 12)])]
theorem ar_inner (N k ni nb : Nat) (hi : ni ≤ 3) (hb : nb ≤ 6) (σ : Store) : ∀ (rs : List Row) (W : List (List Row)) (ρ : Rho), rowsOk ni nb rs → lsAll W + rowsLs rs ≤ 10000 → ρ 13 = some (.cell σ.length) → ρ 6 = some (.dat (.int ni)) → ρ 9 = some (.dat (.int nb)) →
    ∃ ρ', forGo (.one 12) (fun ρ' σ' => evSs N (tabAt tab3 N (k + 4)) arBody ρ' σ') (rowsD rs) ρ (σ ++ [(.live, listsD W)]) = some (.next ρ', σ ++ [(.live, listsD (W ++ rs.flatMap Row.inner))]) ∧ ρ' 13 = some (.cell σ.length) ∧ ρ' 6 = some (.dat (.int ni)) ∧ ρ' 9 = some (.dat (.int nb)) := by
  intro rs
  induction rs with
  | nil => intro W ρ _ _ h1 h2 h3; exact ⟨ρ, by rw [List.flatMap_nil, List.append_nil]; rfl, h1, h2, h3⟩
  | cons r rs ih =>
    intro W ρ ho hl h1 h2 h3
    have hl' : lsAll W + (r.ls + rowsLs rs) ≤ 10000 := hl
    have hin := inner_ls r
    have hlen := len_ls W
    have hlen2 := len_ls r.inner
    obtain ⟨ρ', e, i1, i2, i3⟩ := ih (W ++ r.inner) (Rho.set ρ 12 (.dat r.d)) ho.2 (by rw [lsAll_app, hin]; omega) h1 h2 h3
    refine ⟨ρ', ?_, i1, i2, i3⟩
    rw [List.flatMap_cons, ← List.append_assoc, ← e]
    have hs := s_is_statement N k ni nb hi hb r (ok_own ho.1).1 (σ ++ [(.live, listsD W)])
    have hb1 : evSs N (tabAt tab3 N (k + 4)) arBody (Rho.set ρ 12 (.dat r.d)) (σ ++ [(.live, listsD W)]) = some (.next (Rho.set ρ 12 (.dat r.d)), σ ++ [(.live, listsD (W ++ r.inner))]) := by
      refine Eq.trans (r_skip (σ₁ := σ ++ [(.live, listsD W)]) (ev_notT (p := true) (ev_callR (vs := [.dat r.d, .dat (.int ni), .dat (.int nb)]) (σ₁ := σ ++ [(.live, listsD W)]) (el_var (v := .dat r.d) rfl (el_var (v := .dat (.int ni)) (by exact h2) (el_var (v := .dat (.int nb)) (by exact h3) rfl))) hs))) ?_
      · refine Eq.trans (r_extend (x := 13) (ρ := Rho.set ρ 12 (.dat r.d)) (c := σ.length) (ds := listsD W) (es := listsD r.inner) h1 (ev_callR (vs := [.dat r.d]) rfl (s_inner_rows N (k + 3) r _)) (get_last ..) (le_lim (m := 20000) (by rw [listsD_len, listsD_len]; omega) (by decide))) ?_
        rw [set_last, es_nil, listsD_app]
    exact for_next rfl hb1
noncomputable def arLoop : List CS := [.assign 14 (.pop 13), .ite (.nott (.isin (.var 14) .tuple)) [.ret (.const (.bool false))] [], .forr (.one 12) .seq [(.var 14)] arBody]
theorem ar_loop (N k ni nb : Nat) (hi : ni ≤ 3) (hb : nb ≤ 6) (σ : Store) : ∀ (n : Nat) (W : List (List Row)) (ρ : Rho), (∀ l ∈ W, rowsOk ni nb l) → lsAll W < n → lsAll W ≤ 10000 → ρ 13 = some (.cell σ.length) → ρ 6 = some (.dat (.int ni)) → ρ 9 = some (.dat (.int nb)) →
    ∃ ρ', whileGo (fun ρ' σ' => evE (tabAt tab3 N (k + 4)) (.cmp .Gt (.prim .len [(.var 13)]) (.const (.int 0))) ρ' σ') (fun ρ' σ' => evSs N (tabAt tab3 N (k + 4)) arLoop ρ' σ') n ρ (σ ++ [(.live, listsD W)]) = some (.next ρ', σ ++ [(.live, [])]) := by
  intro n
  induction n with
  | zero => intro _ _ _ h; exact absurd h (Nat.not_lt_zero _)
  | succ n ih =>
    intro W ρ ho hn hl h1 h2 h3
    have hlen := len_ls W
    have ht := ev_pos (ev_lenC (Φ := tabAt tab3 N (k + 4)) (xs := listsD W) h1 (get_last σ (.live, listsD W)) (by rw [listsD_len]; omega))
    rw [listsD_len] at ht
    rcases List.eq_nil_or_concat W with rfl | ⟨W', rs, rfl⟩
    · exact ⟨ρ, wh_end ht⟩
    · rw [List.concat_eq_append] at *
      rw [show decide (0 < (W' ++ [rs]).length) = true from by simp] at ht
      have hls := lsAll_app W' [rs]
      have hls2 : lsAll [rs] = rowsLs rs := rfl
      have hfl := flat_ls rs
      have hrs := ho rs (by simp)
      obtain ⟨ρ₂, e, i1, i2, i3⟩ := ar_inner N k ni nb hi hb σ rs W' (Rho.set ρ 14 (.dat (.tuple (rowsD rs)))) hrs (by omega) h1 h2 h3
      obtain ⟨ρ', e'⟩ := ih (W' ++ rs.flatMap Row.inner) ρ₂ (fun l hm => by
        rcases List.mem_append.mp hm with hm | hm
        · exact ho l (List.mem_append_left _ hm)
        · obtain ⟨r, hr, hm⟩ := List.mem_flatMap.mp hm
          exact (ok_own (ok_mem hrs hr)).2 l hm) (by rw [lsAll_app]; omega) (by rw [lsAll_app]; omega) i1 i2 i3
      refine ⟨ρ', (wh_step ht ?_).trans e'⟩
      rw [listsD_app]
      refine (r_assign (v := .dat (.tuple (rowsD rs))) (ev_popR h1 (by rw [listsD_len]; have := len_ls W'; omega))).trans ((r_skip (σ₁ := σ ++ [(.live, listsD W')]) rfl).trans ?_)
      exact (r_forS (vs := [.dat (.tuple (rowsD rs))]) (ds := [.tuple (rowsD rs)]) (xs := rowsD rs) rfl rfl rfl rfl e).trans es_nil
theorem run_cell {N : Nat} {Φ : Phi} {is : List Nat} {cs : List CS} {args : List AV} {σ : Store} {ρ : Rho} {d : PyData} {τ : Store} (h : bindArgsR is args (fun _ => none) = some ρ) (h' : evSs N Φ cs ρ σ = some (.ret (.dat d), σ ++ τ)) : runF N Φ is cs args σ = some (.ret (.dat d), σ) := by
  rw [x_run, h, Option.bind_some, h', Option.bind_some, x_end, x_lvD, Option.bind_some, List.take_left' rfl]
theorem s_are_rows (N k ni nb : Nat) (hi : ni ≤ 3) (hb : nb ≤ 6) (rs : List Row) (ho : rowsOk ni nb rs) (hl : rowsLs rs ≤ 10000) (hN : 10000 < N) (σ : Store) : tabAt tab3 N (k + 5) 9 [.dat (.tuple (rowsD rs)), .dat (.int ni), .dat (.int nb)] σ = some (.ret (.dat (.bool true)), σ) := by
  rw [tab_step (by rfl : tab3[9]? = some ([0, 6, 9], c_are_rows))]
  obtain ⟨ρ', e⟩ := ar_loop N k ni nb hi hb σ N [rs] (Rho.set (Rho.set (Rho.set (Rho.set (fun _ => none) 0 (.dat (.tuple (rowsD rs)))) 6 (.dat (.int ni))) 9 (.dat (.int nb))) 13 (.cell σ.length)) (fun l hm => by rw [List.mem_singleton.mp hm]; exact ho) (by show rowsLs rs + 0 < N; omega) hl rfl rfl rfl
  exact run_cell (τ := [(.live, [])]) rfl ((r_newcell (ds := [.tuple (rowsD rs)]) (σ₁ := σ) rfl).trans ((r_next ((es_whil ..).trans e)).trans (r_ret rfl)))
noncomputable def progD (rs : List (Int × Int)) (nb : Nat) (rows : List Row) : PyData := .tuple [.tuple (rs.map pairD), .int nb, .tuple (rowsD rows)]
structure ProgOk (rs : List (Int × Int)) (nb : Nat) (rows : List Row) : Prop where
  h3 : rs.length ≤ 3
  hr : ∀ r ∈ rs, okR r
  b1 : 1 ≤ nb
  b6 : nb ≤ 6
  ok : rowsOk rs.length nb rows
  ls : rowsLs rows ≤ 10000
theorem s_is_program (N k : Nat) (hN : 10000 < N) (rs : List (Int × Int)) (nb : Nat) (rows : List Row) (P : ProgOk rs nb rows) (σ : Store) : tabAt tab3 N (k + 6) 10 [.dat (progD rs nb rows)] σ = some (.ret (.dat (.bool true)), σ) := by
  rw [tab_step (by rfl : tab3[10]? = some ([0], c_is_program))]
  have hlen : (rs.map pairD).length ≤ 1000 := by rw [List.length_map]; have := P.h3; omega
  have hc := ev_compA (Φ := tabAt tab3 N (k + 5)) (ρ := Rho.set (fun _ => none) 0 (.dat (progD rs nb rows))) (σ := σ) (ce := .call 4 [(.var 4)]) (t := .one 4) (k := .seq) (its := [.idx (.var 0) (.const (.int 0))]) (vs := [.dat (.tuple (rs.map pairD))]) (ds := [.tuple (rs.map pairD)]) rs pairD (fun _ => .bool true) rfl rfl rfl rfl (le_lim (m := 3) P.h3 (by decide)) fun r hr => ⟨_, rfl, ev_callR rfl (s_is_range N (k + 2) r (P.hr r hr) σ)⟩
  have hz : rs.map (fun _ => PyData.bool true) = (rs.map fun _ => true).map .bool := by rw [List.map_map]; rfl
  have hall : evE (tabAt tab3 N (k + 5)) (.prim .all [(.comp (.call 4 [(.var 4)]) (.one 4) .seq [(.idx (.var 0) (.const (.int 0)))] [])]) (Rho.set (fun _ => none) 0 (.dat (progD rs nb rows))) σ = some (.dat (.bool true), σ) := by
    rw [ev_prim, el_cons, hc, Option.bind_some, el_nil]
    show (primD .all [.list (rs.map fun _ => PyData.bool true)]).bind _ = _
    rw [hz, pa_all, show (rs.map fun _ => true).all id = true from by simp]
    rfl
  have hgt : evE (tabAt tab3 N (k + 5)) (.cmp .Gt (.prim .len [(.idx (.var 0) (.const (.int 0)))]) (.const (.int 3))) (Rho.set (fun _ => none) 0 (.dat (progD rs nb rows))) σ = some (.dat (.bool false), σ) := by
    refine ev_cmpR (ev_lenT (xs := rs.map pairD) rfl hlen) rfl ?_
    rw [cm_gt, List.length_map, decide_eq_false (by have := P.h3; omega)]
  refine r_runD rfl (Eq.trans (r_skip (σ₁ := σ) (ev_or3 rfl rfl rfl)) (Eq.trans (r_skip (σ₁ := σ) (ev_or2 (p := false) (q := false) hgt fun _ => ev_notT hall)) (Eq.trans (r_skip (σ₁ := σ) (ev_notT (p := true) (ev_callR rfl (s_among N (k + 3) nb 1 6 ⟨by have := P.b1; omega, by have := P.b6; omega⟩ σ)))) (r_ret (ev_callR (vs := [.dat (.tuple (rowsD rows)), .dat (.int rs.length), .dat (.int nb)]) ?_ (s_are_rows N k rs.length nb P.h3 P.b6 rows P.ok P.ls hN σ))))))
  rw [el_cons, show evE (tabAt tab3 N (k + 5)) (.idx (.var 0) (.const (.int 2))) (Rho.set (fun _ => none) 0 (.dat (progD rs nb rows))) σ = some (.dat (.tuple (rowsD rows)), σ) from rfl, Option.bind_some, el_cons, ev_lenT (xs := rs.map pairD) rfl hlen, List.length_map]
  rfl
theorem r_forC {N : Nat} {Φ : Phi} {ρ ρ' : Rho} {σ σ' : Store} {t : Tgt} {i j : Nat} {ds : List PyData} {body cs : List CS} (hi : ρ i = some (.cell j)) (hj : σ[j]? = some (.live, ds)) (h5 : forGo t (fun ρ' σ' => evSs N Φ body ρ' σ') ds ρ (σ.set j (.locked, ds)) = some (.next ρ', σ')) : evSs N Φ (.forr t .seq [.var i] body :: cs) ρ σ = evSs N Φ cs ρ' (flagAll .live [j] σ') := by
  have h1 : evEs Φ [.var i] ρ σ = some ([.cell j], σ) := el_var hi rfl
  have h2 : liveOf σ [.cell j] = [j] := by simp [liveOf, hj]
  have h3 : rdAll σ [.cell j] = some [.list ds] := by rw [x_ra1, x_rdC, hj]; rfl
  have h4 : flagAll .locked [j] σ = σ.set j (.locked, ds) := by simp [flagAll, hj]
  refine r_next ?_
  rw [es_forr, h1, Option.bind_some, h3, Option.bind_some]
  show (forGo t _ ds ρ (flagAll .locked (liveOf σ [.cell j]) σ)).bind _ = _
  rw [h2, h4, h5]
  rfl
theorem unlock_at {σ : Store} {j : Nat} {ds es : List PyData} (hj : σ[j]? = some (.live, ds)) : flagAll .live [j] (σ.set j (.locked, ds) ++ [(.live, es)]) = σ ++ [(.live, es)] := by
  have hjl : j < σ.length := (List.getElem?_eq_some_iff.mp hj).1
  have : (σ.set j (.locked, ds) ++ [(Flag.live, es)])[j]? = some (.locked, ds) := by
    rw [List.getElem?_append_left (by rw [List.length_set]; exact hjl), List.getElem?_set_self hjl]
  simp only [flagAll, this]
  rw [List.set_append_left _ _ (by rw [List.length_set]; exact hjl), List.set_set]
  have hs : σ.set j (.live, ds) = σ := by
    apply List.ext_getElem?
    intro i
    rw [List.getElem?_set]
    split
    · rename_i e; subst e; exact hj.symm
    · rfl
  rw [hs]
noncomputable def dpAll : List (List Row) → Nat
  | [] => 0
  | l :: r => max (rowsDp l) (dpAll r)
theorem dpAll_app : ∀ a b : List (List Row), dpAll (a ++ b) = max (dpAll a) (dpAll b)
  | [], b => (Nat.zero_max _).symm
  | l :: a, b => by show max (rowsDp l) (dpAll (a ++ b)) = max (max (rowsDp l) (dpAll a)) (dpAll b); rw [dpAll_app a b]; exact (Nat.max_assoc ..).symm
theorem inner_dp (r : Row) : dpAll r.inner = r.dp := by
  cases r <;> first | rfl | (show max _ 0 = _; exact Nat.max_zero _) | (show max _ (max _ 0) = max _ _; rw [Nat.max_zero])
theorem flat_dp : ∀ rs : List Row, dpAll (rs.flatMap Row.inner) + 1 = rowsDp rs
  | [] => rfl
  | r :: rs => by
    rw [List.flatMap_cons, dpAll_app, inner_dp, ← Nat.add_max_add_right, flat_dp rs]
    rfl
noncomputable def below (L : List (List Row)) : List (List Row) := L.flatMap fun rs => rs.flatMap Row.inner
theorem below_dp : ∀ L : List (List Row), L ≠ [] → dpAll (below L) + 1 = dpAll L
  | [], h => absurd rfl h
  | [l], _ => by
    show dpAll (l.flatMap Row.inner ++ []) + 1 = max (rowsDp l) 0
    rw [List.append_nil, Nat.max_zero, flat_dp l]
  | l :: l' :: r, _ => by
    show dpAll (l.flatMap Row.inner ++ below (l' :: r)) + 1 = max (rowsDp l) (dpAll (l' :: r))
    rw [dpAll_app, ← Nat.add_max_add_right, flat_dp l, below_dp (l' :: r) (fun e => nomatch e)]
theorem below_ls : ∀ L : List (List Row), lsAll (below L) + L.length = lsAll L
  | [] => rfl
  | l :: r => by
    have h1 := flat_ls l
    have h2 := below_ls r
    show lsAll (l.flatMap Row.inner ++ below r) + (r.length + 1) = rowsLs l + lsAll r
    rw [lsAll_app]
    omega
noncomputable def deBody : List CS := [.extend 16 (.call 8 [(.var 12)])]
theorem de_inner (N k : Nat) (σ : Store) : ∀ (rs : List Row) (W : List (List Row)) (ρ : Rho), lsAll W + rowsLs rs ≤ 10000 → ρ 16 = some (.cell σ.length) →
    ∃ ρ', forGo (.one 12) (fun ρ' σ' => evSs N (tabAt tab3 N (k + 1)) deBody ρ' σ') (rowsD rs) ρ (σ ++ [(.live, listsD W)]) = some (.next ρ', σ ++ [(.live, listsD (W ++ rs.flatMap Row.inner))]) ∧ ∀ j, j ≠ 12 → ρ' j = ρ j := by
  intro rs
  induction rs with
  | nil => intro W ρ _ h1; exact ⟨ρ, by rw [List.flatMap_nil, List.append_nil]; rfl, fun _ _ => rfl⟩
  | cons r rs ih =>
    intro W ρ hl h1
    have hl' : lsAll W + (r.ls + rowsLs rs) ≤ 10000 := hl
    have hin := inner_ls r
    have hlen := len_ls W
    have hlen2 := len_ls r.inner
    obtain ⟨ρ', e, i1⟩ := ih (W ++ r.inner) (Rho.set ρ 12 (.dat r.d)) (by rw [lsAll_app, hin]; omega) h1
    refine ⟨ρ', ?_, fun j hj => (i1 j hj).trans (if_neg hj)⟩
    rw [List.flatMap_cons, ← List.append_assoc, ← e]
    have hb1 : evSs N (tabAt tab3 N (k + 1)) deBody (Rho.set ρ 12 (.dat r.d)) (σ ++ [(.live, listsD W)]) = some (.next (Rho.set ρ 12 (.dat r.d)), σ ++ [(.live, listsD (W ++ r.inner))]) := by
      refine Eq.trans (r_extend (x := 16) (ρ := Rho.set ρ 12 (.dat r.d)) (c := σ.length) (ds := listsD W) (es := listsD r.inner) h1 (ev_callR (vs := [.dat r.d]) rfl (s_inner_rows N k r _)) (get_last ..) (le_lim (m := 20000) (by rw [listsD_len, listsD_len]; omega) (by decide))) ?_
      rw [set_last, es_nil, listsD_app]
    exact for_next rfl hb1
noncomputable def deOuter : List CS := [.forr (.one 12) .seq [(.var 17)] deBody]
theorem de_outer (N k : Nat) (σ : Store) : ∀ (L W : List (List Row)) (ρ : Rho), lsAll W + lsAll L ≤ 10000 → ρ 16 = some (.cell σ.length) →
    ∃ ρ', forGo (.one 17) (fun ρ' σ' => evSs N (tabAt tab3 N (k + 1)) deOuter ρ' σ') (listsD L) ρ (σ ++ [(.live, listsD W)]) = some (.next ρ', σ ++ [(.live, listsD (W ++ below L))]) ∧ ∀ j, j ≠ 12 → j ≠ 17 → ρ' j = ρ j := by
  intro L
  induction L with
  | nil => intro W ρ _ h1; exact ⟨ρ, by rw [show below [] = [] from rfl, List.append_nil]; rfl, fun _ _ _ => rfl⟩
  | cons rs L ih =>
    intro W ρ hl h1
    have hl' : lsAll W + (rowsLs rs + lsAll L) ≤ 10000 := hl
    have hfl := flat_ls rs
    obtain ⟨ρ₁, e1, i1⟩ := de_inner N k σ rs W (Rho.set ρ 17 (.dat (.tuple (rowsD rs)))) (by omega) h1
    obtain ⟨ρ', e, i2⟩ := ih (W ++ rs.flatMap Row.inner) ρ₁ (by rw [lsAll_app]; omega) ((i1 16 (by decide)).trans h1)
    refine ⟨ρ', ?_, fun j h12 h17 => (i2 j h12 h17).trans ((i1 j h12).trans (if_neg h17))⟩
    rw [show below (rs :: L) = rs.flatMap Row.inner ++ below L from rfl, ← List.append_assoc, ← e]
    exact for_next (d := .tuple (rowsD rs)) rfl (Eq.trans (r_forS (vs := [.dat (.tuple (rowsD rs))]) (ds := [.tuple (rowsD rs)]) (xs := rowsD rs) rfl rfl rfl rfl e1) es_nil)
noncomputable def deLoop : List CS := [.assign 3 (.bin .Add (.var 3) (.const (.int 1))), .newcell 16 (.lst []), .forr (.one 17) .seq [(.var 15)] deOuter, .newcell 15 (.var 16)]
theorem de_loop (N k : Nat) : ∀ (n : Nat) (σ : Store) (L : List (List Row)) (ρ : Rho) (m : Nat), dpAll L < n → lsAll L ≤ 10000 → ρ 15 = some (.cell σ.length) → ρ 3 = some (.dat (.int m)) →
    ∃ ρ' τ, whileGo (fun ρ' σ' => evE (tabAt tab3 N (k + 1)) (.cmp .Gt (.prim .len [(.var 15)]) (.const (.int 0))) ρ' σ') (fun ρ' σ' => evSs N (tabAt tab3 N (k + 1)) deLoop ρ' σ') n ρ (σ ++ [(.live, listsD L)]) = some (.next ρ', σ ++ τ) ∧ ρ' 3 = some (.dat (.int (m + dpAll L : Nat))) := by
  intro n
  induction n with
  | zero => intro _ _ _ _ h; exact absurd h (Nat.not_lt_zero _)
  | succ n ih =>
    intro σ L ρ m hn hl h1 h3
    have hlen := len_ls L
    have ht := ev_pos (ev_lenC (Φ := tabAt tab3 N (k + 1)) (xs := listsD L) h1 (get_last σ (Flag.live, listsD L)) (by rw [listsD_len]; omega))
    rw [listsD_len] at ht
    by_cases hL : L = []
    · subst hL
      exact ⟨ρ, _, wh_end ht, h3⟩
    · rw [decide_eq_true (List.length_pos_iff.mpr hL)] at ht
      have hb := below_dp L hL
      have hbl := below_ls L
      have hgl := get_last σ (Flag.live, listsD L)
      have hsl : ((σ ++ [(Flag.live, listsD L)]).set σ.length (.locked, listsD L)).length = (σ ++ [(Flag.live, listsD L)]).length := List.length_set
      obtain ⟨ρ₁, e1, i1⟩ := de_outer N k ((σ ++ [(Flag.live, listsD L)]).set σ.length (Flag.locked, listsD L)) L [] (Rho.set (Rho.set ρ 3 (.dat (.int (m + 1)))) 16 (.cell (σ ++ [(Flag.live, listsD L)]).length)) (by show 0 + _ ≤ _; omega) (by rw [hsl]; rfl)
      obtain ⟨ρ', τ, e, i2⟩ := ih (σ ++ [(.live, listsD L)]) (below L) (Rho.set ρ₁ 15 (.cell (σ ++ [(Flag.live, listsD L)]).length)) (m + 1) (by omega) (by omega) rfl ((i1 3 (by decide) (by decide)).trans rfl)
      refine ⟨ρ', [(Flag.live, listsD L)] ++ τ, ?_, by rw [i2]; congr 3; omega⟩
      rw [← List.append_assoc, ← e]
      refine wh_step ht ?_
      refine Eq.trans (r_assign (v := .dat (.int (m + 1))) (σ₁ := σ ++ [(Flag.live, listsD L)]) ?_) (Eq.trans (r_newcell (ds := []) (σ₁ := σ ++ [(Flag.live, listsD L)]) rfl) (Eq.trans (r_forC (i := 15) (j := σ.length) (ds := listsD L) (ρ' := ρ₁) (σ' := (σ ++ [(Flag.live, listsD L)]).set σ.length (Flag.locked, listsD L) ++ [(Flag.live, listsD (below L))]) (by exact h1) ?_ ?_) ?_))
      · rw [ev_bin, evV h3]; rfl
      · rw [List.getElem?_append_left (by simp)]; exact hgl
      · rw [List.set_append_left _ _ (by simp)]
        exact e1
      · rw [unlock_at hgl, es_cons, es_newcell, evV (v := .cell (σ ++ [(Flag.live, listsD L)]).length) ((i1 16 (by decide) (by decide)).trans rfl)]
        rfl
theorem dp_ls : ∀ n rs, rowsLs rs ≤ n → rowsDp rs ≤ n
  | 0, rs, h => absurd (Nat.le_trans (ls_pos rs) h) (by decide)
  | n + 1, [], _ => Nat.succ_le_succ (Nat.zero_le _)
  | n + 1, r :: rs, h => by
    have hls : r.ls + rowsLs rs ≤ n + 1 := h
    have hp := ls_pos rs
    have h2 : rowsDp rs ≤ n + 1 := dp_ls (n + 1) rs (by omega)
    have h1 : r.dp ≤ n := by
      cases r with
      | ask e y m =>
        have hy : rowsLs y + rowsLs m + rowsLs rs ≤ n + 1 := hls
        exact Nat.max_le.mpr ⟨dp_ls n y (by have := ls_pos m; omega), dp_ls n m (by have := ls_pos y; omega)⟩
      | times j l =>
        have hy : rowsLs l + rowsLs rs ≤ n + 1 := hls
        exact dp_ls n l (by omega)
      | _ => exact Nat.zero_le _
    exact Nat.max_le.mpr ⟨Nat.succ_le_succ h1, h2⟩
theorem s_depth (N k : Nat) (hN : 10000 < N) (rs : List Row) (hl : rowsLs rs ≤ 10000) (σ : Store) : tabAt tab3 N (k + 2) 11 [.dat (.tuple (rowsD rs))] σ = some (.ret (.dat (.int (rowsDp rs))), σ) := by
  rw [tab_step (by rfl : tab3[11]? = some ([14], c_depth))]
  have hd : dpAll [rs] = rowsDp rs := Nat.max_zero _
  have hdl := dp_ls 10000 rs hl
  obtain ⟨ρ', τ, e, h⟩ := de_loop N k N σ [rs] (Rho.set (Rho.set (Rho.set (fun _ => none) 14 (.dat (.tuple (rowsD rs)))) 3 (.dat (.int 0))) 15 (.cell σ.length)) 0 (by rw [hd]; omega) hl rfl rfl
  rw [hd, Nat.zero_add] at h
  exact run_cell (τ := τ) rfl (Eq.trans (r_assign (v := .dat (.int 0)) (σ₁ := σ) rfl) (Eq.trans (r_newcell (ds := [.tuple (rowsD rs)]) (σ₁ := σ) rfl) (Eq.trans (r_next ((es_whil ..).trans e)) (r_ret (evV h)))))
theorem ev_addI {Φ : Phi} {ρ : Rho} {σ : Store} {a b : CE} {x y : Int} (h1 : evE Φ a ρ σ = some (.dat (.int x), σ)) (h2 : evE Φ b ρ σ = some (.dat (.int y), σ)) : evE Φ (.bin .Add a b) ρ σ = some (.dat (.int (x + y)), σ) := ev_binR h1 h2 rfl rfl rfl
theorem ev_mulI {Φ : Phi} {ρ : Rho} {σ : Store} {a b : CE} {x y : Int} (h1 : evE Φ a ρ σ = some (.dat (.int x), σ)) (h2 : evE Φ b ρ σ = some (.dat (.int y), σ)) (h : mulOk x y = true) : evE Φ (.bin .Mult a b) ρ σ = some (.dat (.int (x * y)), σ) := ev_binR h1 h2 rfl rfl (bi_mul h)
theorem ev_ixD {Φ : Phi} {ρ : Rho} {σ : Store} {i : Nat} {m : Int} {d r : PyData} (h : ρ i = some (.dat d)) (h' : idxD d (.int m) = some r) : evE Φ (.idx (.var i) (.const (.int m))) ρ σ = some (.dat r, σ) := ev_idxR (evV h) rfl rfl rfl h'
theorem word_eq {Φ : Phi} {ρ : Rho} {σ : Store} {i : Nat} {d : PyData} {a : Fin 5} (b : Fin 5) (h : ρ i = some (.dat d)) (h' : idxD d (.int 0) = some (.str (W a))) : evE Φ (.cmp .Eq (.idx (.var i) (.const (.int 0))) (.const (.str (W b)))) ρ σ = some (.dat (.bool (a == b)), σ) := ev_cmpR (ev_ixD h h') rfl (wq a b)
noncomputable def wBody : List CS := [.assign 18 (.bin .Add (.var 18) (.const (.int 1))), .ite (.cmp .Eq (.idx (.var 12) (.const (.int 0))) (.const (.str (Str.ofString "ask")))) [.assign 18 (.bin .Add (.bin .Add (.var 18) (.call 12 [(.idx (.var 12) (.const (.int 2)))])) (.call 12 [(.idx (.var 12) (.const (.int 3)))]))] [.ite (.cmp .Eq (.idx (.var 12) (.const (.int 0))) (.const (.str (Str.ofString "times")))) [.assign 18 (.bin .Add (.var 18) (.bin .Mult (.idx (.var 12) (.const (.int 1))) (.call 12 [(.idx (.var 12) (.const (.int 2)))])))] []]]
theorem w_row (N : Nat) (Φ : Phi) (σ : Store) (r : Row) (m : Nat) (ρ : Rho) (h12 : ρ 12 = some (.dat r.d)) (h18 : ρ 18 = some (.dat (.int m))) (h8 : ∀ j l, r = .times j l → j ≤ 8) (H : ∀ l ∈ r.inner, Φ 12 [.dat (.tuple (rowsD l))] σ = some (.ret (.dat (.int (rowsWt l))), σ)) :
    ∃ ρ', evSs N Φ wBody ρ σ = some (.next ρ', σ) ∧ ρ' 18 = some (.dat (.int (m + r.wt : Nat))) := by
  have hA : evE Φ (.bin .Add (.var 18) (.const (.int 1))) ρ σ = some (.dat (.int ((m : Int) + 1)), σ) := ev_addI (evV h18) rfl
  have hcall : ∀ (ρ : Rho) (j : Int) l, ρ 12 = some (.dat r.d) → idxD r.d (.int j) = some (.tuple (rowsD l)) → l ∈ r.inner → evE Φ (.call 12 [(.idx (.var 12) (.const (.int j)))]) ρ σ = some (.dat (.int (rowsWt l)), σ) := fun ρ j l h1 h2 h3 => ev_callR (vs := [.dat (.tuple (rowsD l))]) (σ₁ := σ) (by rw [el_cons, ev_ixD h1 h2]; rfl) (H l h3)
  have plain : ∀ a : Fin 5, a ≠ 1 → a ≠ 2 → idxD r.d (.int 0) = some (.str (W a)) → r.wt = 1 → ∃ ρ', evSs N Φ wBody ρ σ = some (.next ρ', σ) ∧ ρ' 18 = some (.dat (.int (m + r.wt : Nat))) := fun a h1 h2 h0 hw => by
    have e1 := word_eq (Φ := Φ) (σ := σ) (ρ := ρ.set 18 (.dat (.int ((m : Int) + 1)))) (i := 12) 1 h12 h0
    have e2 := word_eq (Φ := Φ) (σ := σ) (ρ := ρ.set 18 (.dat (.int ((m : Int) + 1)))) (i := 12) 2 h12 h0
    rw [beq_false_of_ne h1] at e1
    rw [beq_false_of_ne h2] at e2
    exact ⟨_, Eq.trans (r_assign hA) (Eq.trans (r_next (Eq.trans (r_false e1) (Eq.trans (r_skip e2) es_nil))) es_nil), by rw [hw]; rfl⟩
  cases r with
  | put b e => exact plain 0 (by decide) (by decide) rfl rfl
  | tell e => exact plain 3 (by decide) (by decide) rfl rfl
  | stop w => exact plain 4 (by decide) (by decide) rfl rfl
  | ask e y n =>
    have e1 := word_eq (Φ := Φ) (σ := σ) (ρ := ρ.set 18 (.dat (.int ((m : Int) + 1)))) (i := 12) (a := 1) 1 h12 rfl
    refine ⟨_, Eq.trans (r_assign hA) (Eq.trans (r_next (Eq.trans (r_true e1) (Eq.trans (r_assign (v := .dat (.int ((m : Int) + 1 + (rowsWt y : Int) + rowsWt n))) (σ₁ := σ) (ev_addI (ev_addI (evV rfl) (hcall _ 2 y h12 rfl (.head _))) (hcall _ 3 n h12 rfl (.tail _ (.head _))))) es_nil))) es_nil), ?_⟩
    show some (AV.dat (.int ((m : Int) + 1 + (rowsWt y : Int) + rowsWt n))) = some (.dat (.int ((m + (1 + rowsWt y + rowsWt n) : Nat) : Int)))
    congr 3
    omega
  | times j l =>
    have e1 := word_eq (Φ := Φ) (σ := σ) (ρ := ρ.set 18 (.dat (.int ((m : Int) + 1)))) (i := 12) (a := 2) 1 h12 rfl
    have e2 := word_eq (Φ := Φ) (σ := σ) (ρ := ρ.set 18 (.dat (.int ((m : Int) + 1)))) (i := 12) (a := 2) 2 h12 rfl
    have hj := h8 j l rfl
    refine ⟨_, Eq.trans (r_assign hA) (Eq.trans (r_next (Eq.trans (r_false e1) (Eq.trans (r_next (Eq.trans (r_true e2) (Eq.trans (r_assign (v := .dat (.int ((m : Int) + 1 + (j : Int) * rowsWt l))) (σ₁ := σ) (ev_addI (evV rfl) (ev_mulI (ev_ixD h12 rfl) (hcall _ 2 l h12 rfl (.head _)) (mulOk_l (by omega))))) es_nil))) es_nil))) es_nil), ?_⟩
    show some (AV.dat (.int ((m : Int) + 1 + (j : Int) * rowsWt l))) = some (.dat (.int ((m + (1 + j * rowsWt l) : Nat) : Int)))
    rw [show (j : Int) * rowsWt l = ((j * rowsWt l : Nat) : Int) from (Int.natCast_mul ..).symm]
    congr 3
    omega
theorem w_loop (N : Nat) (Φ : Phi) (σ : Store) : ∀ (rs : List Row) (m : Nat) (ρ : Rho), ρ 18 = some (.dat (.int m)) → (∀ r ∈ rs, (∀ j l, r = .times j l → j ≤ 8) ∧ ∀ l ∈ r.inner, Φ 12 [.dat (.tuple (rowsD l))] σ = some (.ret (.dat (.int (rowsWt l))), σ)) →
    ∃ ρ', forGo (.one 12) (fun ρ' σ' => evSs N Φ wBody ρ' σ') (rowsD rs) ρ σ = some (.next ρ', σ) ∧ ρ' 18 = some (.dat (.int (m + rowsWt rs : Nat))) := by
  intro rs
  induction rs with
  | nil => intro m ρ h _; exact ⟨ρ, rfl, h⟩
  | cons r rs ih =>
    intro m ρ h H
    obtain ⟨ρ₁, e1, h1⟩ := w_row N Φ σ r m (Rho.set ρ 12 (.dat r.d)) rfl h (H r (.head _)).1 (H r (.head _)).2
    obtain ⟨ρ', e2, h2⟩ := ih (m + r.wt) ρ₁ h1 fun r' hr => H r' (.tail _ hr)
    exact ⟨ρ', (for_next rfl e1).trans e2, by rw [h2, Nat.add_assoc]; rfl⟩
theorem dp_mem : ∀ {rs : List Row} {r : Row}, r ∈ rs → r.dp + 1 ≤ rowsDp rs
  | _ :: _, _, .head _ => Nat.le_max_left ..
  | _ :: _, _, .tail _ m => Nat.le_trans (dp_mem m) (Nat.le_max_right ..)
theorem dp_inner {r : Row} {l : List Row} (h : l ∈ r.inner) : rowsDp l ≤ r.dp := by
  cases r with
  | ask e y n => rcases List.mem_cons.mp h with rfl | h; exact Nat.le_max_left ..; rw [List.mem_singleton.mp h]; exact Nat.le_max_right ..
  | times j r => rw [List.mem_singleton.mp h]; exact Nat.le_refl _
  | _ => exact nomatch h
theorem dp_pos : ∀ rs : List Row, 1 ≤ rowsDp rs
  | [] => Nat.le_refl _
  | r :: rs => Nat.le_trans (dp_pos rs) (Nat.le_max_right ..)
theorem s_weight (N ni nb : Nat) (σ : Store) : ∀ (k : Nat) (rs : List Row), rowsDp rs ≤ k → rowsOk ni nb rs → tabAt tab3 N k 12 [.dat (.tuple (rowsD rs))] σ = some (.ret (.dat (.int (rowsWt rs))), σ) := by
  intro k
  induction k with
  | zero => intro rs h; exact absurd (Nat.le_trans (dp_pos rs) h) (by decide)
  | succ k ih =>
    intro rs h ho
    rw [tab_step (by rfl : tab3[12]? = some ([14], c_weight))]
    obtain ⟨ρ', e, h'⟩ := w_loop N (tabAt tab3 N k) σ rs 0 (Rho.set (Rho.set (fun _ => none) 14 (.dat (.tuple (rowsD rs)))) 18 (.dat (.int 0))) rfl fun r hr => ⟨fun j l e => by have := ok_mem ho hr; rw [e] at this; exact this.1, fun l hl => ih l (by have := dp_mem hr; have := dp_inner hl; omega) ((ok_own (ok_mem ho hr)).2 l hl)⟩
    rw [Nat.zero_add] at h'
    exact r_runD rfl (Eq.trans (r_assign (v := .dat (.int 0)) (σ₁ := σ) rfl) (Eq.trans (r_forS (vs := [.dat (.tuple (rowsD rs))]) (ds := [.tuple (rowsD rs)]) (xs := rowsD rs) rfl rfl rfl rfl e) (r_ret (evV h'))))
theorem run_none {N : Nat} {Φ : Phi} {is : List Nat} {cs : List CS} {args : List AV} {σ : Store} {ρ ρ' : Rho} (h : bindArgsR is args (fun _ => none) = some ρ) (h' : evSs N Φ cs ρ σ = some (.next ρ', σ)) : runF N Φ is cs args σ = some (.ret (.dat .none), σ) := by
  rw [x_run, h, Option.bind_some, h']
  show some (CR.ret (.dat .none), σ.take σ.length) = _
  rw [List.take_length]
structure Prog (rs : List (Int × Int)) (nb : Nat) (rows : List Row) : Prop extends ProgOk rs nb rows where
  dp : rowsDp rows ≤ 6
  wt : rowsWt rows ≤ 200
theorem s_need_program (N k : Nat) (hN : 10000 < N) (rs : List (Int × Int)) (nb : Nat) (rows : List Row) (P : Prog rs nb rows) (σ : Store) : tabAt tab3 N (k + 7) 13 [.dat (progD rs nb rows)] σ = some (.ret (.dat .none), σ) := by
  rw [tab_step (by rfl : tab3[13]? = some ([0], c_need_program))]
  have h1 := s_is_program N k hN rs nb rows P.toProgOk σ
  have h2 := s_depth N (k + 4) hN rows P.ls σ
  have h3 := s_weight N rs.length nb σ (k + 6) rows (by have := P.dp; omega) P.ok
  have e2 : cmpD .Gt (.int (rowsDp rows)) (.int 6) = some false := by rw [cm_gt, decide_eq_false (by have := P.dp; omega)]
  have e3 : cmpD .Gt (.int (rowsWt rows)) (.int 200) = some false := by rw [cm_gt, decide_eq_false (by have := P.wt; omega)]
  exact run_none rfl (Eq.trans (r_skip (σ₁ := σ) (ev_notT (p := true) (ev_callR rfl h1))) (Eq.trans (r_skip (σ₁ := σ) (ev_or2 (p := false) (q := false) (ev_cmpR (ev_callR rfl h2) rfl e2) fun _ => ev_cmpR (ev_callR rfl h3) rfl e3)) es_nil))
noncomputable def dot (a b : List Int) : Int := (List.zipWith (· * ·) a b).sum
noncomputable def Ex.val (e : Ex) (xs bs : List Int) : Int := e.c + dot e.f xs + dot e.o bs
noncomputable def zBody : List CS := [.assign 18 (.bin .Add (.var 18) (.bin .Mult (.var 23) (.var 8)))]
theorem z_loop (N : Nat) (Φ : Phi) : ∀ (fs xs : List Int) (m : Int) (ρ : Rho), (∀ f ∈ fs, f.natAbs ≤ 3) → ρ 18 = some (.dat (.int m)) →
    ∃ ρ', (∀ σ, forGo (.many [23, 8]) (fun ρ' σ' => evSs N Φ zBody ρ' σ') (((fs.map PyData.int).zip (xs.map PyData.int)).map fun p => .tuple [p.1, p.2]) ρ σ = some (.next ρ', σ)) ∧ ρ' 18 = some (.dat (.int (m + dot fs xs))) ∧ ∀ j, j ≠ 23 → j ≠ 8 → j ≠ 18 → ρ' j = ρ j := by
  intro fs
  induction fs with
  | nil => intro xs m ρ _ h; exact ⟨ρ, fun _ => rfl, by rw [h]; show some (AV.dat (.int m)) = some (.dat (.int (m + 0))); rw [Int.add_zero], fun _ _ _ _ => rfl⟩
  | cons f fs ih =>
    intro xs m ρ hf h
    cases xs with
    | nil => exact ⟨ρ, fun _ => rfl, by rw [h]; show some (AV.dat (.int m)) = some (.dat (.int (m + 0))); rw [Int.add_zero], fun _ _ _ _ => rfl⟩
    | cons x xs =>
      have hm : mulOk f x = true := mulOk_l (by have := hf f (.head _); omega)
      obtain ⟨ρ', e, h1, h2⟩ := ih xs (m + f * x) (Rho.set (Rho.set (Rho.set ρ 23 (.dat (.int f))) 8 (.dat (.int x))) 18 (.dat (.int (m + f * x)))) (fun g hg => hf g (.tail _ hg)) rfl
      refine ⟨ρ', fun σ => (for_next (ρ₁ := Rho.set (Rho.set ρ 23 (.dat (.int f))) 8 (.dat (.int x))) rfl (Eq.trans (r_assign (v := .dat (.int (m + f * x))) (σ₁ := σ) (ev_addI (evV (by exact h)) (ev_mulI (evV rfl) (evV rfl) hm))) es_nil)).trans (e σ), ?_, fun j j1 j2 j3 => (h2 j j1 j2 j3).trans ((if_neg j3).trans ((if_neg j2).trans (if_neg j1)))⟩
      rw [h1]
      show some (AV.dat (.int (m + f * x + dot fs xs))) = some (.dat (.int (m + (f * x + dot fs xs))))
      rw [Int.add_assoc]
theorem unlock_same {σ : Store} {j : Nat} {ds : List PyData} (hj : σ[j]? = some (.live, ds)) : flagAll .live [j] (σ.set j (.locked, ds)) = σ := by
  have hjl : j < σ.length := (List.getElem?_eq_some_iff.mp hj).1
  have : (σ.set j (.locked, ds))[j]? = some (.locked, ds) := by rw [List.getElem?_set_self hjl]
  simp only [flagAll, this]
  rw [List.set_set]
  apply List.ext_getElem?
  intro i
  rw [List.getElem?_set]
  split
  · rename_i e; subst e; exact hj.symm
  · rfl
theorem r_forZ {N : Nat} {Φ : Phi} {ρ ρ' : Rho} {σ : Store} {t : Tgt} {i a c : Nat} {fs ds xs : List PyData} {body cs : List CS} (ha : ρ a = some (.dat (.tuple fs))) (hi : ρ i = some (.cell c)) (hc : σ[c]? = some (.live, ds)) (hx : xs = (fs.zip ds).map fun p => .tuple [p.1, p.2])
    (h5 : ∀ σ, forGo t (fun ρ' σ' => evSs N Φ body ρ' σ') xs ρ σ = some (.next ρ', σ)) : evSs N Φ (.forr t .zip [.var a, .var i] body :: cs) ρ σ = evSs N Φ cs ρ' σ := by
  have h1 : evEs Φ [.var a, .var i] ρ σ = some ([.dat (.tuple fs), .cell c], σ) := el_var (v := .dat (.tuple fs)) ha (el_var hi rfl)
  have h2 : liveOf σ [.dat (.tuple fs), .cell c] = [c] := by simp only [liveOf, hc, List.append_nil]
  have h3 : rdAll σ [.dat (.tuple fs), .cell c] = some [.tuple fs, .list ds] := by rw [x_ra1, x_rdD, x_ra1, x_rdC, hc]; rfl
  have h4 : flagAll .locked [c] σ = σ.set c (.locked, ds) := by simp only [flagAll, hc]
  refine r_next ?_
  rw [es_forr, h1, Option.bind_some, h3, Option.bind_some, show itemsD .zip [.tuple fs, .list ds] = some xs from by rw [hx]; rfl, Option.bind_some, h2, h4, h5, Option.bind_some, unlock_same hc]
theorem s_worth (N k ni nb : Nat) (e : Ex) (ho : e.ok ni nb) (xs bs : List Int) (σ : Store) (c : Nat) (hc : σ[c]? = some (.live, bs.map .int)) : tabAt tab3 N (k + 1) 14 [.dat e.d, .dat (.list (xs.map .int)), .cell c] σ = some (.ret (.dat (.int (e.val xs bs))), σ) := by
  rw [tab_step (by rfl : tab3[14]? = some ([19, 6, 9], c_worth))]
  obtain ⟨ρ₁, e1, h1, k1⟩ := z_loop N (tabAt tab3 N k) e.f xs e.c (Rho.set (Rho.set (Rho.set (Rho.set (Rho.set (Rho.set (Rho.set (fun _ => none) 19 (.dat e.d)) 6 (.dat (.list (xs.map .int)))) 9 (.cell c)) 20 (.dat (.int e.c))) 21 (.dat (.tuple (e.f.map .int)))) 22 (.dat (.tuple (e.o.map .int)))) 18 (.dat (.int e.c))) ho.sf rfl
  obtain ⟨ρ₂, e2, h2, _⟩ := z_loop N (tabAt tab3 N k) e.o bs (e.c + dot e.f xs) ρ₁ ho.so h1
  exact r_runD rfl (Eq.trans (r_next (ρ₁ := Rho.set (Rho.set (Rho.set (Rho.set (Rho.set (Rho.set (fun _ => none) 19 (.dat e.d)) 6 (.dat (.list (xs.map .int)))) 9 (.cell c)) 20 (.dat (.int e.c))) 21 (.dat (.tuple (e.f.map .int)))) 22 (.dat (.tuple (e.o.map .int)))) (σ₁ := σ) rfl) (Eq.trans (r_assign (v := .dat (.int e.c)) (σ₁ := σ) rfl) (Eq.trans (r_forS (vs := [.dat (.tuple (e.f.map .int)), .dat (.list (xs.map .int))]) (ds := [.tuple (e.f.map .int), .list (xs.map .int)]) rfl rfl rfl rfl (e1 σ)) (Eq.trans (r_forZ (a := 22) (i := 9) ((k1 22 (by decide) (by decide) (by decide)).trans rfl) ((k1 9 (by decide) (by decide) (by decide)).trans rfl) hc rfl e2) (r_ret (evV h2))))))
structure Sees (σ : Store) (v : AV) (xs : List Int) : Prop where
  rd : rd σ v = some (.list (xs.map .int))
  st : settle v = v
theorem ev_lenV {Φ : Phi} {ρ : Rho} {σ : Store} {i : Nat} {v : AV} {xs : List Int} (h : ρ i = some v) (hv : Sees σ v xs) (hl : xs.length ≤ 1000) : evE Φ (.prim .len [.var i]) ρ σ = some (.dat (.int xs.length), σ) := by
  rw [ev_prim, el_cons, evV h, Option.bind_some, el_nil]
  show (rdAll σ [settle v]).bind _ = _
  rw [hv.st, x_ra1, hv.rd]
  show (primD .len [.list (xs.map .int)]).bind _ = _
  rw [pl_list (le_lim (m := 1000) (by rw [List.length_map]; exact hl) (by decide)), List.length_map]
  rfl
theorem ix_ls {xs : List Int} {k : Nat} (hl : xs.length ≤ 1000) (hk : k < xs.length) : idxD (.list (xs.map .int)) (.int k) = some (.int (at0 xs k)) :=
  ix_list (by omega) (by simp [at0, List.getD, List.getElem?_eq_getElem hk])
theorem ix_tp {xs : List Int} {k : Nat} (hl : xs.length ≤ 1000) (hk : k < xs.length) : idxD (.tuple (xs.map .int)) (.int k) = some (.int (at0 xs k)) :=
  ix_tuple (by omega) (by simp [at0, List.getD, List.getElem?_eq_getElem hk])
theorem ev_dot {Φ : Phi} {ρ : Rho} {σ : Store} {i : Nat} {m : Int} {v : AV} {e : Ex} {fs xs : List Int} (he : ρ 43 = some (.dat e.d)) (hm : idxD e.d (.int m) = some (.tuple (fs.map .int))) (hi : ρ i = some v) (h27 : i ≠ 27) (hv : Sees σ v xs) (hl : xs.length ≤ 100) (hf : fs.length = xs.length) (hs : ∀ f ∈ fs, f.natAbs ≤ 3) :
    evE Φ (.prim .sum [(.comp (.bin .Mult (.idx (.idx (.var 43) (.const (.int m))) (.var 27)) (.idx (.var i) (.var 27))) (.one 27) .range1 [(.prim .len [(.var i)])] [])]) ρ σ = some (.dat (.int (dot fs xs)), σ) := by
  have hlim : (List.range xs.length).length ≤ lim := le_lim (m := 100) (by simpa using hl) (by decide)
  have hc := ev_compA (Φ := Φ) (ρ := ρ) (σ := σ) (ce := .bin .Mult (.idx (.idx (.var 43) (.const (.int m))) (.var 27)) (.idx (.var i) (.var 27))) (t := .one 27) (k := .range1) (its := [(.prim .len [(.var i)])])
    (vs := [.dat (.int xs.length)]) (ds := [.int xs.length]) (List.range xs.length) (fun k => .int (k : Nat)) (fun k => .int (at0 fs k * at0 xs k))
    (by rw [el_cons, ev_lenV hi hv (by omega)]; rfl) rfl rfl (range_it (by omega)) hlim (fun x hx => ⟨_, rfl, by
      have hx' := List.mem_range.mp hx
      have := hs _ (at0_mem (fs := fs) (k := x) (by omega))
      refine ev_mulI (ev_idxR (x := .dat (.tuple (fs.map .int))) (ev_ixD (by exact he) hm) (evV (v := .dat (.int x)) rfl) rfl rfl (ix_tp (by omega) (by omega))) (ev_idxR (evV (v := v) ?_) (evV (v := .dat (.int x)) rfl) hv.rd rfl (ix_ls (by omega) hx')) (mulOk_l (by omega))
      exact (if_neg h27).trans hi⟩)
  have hz : (List.range xs.length).map (fun k => PyData.int (at0 fs k * at0 xs k)) = (List.zipWith (· * ·) fs xs).map .int := by
    rw [range_zip (fun x y => PyData.int (x * y)) hf rfl, List.map_zipWith]
  rw [hz] at hc
  rw [ev_prim, el_cons, hc, Option.bind_some, el_nil]
  show (primD .sum [.list ((List.zipWith (· * ·) fs xs).map .int)]).bind _ = _
  rw [pa_sum]
  rfl
theorem s_value (N k ni nb : Nat) (hi : ni ≤ 3) (hb : nb ≤ 6) (e : Ex) (ho : e.ok ni nb) (xs bs : List Int) (hx : xs.length = ni) (hbs : bs.length = nb) (σ : Store) (v u : AV) (hv : Sees σ v xs) (hu : Sees σ u bs) : tabAt tab3 N (k + 1) 25 [.dat e.d, v, u] σ = some (.ret (.dat (.int (e.val xs bs))), σ) := by
  rw [tab_step (by rfl : tab3[25]? = some ([43, 50, 51], c__law_value))]
  refine r_runD rfl (Eq.trans (r_assign (v := .dat (.int (e.c + dot e.f xs))) (σ₁ := σ) (ev_addI (ev_ixD rfl rfl) (ev_dot rfl rfl rfl (by decide) hv (by omega) (ho.nf.trans hx.symm) ho.sf))) (r_ret (ev_addI (evV rfl) (ev_dot rfl rfl rfl (by decide) hu (by omega) (ho.no.trans hbs.symm) ho.so))))
theorem r_setItem {N : Nat} {Φ : Phi} {ρ : Rho} {σ : Store} {x c : Nat} {i e : CE} {cs : List CS} {k : Nat} {d : PyData} {ds : List PyData} (hx : ρ x = some (.cell c)) (h : evE Φ e ρ σ = some (.dat d, σ)) (hi : evE Φ i ρ σ = some (.dat (.int k), σ)) (hc : σ[c]? = some (.live, ds)) (hk : k < ds.length) (hl : ds.length ≤ 1000) : evSs N Φ (.setItem x i e :: cs) ρ σ = evSs N Φ cs ρ (σ.set c (.live, ds.set k d)) := by
  rw [es_cons, es_setItem, show cellIn ρ x = some c by rw [cellIn, hx]; rfl, Option.bind_some, h]
  show ((evE Φ i ρ σ).bind _).bind _ = _
  rw [hi]
  show ((liveAt σ c).bind _).bind _ = _
  rw [show liveAt σ c = some ds by rw [liveAt, hc], Option.bind_some, if_pos ⟨Int.natCast_nonneg _, hk, le_lim (m := 1000) hl (by decide)⟩]
  rfl
noncomputable def rT : CE := (.cmp .Gt (.prim .len [(.var 13)]) (.const (.int (0))))
noncomputable def rB : List CS := [.assign 12 (.idx (.var 13) (.const (.int (0)))), .newcell 13 (.slice (.var 13) (.const (.int (1))) (.const .none)), .ite (.cmp .Eq (.idx (.var 12) (.const (.int (0)))) (.const (.str (Str.ofString "put")))) [.setItem 9 (.idx (.var 12) (.const (.int (1)))) (.call 14 [(.idx (.var 12) (.const (.int (2)))), (.var 6), (.var 9)])] [.ite (.cmp .Eq (.idx (.var 12) (.const (.int (0)))) (.const (.str (Str.ofString "ask")))) [.assign 25 (.ite (.cmp .GtE (.call 14 [(.idx (.var 12) (.const (.int (1)))), (.var 6), (.var 9)]) (.const (.int (0)))) (.idx (.var 12) (.const (.int (2)))) (.idx (.var 12) (.const (.int (3))))), .newcell 13 (.bin .Add (.var 25) (.var 13))] [.ite (.cmp .Eq (.idx (.var 12) (.const (.int (0)))) (.const (.str (Str.ofString "times")))) [.newcell 13 (.bin .Add (.bin .Mult (.idx (.var 12) (.const (.int (2)))) (.idx (.var 12) (.const (.int (1))))) (.var 13))] [.ite (.cmp .Eq (.idx (.var 12) (.const (.int (0)))) (.const (.str (Str.ofString "tell")))) [.ret (.tup [(.const (.str (Str.ofString "told"))), (.call 14 [(.idx (.var 12) (.const (.int (1)))), (.var 6), (.var 9)])])] [.ret (.tup [(.const (.str (Str.ofString "stop"))), (.idx (.var 12) (.const (.int (1))))])]]]]]
noncomputable def gT : CE := (.cmp .NotEq (.var 46) (.lst []))
noncomputable def gB : List CS := [.assign 53 (.pop0 46), .ite (.cmp .Eq (.idx (.var 53) (.const (.int (0)))) (.const (.str (Str.ofString "tell")))) [.ret (.tup [(.const (.str (Str.ofString "told"))), (.call 25 [(.idx (.var 53) (.const (.int (1)))), (.var 50), (.var 51)])])] [], .ite (.cmp .Eq (.idx (.var 53) (.const (.int (0)))) (.const (.str (Str.ofString "stop")))) [.ret (.var 53)] [], .ite (.cmp .Eq (.idx (.var 53) (.const (.int (0)))) (.const (.str (Str.ofString "put")))) [.setItem 51 (.idx (.var 53) (.const (.int (1)))) (.call 25 [(.idx (.var 53) (.const (.int (2)))), (.var 50), (.var 51)])] [.ite (.cmp .Eq (.idx (.var 53) (.const (.int (0)))) (.const (.str (Str.ofString "times")))) [.newcell 46 (.bin .Add (.bin .Mult (.prim .list [(.idx (.var 53) (.const (.int (2))))]) (.idx (.var 53) (.const (.int (1))))) (.var 46))] [.ite (.cmp .Lt (.call 25 [(.idx (.var 53) (.const (.int (1)))), (.var 50), (.var 51)]) (.const (.int (0)))) [.newcell 46 (.bin .Add (.prim .list [(.idx (.var 53) (.const (.int (3))))]) (.var 46))] [.newcell 46 (.bin .Add (.prim .list [(.idx (.var 53) (.const (.int (2))))]) (.var 46))]]]]
inductive Res where
  | told (x : Int)
  | stop (w : Str)
  | fin
noncomputable def Res.d : Res → PyData
  | .told x => .tuple [.str (Str.ofString "told"), .int x]
  | .stop w => .tuple [sStop, .str w]
  | .fin => .tuple [.str (Str.ofString "end")]
noncomputable def side (b : Bool) (y n : List Row) : List Row := if b then y else n
inductive Nx where
  | go (R : List Row) (bs : List Int)
  | res (r : Res)
noncomputable def stp (xs : List Int) (rest : List Row) (bs : List Int) : Row → Nx
  | .put b e => .go rest (bs.set b (e.val xs bs))
  | .ask e y n => .go (side (decide (0 ≤ e.val xs bs)) y n ++ rest) bs
  | .times k l => .go ((List.replicate k l).flatten ++ rest) bs
  | .tell e => .res (.told (e.val xs bs))
  | .stop w => .res (.stop w)
noncomputable def goR (xs : List Int) : Nat → List Row → List Int → Res
  | 0, _, _ => .fin
  | _ + 1, [], _ => .fin
  | n + 1, r :: rest, bs => match stp xs rest bs r with
    | .go R bs' => goR xs n R bs'
    | .res q => q
theorem rowsD_app (a b : List Row) : rowsD (a ++ b) = rowsD a ++ rowsD b := by rw [rowsD_map, rowsD_map, rowsD_map, List.map_append]
theorem rowsD_rep (k : Nat) (l : List Row) : rowsD (List.replicate k l).flatten = (List.replicate k (rowsD l)).flatten := by
  rw [rowsD_map, rowsD_map, List.map_flatten, List.map_replicate]
theorem rowsD_len (l : List Row) : (rowsD l).length = l.length := by rw [rowsD_map, List.length_map]
theorem wt_rep (k : Nat) (l : List Row) : rowsWt (List.replicate k l).flatten = k * rowsWt l := by
  induction k with
  | zero => rw [Nat.zero_mul]; rfl
  | succ k ih => rw [List.replicate_succ, List.flatten_cons, wt_app, ih, Nat.succ_mul, Nat.add_comm]
theorem sz_pos (r : Row) : 1 ≤ r.sz := by
  cases r <;> first | exact Nat.le_refl _ | (show 1 ≤ 1 + _; omega) | (show 1 ≤ 1 + _ + _; omega)
theorem sz_mem : ∀ {rs : List Row} {r : Row}, r ∈ rs → r.sz ≤ rowsSz rs
  | _ :: _, _, .head _ => Nat.le_add_right ..
  | _ :: _, _, .tail _ m => Nat.le_trans (sz_mem m) (Nat.le_add_left ..)
theorem len_sz : ∀ rs : List Row, rs.length ≤ rowsSz rs
  | [] => Nat.le_refl _
  | r :: rs => by have := sz_pos r; have := len_sz rs; show rs.length + 1 ≤ r.sz + rowsSz rs; omega
theorem sz_inner {r : Row} {l : List Row} (h : l ∈ r.inner) : rowsSz l ≤ r.sz := by
  cases r with
  | ask e y n => rcases List.mem_cons.mp h with rfl | h; (show rowsSz l ≤ 1 + rowsSz l + _; omega); rw [List.mem_singleton.mp h]; show rowsSz n ≤ 1 + _ + rowsSz n; omega
  | times j r => rw [List.mem_singleton.mp h]; show rowsSz r ≤ 1 + rowsSz r; omega
  | _ => exact nomatch h
structure Good (ni nb : Nat) (R : List Row) : Prop where
  ok : ∀ r ∈ R, r.ok ni nb
  dp : ∀ r ∈ R, r.dp ≤ 20
  sz : ∀ r ∈ R, r.sz ≤ 1000
theorem Good.app {ni nb : Nat} {a b : List Row} (h : Good ni nb a) (h' : Good ni nb b) : Good ni nb (a ++ b) := ⟨fun r hr => (List.mem_append.mp hr).elim (h.ok r) (h'.ok r), fun r hr => (List.mem_append.mp hr).elim (h.dp r) (h'.dp r), fun r hr => (List.mem_append.mp hr).elim (h.sz r) (h'.sz r)⟩
theorem Good.rep {ni nb : Nat} {a : List Row} (h : Good ni nb a) (k : Nat) : Good ni nb (List.replicate k a).flatten := by
  have key : ∀ r ∈ (List.replicate k a).flatten, r ∈ a := fun r hr => by
    obtain ⟨l, hl, hr⟩ := List.mem_flatten.mp hr
    rw [(List.mem_replicate.mp hl).2] at hr
    exact hr
  exact ⟨fun r hr => h.ok r (key r hr), fun r hr => h.dp r (key r hr), fun r hr => h.sz r (key r hr)⟩
theorem Good.inner {ni nb : Nat} {r : Row} (h : r.ok ni nb) (hd : r.dp ≤ 20) (hz : r.sz ≤ 1000) {l : List Row} (hl : l ∈ r.inner) : Good ni nb l :=
  ⟨fun q hq => ok_mem ((ok_own h).2 l hl) hq, fun q hq => by have := dp_mem hq; have := dp_inner hl; omega, fun q hq => by have := sz_mem hq; have := sz_inner hl; omega⟩
theorem stp_good {ni nb : Nat} {xs : List Int} {rest : List Row} {bs : List Int} {r : Row} (h : Good ni nb (r :: rest)) (hb : bs.length = nb) {R : List Row} {bs' : List Int} (e : stp xs rest bs r = .go R bs') : Good ni nb R ∧ rowsWt R < rowsWt (r :: rest) ∧ bs'.length = nb := by
  have hr := h.ok r (.head _)
  have hd := h.dp r (.head _)
  have hz := h.sz r (.head _)
  have hrest : Good ni nb rest := ⟨fun q hq => h.ok q (.tail _ hq), fun q hq => h.dp q (.tail _ hq), fun q hq => h.sz q (.tail _ hq)⟩
  cases r with
  | put b x =>
    cases e
    exact ⟨hrest, by show rowsWt rest < 1 + rowsWt rest; omega, by rw [List.length_set]; exact hb⟩
  | ask x y n =>
    cases e
    refine ⟨Good.app ?_ hrest, ?_, hb⟩
    · cases decide (0 ≤ x.val xs bs) with
      | true => exact Good.inner hr hd hz (.head _)
      | false => exact Good.inner hr hd hz (.tail _ (.head _))
    · show rowsWt (_ ++ rest) < 1 + rowsWt y + rowsWt n + rowsWt rest
      rw [wt_app]
      cases decide (0 ≤ x.val xs bs) with
      | true => show rowsWt y + _ < _; omega
      | false => show rowsWt n + _ < _; omega
  | times k l =>
    cases e
    refine ⟨(Good.rep (Good.inner hr hd hz (.head _)) k).app hrest, ?_, hb⟩
    show rowsWt (_ ++ rest) < 1 + k * rowsWt l + rowsWt rest
    rw [wt_app, wt_rep]
    omega
  | tell x => cases e
  | stop w => cases e
theorem ev_callW {Φ : Phi} {ρ : Rho} {σ : Store} {f i a b : Nat} {m : Int} {d x : PyData} {u v r : AV} (h : ρ i = some (.dat d)) (hx : idxD d (.int m) = some x) (ha : ρ a = some u) (hb : ρ b = some v) (hu : settle u = u) (hv : settle v = v) (hc : Φ f [.dat x, u, v] σ = some (.ret r, σ)) : evE Φ (.call f [(.idx (.var i) (.const (.int m))), (.var a), (.var b)]) ρ σ = some (r, σ) := by
  refine ev_callR (vs := [.dat x, u, v]) (σ₁ := σ) ?_ hc
  rw [el_cons, ev_ixD h hx, Option.bind_some, el_var ha (el_var hb rfl), hu, hv]
  rfl
theorem r_taken' {N : Nat} {Φ : Phi} {ρ : Rho} {σ σ₁ : Store} {c : CS} {cs : List CS} {v : AV} (h : evS N Φ c ρ σ = some (.ret v, σ₁)) : evSs N Φ (c :: cs) ρ σ = some (.ret v, σ₁) := r_stop h
theorem flat_len' {α : Type} (n : Nat) (xs : List α) : ((List.replicate n xs).flatten).length = n * xs.length := by simp
theorem ev_tup2 {Φ : Phi} {ρ : Rho} {σ : Store} {a b : CE} {d e : PyData} (h1 : evE Φ a ρ σ = some (.dat d, σ)) (h2 : evE Φ b ρ σ = some (.dat e, σ)) : evE Φ (.tup [a, b]) ρ σ = some (.dat (.tuple [d, e]), σ) := by
  rw [ev_tup, el_cons, h1, Option.bind_some, el_cons, h2]
  rfl
section
variable {N k ni nb : Nat} (hi : ni ≤ 3) (hb : nb ≤ 6) {xs bs : List Int} (hbs : bs.length = nb) {r : Row} {rest : List Row} (hr : r.ok ni nb) (hw : rowsWt (r :: rest) ≤ 200) {σ : Store} {ρ : Rho} (h13 : ρ 13 = some (.dat (.tuple (rowsD (r :: rest))))) (h9 : ρ 9 = some (.cell σ.length)) (h6 : ρ 6 = some (.dat (.list (xs.map .int))))
include hb hbs hr hw h13 h9 h6
theorem run_step : match stp xs rest bs r with
    | .go R bs' => ∃ ρ', evSs N (tabAt tab3 N (k + 1)) rB ρ (σ ++ [(.live, bs.map .int)]) = some (.next ρ', σ ++ [(.live, bs'.map .int)]) ∧ ρ' 13 = some (.dat (.tuple (rowsD R))) ∧ ρ' 9 = some (.cell σ.length) ∧ ρ' 6 = some (.dat (.list (xs.map .int)))
    | .res q => evSs N (tabAt tab3 N (k + 1)) rB ρ (σ ++ [(.live, bs.map .int)]) = some (.ret (.dat q.d), σ ++ [(.live, bs.map .int)]) := by
  have hlen := len_wt (r :: rest)
  have hlr : (rowsD rest).length ≤ 200 := by rw [rowsD_len]; have : rest.length + 1 ≤ rowsWt (r :: rest) := hlen; omega
  have s1 : evE (tabAt tab3 N (k + 1)) (.idx (.var 13) (.const (.int 0))) ρ (σ ++ [(.live, bs.map .int)]) = some (.dat r.d, σ ++ [(.live, bs.map .int)]) := ev_ixD h13 rfl
  have s2 : evE (tabAt tab3 N (k + 1)) (.slice (.var 13) (.const (.int 1)) (.const .none)) (ρ.set 12 (.dat r.d)) (σ ++ [(.live, bs.map .int)]) = some (.dat (.tuple (rowsD rest)), σ ++ [(.live, bs.map .int)]) := by
    have hs : sliceD (.tuple (rowsD (r :: rest))) (.int 1) .none = some (.dat (.tuple (rowsD rest))) := sl_tB (ds := r.d :: rowsD rest) (m := 1) (by show (rowsD rest).length + 1 ≤ 1000; omega) (by decide)
    rw [ev_slice, evV (v := .dat (.tuple (rowsD (r :: rest)))) (by exact h13), Option.bind_some]
    show (sliceD (.tuple (rowsD (r :: rest))) (.int 1) .none).bind _ = _
    rw [hs]
    rfl
  have st : ∀ {fl : Option (Fl × Store)}, evSs N (tabAt tab3 N (k + 1)) (rB.drop 2) ((ρ.set 12 (.dat r.d)).set 13 (.dat (.tuple (rowsD rest)))) (σ ++ [(.live, bs.map .int)]) = fl → evSs N (tabAt tab3 N (k + 1)) rB ρ (σ ++ [(.live, bs.map .int)]) = fl := fun h => Eq.trans (r_assign s1) (Eq.trans (r_newdat s2) h)
  have hg := get_last σ (Flag.live, bs.map PyData.int)
  have hworth : ∀ (ρ : Rho) (m : Int) (e : Ex), ρ 12 = some (.dat r.d) → ρ 6 = some (.dat (.list (xs.map .int))) → ρ 9 = some (.cell σ.length) → idxD r.d (.int m) = some e.d → e.ok ni nb → evE (tabAt tab3 N (k + 1)) (.call 14 [(.idx (.var 12) (.const (.int m))), (.var 6), (.var 9)]) ρ (σ ++ [(.live, bs.map .int)]) = some (.dat (.int (e.val xs bs)), σ ++ [(.live, bs.map .int)]) := fun ρ m e a1 a2 a3 a4 a5 => ev_callW a1 a4 a2 a3 rfl rfl (s_worth N k ni nb e a5 xs bs _ σ.length hg)
  have wd : ∀ (a b : Fin 5), idxD r.d (.int 0) = some (.str (W a)) → evE (tabAt tab3 N (k + 1)) (.cmp .Eq (.idx (.var 12) (.const (.int 0))) (.const (.str (W b)))) ((ρ.set 12 (.dat r.d)).set 13 (.dat (.tuple (rowsD rest)))) (σ ++ [(.live, bs.map .int)]) = some (.dat (.bool (a == b)), σ ++ [(.live, bs.map .int)]) := fun a b h => word_eq (d := r.d) b rfl h
  cases r with
  | put b e =>
    refine ⟨(ρ.set 12 (.dat (Row.put b e).d)).set 13 (.dat (.tuple (rowsD rest))), st (Eq.trans (r_next (Eq.trans (r_true (wd 0 0 rfl)) (Eq.trans (r_setItem (k := b) (d := .int (e.val xs bs)) (by exact h9) (hworth _ 2 e rfl (by exact h6) (by exact h9) rfl hr.2) (ev_ixD rfl rfl) hg (by rw [List.length_map, hbs]; exact hr.1) (by rw [List.length_map]; omega)) es_nil))) ?_), rfl, h9, h6⟩
    rw [es_nil, set_last, List.map_set]
  | ask e y n =>
    have hy : rowsWt y + rowsWt n + rowsWt rest < 200 := by have : 1 + rowsWt y + rowsWt n + rowsWt rest ≤ 200 := hw; omega
    have ly := len_wt y
    have ln := len_wt n
    have hs : evE (tabAt tab3 N (k + 1)) (.ite (.cmp .GtE (.call 14 [(.idx (.var 12) (.const (.int 1))), (.var 6), (.var 9)]) (.const (.int 0))) (.idx (.var 12) (.const (.int 2))) (.idx (.var 12) (.const (.int 3)))) ((ρ.set 12 (.dat (Row.ask e y n).d)).set 13 (.dat (.tuple (rowsD rest)))) (σ ++ [(.live, bs.map .int)]) = some (.dat (.tuple (rowsD (side (decide (0 ≤ e.val xs bs)) y n))), σ ++ [(.live, bs.map .int)]) := by
      rw [ev_ite, ev_cmpR (hworth _ 1 e rfl (by exact h6) (by exact h9) rfl hr.1) rfl (cm_ge _ _), Option.bind_some]
      show (if decide (0 ≤ e.val xs bs) = true then _ else _) = _
      cases decide (0 ≤ e.val xs bs) with
      | true => rfl
      | false => rfl
    refine ⟨_, st (Eq.trans (r_next (Eq.trans (r_false (wd 1 0 rfl)) (Eq.trans (r_next (Eq.trans (r_true (wd 1 1 rfl)) (Eq.trans (r_assign hs) (Eq.trans (r_newdat (d := .tuple (rowsD (side (decide (0 ≤ e.val xs bs)) y n ++ rest))) (ev_binR (evV rfl) (evV rfl) rfl rfl ?_)) es_nil)))) es_nil))) es_nil), rfl, h9, h6⟩
    rw [rowsD_app]
    refine bi_addT (le_lim (m := 1000) ?_ (by decide))
    rw [rowsD_len]
    cases decide (0 ≤ e.val xs bs) with
    | true => show y.length + _ ≤ _; omega
    | false => show n.length + _ ≤ _; omega
  | times j l =>
    have hj : 1 + j * rowsWt l + rowsWt rest ≤ 200 := hw
    have ll := len_wt l
    have hjl : j * l.length ≤ 200 := Nat.le_trans (Nat.mul_le_mul_left _ ll) (by omega)
    have hj8 : j ≤ 8 := hr.1
    refine ⟨_, st (Eq.trans (r_next (Eq.trans (r_false (wd 2 0 rfl)) (Eq.trans (r_next (Eq.trans (r_false (wd 2 1 rfl)) (Eq.trans (r_next (Eq.trans (r_true (wd 2 2 rfl)) (Eq.trans (r_newdat (d := .tuple (rowsD ((List.replicate j l).flatten ++ rest))) (ev_binR (x := .dat (.tuple (List.replicate j (rowsD l)).flatten)) (ev_binR (ev_ixD rfl rfl) (ev_ixD rfl rfl) rfl rfl ?_) (evV rfl) rfl rfl ?_)) es_nil))) es_nil))) es_nil))) es_nil), rfl, h9, h6⟩
    · show (if ((j : Int)).natAbs * (rowsD l).length ≤ 65536 ∧ ((j : Int)).natAbs ≤ 65536 then some (AV.dat (.tuple ((List.replicate (j : Int).toNat (rowsD l)).flatten))) else none) = _
      rw [if_pos ⟨by rw [rowsD_len]; show j * l.length ≤ _; omega, by show j ≤ _; omega⟩]
      rfl
    · rw [rowsD_app, rowsD_rep]
      refine bi_addT (le_lim (m := 1000) ?_ (by decide))
      rw [flat_len', rowsD_len]
      omega
  | tell e => exact st (r_taken' (Eq.trans (r_false (wd 3 0 rfl)) (r_taken' (Eq.trans (r_false (wd 3 1 rfl)) (r_taken' (Eq.trans (r_false (wd 3 2 rfl)) (r_taken (wd 3 3 rfl) (r_ret (ev_tup2 rfl (hworth _ 1 e rfl (by exact h6) (by exact h9) rfl hr))))))))))
  | stop w => exact st (r_taken' (Eq.trans (r_false (wd 4 0 rfl)) (r_taken' (Eq.trans (r_false (wd 4 1 rfl)) (r_taken' (Eq.trans (r_false (wd 4 2 rfl)) (r_taken' (Eq.trans (r_false (wd 4 3 rfl)) (r_ret rfl)))))))))
end
theorem Sees.app {σ : Store} {v : AV} {xs : List Int} (h : Sees σ v xs) (τ : Store) : Sees (σ ++ τ) v xs := by
  refine ⟨?_, h.st⟩
  have hr := h.rd
  cases v with
  | dat d => exact hr
  | fresh d => exact hr
  | exc c => exact nsm hr
  | cell i =>
    rw [x_rdC] at hr ⊢
    cases e : σ[i]? with
    | none => rw [e] at hr; exact nsm hr
    | some p =>
      rw [e] at hr
      rw [List.getElem?_append_left (List.getElem?_eq_some_iff.mp e).1, e]
      exact hr
theorem ev_pop0R {Φ : Phi} {ρ : Rho} {σ : Store} {i c : Nat} {xs : List PyData} {d : PyData} (h : ρ i = some (.cell c)) (hc : c = σ.length) (hl : xs.length < 100000) : evE Φ (.pop0 i) ρ (σ ++ [(.live, d :: xs)]) = some (.dat d, σ ++ [(.live, xs)]) := by
  subst hc
  rw [ev_pop0, show cellIn ρ i = some σ.length from by rw [cellIn, h]; rfl, Option.bind_some, show liveAt (σ ++ [(.live, d :: xs)]) σ.length = some (d :: xs) from by rw [liveAt, get_last], Option.bind_some, if_pos (le_lim (m := 100000) (by show xs.length + 1 ≤ _; omega) (by decide))]
  show some (AV.dat d, (σ ++ [(Flag.live, d :: xs)]).set σ.length (.live, xs)) = _
  rw [set_last]
theorem ev_binC {Φ : Phi} {ρ : Rho} {σ : Store} {op : Operator} {a : CE} {i c : Nat} {x r : AV} {dx : PyData} {f : Flag} {ys : List PyData} (h1 : evE Φ a ρ σ = some (x, σ)) (hi : ρ i = some (.cell c)) (h3 : rd σ x = some dx) (hc : σ[c]? = some (f, ys)) (h5 : binD op dx (.list ys) = some r) : evE Φ (.bin op a (.var i)) ρ σ = some (r, σ) :=
  ev_binR h1 (evV hi) h3 (by rw [x_rdC, hc]; rfl) h5
theorem ev_list {Φ : Phi} {ρ : Rho} {σ : Store} {i : Nat} {m : Int} {d : PyData} {ys : List PyData} (h : ρ i = some (.dat d)) (h' : idxD d (.int m) = some (.tuple ys)) (hl : ys.length ≤ 1000) : evE Φ (.prim .list [(.idx (.var i) (.const (.int m)))]) ρ σ = some (.fresh ys, σ) := by
  rw [ev_prim, el_cons, ev_ixD h h', Option.bind_some, el_nil]
  show (primD .list [.tuple ys]).bind _ = _
  rw [pk_tuple (le_lim (m := 1000) hl (by decide))]
  rfl
section
variable {N k ni nb : Nat} (hi : ni ≤ 3) (hb : nb ≤ 6) {xs bs : List Int} (hxs : xs.length = ni) (hbs : bs.length = nb) {r : Row} {rest : List Row} (hr : r.ok ni nb) (hsz : r.sz ≤ 1000) (hw : rowsWt (r :: rest) ≤ 200) {σ τ : Store} {ρ : Rho} {v : AV} (hv : Sees σ v xs) (h46 : ρ 46 = some (.cell (σ.length + 1 + τ.length))) (h51 : ρ 51 = some (.cell σ.length)) (h50 : ρ 50 = some v)
include hi hb hxs hbs hr hsz hw hv h46 h51 h50
theorem going_step : match stp xs rest bs r with
    | .go R bs' => ∃ ρ' τ', evSs N (tabAt tab3 N (k + 1)) gB ρ ((σ ++ [(.live, bs.map .int)] ++ τ) ++ [(.live, rowsD (r :: rest))]) = some (.next ρ', (σ ++ [(.live, bs'.map .int)] ++ τ') ++ [(.live, rowsD R)]) ∧ ρ' 46 = some (.cell (σ.length + 1 + τ'.length)) ∧ ρ' 51 = some (.cell σ.length) ∧ ρ' 50 = some v
    | .res q => ∃ τ', evSs N (tabAt tab3 N (k + 1)) gB ρ ((σ ++ [(.live, bs.map .int)] ++ τ) ++ [(.live, rowsD (r :: rest))]) = some (.ret (.dat q.d), σ ++ τ') := by
  have hlen := len_wt (r :: rest)
  have hlr : (rowsD rest).length ≤ 200 := by rw [rowsD_len]; exact Nat.le_trans (Nat.le_succ _) (Nat.le_trans hlen hw)
  have hB : ∀ cs : List PyData, (σ ++ [(Flag.live, cs)] ++ τ).length = σ.length + 1 + τ.length := fun cs => by rw [List.length_append, List.length_append]; rfl
  have s1 : evE (tabAt tab3 N (k + 1)) (.pop0 46) ρ ((σ ++ [(.live, bs.map .int)] ++ τ) ++ [(.live, rowsD (r :: rest))]) = some (.dat r.d, (σ ++ [(.live, bs.map .int)] ++ τ) ++ [(.live, rowsD rest)]) := ev_pop0R h46 (hB _).symm (by omega)
  have st : ∀ {fl : Option (Fl × Store)}, evSs N (tabAt tab3 N (k + 1)) (gB.drop 1) (ρ.set 53 (.dat r.d)) ((σ ++ [(.live, bs.map .int)] ++ τ) ++ [(.live, rowsD rest)]) = fl → evSs N (tabAt tab3 N (k + 1)) gB ρ ((σ ++ [(.live, bs.map .int)] ++ τ) ++ [(.live, rowsD (r :: rest))]) = fl := fun h => Eq.trans (r_assign s1) h
  have hg : ((σ ++ [(Flag.live, bs.map PyData.int)] ++ τ) ++ [(Flag.live, rowsD rest)])[σ.length]? = some (.live, bs.map .int) := by simp
  have hv' : Sees ((σ ++ [(Flag.live, bs.map PyData.int)] ++ τ) ++ [(Flag.live, rowsD rest)]) v xs := ((hv.app _).app _).app _
  have hu : Sees ((σ ++ [(Flag.live, bs.map PyData.int)] ++ τ) ++ [(Flag.live, rowsD rest)]) (.cell σ.length) bs := ⟨by rw [x_rdC, hg]; rfl, rfl⟩
  have hval : ∀ (m : Int) (e : Ex), idxD r.d (.int m) = some e.d → e.ok ni nb → evE (tabAt tab3 N (k + 1)) (.call 25 [(.idx (.var 53) (.const (.int m))), (.var 50), (.var 51)]) (ρ.set 53 (.dat r.d)) ((σ ++ [(.live, bs.map .int)] ++ τ) ++ [(.live, rowsD rest)]) = some (.dat (.int (e.val xs bs)), (σ ++ [(.live, bs.map .int)] ++ τ) ++ [(.live, rowsD rest)]) := fun m e a4 a5 => ev_callW rfl a4 (by exact h50) (by exact h51) hv.st rfl (s_value N k ni nb hi hb e a5 xs bs hxs hbs _ v (.cell σ.length) hv' hu)
  have wd : ∀ (a b : Fin 5), idxD r.d (.int 0) = some (.str (W a)) → evE (tabAt tab3 N (k + 1)) (.cmp .Eq (.idx (.var 53) (.const (.int 0))) (.const (.str (W b)))) (ρ.set 53 (.dat r.d)) ((σ ++ [(.live, bs.map .int)] ++ τ) ++ [(.live, rowsD rest)]) = some (.dat (.bool (a == b)), (σ ++ [(.live, bs.map .int)] ++ τ) ++ [(.live, rowsD rest)]) := fun a b h => word_eq (d := r.d) b rfl h
  have hlast : ((σ ++ [(Flag.live, bs.map PyData.int)] ++ τ) ++ [(Flag.live, rowsD rest)])[σ.length + 1 + τ.length]? = some (.live, rowsD rest) := by rw [← hB (bs.map PyData.int)]; exact get_last ..
  have fin : ∀ (R' : List Row) {e : CE}, evE (tabAt tab3 N (k + 1)) e (ρ.set 53 (.dat r.d)) ((σ ++ [(.live, bs.map .int)] ++ τ) ++ [(.live, rowsD rest)]) = some (.fresh (rowsD R'), (σ ++ [(.live, bs.map .int)] ++ τ) ++ [(.live, rowsD rest)]) →
      evSs N (tabAt tab3 N (k + 1)) [.newcell 46 e] (ρ.set 53 (.dat r.d)) ((σ ++ [(.live, bs.map .int)] ++ τ) ++ [(.live, rowsD rest)]) = some (.next ((ρ.set 53 (.dat r.d)).set 46 (.cell (σ.length + 1 + (τ ++ [(Flag.live, rowsD rest)]).length))), (σ ++ [(.live, bs.map .int)] ++ (τ ++ [(.live, rowsD rest)])) ++ [(.live, rowsD R')]) := fun R' e h => by
    rw [r_newcell h, es_nil]
    simp [Nat.add_assoc, Nat.add_comm, Nat.add_left_comm]
  cases r with
  | put b e =>
    refine ⟨ρ.set 53 (.dat (Row.put b e).d), τ, st (Eq.trans (r_skip (wd 0 3 rfl)) (Eq.trans (r_skip (wd 0 4 rfl)) (Eq.trans (r_next (Eq.trans (r_true (wd 0 0 rfl)) (Eq.trans (r_setItem (k := b) (d := .int (e.val xs bs)) (by exact h51) (hval 2 e rfl hr.2) (ev_ixD rfl rfl) hg (by rw [List.length_map, hbs]; exact hr.1) (by rw [List.length_map]; omega)) es_nil))) ?_))), h46, h51, h50⟩
    rw [es_nil, List.map_set]
    congr 2
    simp
  | ask e y n =>
    have hy : rowsWt y + rowsWt n + rowsWt rest < 200 := by have : 1 + rowsWt y + rowsWt n + rowsWt rest ≤ 200 := hw; omega
    have ly := len_wt y
    have ln := len_wt n
    have hadd : ∀ l : List Row, l.length ≤ 200 → binD .Add (.list (rowsD l)) (.list (rowsD rest)) = some (.fresh (rowsD (l ++ rest))) := fun l hl => by
      rw [rowsD_app]
      exact bi_addL (le_lim (m := 1000) (by rw [rowsD_len]; omega) (by decide))
    have hc : evE (tabAt tab3 N (k + 1)) (.cmp .Lt (.call 25 [(.idx (.var 53) (.const (.int 1))), (.var 50), (.var 51)]) (.const (.int 0))) (ρ.set 53 (.dat (Row.ask e y n).d)) ((σ ++ [(.live, bs.map .int)] ++ τ) ++ [(.live, rowsD rest)]) = some (.dat (.bool (!decide (0 ≤ e.val xs bs))), (σ ++ [(.live, bs.map .int)] ++ τ) ++ [(.live, rowsD rest)]) := by
      refine ev_cmpR (hval 1 e rfl hr.1) rfl ?_
      rw [cm_lt]
      congr 1
      by_cases q : 0 ≤ e.val xs bs
      · rw [decide_eq_true q, decide_eq_false (Int.not_lt.mpr q)]; rfl
      · rw [decide_eq_false q, decide_eq_true (Int.not_le.mp q)]; rfl
    show ∃ ρ' τ', _ = some (Fl.next ρ', (σ ++ [(.live, bs.map .int)] ++ τ') ++ [(.live, rowsD (side (decide (0 ≤ e.val xs bs)) y n ++ rest))]) ∧ _
    cases hq : decide (0 ≤ e.val xs bs) with
    | true =>
      rw [hq] at hc
      exact ⟨_, _, st (Eq.trans (r_skip (wd 1 3 rfl)) (Eq.trans (r_skip (wd 1 4 rfl)) (Eq.trans (r_next (Eq.trans (r_false (wd 1 0 rfl)) (Eq.trans (r_next (Eq.trans (r_false (wd 1 2 rfl)) (Eq.trans (r_next (Eq.trans (r_false hc) (fin (y ++ rest) (ev_binC (ev_list rfl rfl (by rw [rowsD_len]; omega)) (by exact h46) rfl hlast (hadd y (by omega)))))) es_nil))) es_nil))) es_nil))), rfl, h51, h50⟩
    | false =>
      rw [hq] at hc
      exact ⟨_, _, st (Eq.trans (r_skip (wd 1 3 rfl)) (Eq.trans (r_skip (wd 1 4 rfl)) (Eq.trans (r_next (Eq.trans (r_false (wd 1 0 rfl)) (Eq.trans (r_next (Eq.trans (r_false (wd 1 2 rfl)) (Eq.trans (r_next (Eq.trans (r_true hc) (fin (n ++ rest) (ev_binC (ev_list rfl rfl (by rw [rowsD_len]; omega)) (by exact h46) rfl hlast (hadd n (by omega)))))) es_nil))) es_nil))) es_nil))), rfl, h51, h50⟩
  | times j l =>
    have hj : 1 + j * rowsWt l + rowsWt rest ≤ 200 := hw
    have ll := len_wt l
    have hjl : j * l.length ≤ 200 := Nat.le_trans (Nat.mul_le_mul_left _ ll) (by omega)
    have hj8 : j ≤ 8 := hr.1
    have hll : l.length ≤ 1000 := Nat.le_trans (len_sz l) (Nat.le_trans (sz_inner (r := .times j l) (.head _)) hsz)
    have hm : binD .Mult (.list (rowsD l)) (.int j) = some (.fresh (List.replicate j (rowsD l)).flatten) := by
      show (if ((j : Int)).natAbs * (rowsD l).length ≤ 65536 ∧ ((j : Int)).natAbs ≤ 65536 then some (AV.fresh ((List.replicate (j : Int).toNat (rowsD l)).flatten)) else none) = _
      rw [if_pos ⟨by rw [rowsD_len]; show j * l.length ≤ _; omega, by show j ≤ _; omega⟩]
      rfl
    exact ⟨_, _, st (Eq.trans (r_skip (wd 2 3 rfl)) (Eq.trans (r_skip (wd 2 4 rfl)) (Eq.trans (r_next (Eq.trans (r_false (wd 2 0 rfl)) (Eq.trans (r_next (Eq.trans (r_true (wd 2 2 rfl)) (fin ((List.replicate j l).flatten ++ rest) (ev_binC (x := .fresh (List.replicate j (rowsD l)).flatten) (ev_binR (ev_list rfl rfl (by rw [rowsD_len]; omega)) (ev_ixD rfl rfl) rfl rfl hm) (by exact h46) rfl hlast (by
      rw [rowsD_app, rowsD_rep]
      exact bi_addL (le_lim (m := 1000) (by rw [flat_len', rowsD_len]; omega) (by decide))))))) es_nil))) es_nil))), rfl, h51, h50⟩
  | tell e => exact ⟨_, (st (r_taken (wd 3 3 rfl) (r_ret (ev_tup2 rfl (hval 1 e rfl hr))))).trans (by rw [List.append_assoc, List.append_assoc]; rfl)⟩
  | stop w => exact ⟨_, (st (Eq.trans (r_skip (wd 4 3 rfl)) (r_taken (wd 4 4 rfl) (r_ret (evV rfl))))).trans (by rw [List.append_assoc, List.append_assoc]; rfl)⟩
end
theorem w5 : ∀ a : Fin 5, PyData.strOk (W a) = true := by decide +kernel
theorem bnd_of {α β : Type} {o : Option α} {a : α} {f : α → Option β} {b : Option β} (h : o = some a) (h' : f a = b) : o.bind f = b := by rw [h]; exact h'
theorem bnd_eq {α β : Type} {o o' : Option α} {f : α → Option β} {b : Option β} (h : o = o') (h' : o'.bind f = b) : o.bind f = b := by rw [h]; exact h'
theorem dbl {a b : Nat} (h : a ≤ b) : 2 * a + 1 ≤ 2 * b + 1 := Nat.succ_le_succ (Nat.mul_le_mul_left 2 h)
theorem row_lay {ni nb : Nat} : ∀ (n : Nat) (r : Row), r.sz ≤ n → r.ok ni nb → r.d.canLay0 = true ∧ r.d.depth ≤ 2 * r.dp + 3 := by
  intro n
  induction n with
  | zero => intro r h; exact absurd (Nat.le_trans (sz_pos r) h) (by decide)
  | succ n ih =>
    intro r h ho
    have rows : ∀ l : List Row, rowsSz l ≤ n → rowsOk ni nb l → PyData.canLayAll0 (rowsD l) = true ∧ PyData.depthAll (rowsD l) ≤ 2 * rowsDp l + 1 := by
      intro l
      induction l with
      | nil => intro _ _; exact ⟨rfl, Nat.zero_le _⟩
      | cons q l ihl =>
        intro hz hq
        have hz' : q.sz + rowsSz l ≤ n := hz
        obtain ⟨a1, a2⟩ := ih q (by omega) hq.1
        obtain ⟨b1, b2⟩ := ihl (by omega) hq.2
        refine ⟨by show (q.d.canLay0 && PyData.canLayAll0 (rowsD l)) = true; rw [a1, b1]; rfl, ?_⟩
        exact Nat.max_le.mpr ⟨Nat.le_trans a2 (dbl (Nat.le_max_left (q.dp + 1) (rowsDp l))), Nat.le_trans b2 (dbl (Nat.le_max_right (q.dp + 1) (rowsDp l)))⟩
    have ex : ∀ e : Ex, e.d.canLay0 = true ∧ e.d.depth ≤ 2 := fun e => by simp [Ex.d, PyData.canLay0, PyData.canLayAll0, canLay_ints, PyData.depth, PyData.depthAll, depth_ints]
    cases r with
    | put b e =>
      obtain ⟨a1, a2⟩ := ex e
      refine ⟨by show (PyData.strOk (W 0) && (true && (e.d.canLay0 && true))) = true; rw [w5, a1]; rfl, ?_⟩
      show max 0 (max 0 (max e.d.depth 0)) + 1 ≤ 3
      rw [Nat.zero_max, Nat.zero_max, Nat.max_zero]
      exact Nat.succ_le_succ a2
    | ask e y m =>
      obtain ⟨a1, a2⟩ := ex e
      have hz : 1 + rowsSz y + rowsSz m ≤ n + 1 := h
      obtain ⟨b1, b2⟩ := rows y (by omega) ho.2.1
      obtain ⟨c1, c2⟩ := rows m (by omega) ho.2.2
      refine ⟨by show (PyData.strOk (W 1) && (e.d.canLay0 && (PyData.canLayAll0 (rowsD y) && (PyData.canLayAll0 (rowsD m) && true)))) = true; rw [w5, a1, b1, c1]; rfl, ?_⟩
      show max 0 (max e.d.depth (max (PyData.depthAll (rowsD y) + 1) (max (PyData.depthAll (rowsD m) + 1) 0))) + 1 ≤ 2 * max (rowsDp y) (rowsDp m) + 3
      rw [Nat.zero_max, Nat.max_zero]
      exact Nat.succ_le_succ (Nat.max_le.mpr ⟨Nat.le_trans a2 (Nat.le_add_left ..), Nat.max_le.mpr ⟨Nat.succ_le_succ (Nat.le_trans b2 (dbl (Nat.le_max_left ..))), Nat.succ_le_succ (Nat.le_trans c2 (dbl (Nat.le_max_right ..)))⟩⟩)
    | times j l =>
      have hz : 1 + rowsSz l ≤ n + 1 := h
      obtain ⟨b1, b2⟩ := rows l (by omega) ho.2
      refine ⟨by show (PyData.strOk (W 2) && (true && (PyData.canLayAll0 (rowsD l) && true))) = true; rw [w5, b1]; rfl, ?_⟩
      show max 0 (max 0 (max (PyData.depthAll (rowsD l) + 1) 0)) + 1 ≤ 2 * rowsDp l + 3
      rw [Nat.zero_max, Nat.zero_max, Nat.max_zero]
      exact Nat.succ_le_succ (Nat.succ_le_succ b2)
    | tell e =>
      obtain ⟨a1, a2⟩ := ex e
      refine ⟨by show (PyData.strOk (W 3) && (e.d.canLay0 && true)) = true; rw [w5, a1]; rfl, ?_⟩
      show max 0 (max e.d.depth 0) + 1 ≤ 3
      rw [Nat.zero_max, Nat.max_zero]
      exact Nat.succ_le_succ a2
    | stop w =>
      have hw : PyData.strOk w = true := by
        unfold PyData.strOk
        rw [← Array.all_toList, List.all_eq_true]
        intro c hc
        exact decide_eq_true (by have := (show wordOk w from ho).2.2 c hc; omega)
      exact ⟨by show (PyData.strOk (W 4) && (PyData.strOk w && true)) = true; rw [w5, hw]; rfl, by show max 0 (max 0 0) + 1 ≤ 3; decide⟩
theorem good_shaped {ni nb : Nat} {R : List Row} (h : Good ni nb R) : SeqAt.shaped (.list (rowsD R)) = true := by
  have key : PyData.canLayAll0 (rowsD R) = true ∧ PyData.depthAll (rowsD R) ≤ 43 := by
    obtain ⟨h1, h2, h3⟩ := h
    induction R with
    | nil => exact ⟨rfl, Nat.zero_le _⟩
    | cons q l ih =>
      obtain ⟨b1, b2⟩ := ih (fun r hr => h1 r (.tail _ hr)) (fun r hr => h2 r (.tail _ hr)) (fun r hr => h3 r (.tail _ hr))
      obtain ⟨a1, a2⟩ := row_lay 1000 q (h3 q (.head _)) (h1 q (.head _))
      have := h2 q (.head _)
      refine ⟨by show (q.d.canLay0 && PyData.canLayAll0 (rowsD l)) = true; rw [a1, b1]; rfl, ?_⟩
      show max q.d.depth (PyData.depthAll (rowsD l)) ≤ 43
      omega
  show (PyData.canLayAll0 (rowsD R) && decide (PyData.depthAll (rowsD R) + 1 ≤ 64)) = true
  rw [key.1, decide_eq_true (by omega)]
  rfl
theorem ne_rows {ni nb : Nat} {R : List Row} (h : Good ni nb R) : cmpD .NotEq (.list (rowsD R)) (.list []) = some (!R.isEmpty) := by
  show (if (SeqAt.shaped (.list (rowsD R)) && SeqAt.shaped (.list [])) = true then some (!PyData.eqv (.list (rowsD R)) (.list [])) else none) = _
  rw [good_shaped h]
  cases R <;> rfl
noncomputable def endS : List CS := [.ret (.tup [(.const (.str (Str.ofString "end")))])]
section
variable {N k ni nb : Nat} (hi : ni ≤ 3) (hb : nb ≤ 6) {xs : List Int}
include hb
theorem run_loop : ∀ (n : Nat) (R : List Row) (bs : List Int) (σ : Store) (ρ : Rho), Good ni nb R → rowsWt R < n → rowsWt R ≤ 200 → bs.length = nb → ρ 13 = some (.dat (.tuple (rowsD R))) → ρ 9 = some (.cell σ.length) → ρ 6 = some (.dat (.list (xs.map .int))) →
    ∃ τ, (whileGo (fun ρ' σ' => evE (tabAt tab3 N (k + 1)) rT ρ' σ') (fun ρ' σ' => evSs N (tabAt tab3 N (k + 1)) rB ρ' σ') n ρ (σ ++ [(.live, bs.map .int)])).bind (Fl.on fun ρ₁ σ₁ => evSs N (tabAt tab3 N (k + 1)) endS ρ₁ σ₁) = some (.ret (.dat (goR xs n R bs).d), σ ++ τ) := by
  intro n
  induction n with
  | zero => intro R bs σ ρ _ h; exact absurd h (Nat.not_lt_zero _)
  | succ n ih =>
    intro R bs σ ρ hg hn hw hbs h13 h9 h6
    have hlen := len_wt R
    have ht := ev_pos (ev_lenT (Φ := tabAt tab3 N (k + 1)) (σ := σ ++ [(Flag.live, bs.map PyData.int)]) (evV h13) (by rw [rowsD_len]; omega))
    rw [rowsD_len] at ht
    cases R with
    | nil => exact ⟨_, bnd_of (wh_end ht) rfl⟩
    | cons r rest =>
      rw [show decide (0 < (r :: rest).length) = true from decide_eq_true (Nat.succ_pos _)] at ht
      have hs := run_step (N := N) (k := k) hb hbs (hg.ok r (.head _)) hw h13 h9 h6
      show ∃ τ, _ = some (Fl.ret (.dat (match stp xs rest bs r with | .go R bs' => goR xs n R bs' | .res q => q).d), σ ++ τ)
      cases e : stp xs rest bs r with
      | go R' bs' =>
        rw [e] at hs
        obtain ⟨ρ', e1, a1, a2, a3⟩ := hs
        obtain ⟨g1, g2, g3⟩ := stp_good hg hbs e
        obtain ⟨τ, e2⟩ := ih R' bs' σ ρ' g1 (by omega) (by omega) g3 a1 a2 a3
        exact ⟨τ, bnd_eq (wh_step ht e1) e2⟩
      | res q =>
        rw [e] at hs
        exact ⟨_, bnd_of (wh_ret ht hs) rfl⟩
include hi
theorem going_loop (hxs : xs.length = ni) {v : AV} : ∀ (n : Nat) (R : List Row) (bs : List Int) (σ τ : Store) (ρ : Rho), Good ni nb R → rowsWt R < n → rowsWt R ≤ 200 → bs.length = nb → Sees σ v xs → ρ 46 = some (.cell (σ.length + 1 + τ.length)) → ρ 51 = some (.cell σ.length) → ρ 50 = some v →
    ∃ τ', (whileGo (fun ρ' σ' => evE (tabAt tab3 N (k + 1)) gT ρ' σ') (fun ρ' σ' => evSs N (tabAt tab3 N (k + 1)) gB ρ' σ') n ρ ((σ ++ [(.live, bs.map .int)] ++ τ) ++ [(.live, rowsD R)])).bind (Fl.on fun ρ₁ σ₁ => evSs N (tabAt tab3 N (k + 1)) endS ρ₁ σ₁) = some (.ret (.dat (goR xs n R bs).d), σ ++ τ') := by
  intro n
  induction n with
  | zero => intro R bs σ τ ρ _ h; exact absurd h (Nat.not_lt_zero _)
  | succ n ih =>
    intro R bs σ τ ρ hg hn hw hbs hv h46 h51 h50
    have hB : (σ ++ [(Flag.live, bs.map PyData.int)] ++ τ).length = σ.length + 1 + τ.length := by simp; omega
    have hlast : ((σ ++ [(Flag.live, bs.map PyData.int)] ++ τ) ++ [(Flag.live, rowsD R)])[σ.length + 1 + τ.length]? = some (.live, rowsD R) := by rw [← hB]; exact get_last ..
    have ht : evE (tabAt tab3 N (k + 1)) gT ρ ((σ ++ [(.live, bs.map .int)] ++ τ) ++ [(.live, rowsD R)]) = some (.dat (.bool (!R.isEmpty)), (σ ++ [(.live, bs.map .int)] ++ τ) ++ [(.live, rowsD R)]) := by
      show evE _ (.cmp .NotEq (.var 46) (.lst [])) _ _ = _
      rw [ev_cmp, evV h46, Option.bind_some]
      show (rd _ (.cell (σ.length + 1 + τ.length))).bind _ = _
      rw [x_rdC, hlast]
      show (cmpD .NotEq (.list (rowsD R)) (.list [])).bind _ = _
      rw [ne_rows hg]
      rfl
    cases R with
    | nil => exact ⟨[(.live, bs.map .int)] ++ (τ ++ [(.live, rowsD [])]), bnd_of (wh_end ht) (by show some (Fl.ret _, _) = _; rw [List.append_assoc, List.append_assoc]; rfl)⟩
    | cons r rest =>
      have hs := going_step (N := N) (k := k) hi hb hxs hbs (hg.ok r (.head _)) (hg.sz r (.head _)) hw hv h46 h51 h50
      show ∃ τ, _ = some (Fl.ret (.dat (match stp xs rest bs r with | .go R bs' => goR xs n R bs' | .res q => q).d), σ ++ τ)
      cases e : stp xs rest bs r with
      | go R' bs' =>
        rw [e] at hs
        obtain ⟨ρ', τ', e1, a1, a2, a3⟩ := hs
        obtain ⟨g1, g2, g3⟩ := stp_good hg hbs e
        obtain ⟨τ'', e2⟩ := ih R' bs' σ τ' ρ' g1 (by omega) (by omega) g3 hv a1 a2 a3
        exact ⟨τ'', bnd_eq (wh_step ht e1) e2⟩
      | res q =>
        rw [e] at hs
        obtain ⟨τ', hs⟩ := hs
        exact ⟨τ', bnd_of (wh_ret ht hs) rfl⟩
end
theorem Prog.good {rs : List (Int × Int)} {nb : Nat} {rows : List Row} (P : Prog rs nb rows) (hz : rowsSz rows ≤ 1000) : Good rs.length nb rows := ⟨fun r hr => ok_mem P.ok hr, fun r hr => by have := dp_mem hr; have := P.dp; omega, fun r hr => Nat.le_trans (sz_mem hr) hz⟩
theorem zeros (n : Nat) (h : n ≤ 6) : binD .Mult (.list [.int 0]) (.int n) = some (.fresh ((List.replicate n (0 : Int)).map .int)) := by
  show (if ((n : Int)).natAbs * 1 ≤ 65536 ∧ ((n : Int)).natAbs ≤ 65536 then some (AV.fresh ((List.replicate (n : Int).toNat [PyData.int 0]).flatten)) else none) = _
  rw [if_pos ⟨by show n * 1 ≤ _; omega, by show n ≤ _; omega⟩, List.map_replicate]
  show some (AV.fresh (List.replicate n [PyData.int 0]).flatten) = _
  rw [flat_rep]
theorem r_whil {N : Nat} {Φ : Phi} {c : CE} {b cs : List CS} {ρ : Rho} {σ : Store} {r : Option (Fl × Store)} (h : (whileGo (fun ρ' σ' => evE Φ c ρ' σ') (fun ρ' σ' => evSs N Φ b ρ' σ') N ρ σ).bind (Fl.on fun ρ₁ σ₁ => evSs N Φ cs ρ₁ σ₁) = r) : evSs N Φ (.whil c b :: cs) ρ σ = r := h
theorem r_expr {N : Nat} {Φ : Phi} {ρ : Rho} {σ σ₁ σ₂ : Store} {f : Nat} {es : List CE} {cs : List CS} {vs : List AV} {v : AV} (h1 : evEs Φ es ρ σ = some (vs, σ₁)) (h2 : Φ f vs σ₁ = some (.ret v, σ₂)) : evSs N Φ (.expr (.call f es) :: cs) ρ σ = evSs N Φ cs ρ σ₂ := by
  refine r_next ?_
  rw [es_expr]
  show (evEs Φ es ρ σ).bind _ = _
  rw [h1, Option.bind_some, h2]
  rfl
theorem r_exprX {N : Nat} {Φ : Phi} {ρ : Rho} {σ σ₁ σ₂ : Store} {f : Nat} {es : List CE} {cs : List CS} {vs : List AV} {c : Nat} (h1 : evEs Φ es ρ σ = some (vs, σ₁)) (h2 : Φ f vs σ₁ = some (.exc c, σ₂)) : evSs N Φ (.expr (.call f es) :: cs) ρ σ = some (.exc c, σ₂) := by
  rw [es_cons, es_expr]
  show ((evEs Φ es ρ σ).bind _).bind _ = _
  rw [h1, Option.bind_some, h2]
  rfl
noncomputable def okIn (rs : List (Int × Int)) (xs : List Int) : Prop := xs.length = rs.length ∧ (rs.zip (xs.map PyData.int)).all okB = true
theorem s_run (N k : Nat) (hN : 10000 < N) (rs : List (Int × Int)) (nb : Nat) (rows : List Row) (P : Prog rs nb rows) (hz : rowsSz rows ≤ 1000) (xs : List Int) (hx : okIn rs xs) (σ : Store) : tabAt tab3 N (k + 8) 15 [.dat (progD rs nb rows), .dat (.list (xs.map .int))] σ = some (.ret (.dat (goR xs N rows (List.replicate nb 0)).d), σ) := by
  rw [tab_step (by rfl : tab3[15]? = some ([24, 6], c_run))]
  have h1 := s_need_program N k hN rs nb rows P σ
  have h2 := s_need_ok N (k + 4) rs P.h3 (xs.map .int) (by rw [List.length_map]; exact hx.1) hx.2 σ
  obtain ⟨τ, e⟩ := run_loop (N := N) (k := k + 6) (ni := rs.length) P.b6 (xs := xs) N rows (List.replicate nb 0) σ (Rho.set (Rho.set (Rho.set (Rho.set (fun _ => none) 24 (.dat (progD rs nb rows))) 6 (.dat (.list (xs.map .int)))) 9 (.cell σ.length)) 13 (.dat (.tuple (rowsD rows)))) (P.good hz) (by have := P.wt; omega) P.wt (by simp) rfl rfl rfl
  refine run_cell (τ := τ) rfl (Eq.trans (r_expr (vs := [.dat (progD rs nb rows)]) (σ₁ := σ) rfl h1) (Eq.trans (r_expr (vs := [.dat (.tuple (rs.map pairD)), .dat (.list (xs.map .int))]) (σ₁ := σ) rfl h2) (Eq.trans (r_newcell (ds := (List.replicate nb (0 : Int)).map PyData.int) (σ₁ := σ) (ev_binR (x := .fresh [.int 0]) rfl (ev_ixD rfl rfl) rfl rfl (zeros nb P.b6))) (Eq.trans (r_newdat (d := .tuple (rowsD rows)) (σ₁ := σ ++ [(Flag.live, (List.replicate nb (0 : Int)).map PyData.int)]) (ev_ixD rfl rfl)) (r_whil e)))))
theorem s_run_bad (N k : Nat) (hN : 10000 < N) (rs : List (Int × Int)) (nb : Nat) (rows : List Row) (P : Prog rs nb rows) (d : PyData) (hd : BadIn rs d) (σ : Store) : tabAt tab3 N (k + 8) 15 [.dat (progD rs nb rows), .dat d] σ = some (.exc 3, σ) := by
  rw [tab_step (by rfl : tab3[15]? = some ([24, 6], c_run))]
  have h1 := s_need_program N k hN rs nb rows P σ
  have h2 := s_need_bad N (k + 4) rs P.h3 d hd σ
  rw [x_run, show bindArgsR [24, 6] [.dat (progD rs nb rows), .dat d] (fun _ => none) = some (Rho.set (Rho.set (fun _ => none) 24 (.dat (progD rs nb rows))) 6 (.dat d)) from rfl, Option.bind_some,
    show evSs N (tabAt tab3 N (k + 7)) c_run (Rho.set (Rho.set (fun _ => none) 24 (.dat (progD rs nb rows))) 6 (.dat d)) σ = some (.exc 3, σ) from Eq.trans (r_expr (vs := [.dat (progD rs nb rows)]) (σ₁ := σ) rfl h1) (r_exprX (vs := [.dat (.tuple (rs.map pairD)), .dat d]) (σ₁ := σ) rfl h2)]
  show some (CR.exc 3, σ.take σ.length) = _
  rw [List.take_length]
theorem s_going (N k : Nat) (hN : 10000 < N) (rs : List (Int × Int)) (nb : Nat) (rows : List Row) (P : Prog rs nb rows) (hz : rowsSz rows ≤ 1000) (xs : List Int) (hx : xs.length = rs.length) (σ : Store) (v : AV) (hv : Sees σ v xs) : tabAt tab3 N (k + 2) 26 [.dat (progD rs nb rows), v] σ = some (.ret (.dat (goR xs N rows (List.replicate nb 0)).d), σ) := by
  rw [tab_step (by rfl : tab3[26]? = some ([52, 50], c__law_going))]
  obtain ⟨τ, e⟩ := going_loop (N := N) (k := k) (ni := rs.length) P.h3 P.b6 (xs := xs) hx (v := v) N rows (List.replicate nb 0) σ [] (Rho.set (Rho.set (Rho.set (Rho.set (fun _ => none) 52 (.dat (progD rs nb rows))) 50 v) 51 (.cell σ.length)) 46 (.cell (σ.length + 1))) (P.good hz) (by have := P.wt; omega) P.wt (by simp) hv rfl rfl rfl
  rw [List.append_nil] at e
  have hlen := len_sz rows
  refine run_cell (τ := τ) rfl (Eq.trans (r_newcell (ds := (List.replicate nb (0 : Int)).map PyData.int) (σ₁ := σ) (ev_binR (x := .fresh [.int 0]) rfl (ev_ixD rfl rfl) rfl rfl (zeros nb P.b6))) (Eq.trans (r_newcell (ds := rowsD rows) (σ₁ := σ ++ [(Flag.live, (List.replicate nb (0 : Int)).map PyData.int)]) (ev_list rfl rfl (by rw [rowsD_len]; omega))) ?_))
  rw [show (σ ++ [(Flag.live, (List.replicate nb (0 : Int)).map PyData.int)]).length = σ.length + 1 from by simp]
  exact r_whil e
theorem s_refused (N k : Nat) (hN : 10000 < N) (rs : List (Int × Int)) (nb : Nat) (rows : List Row) (P : Prog rs nb rows) (d : PyData) (hd : BadIn rs d) (σ : Store) : tabAt tab3 N (k + 9) 27 [.dat (progD rs nb rows), .dat d] σ = some (.ret (.dat (.bool true)), σ) := by
  rw [tab_step (by rfl : tab3[27]? = some ([52, 50], c__law_refused))]
  have h3 := s_run_bad N k hN rs nb rows P d hd σ
  refine r_runD rfl ?_
  show evSs N (tabAt tab3 N (k + 8)) (.tryy false 15 [(.var 52), (.var 50)] 43 _ :: _) _ σ = _
  rw [es_cons, es_tryy, show evEs (tabAt tab3 N (k + 8)) [(.var 52), (.var 50)] (Rho.set (Rho.set (fun _ => none) 52 (.dat (progD rs nb rows))) 50 (.dat d)) σ = some ([.dat (progD rs nb rows), .dat d], σ) from rfl, Option.bind_some, h3]
  rfl
theorem el_one {Φ : Phi} {ρ : Rho} {σ σ₁ σ₂ : Store} {e : CE} {v : AV} {es : List CE} {vs : List AV} (h : evE Φ e ρ σ = some (v, σ₁)) (h' : evEs Φ es ρ σ₁ = some (vs, σ₂)) : evEs Φ (e :: es) ρ σ = some (settle v :: vs, σ₂) := by rw [el_cons, h, Option.bind_some, h']; rfl
theorem ev_primR {Φ : Phi} {ρ : Rho} {σ σ₁ : Store} {p : Prim} {es : List CE} {vs : List AV} {ds : List PyData} {r : AV} (h1 : evEs Φ es ρ σ = some (vs, σ₁)) (h2 : rdAll σ₁ vs = some ds) (h3 : primD p ds = some r) : evE Φ (.prim p es) ρ σ = some (r, σ₁) := by rw [ev_prim, h1, Option.bind_some, h2, Option.bind_some, h3]; rfl
noncomputable def abc : Str := Str.ofString "abcdefghijklmnopqrstuvwxyz"
theorem abc_cps : abc.cps = #[97, 98, 99, 100, 101, 102, 103, 104, 105, 106, 107, 108, 109, 110, 111, 112, 113, 114, 115, 116, 117, 118, 119, 120, 121, 122] := by decide +kernel
theorem ix_abc : ∀ j : Nat, j < 26 → idxD (.str abc) (.int j) = some (.str ⟨#[97 + j]⟩) := by
  intro j hj
  show (if 0 ≤ (j : Int) ∧ (j : Int).toNat < 4611686018427387904 then abc.cps[(j : Int).toNat]?.bind (fun c => some (PyData.str ⟨#[c]⟩)) else none) = _
  rw [if_pos (by omega), abc_cps, Int.toNat_natCast]
  have : ∀ j : Fin 26, (#[97, 98, 99, 100, 101, 102, 103, 104, 105, 106, 107, 108, 109, 110, 111, 112, 113, 114, 115, 116, 117, 118, 119, 120, 121, 122] : Array Nat)[j.val]? = some (97 + j.val) := by decide
  rw [this ⟨j, hj⟩]
  rfl
theorem strsD_map (cs : List Nat) : strsD (cs.map fun c => PyData.str ⟨#[c]⟩) = some (cs.map fun c => (⟨#[c]⟩ : Str)) := by
  induction cs with
  | nil => rfl
  | cons c cs ih => show (strsD (cs.map fun c => PyData.str ⟨#[c]⟩)).bind _ = _; rw [ih]; rfl
theorem join_cs (s : Str) (hs : s.cps = #[]) : ∀ cs : List Nat, (Str.join s (cs.map fun c => (⟨#[c]⟩ : Str))).cps.toList = cs
  | [] => rfl
  | [c] => rfl
  | c :: d :: cs => by
    have ih := join_cs s hs (d :: cs)
    show ((#[c] ++ s.cps) ++ (Str.join s ((d :: cs).map fun c => (⟨#[c]⟩ : Str))).cps).toList = _
    rw [hs, Array.toList_append, ih]
    rfl
theorem s_word_by (N k : Nat) (c : Int) (σ : Store) : ∃ w, wordOk w ∧ tabAt tab3 N (k + 2) 21 [.dat (.int c)] σ = some (.ret (.dat (.str w)), σ) := by
  rw [tab_step (by rfl : tab3[21]? = some ([28], c__law_word_by))]
  obtain ⟨m, hm, em⟩ := fmod_nat c (b := 8) (by decide)
  have em' : c.fmod 8 = (m : Int) := em
  have i26 := fun j : Nat => fmod_nat ((mixed (c.fdiv 8) j).fdiv 3) (b := 26) (by decide)
  have hc := ev_compA (Φ := tabAt tab3 N (k + 1)) (ρ := Rho.set (Rho.set (fun _ => none) 28 (.dat (.int c))) 39 (.dat (.str abc))) (σ := σ) (ce := .idx (.var 39) (.bin .Mod (.bin .FloorDiv (.call 17 [(.bin .FloorDiv (.var 28) (.const (.int 8))), (.var 27)]) (.const (.int 3))) (.const (.int 26)))) (t := .one 27) (k := .range1) (its := [.bin .Add (.const (.int 1)) (.bin .Mod (.var 28) (.const (.int 8)))])
    (vs := [.dat (.int (1 + m : Nat))]) (ds := [.int (1 + m : Nat)]) (List.range (1 + m)) (fun k => .int (k : Nat)) (fun j => .str ⟨#[97 + (((mixed (c.fdiv 8) j).fdiv 3).fmod 26).toNat]⟩)
    (by rw [el_cons, ev_addI (y := m) rfl (ev_binR (y := .dat (.int 8)) rfl rfl rfl rfl (by rw [bi_mod (by decide), em']))]; show some ([AV.dat (.int (1 + (m : Int)))], σ) = _; rw [show (1 + (m : Int)) = ((1 + m : Nat) : Int) from by omega]) rfl rfl (range_it (by omega)) (le_lim (m := 8) (by rw [List.length_range]; omega) (by decide)) (fun j hj => ⟨_, rfl, by
      have hj' := List.mem_range.mp hj
      obtain ⟨i, hi, e⟩ := i26 j
      have e' : ((mixed (c.fdiv 8) j).fdiv 3).fmod 26 = (i : Int) := e
      rw [e', Int.toNat_natCast]
      refine ev_idxR (x := .dat (.str abc)) (y := .dat (.int i)) (evV rfl) (ev_binR (x := .dat (.int ((mixed (c.fdiv 8) j).fdiv 3))) (y := .dat (.int 26)) (ev_binR (x := .dat (.int (mixed (c.fdiv 8) j))) (y := .dat (.int 3)) (ev_callR (vs := [.dat (.int (c.fdiv 8)), .dat (.int j)]) (σ₁ := σ) rfl (s_mixed N k (c.fdiv 8) j (by omega) σ)) rfl rfl rfl (bi_fdiv (by decide) (by decide))) rfl rfl rfl (by rw [bi_mod (by decide), e'])) rfl rfl (ix_abc i hi)⟩)
  have hz : (List.range (1 + m)).map (fun j : Nat => PyData.str ⟨#[97 + (((mixed (c.fdiv 8) j).fdiv 3).fmod 26).toNat]⟩) = ((List.range (1 + m)).map fun j : Nat => 97 + (((mixed (c.fdiv 8) j).fdiv 3).fmod 26).toNat).map fun c => PyData.str ⟨#[c]⟩ := by rw [List.map_map]; rfl
  rw [hz] at hc
  have hcs : ∀ x ∈ (List.range (1 + m)).map fun j : Nat => 97 + (((mixed (c.fdiv 8) j).fdiv 3).fmod 26).toNat, 97 ≤ x ∧ x ≤ 122 := fun x hx => by
    obtain ⟨j, _, rfl⟩ := List.mem_map.mp hx
    obtain ⟨i, hi, e⟩ := i26 j
    have e' : ((mixed (c.fdiv 8) j).fdiv 3).fmod 26 = (i : Int) := e
    rw [e', Int.toNat_natCast]
    omega
  have hlen : ((List.range (1 + m)).map fun j : Nat => 97 + (((mixed (c.fdiv 8) j).fdiv 3).fmod 26).toNat).length = 1 + m := by simp
  generalize ((List.range (1 + m)).map fun j : Nat => 97 + (((mixed (c.fdiv 8) j).fdiv 3).fmod 26).toNat) = cs at hc hcs hlen
  have hnil : (Str.ofString "").cps = #[] := by decide +kernel
  have hj := join_cs (Str.ofString "") hnil cs
  have hsz : (Str.join (Str.ofString "") (cs.map fun c => (⟨#[c]⟩ : Str))).length = 1 + m := by
    show (Str.join (Str.ofString "") (cs.map fun c => (⟨#[c]⟩ : Str))).cps.size = _
    rw [← Array.length_toList, hj, hlen]
  refine ⟨Str.join (Str.ofString "") (cs.map fun c => (⟨#[c]⟩ : Str)), ⟨by omega, by omega, fun x hx => hcs x (by rw [hj] at hx; exact hx)⟩, ?_⟩
  refine r_runD rfl (Eq.trans (r_assign (v := .dat (.str abc)) (σ₁ := σ) rfl) (r_ret (ev_primR (vs := [.dat (.str (Str.ofString "")), .dat (.list (cs.map fun c => PyData.str ⟨#[c]⟩))]) (σ₁ := σ) (el_one (v := .dat (.str (Str.ofString ""))) rfl (el_one hc rfl)) rfl ?_)))
  show ((strsD (cs.map fun c => PyData.str ⟨#[c]⟩)).bind fun ss => joinD (Str.ofString "") ss) = _
  rw [strsD_map]
  show (if ((cs.map fun c => (⟨#[c]⟩ : Str)).map (·.length)).sum + (cs.map fun c => (⟨#[c]⟩ : Str)).length * (Str.ofString "").length ≤ 16777216 then _ else none) = _
  rw [if_pos ?_]
  · have h1 : ((cs.map fun c => (⟨#[c]⟩ : Str)).map (·.length)).sum = cs.length := by
      rw [List.map_map]
      clear hc hcs hlen hj hsz
      induction cs with
      | nil => rfl
      | cons c cs ih => rw [List.map_cons, List.sum_cons, ih]; show 1 + _ = _; rw [List.length_cons]; omega
    have h2 : (Str.ofString "").length = 0 := by show (Str.ofString "").cps.size = 0; rw [hnil]; rfl
    rw [h1, h2]
    omega
theorem s_expr (N k : Nat) (c : Int) (rs : List (Int × Int)) (hl : rs.length ≤ 3) (nb : Nat) (hnb : nb ≤ 6) (σ : Store) : ∃ e : Ex, e.ok rs.length nb ∧ tabAt tab3 N (k + 2) 20 [.dat (.int c), .dat (.tuple [.int rs.length, .int nb]), .dat (.tuple (rs.map pairD))] σ = some (.ret (.dat e.d), σ) := by
  obtain ⟨a, fs, os, h1, h2, h3, h4, h5⟩ := s_expression N k c rs hl nb hnb σ
  exact ⟨⟨a, fs, os⟩, ⟨h1, h3, h2, h4⟩, h5⟩
noncomputable def wB : Nat → Nat
  | 0 => 1
  | d + 1 => 1 + 4 * wB d
noncomputable def lB : Nat → Nat
  | 0 => 0
  | d + 1 => 2 + 4 * lB d
noncomputable def aB : Nat → Nat
  | 0 => 1
  | d + 1 => 3 + 4 * aB d
structure Rb (ni nb d : Nat) (r : Row) : Prop where
  ok : r.ok ni nb
  wt : r.wt ≤ wB d
  sz : r.sz ≤ wB d
  ls : r.ls ≤ lB d
  dp : r.dp ≤ d
structure Rsb (ni nb d : Nat) (rs : List Row) : Prop where
  ok : rowsOk ni nb rs
  wt : rowsWt rs ≤ 2 * wB d
  sz : rowsSz rs ≤ 2 * wB d
  ls : rowsLs rs ≤ 1 + 2 * lB d
  dp : rowsDp rs ≤ d + 1
theorem n_a {n a A : Nat} (h : A = 3 + 4 * a) (hn : n + A ≤ 900) : n + 1 + (1 + 2 * a) ≤ 900 := by omega
theorem n_b {n n1 a A : Nat} (h : A = 3 + 4 * a) (hn : n + A ≤ 900) (p : n1 ≤ n + 1 + (1 + 2 * a)) : n1 + (1 + 2 * a) ≤ 900 := by omega
theorem n_c {n n1 n2 a A : Nat} (h : A = 3 + 4 * a) (p : n1 ≤ n + 1 + (1 + 2 * a)) (r : n2 ≤ n1 + (1 + 2 * a)) : n2 ≤ n + A := by omega
theorem n_d {n n1 a A : Nat} (h : A = 3 + 4 * a) (p : n1 ≤ n + 1 + (1 + 2 * a)) : n1 ≤ n + A := by omega
theorem n_e {a b x : Nat} (h : a ≤ 2 * x) (k : b ≤ 2 * x) : 1 + a + b ≤ 1 + 4 * x := by omega
theorem n_f {a b x : Nat} (h : a ≤ 1 + 2 * x) (k : b ≤ 1 + 2 * x) : a + b ≤ 2 + 4 * x := by omega
theorem ask_b {ni nb deep d : Nat} {e : Ex} {l1 l2 : List Row} (h : deep = d + 1) (ho : (Row.ask e l1 l2).ok ni nb) (p : Rsb ni nb d l1) (r : Rsb ni nb d l2) : Rb ni nb deep (.ask e l1 l2) := by
  subst h
  exact ⟨ho, n_e p.wt r.wt, n_e p.sz r.sz, n_f p.ls r.ls, Nat.max_le.mpr ⟨p.dp, r.dp⟩⟩
theorem times_b {ni nb deep d t : Nat} {l : List Row} (h : deep = d + 1) (ht : t ≤ 2) (ho : (Row.times t l).ok ni nb) (p : Rsb ni nb d l) : Rb ni nb deep (.times t l) := by
  subst h
  exact ⟨ho, Nat.add_le_add_left (Nat.le_trans (Nat.mul_le_mul ht p.wt) (by omega)) 1, n_e (b := 0) p.sz (Nat.zero_le _), n_f (b := 0) p.ls (Nat.zero_le _), p.dp⟩
theorem get_set {σ : Store} {c : Nat} {x y : Flag × List PyData} (h : σ[c]? = some x) : (σ.set c y)[c]? = some y := List.getElem?_set_self (List.getElem?_eq_some_iff.mp h).1
theorem ev_at {Φ : Phi} {ρ : Rho} {σ : Store} {c : Nat} {n : Int} (h : ρ 40 = some (.cell c)) (hc : σ[c]? = some (.live, [.int n])) : evE Φ (.idx (.var 40) (.const (.int 0))) ρ σ = some (.dat (.int n), σ) := ev_idxR (evV h) rfl (by rw [x_rdC, hc]; rfl) rfl rfl
theorem ev_modR {Φ : Phi} {ρ : Rho} {σ : Store} {a : CE} {x m : Int} (h : evE Φ a ρ σ = some (.dat (.int x), σ)) (hm : m ≠ 0) : evE Φ (.bin .Mod a (.const (.int m))) ρ σ = some (.dat (.int (x.fmod m)), σ) := ev_binR (y := .dat (.int m)) h rfl rfl rfl (bi_mod hm)
theorem ev_divR {Φ : Phi} {ρ : Rho} {σ : Store} {a : CE} {x m : Int} (h : evE Φ a ρ σ = some (.dat (.int x), σ)) (hm : m ≠ 0) (hm' : m.natAbs < 1073741824) : evE Φ (.bin .FloorDiv a (.const (.int m))) ρ σ = some (.dat (.int (x.fdiv m)), σ) := ev_binR (y := .dat (.int m)) h rfl rfl rfl (bi_fdiv hm hm')
theorem dec_nat (a b : Nat) : decide (a = b) = ((a : Int) == (b : Int)) := by
  by_cases q : a = b
  · rw [decide_eq_true q, q, beq_self_eq_true]
  · rw [decide_eq_false q, beq_false_of_ne (by omega)]
noncomputable def nextS : List CS := [.setItem 40 (.const (.int 0)) (.bin .Add (.idx (.var 40) (.const (.int 0))) (.const (.int 1))), .assign 28 (.call 17 [(.call 16 [(.var 26), (.bin .Mod (.idx (.var 40) (.const (.int 0))) (.const (.int 40)))]), (.idx (.var 40) (.const (.int 0)))])]
theorem next_ok (N k : Nat) (xs : List Int) (hx : xs.length ≤ 63) (n : Nat) (hn : n ≤ 900) (σ : Store) (c : Nat) (hc : σ[c]? = some (.live, [.int n])) (ρ : Rho) (h26 : ρ 26 = some (.dat (.list (xs.map .int)))) (h40 : ρ 40 = some (.cell c)) : ∃ x : Int, ∀ cs, evSs N (tabAt tab3 N (k + 1)) (nextS ++ cs) ρ σ = evSs N (tabAt tab3 N (k + 1)) cs (ρ.set 28 (.dat (.int x))) (σ.set c (.live, [.int ((n + 1 : Nat) : Int)])) := by
  obtain ⟨j, hj, ej⟩ := fmod_nat ((n + 1 : Nat) : Int) (b := 40) (by decide)
  have ej' : ((n + 1 : Nat) : Int).fmod 40 = (j : Int) := ej
  have hc' : (σ.set c (.live, [.int ((n + 1 : Nat) : Int)]))[c]? = some (Flag.live, [PyData.int ((n + 1 : Nat) : Int)]) := get_set hc
  have h1 := s_cell_at N k xs hx j (by omega) (σ.set c (.live, [.int ((n + 1 : Nat) : Int)]))
  have h2 := s_mixed N k (cellAt xs j) (n + 1) (by omega) (σ.set c (.live, [.int ((n + 1 : Nat) : Int)]))
  refine ⟨mixed (cellAt xs j) ((n + 1 : Nat) : Int), fun cs => ?_⟩
  refine Eq.trans (r_setItem (k := 0) (d := .int ((n + 1 : Nat) : Int)) h40 (ev_addI (x := n) (y := 1) (ev_at h40 hc) rfl) rfl hc Nat.zero_lt_one (by show 1 ≤ 1000; decide)) (r_assign (ev_callR (vs := [.dat (.int (cellAt xs j)), .dat (.int ((n + 1 : Nat) : Int))]) (σ₁ := σ.set c (.live, [.int ((n + 1 : Nat) : Int)])) (el_one (v := .dat (.int (cellAt xs j))) (σ₁ := σ.set c (.live, [.int ((n + 1 : Nat) : Int)])) (ev_callR (vs := [.dat (.list (xs.map .int)), .dat (.int j)]) (el_var (v := .dat (.list (xs.map .int))) h26 (el_one (v := .dat (.int j)) (by rw [ev_modR (ev_at h40 hc') (by decide), ej']) rfl)) h1) (el_one (v := .dat (.int ((n + 1 : Nat) : Int))) (ev_at h40 hc') rfl)) h2))
theorem ev_tup3 {Φ : Phi} {ρ : Rho} {σ σ₁ : Store} {a b c : CE} {d e f : PyData} (h1 : evE Φ a ρ σ = some (.dat d, σ)) (h2 : evE Φ b ρ σ = some (.dat e, σ)) (h3 : evE Φ c ρ σ = some (.dat f, σ₁)) : evE Φ (.tup [a, b, c]) ρ σ = some (.dat (.tuple [d, e, f]), σ₁) := by
  rw [ev_tup, el_one h1 (el_one h2 (el_one h3 rfl))]
  rfl
theorem ev_tup4 {Φ : Phi} {ρ : Rho} {σ σ₁ : Store} {a b c g : CE} {d e f h : PyData} (h1 : evE Φ a ρ σ = some (.dat d, σ)) (h2 : evE Φ b ρ σ = some (.dat e, σ)) (h3 : evE Φ c ρ σ = some (.dat f, σ)) (h4 : evE Φ g ρ σ = some (.dat h, σ₁)) : evE Φ (.tup [a, b, c, g]) ρ σ = some (.dat (.tuple [d, e, f, h]), σ₁) := by
  rw [ev_tup, el_one h1 (el_one h2 (el_one h3 (el_one h4 rfl)))]
  rfl
section
variable {N k : Nat} {xs : List Int} (hx : xs.length ≤ 63) {rs : List (Int × Int)} (h3 : rs.length ≤ 3) {nb : Nat} (hb1 : 1 ≤ nb) (hb6 : nb ≤ 6) {c : Nat}
abbrev sizesD (rs : List (Int × Int)) (nb : Nat) : PyData := .tuple [.int rs.length, .int nb]
include hx h3 hb1 hb6
theorem stmt_step (deep : Nat) (hd : deep ≤ 2) (n : Nat) (hn : n + aB deep ≤ 900) (σ : Store) (hc : σ[c]? = some (.live, [.int n]))
    (HR : ∀ d, deep = d + 1 → ∀ (n : Nat) (σ : Store), n + (1 + 2 * aB d) ≤ 900 → σ[c]? = some (.live, [.int n]) → ∃ l n', Rsb rs.length nb d l ∧ n' ≤ n + (1 + 2 * aB d) ∧ tabAt tab3 N (k + 2) 23 [.dat (.list (xs.map .int)), .cell c, .dat (.int d), .dat (sizesD rs nb), .dat (.tuple (rs.map pairD))] σ = some (.ret (.dat (.tuple (rowsD l))), σ.set c (.live, [.int (n' : Nat)]))) :
    ∃ r n', Rb rs.length nb deep r ∧ n' ≤ n + aB deep ∧ tabAt tab3 N (k + 3) 22 [.dat (.list (xs.map .int)), .cell c, .dat (.int deep), .dat (sizesD rs nb), .dat (.tuple (rs.map pairD))] σ = some (.ret (.dat r.d), σ.set c (.live, [.int (n' : Nat)])) := by
  rw [tab_step (by rfl : tab3[22]? = some ([26, 40, 41, 35, 31], c__law_statement))]
  have ha1 : 1 ≤ aB deep := by cases deep <;> first | exact Nat.le_refl _ | (show 1 ≤ 3 + 4 * _; omega)
  have hw1 : 1 ≤ wB deep := by cases deep <;> first | exact Nat.le_refl _ | (show 1 ≤ 1 + 4 * _; omega)
  obtain ⟨x, e0⟩ := next_ok N (k + 1) xs hx n (by omega) σ c hc (Rho.set (Rho.set (Rho.set (Rho.set (Rho.set (fun _ => none) 26 (.dat (.list (xs.map .int)))) 40 (.cell c)) 41 (.dat (.int deep))) 35 (.dat (sizesD rs nb))) 31 (.dat (.tuple (rs.map pairD)))) rfl rfl
  generalize hσ1 : σ.set c (.live, [.int ((n + 1 : Nat) : Int)]) = σ1 at e0
  have hc1 : σ1[c]? = some (.live, [.int ((n + 1 : Nat) : Int)]) := by rw [← hσ1]; exact get_set hc
  have hss : ∀ y, σ1.set c y = σ.set c y := fun y => by rw [← hσ1, List.set_set]
  obtain ⟨e, he, e1⟩ := s_expr N k (x.fdiv 9) rs h3 nb hb6 σ1
  obtain ⟨wy, hwy, ewy⟩ := fmod_nat x (b := 9) (by decide)
  have ewy' : x.fmod 9 = (wy : Int) := ewy
  obtain ⟨b, hb, eb⟩ := fmod_nat (x.fdiv 9) (b := nb) (by omega)
  obtain ⟨t, ht, et⟩ := fmod_nat (x.fdiv 9) (b := 3) (by decide)
  have et' : (x.fdiv 9).fmod 3 = (t : Int) := et
  generalize hρ : ((((Rho.set (Rho.set (Rho.set (Rho.set (Rho.set (fun _ => none) 26 (.dat (.list (xs.map .int)))) 40 (.cell c)) 41 (.dat (.int deep))) 35 (.dat (sizesD rs nb))) 31 (.dat (.tuple (rs.map pairD)))).set 28 (.dat (.int x))).set 42 (.dat (.int wy))).set 43 (.dat e.d)) = ρ
  have q26 : ρ 26 = some (.dat (.list (xs.map .int))) := by rw [← hρ]; rfl
  have q40 : ρ 40 = some (.cell c) := by rw [← hρ]; rfl
  have q41 : ρ 41 = some (.dat (.int deep)) := by rw [← hρ]; rfl
  have q35 : ρ 35 = some (.dat (sizesD rs nb)) := by rw [← hρ]; rfl
  have q31 : ρ 31 = some (.dat (.tuple (rs.map pairD))) := by rw [← hρ]; rfl
  have q28 : ρ 28 = some (.dat (.int x)) := by rw [← hρ]; rfl
  have q42 : ρ 42 = some (.dat (.int wy)) := by rw [← hρ]; rfl
  have q43 : ρ 43 = some (.dat e.d) := by rw [← hρ]; rfl
  have hput : evE (tabAt tab3 N (k + 2)) (.bin .Mod (.bin .FloorDiv (.var 28) (.const (.int 9))) (.idx (.var 35) (.const (.int 1)))) ρ σ1 = some (.dat (.int b), σ1) := ev_binR (y := .dat (.int nb)) (ev_divR (evV q28) (by decide) (by decide)) (ev_ixD q35 rfl) rfl rfl (by rw [bi_mod (by omega), eb])
  have hmod3 : evE (tabAt tab3 N (k + 2)) (.bin .Mod (.bin .FloorDiv (.var 28) (.const (.int 9))) (.const (.int 3))) ρ σ1 = some (.dat (.int t), σ1) := by rw [ev_modR (ev_divR (evV q28) (by decide) (by decide)) (by decide), et']
  suffices key : ∃ r n', Rb rs.length nb deep r ∧ n' ≤ n + aB deep ∧ evSs N (tabAt tab3 N (k + 2)) (c__law_statement.drop 4) ρ σ1 = some (.ret (.dat r.d), σ1.set c (.live, [.int ((n' : Nat) : Int)])) by
    obtain ⟨r, n', hr, hn', e2⟩ := key
    refine ⟨r, n', hr, hn', ?_⟩
    have hb0 : evSs N (tabAt tab3 N (k + 2)) c__law_statement (Rho.set (Rho.set (Rho.set (Rho.set (Rho.set (fun _ => none) 26 (.dat (.list (xs.map .int)))) 40 (.cell c)) 41 (.dat (.int deep))) 35 (.dat (sizesD rs nb))) 31 (.dat (.tuple (rs.map pairD)))) σ = some (.ret (.dat r.d), σ.set c (.live, [.int ((n' : Nat) : Int)])) := by
      refine (e0 (c__law_statement.drop 2)).trans ?_
      refine Eq.trans (r_assign (v := .dat (.int wy)) (σ₁ := σ1) (by rw [ev_modR (evV rfl) (by decide), ewy'])) (Eq.trans (r_assign (v := .dat e.d) (σ₁ := σ1) (ev_callR (vs := [.dat (.int (x.fdiv 9)), .dat (sizesD rs nb), .dat (.tuple (rs.map pairD))]) (σ₁ := σ1) (el_one (ev_divR (evV rfl) (by decide) (by decide)) rfl) e1)) ?_)
      rw [← hss]
      exact (congrArg (fun ρ => evSs N (tabAt tab3 N (k + 2)) (c__law_statement.drop 4) ρ σ1) hρ).trans e2
    rw [x_run, show bindArgsR [26, 40, 41, 35, 31] [.dat (.list (xs.map .int)), .cell c, .dat (.int deep), .dat (sizesD rs nb), .dat (.tuple (rs.map pairD))] (fun _ => none) = some (Rho.set (Rho.set (Rho.set (Rho.set (Rho.set (fun _ => none) 26 (.dat (.list (xs.map .int)))) 40 (.cell c)) 41 (.dat (.int deep))) 35 (.dat (sizesD rs nb))) 31 (.dat (.tuple (rs.map pairD)))) from rfl, Option.bind_some, hb0, Option.bind_some, x_end, x_lvD, Option.bind_some, List.take_of_length_le (by rw [List.length_set]; exact Nat.le_refl _)]
  have same : σ1 = σ1.set c (.live, [.int ((n + 1 : Nat) : Int)]) := by rw [hss, hσ1]
  have e6 : ∀ (m : Nat), evE (tabAt tab3 N (k + 2)) (.cmp .Lt (.var 42) (.const (.int m))) ρ σ1 = some (.dat (.bool (decide (wy < m))), σ1) := fun m => by
    rw [show decide (wy < m) = decide ((wy : Int) < m) from by simp]
    exact ev_cmpR (evV q42) rfl rfl
  have eeq : ∀ (m : Nat), evE (tabAt tab3 N (k + 2)) (.cmp .Eq (.var 42) (.const (.int m))) ρ σ1 = some (.dat (.bool (decide (wy = m))), σ1) := fun m => by
    rw [dec_nat]
    exact ev_cmpR (evV q42) rfl (cm_eqi _ _)
  have ed0 : evE (tabAt tab3 N (k + 2)) (.cmp .Eq (.var 41) (.const (.int 0))) ρ σ1 = some (.dat (.bool (decide (deep = 0))), σ1) := by
    rw [dec_nat]
    exact ev_cmpR (evV q41) rfl (cm_eqi _ _)
  have edg : evE (tabAt tab3 N (k + 2)) (.cmp .Gt (.var 41) (.const (.int 0))) ρ σ1 = some (.dat (.bool (decide (0 < deep))), σ1) := ev_pos (evV q41)
  have c1 := ev_or2 (e6 3) fun _ => ev_and2 ed0 fun _ => e6 6
  have c2 := e6 6
  have c3 := ev_and2 (eeq 6) fun _ => edg
  have c4 := ev_and2 (eeq 7) fun _ => (show evE (tabAt tab3 N (k + 2)) (.cmp .Eq (.bin .Mod (.bin .FloorDiv (.var 28) (.const (.int 9))) (.const (.int 3))) (.const (.int 1))) ρ σ1 = some (.dat (.bool ((t : Int) == 1)), σ1) from ev_cmpR hmod3 rfl (cm_eqi _ _))
  have c5 := ev_and2 (eeq 8) fun _ => ev_pos hmod3
  have hrows : ∀ (ρ' : Rho), ρ' 26 = some (.dat (.list (xs.map .int))) → ρ' 40 = some (.cell c) → ρ' 41 = some (.dat (.int deep)) → ρ' 35 = some (.dat (sizesD rs nb)) → ρ' 31 = some (.dat (.tuple (rs.map pairD))) → ∀ d, deep = d + 1 → ∀ (m : Nat) (τ : Store), m + (1 + 2 * aB d) ≤ 900 → τ[c]? = some (.live, [.int m]) →
      ∃ l n', Rsb rs.length nb d l ∧ n' ≤ m + (1 + 2 * aB d) ∧ evE (tabAt tab3 N (k + 2)) (.call 23 [(.var 26), (.var 40), (.bin .Sub (.var 41) (.const (.int 1))), (.var 35), (.var 31)]) ρ' τ = some (.dat (.tuple (rowsD l)), τ.set c (.live, [.int (n' : Nat)])) := fun ρ' a26 a40 a41 a35 a31 d hd' m τ hm hτ => by
    obtain ⟨l, n', q1, q2, q3⟩ := HR d hd' m τ hm hτ
    refine ⟨l, n', q1, q2, ev_callR (vs := [.dat (.list (xs.map .int)), .cell c, .dat (.int d), .dat (sizesD rs nb), .dat (.tuple (rs.map pairD))]) (σ₁ := τ) (el_var a26 (el_var a40 (el_one (v := .dat (.int d)) ?_ (el_var a35 (el_var a31 rfl))))) q3⟩
    rw [show PyData.int (d : Int) = .int ((deep : Int) - 1) from by rw [hd']; congr 1; omega]
    exact ev_binR (y := .dat (.int 1)) (evV a41) rfl rfl rfl rfl
  by_cases g1 : wy < 3 ∨ (deep = 0 ∧ wy < 6)
  · rw [show (decide (wy < 3) || (decide (deep = 0) && decide (wy < 6))) = true from by simpa using g1] at c1
    exact ⟨.put b e, n + 1, ⟨⟨hb, he⟩, hw1, hw1, Nat.zero_le _, Nat.zero_le _⟩, Nat.add_le_add_left ha1 n, (r_taken c1 (r_ret (ev_tup3 rfl hput (evV q43)))).trans (by rw [← same]; rfl)⟩
  rw [show (decide (wy < 3) || (decide (deep = 0) && decide (wy < 6))) = false from by rw [← Bool.not_eq_true]; simpa using g1] at c1
  by_cases g2 : wy < 6
  · rw [decide_eq_true g2] at c2
    obtain ⟨d, hd'⟩ : ∃ d, deep = d + 1 := ⟨deep - 1, by omega⟩
    have haB : aB deep = 3 + 4 * aB d := by rw [hd']; rfl
    obtain ⟨l1, n1, p1, p2, p3⟩ := hrows ρ q26 q40 q41 q35 q31 d hd' (n + 1) σ1 (n_a haB hn) hc1
    obtain ⟨l2, n2, r1, r2, r3⟩ := hrows (ρ.set 44 (.dat (.tuple (rowsD l1)))) q26 q40 q41 q35 q31 d hd' n1 (σ1.set c (.live, [.int (n1 : Nat)])) (n_b haB hn p2) (get_set hc1)
    rw [List.set_set] at r3
    refine ⟨.ask e l1 l2, n2, ask_b hd' ⟨he, p1.ok, r1.ok⟩ p1 r1, n_c haB p2 r2, Eq.trans (r_skip c1) (r_taken c2 (Eq.trans (r_assign p3) (r_ret ?_)))⟩
    · exact ev_tup4 rfl (evV (by exact q43)) (evV rfl) r3
  rw [decide_eq_false g2] at c2
  by_cases g3 : wy = 6 ∧ 0 < deep
  · rw [show (decide (wy = 6) && decide (0 < deep)) = true from by simpa using g3] at c3
    obtain ⟨d, hd'⟩ : ∃ d, deep = d + 1 := ⟨deep - 1, by omega⟩
    have haB : aB deep = 3 + 4 * aB d := by rw [hd']; rfl
    obtain ⟨l1, n1, p1, p2, p3⟩ := hrows ρ q26 q40 q41 q35 q31 d hd' (n + 1) σ1 (n_a haB hn) hc1
    refine ⟨.times t l1, n1, times_b hd' (by omega) ⟨by omega, p1.ok⟩ p1, n_d haB p2, Eq.trans (r_skip c1) (Eq.trans (r_skip c2) (r_taken c3 (r_ret (ev_tup3 rfl hmod3 p3))))⟩
  rw [show (decide (wy = 6) && decide (0 < deep)) = false from by rw [← Bool.not_eq_true]; simpa using g3] at c3
  by_cases g4 : wy = 7 ∧ t = 1
  · rw [show (decide (wy = 7) && ((t : Int) == 1)) = true from by rw [decide_eq_true g4.1, g4.2]; rfl] at c4
    obtain ⟨w, hw, ew⟩ := s_word_by N k (x.fdiv 27) σ1
    exact ⟨.stop w, n + 1, ⟨hw, hw1, hw1, Nat.zero_le _, Nat.zero_le _⟩, Nat.add_le_add_left ha1 n, Eq.trans (r_skip c1) (Eq.trans (r_skip c2) (Eq.trans (r_skip c3) ((r_taken c4 (r_ret (ev_tup2 rfl (ev_callR (vs := [.dat (.int (x.fdiv 27))]) (σ₁ := σ1) (el_one (ev_divR (evV q28) (by decide) (by decide)) rfl) ew)))).trans (by rw [← same]; rfl))))⟩
  rw [show (decide (wy = 7) && ((t : Int) == 1)) = false from by
    rw [← Bool.not_eq_true, Bool.and_eq_true, decide_eq_true_eq, beq_iff_eq]
    intro q
    exact g4 ⟨q.1, by omega⟩] at c4
  by_cases g5 : wy = 8 ∧ 0 < t
  · rw [show (decide (wy = 8) && decide (0 < t)) = true from by simpa using g5] at c5
    exact ⟨.tell e, n + 1, ⟨he, hw1, hw1, Nat.zero_le _, Nat.zero_le _⟩, Nat.add_le_add_left ha1 n, Eq.trans (r_skip c1) (Eq.trans (r_skip c2) (Eq.trans (r_skip c3) (Eq.trans (r_skip c4) ((r_taken c5 (r_ret (ev_tup2 rfl (evV q43)))).trans (by rw [← same]; rfl)))))⟩
  rw [show (decide (wy = 8) && decide (0 < t)) = false from by rw [← Bool.not_eq_true]; simpa using g5] at c5
  refine ⟨.put b ⟨e.c, List.replicate rs.length 0, e.o⟩, n + 1, ⟨⟨hb, ⟨by simp, he.no, fun f hf => by rw [(List.mem_replicate.mp hf).2]; decide, he.so⟩⟩, hw1, hw1, Nat.zero_le _, Nat.zero_le _⟩, Nat.add_le_add_left ha1 n, Eq.trans (r_skip c1) (Eq.trans (r_skip c2) (Eq.trans (r_skip c3) (Eq.trans (r_skip c4) (Eq.trans (r_skip c5) ((r_ret (ev_tup3 rfl hput (ev_tup3 (ev_ixD q43 rfl) (ev_binR (x := .dat (.tuple [.int 0])) (y := .dat (.int rs.length)) rfl (ev_ixD q35 rfl) rfl rfl (bi_reps 0 (by omega))) (ev_ixD q43 rfl)))).trans (by rw [← same]; rfl))))))⟩
end
theorem c_a {n x a z : Nat} (h : n + (x + a) ≤ z) : n + a ≤ z := by omega
theorem c_b {n n1 x a z : Nat} (h : n + (x + a) ≤ z) (p : n1 ≤ n + a) : n1 + x ≤ z := by omega
theorem c_c {n n1 n2 x a : Nat} (h : n2 ≤ n1 + x) (p : n1 ≤ n + a) : n2 ≤ n + (x + a) := by omega
theorem c_d {a b x w : Nat} (h : a ≤ w) (k : b ≤ x) : a + b ≤ x + w := by omega
theorem c_e {a b x w : Nat} (h : a ≤ w) (k : b ≤ 1 + x) : a + b ≤ 1 + (x + w) := by omega
theorem set_same {σ : Store} {c : Nat} {x : Flag × List PyData} (h : σ[c]? = some x) : σ.set c x = σ := by
  apply List.ext_getElem?
  intro i
  rw [List.getElem?_set]
  split
  · rename_i e; subst e; exact (if_pos (List.getElem?_eq_some_iff.mp h).1).trans h.symm
  · rfl
section
variable {N : Nat} {xs : List Int} (hx : xs.length ≤ 63) {rs : List (Int × Int)} (h3 : rs.length ≤ 3) {nb : Nat} (hb1 : 1 ≤ nb) (hb6 : nb ≤ 6) {c : Nat}
noncomputable def ceRow : CE := .call 22 [(.var 26), (.var 40), (.var 41), (.var 35), (.var 31)]
noncomputable def StOk (N k : Nat) (xs : List Int) (rs : List (Int × Int)) (nb c deep : Nat) : Prop := ∀ (n : Nat) (σ : Store), n + aB deep ≤ 900 → σ[c]? = some (.live, [.int n]) → ∃ r n', Rb rs.length nb deep r ∧ n' ≤ n + aB deep ∧ tabAt tab3 N k 22 [.dat (.list (xs.map .int)), .cell c, .dat (.int deep), .dat (sizesD rs nb), .dat (.tuple (rs.map pairD))] σ = some (.ret (.dat r.d), σ.set c (.live, [.int (n' : Nat)]))
theorem rows_comp {k deep : Nat} (HS : StOk N k xs rs nb c deep) (ρ : Rho) (q26 : ρ 26 = some (.dat (.list (xs.map .int)))) (q40 : ρ 40 = some (.cell c)) (q41 : ρ 41 = some (.dat (.int deep))) (q35 : ρ 35 = some (.dat (sizesD rs nb))) (q31 : ρ 31 = some (.dat (.tuple (rs.map pairD)))) : ∀ (ds : List PyData) (n : Nat) (σ : Store), n + ds.length * aB deep ≤ 900 → σ[c]? = some (.live, [.int n]) →
    ∃ l n', (rowsOk rs.length nb l ∧ rowsWt l ≤ ds.length * wB deep ∧ rowsSz l ≤ ds.length * wB deep ∧ rowsLs l ≤ 1 + ds.length * lB deep ∧ rowsDp l ≤ deep + 1) ∧ n' ≤ n + ds.length * aB deep ∧ compGo (fun ρ' σ' => evE (tabAt tab3 N k) ceRow ρ' σ') (fun ρ' σ' => evB (tabAt tab3 N k) .And [] ρ' σ') (.one 27) ρ ds σ = some (rowsD l, σ.set c (.live, [.int (n' : Nat)])) := by
  intro ds
  induction ds with
  | nil => intro n σ _ hc; exact ⟨[], n, ⟨trivial, Nat.zero_le _, Nat.zero_le _, Nat.le_add_right .., Nat.le_add_left ..⟩, Nat.le_add_right .., by rw [set_same hc]; rfl⟩
  | cons d ds ih =>
    intro n σ hn hc
    rw [List.length_cons, Nat.succ_mul] at hn
    obtain ⟨r, n1, p1, p2, p3⟩ := HS n σ (c_a hn) hc
    obtain ⟨l, n2, ⟨a1, a2, a3, a4, a5⟩, a6, a7⟩ := ih n1 (σ.set c (.live, [.int (n1 : Nat)])) (c_b hn p2) (get_set hc)
    rw [List.set_set] at a7
    refine ⟨r :: l, n2, ⟨⟨p1.ok, a1⟩, ?_, ?_, ?_, ?_⟩, by rw [List.length_cons, Nat.succ_mul]; exact c_c a6 p2, ?_⟩
    · rw [List.length_cons, Nat.succ_mul]; exact c_d p1.wt a2
    · rw [List.length_cons, Nat.succ_mul]; exact c_d p1.sz a3
    · rw [List.length_cons, Nat.succ_mul]; exact c_e p1.ls a4
    · exact Nat.max_le.mpr ⟨Nat.succ_le_succ p1.dp, a5⟩
    · have he : evE (tabAt tab3 N k) (.call 22 [(.var 26), (.var 40), (.var 41), (.var 35), (.var 31)]) (ρ.set 27 (.dat d)) σ = some (.dat r.d, σ.set c (.live, [.int (n1 : Nat)])) := ev_callR (vs := [.dat (.list (xs.map .int)), .cell c, .dat (.int deep), .dat (sizesD rs nb), .dat (.tuple (rs.map pairD))]) (σ₁ := σ) (el_var (v := .dat (.list (xs.map .int))) (by exact q26) (el_var (v := .cell c) (by exact q40) (el_var (v := .dat (.int deep)) (by exact q41) (el_var (v := .dat (sizesD rs nb)) (by exact q35) (el_var (v := .dat (.tuple (rs.map pairD))) (by exact q31) rfl))))) p3
      have hcc : ∀ (elt : Rho → Store → Option (AV × Store)) (tests : Rho → Store → Option (Bool × Store)) (σ₁ : Store) (r : PyData) (z : List PyData × Store), tests (ρ.set 27 (.dat d)) σ = some (true, σ) → elt (ρ.set 27 (.dat d)) σ = some (.dat r, σ₁) → compGo elt tests (.one 27) ρ ds σ₁ = some z → compGo elt tests (.one 27) ρ (d :: ds) σ = some (r :: z.1, z.2) := fun elt tests σ₁ r z h1 h2 h3 => by
        show (tests (ρ.set 27 (.dat d)) σ).bind _ = _
        rw [h1, Option.bind_some, if_pos rfl, h2]
        show (compGo elt tests (.one 27) ρ ds σ₁).bind _ = _
        rw [h3]
        rfl
      exact hcc _ _ _ _ _ rfl he a7
include hx
theorem rows_step {k deep : Nat} (hd : deep ≤ 2) (HS : StOk N (k + 3) xs rs nb c deep) (n : Nat) (σ : Store) (hn : n + (1 + 2 * aB deep) ≤ 900) (hc : σ[c]? = some (.live, [.int n])) : ∃ l n', Rsb rs.length nb deep l ∧ n' ≤ n + (1 + 2 * aB deep) ∧ tabAt tab3 N (k + 4) 23 [.dat (.list (xs.map .int)), .cell c, .dat (.int deep), .dat (sizesD rs nb), .dat (.tuple (rs.map pairD))] σ = some (.ret (.dat (.tuple (rowsD l))), σ.set c (.live, [.int (n' : Nat)])) := by
  rw [tab_step (by rfl : tab3[23]? = some ([26, 40, 41, 35, 31], c__law_rows))]
  have hw2 : wB deep ≤ 21 ∧ aB deep ≤ 31 ∧ lB deep ≤ 10 := by
    match deep, hd with
    | 0, _ => decide
    | 1, _ => decide
    | 2, _ => decide
  obtain ⟨x, e0⟩ := next_ok N (k + 2) xs hx n (by omega) σ c hc (Rho.set (Rho.set (Rho.set (Rho.set (Rho.set (fun _ => none) 26 (.dat (.list (xs.map .int)))) 40 (.cell c)) 41 (.dat (.int deep))) 35 (.dat (sizesD rs nb))) 31 (.dat (.tuple (rs.map pairD)))) rfl rfl
  have hc1 : (σ.set c (.live, [.int ((n + 1 : Nat) : Int)]))[c]? = some (Flag.live, [PyData.int ((n + 1 : Nat) : Int)]) := get_set hc
  obtain ⟨t, ht, et⟩ := fmod_nat x (b := 2) (by decide)
  have et' : x.fmod 2 = (t : Int) := et
  have body : ∀ (m : Nat), m ≤ 2 → ∀ ρ : Rho, ρ 26 = some (.dat (.list (xs.map .int))) → ρ 40 = some (.cell c) → ρ 41 = some (.dat (.int deep)) → ρ 35 = some (.dat (sizesD rs nb)) → ρ 31 = some (.dat (.tuple (rs.map pairD))) → ρ 30 = some (.dat (.int m)) →
      ∃ l n', Rsb rs.length nb deep l ∧ n' ≤ n + (1 + 2 * aB deep) ∧ evSs N (tabAt tab3 N (k + 3)) (c__law_rows.drop 4) ρ (σ.set c (.live, [.int ((n + 1 : Nat) : Int)])) = some (.ret (.dat (.tuple (rowsD l))), σ.set c (.live, [.int (n' : Nat)])) := fun m hm ρ q26 q40 q41 q35 q31 q30 => by
    have hmul : ∀ z, m * z ≤ 2 * z := fun z => Nat.mul_le_mul_right z hm
    obtain ⟨l, n', ⟨a1, a2, a3, a4, a5⟩, a6, a7⟩ := rows_comp HS ρ q26 q40 q41 q35 q31 ((List.range m).map fun k => PyData.int (k : Nat)) (n + 1) (σ.set c (.live, [.int ((n + 1 : Nat) : Int)])) (by have := hmul (aB deep); simp; omega) hc1
    rw [List.set_set] at a7
    rw [List.length_map, List.length_range] at a2 a3 a4 a6
    refine ⟨l, n', ⟨a1, Nat.le_trans a2 (hmul _), Nat.le_trans a3 (hmul _), Nat.le_trans a4 (Nat.add_le_add_left (hmul _) _), a5⟩, by have := hmul (aB deep); omega, r_ret (ev_primR (vs := [.dat (.list (rowsD l))]) (σ₁ := σ.set c (.live, [.int (n' : Nat)])) (el_one (v := .fresh (rowsD l)) (σ₁ := σ.set c (.live, [.int (n' : Nat)])) ?_ rfl) rfl (pt_list (le_lim (m := 100) (by have := len_sz l; have := hmul (wB deep); rw [rowsD_len]; omega) (by decide))))⟩
    show evE _ (.comp ceRow (.one 27) .range1 [.var 30] []) ρ _ = _
    rw [ev_comp, el_var q30 rfl, Option.bind_some]
    show ((itemsD .range1 [.int m]).bind _) = _
    rw [range_it (by omega), Option.bind_some, if_pos (le_lim (m := 2) (by simpa using hm) (by decide))]
    show (compGo _ _ (.one 27) ρ _ (σ.set c (.live, [.int ((n + 1 : Nat) : Int)]))).bind _ = _
    rw [a7]
    rfl
  suffices key : ∃ l n', Rsb rs.length nb deep l ∧ n' ≤ n + (1 + 2 * aB deep) ∧ evSs N (tabAt tab3 N (k + 3)) c__law_rows (Rho.set (Rho.set (Rho.set (Rho.set (Rho.set (fun _ => none) 26 (.dat (.list (xs.map .int)))) 40 (.cell c)) 41 (.dat (.int deep))) 35 (.dat (sizesD rs nb))) 31 (.dat (.tuple (rs.map pairD)))) σ = some (.ret (.dat (.tuple (rowsD l))), σ.set c (.live, [.int (n' : Nat)])) by
    obtain ⟨l, n', p1, p2, p3⟩ := key
    refine ⟨l, n', p1, p2, ?_⟩
    rw [x_run, show bindArgsR [26, 40, 41, 35, 31] [.dat (.list (xs.map .int)), .cell c, .dat (.int deep), .dat (sizesD rs nb), .dat (.tuple (rs.map pairD))] (fun _ => none) = some (Rho.set (Rho.set (Rho.set (Rho.set (Rho.set (fun _ => none) 26 (.dat (.list (xs.map .int)))) 40 (.cell c)) 41 (.dat (.int deep))) 35 (.dat (sizesD rs nb))) 31 (.dat (.tuple (rs.map pairD)))) from rfl, Option.bind_some, p3, Option.bind_some, x_end, x_lvD, Option.bind_some, List.take_of_length_le (by rw [List.length_set]; exact Nat.le_refl _)]
  have hm1 : ∀ ρ : Rho, ρ 28 = some (.dat (.int x)) → evE (tabAt tab3 N (k + 3)) (.bin .Add (.const (.int 1)) (.bin .Mod (.var 28) (.const (.int 2)))) ρ (σ.set c (.live, [.int ((n + 1 : Nat) : Int)])) = some (.dat (.int ((1 + t : Nat) : Int)), σ.set c (.live, [.int ((n + 1 : Nat) : Int)])) := fun ρ h => by
    rw [show (((1 + t : Nat)) : Int) = 1 + x.fmod 2 from by omega]
    exact ev_addI rfl (ev_modR (evV h) (by decide))
  have hgt : ∀ ρ : Rho, ρ 40 = some (.cell c) → evE (tabAt tab3 N (k + 3)) (.cmp .Gt (.idx (.var 40) (.const (.int 0))) (.const (.int 30))) ρ (σ.set c (.live, [.int ((n + 1 : Nat) : Int)])) = some (.dat (.bool (decide ((30 : Int) < ((n + 1 : Nat) : Int)))), σ.set c (.live, [.int ((n + 1 : Nat) : Int)])) := fun ρ h => ev_cmpR (ev_at h hc1) rfl rfl
  cases hq : decide ((30 : Int) < ((n + 1 : Nat) : Int)) with
  | false =>
    simp only [hq] at hgt
    obtain ⟨l, n', p1, p2, p3⟩ := body (1 + t) (by omega) (Rho.set (Rho.set (Rho.set (Rho.set (Rho.set (Rho.set (Rho.set (fun _ => none) 26 (.dat (.list (xs.map .int)))) 40 (.cell c)) 41 (.dat (.int deep))) 35 (.dat (sizesD rs nb))) 31 (.dat (.tuple (rs.map pairD)))) 28 (.dat (.int x))) 30 (.dat (.int ((1 + t : Nat) : Int)))) rfl rfl rfl rfl rfl rfl
    exact ⟨l, n', p1, p2, (e0 (c__law_rows.drop 2)).trans (Eq.trans (r_assign (hm1 _ rfl)) (Eq.trans (r_skip (hgt _ rfl)) p3))⟩
  | true =>
    simp only [hq] at hgt
    obtain ⟨l, n', p1, p2, p3⟩ := body 0 (by omega) (Rho.set (Rho.set (Rho.set (Rho.set (Rho.set (Rho.set (Rho.set (Rho.set (fun _ => none) 26 (.dat (.list (xs.map .int)))) 40 (.cell c)) 41 (.dat (.int deep))) 35 (.dat (sizesD rs nb))) 31 (.dat (.tuple (rs.map pairD)))) 28 (.dat (.int x))) 30 (.dat (.int ((1 + t : Nat) : Int)))) 30 (.dat (.int 0))) rfl rfl rfl rfl rfl rfl
    exact ⟨l, n', p1, p2, (e0 (c__law_rows.drop 2)).trans (Eq.trans (r_assign (hm1 _ rfl)) (Eq.trans (r_next (Eq.trans (r_true (hgt _ rfl)) (Eq.trans (r_assign (v := .dat (.int 0)) (σ₁ := σ.set c (.live, [.int ((n + 1 : Nat) : Int)])) rfl) es_nil))) p3))⟩
include h3 hb1 hb6
theorem s_stmt : ∀ (deep : Nat), deep ≤ 2 → ∀ k, StOk N (k + 2 * deep + 3) xs rs nb c deep := by
  intro deep
  induction deep with
  | zero => intro _ k n σ hn hc; exact stmt_step (k := k) hx h3 hb1 hb6 0 (by decide) n hn σ hc fun d e => absurd e (by omega)
  | succ d ih =>
    intro hd k n σ hn hc
    refine stmt_step (k := k + 2 * (d + 1)) hx h3 hb1 hb6 (d + 1) hd n hn σ hc fun d' e m τ hm hτ => ?_
    obtain rfl : d' = d := by omega
    exact rows_step (k := k + 2 * d') hx (by omega) (ih (by omega) k) m τ hm hτ
end
structure PB (rs : List (Int × Int)) (nb : Nat) (rows : List Row) : Prop where
  h3 : rs.length ≤ 3
  hr : ∀ r ∈ rs, okR r
  fr : ∀ r ∈ rs, farR r
  b1 : 1 ≤ nb
  b6 : nb ≤ 6
  ok : rowsOk rs.length nb rows
  wt : rowsWt rows ≤ 68
  sz : rowsSz rows ≤ 60
  ls : rowsLs rows ≤ 40
  dp : rowsDp rows ≤ 3
structure R0b (ni nb : Nat) (R : List Row) : Prop where
  ok : rowsOk ni nb R
  wt : rowsWt R ≤ 25
  sz : rowsSz R ≤ 5
  ls : rowsLs R ≤ 5
  dp : rowsDp R ≤ 3
theorem ev_reps {Φ : Phi} {ρ : Rho} {σ : Store} {b : CE} (i : Int) {n : Nat} (h : evE Φ b ρ σ = some (.dat (.int n), σ)) (hn : n ≤ 1000) : evE Φ (.bin .Mult (.tup [.const (.int i)]) b) ρ σ = some (.dat (.tuple ((List.replicate n i).map .int)), σ) := ev_binR (x := .dat (.tuple [.int i])) rfl h rfl rfl (bi_reps i hn)
theorem ev_cat {Φ : Phi} {ρ : Rho} {σ : Store} {a b : CE} {x : Int} {ys : List Int} (h1 : evE Φ a ρ σ = some (.dat (.int x), σ)) (h2 : evE Φ b ρ σ = some (.dat (.tuple (ys.map .int)), σ)) (hl : ys.length ≤ 100) : evE Φ (.bin .Add (.tup [a]) b) ρ σ = some (.dat (.tuple ((x :: ys).map .int)), σ) := by
  refine ev_binR (x := .dat (.tuple [.int x])) ?_ h2 rfl rfl (bi_addT (le_lim (m := 200) ?_ (by decide)))
  · rw [ev_tup, el_one h1 rfl]; rfl
  · rw [List.length_map]; show 1 + ys.length ≤ _; omega
theorem ev_tup1 {Φ : Phi} {ρ : Rho} {σ σ₁ : Store} {a : CE} {d : PyData} (h1 : evE Φ a ρ σ = some (.dat d, σ₁)) : evE Φ (.tup [a]) ρ σ = some (.dat (.tuple [d]), σ₁) := by
  rw [ev_tup, el_one h1 rfl]
  rfl
theorem ev_modE {Φ : Phi} {ρ : Rho} {σ : Store} {i : Nat} {y m : Int} {n : Nat} (h : ρ i = some (.dat (.int y))) (hm : m ≠ 0) (e : y.fmod m = n) : evE Φ (.bin .Mod (.var i) (.const (.int m))) ρ σ = some (.dat (.int n), σ) := by rw [← e]; exact ev_modR (evV h) hm
theorem ev_dmE {Φ : Phi} {ρ : Rho} {σ : Store} {i : Nat} {y q m : Int} {n : Nat} (h : ρ i = some (.dat (.int y))) (hq : q ≠ 0) (hq' : q.natAbs < 1073741824) (hm : m ≠ 0) (e : (y.fdiv q).fmod m = n) : evE Φ (.bin .Mod (.bin .FloorDiv (.var i) (.const (.int q))) (.const (.int m))) ρ σ = some (.dat (.int n), σ) := by rw [← e]; exact ev_modR (ev_divR (evV h) hq hq') hm
theorem ev_eqN {Φ : Phi} {ρ : Rho} {σ : Store} {a : CE} {n : Nat} (m : Nat) (h : evE Φ a ρ σ = some (.dat (.int n), σ)) : evE Φ (.cmp .Eq a (.const (.int m))) ρ σ = some (.dat (.bool (decide (n = m))), σ) := by rw [dec_nat]; exact ev_cmpR h rfl (cm_eqi _ _)
theorem later_ok : wordOk (Str.ofString "later") := ⟨by decide +kernel, by decide +kernel, by decide +kernel⟩
theorem first_n {j m : Nat} (hj : j < 9) (h : 1 + 8 * m ≤ 25) : 1 + j * m + 0 ≤ 25 := Nat.le_trans (Nat.add_le_add_left (Nat.mul_le_mul_right m (Nat.le_of_lt_succ hj)) 1) h
theorem first_rows (N : Nat) (Φ : Phi) (ni nb : Nat) (hi : ni ≤ 3) (hb1 : 1 ≤ nb) (hb6 : nb ≤ 6) (y : Int) (σ : Store) (ρ : Rho) (q35 : ρ 35 = some (.dat (.tuple [.int ni, .int nb]))) (q32 : ρ 32 = some (.dat (.int y))) (q46 : ρ 46 = some (.dat (.tuple []))) :
    ∃ R ρ', R0b ni nb R ∧ (∀ cs, evSs N Φ ((c__law_program.drop 5).take 2 ++ cs) ρ σ = evSs N Φ cs ρ' σ) ∧ ρ' 46 = some (.dat (.tuple (rowsD R))) ∧ ρ' 26 = ρ 26 ∧ ρ' 40 = ρ 40 ∧ ρ' 35 = ρ 35 ∧ ρ' 31 = ρ 31 ∧ ρ' 45 = ρ 45 := by
  have b1 : ni ≤ 1000 := Nat.le_trans hi (by decide)
  have b2 : nb - 1 ≤ 1000 := Nat.le_trans (Nat.sub_le ..) (Nat.le_trans hb6 (by decide))
  obtain ⟨u, hu, eu⟩ := fmod_nat y (b := 3) (by decide)
  obtain ⟨j, hj, ej⟩ := fmod_nat (y.fdiv 6) (b := 9) (by decide)
  have hni : ∀ ρ : Rho, ρ 35 = some (.dat (.tuple [.int ni, .int nb])) → evE Φ (.idx (.var 35) (.const (.int 0))) ρ σ = some (.dat (.int ni), σ) := fun ρ h => ev_ixD h rfl
  have hnb : ∀ ρ : Rho, ρ 35 = some (.dat (.tuple [.int ni, .int nb])) → evE Φ (.bin .Sub (.idx (.var 35) (.const (.int 1))) (.const (.int 1))) ρ σ = some (.dat (.int ((nb - 1 : Nat) : Int)), σ) := fun ρ h => by
    rw [show (((nb - 1 : Nat)) : Int) = (nb : Int) - 1 from by omega]
    exact ev_binR (y := .dat (.int 1)) (ev_ixD h rfl) rfl rfl rfl rfl
  have hu1 : evE Φ (.cmp .Eq (.bin .Mod (.var 32) (.const (.int 3))) (.const (.int 1))) ρ σ = some (.dat (.bool (decide (u = 1))), σ) := ev_eqN 1 (ev_modE q32 (by decide) eu)
  have hu2 : ∀ ρ : Rho, ρ 32 = some (.dat (.int y)) → ρ 35 = some (.dat (.tuple [.int ni, .int nb])) → evE Φ (.bop .And [(.cmp .Eq (.bin .Mod (.var 32) (.const (.int 3))) (.const (.int 2))), (.cmp .Gt (.idx (.var 35) (.const (.int 1))) (.const (.int 1)))]) ρ σ = some (.dat (.bool (decide (u = 2) && decide ((1 : Int) < nb))), σ) := fun ρ h h' => ev_and2 (ev_eqN 2 (ev_modE h (by decide) eu)) fun _ => ev_cmpR (ev_ixD h' rfl) rfl rfl
  by_cases g1 : u = 1
  · rw [decide_eq_true g1] at hu1
    obtain ⟨t, ht, et⟩ := fmod_nat (y.fdiv 3) (b := 2) (by decide)
    have he : evE Φ (.tup [(.const (.int 1)), (.bin .Mult (.tup [(.const (.int 1))]) (.idx (.var 35) (.const (.int 0)))), (.bin .Add (.tup [(.bin .Add (.const (.int 1)) (.bin .Mod (.bin .FloorDiv (.var 32) (.const (.int 3))) (.const (.int 2))))]) (.bin .Mult (.tup [(.const (.int 0))]) (.bin .Sub (.idx (.var 35) (.const (.int 1))) (.const (.int 1)))))]) ρ σ = some (.dat (Ex.d ⟨1, List.replicate ni 1, (1 + (t : Int)) :: List.replicate (nb - 1) 0⟩), σ) :=
      ev_tup3 rfl (ev_reps 1 (hni ρ q35) b1) (ev_cat (ev_addI rfl (ev_dmE q32 (by decide) (by decide) (by decide) et)) (ev_reps 0 (hnb ρ q35) b2) (by simp; omega))
    have hok : Ex.ok ni nb ⟨1, List.replicate ni 1, (1 + (t : Int)) :: List.replicate (nb - 1) 0⟩ := ⟨by simp, by simp; omega, fun f hf => by rw [(List.mem_replicate.mp hf).2]; decide, fun f hf => by
      rcases List.mem_cons.mp hf with rfl | hf
      · omega
      · rw [(List.mem_replicate.mp hf).2]; decide⟩
    have hc2 := hu2 (((ρ.set 43 (.dat (Ex.d ⟨1, List.replicate ni 1, (1 + (t : Int)) :: List.replicate (nb - 1) 0⟩))).set 46 (.dat (.tuple (rowsD [.times j [.put 0 ⟨1, List.replicate ni 1, (1 + (t : Int)) :: List.replicate (nb - 1) 0⟩]]))))) q32 q35
    rw [show (decide (u = 2) && decide ((1 : Int) < nb)) = false from by rw [g1]; rfl] at hc2
    refine ⟨[.times j [.put 0 ⟨1, List.replicate ni 1, (1 + (t : Int)) :: List.replicate (nb - 1) 0⟩]], _, ⟨⟨⟨Nat.le_of_lt_succ hj, ⟨hb1, hok⟩, trivial⟩, trivial⟩, first_n (m := 1) hj (by decide), by show 1 + (1 + 0) + 0 ≤ 5; decide, by show (0 + 1) + 1 ≤ 5; decide, by show max (max (0 + 1) 1 + 1) 1 ≤ 3; decide⟩, fun cs => Eq.trans (r_next (Eq.trans (r_true hu1) (Eq.trans (r_assign he) (Eq.trans (r_newdat (d := .tuple (rowsD [.times j [.put 0 ⟨1, List.replicate ni 1, (1 + (t : Int)) :: List.replicate (nb - 1) 0⟩]])) (ev_tup1 (ev_tup3 rfl (ev_dmE (by exact q32) (by decide) (by decide) (by decide) ej) (ev_tup1 (ev_tup3 rfl rfl (evV rfl)))))) es_nil)))) (r_skip hc2), rfl, rfl, rfl, rfl, rfl, rfl⟩
  rw [decide_eq_false g1] at hu1
  by_cases g2 : u = 2 ∧ 1 < nb
  · have hc2 := hu2 ρ q32 q35
    rw [show (decide (u = 2) && decide ((1 : Int) < nb)) = true from by rw [decide_eq_true g2.1, decide_eq_true (by omega)]; rfl] at hc2
    generalize hos : (1 : Int) :: List.replicate (nb - 1) 0 = os
    have hlo : os.length = nb := by rw [← hos]; simp; omega
    have hso : ∀ f ∈ os, f.natAbs ≤ 3 := fun f hf => by
      rw [← hos] at hf
      rcases List.mem_cons.mp hf with rfl | hf
      · decide
      · rw [(List.mem_replicate.mp hf).2]; decide
    have e37 : evE Φ (.bin .Add (.tup [(.const (.int 1))]) (.bin .Mult (.tup [(.const (.int 0))]) (.bin .Sub (.idx (.var 35) (.const (.int 1))) (.const (.int 1))))) ρ σ = some (.dat (.tuple (os.map .int)), σ) := by rw [← hos]; exact ev_cat rfl (ev_reps 0 (hnb ρ q35) b2) (by simp; omega)
    obtain ⟨v, hv, ev⟩ := fmod_nat (y.fdiv 54) (b := 4) (by decide)
    have ok1 : ∀ (a f : Int), f.natAbs ≤ 3 → Ex.ok ni nb ⟨a, List.replicate ni f, os⟩ := fun a f hf => ⟨by simp, hlo, fun g hg => by rw [(List.mem_replicate.mp hg).2]; exact hf, hso⟩
    have ok2 : Ex.ok ni nb ⟨2, List.replicate ni 1, os.reverse⟩ := ⟨by simp, by simp [hlo], fun g hg => by rw [(List.mem_replicate.mp hg).2]; decide, fun f hf => hso f (List.mem_reverse.mp hf)⟩
    have hrev : ∀ ρ : Rho, ρ 37 = some (.dat (.tuple (os.map .int))) → evE Φ (.rev (.var 37)) ρ σ = some (.dat (.tuple (os.reverse.map .int)), σ) := fun ρ h => by
      rw [ev_rev, evV h, Option.bind_some]
      show (if (os.map PyData.int).length ≤ lim then some (AV.dat (.tuple (os.map PyData.int).reverse)) else none).bind _ = _
      rw [if_pos (le_lim (m := 10) (by rw [List.length_map]; omega) (by decide)), ← List.map_reverse]
      rfl
    have hyes : ∃ yes : List Row, (yes = [.put (nb - 1) ⟨2, List.replicate ni 1, os.reverse⟩] ∨ yes = [.stop (Str.ofString "later")]) ∧ ∀ ρ : Rho, ρ 32 = some (.dat (.int y)) → ρ 48 = some (.dat (Row.put (nb - 1) ⟨2, List.replicate ni 1, os.reverse⟩).d) → evE Φ (.idx (.lst [(.tup [(.var 48)]), (.tup [(.tup [(.const (.str (Str.ofString "stop"))), (.const (.str (Str.ofString "later")))])])]) (.prim .int [(.cmp .Eq (.bin .Mod (.bin .FloorDiv (.var 32) (.const (.int 54))) (.const (.int 4))) (.const (.int 1)))])) ρ σ = some (.dat (.tuple (rowsD yes)), σ) := by
      have hl : ∀ ρ : Rho, ρ 48 = some (.dat (Row.put (nb - 1) ⟨2, List.replicate ni 1, os.reverse⟩).d) → evE Φ (.lst [(.tup [(.var 48)]), (.tup [(.tup [(.const (.str (Str.ofString "stop"))), (.const (.str (Str.ofString "later")))])])]) ρ σ = some (.fresh [.tuple (rowsD [.put (nb - 1) ⟨2, List.replicate ni 1, os.reverse⟩]), .tuple (rowsD [.stop (Str.ofString "later")])], σ) := fun ρ h => by
        rw [ev_lst, el_one (ev_tup1 (evV h)) rfl]
        rfl
      have hi : ∀ ρ : Rho, ρ 32 = some (.dat (.int y)) → evE Φ (.prim .int [(.cmp .Eq (.bin .Mod (.bin .FloorDiv (.var 32) (.const (.int 54))) (.const (.int 4))) (.const (.int 1)))]) ρ σ = some (.dat (.int (if decide (v = 1) then 1 else 0)), σ) := fun ρ h => ev_primR (vs := [.dat (.bool (decide (v = 1)))]) (σ₁ := σ) (el_one (ev_eqN 1 (ev_dmE h (by decide) (by decide) (by decide) ev)) rfl) rfl rfl
      cases hq : decide (v = 1) with
      | false => rw [hq] at hi; exact ⟨_, .inl rfl, fun ρ h h' => ev_idxR (hl ρ h') (hi ρ h) rfl rfl rfl⟩
      | true => rw [hq] at hi; exact ⟨_, .inr rfl, fun ρ h h' => ev_idxR (hl ρ h') (hi ρ h) rfl rfl rfl⟩
    obtain ⟨yes, hy1, hy2⟩ := hyes
    have hyok : rowsOk ni nb yes ∧ rowsWt yes = 1 ∧ rowsSz yes = 1 ∧ rowsLs yes = 1 ∧ rowsDp yes = 1 := by
      rcases hy1 with rfl | rfl
      · exact ⟨⟨⟨Nat.sub_lt hb1 (by decide), ok2⟩, trivial⟩, rfl, rfl, rfl, rfl⟩
      · exact ⟨⟨later_ok, trivial⟩, rfl, rfl, rfl, rfl⟩
    obtain ⟨y1, y2, y3, y4, y5⟩ := hyok
    refine ⟨[.times j [.put 0 ⟨1, List.replicate ni 0, os⟩, .ask ⟨-3, List.replicate ni 0, os⟩ yes []]], _, ⟨⟨⟨Nat.le_of_lt_succ hj, ⟨hb1, ok1 1 0 (by decide)⟩, ⟨ok1 (-3) 0 (by decide), y1, trivial⟩, trivial⟩, trivial⟩, ?_, ?_, ?_, ?_⟩, fun cs => Eq.trans (r_skip hu1) (r_next (Eq.trans (r_true hc2) (Eq.trans (r_assign e37) (Eq.trans (r_assign (ev_reps 0 (hni _ (by exact q35)) b1)) (Eq.trans (r_assign (v := .dat (Row.put (nb - 1) ⟨2, List.replicate ni 1, os.reverse⟩).d) (σ₁ := σ) (ev_tup3 rfl (hnb _ (by exact q35)) (ev_tup3 rfl (ev_reps 1 (hni _ (by exact q35)) (by omega)) (hrev _ rfl)))) (Eq.trans (r_assign (hy2 _ (by exact q32) rfl)) (Eq.trans (r_assign (v := .dat (Row.ask ⟨-3, List.replicate ni 0, os⟩ yes []).d) (σ₁ := σ) (ev_tup4 rfl (ev_tup3 rfl (evV rfl) (evV rfl)) (evV rfl) rfl)) (Eq.trans (r_newdat (d := .tuple (rowsD [.times j [.put 0 ⟨1, List.replicate ni 0, os⟩, .ask ⟨-3, List.replicate ni 0, os⟩ yes []]])) (ev_tup1 (ev_tup3 rfl (ev_dmE (by exact q32) (by decide) (by decide) (by decide) ej) (ev_tup2 (ev_tup3 rfl rfl (ev_tup3 rfl (evV rfl) (evV rfl))) (evV rfl))))) es_nil)))))))), rfl, rfl, rfl, rfl, rfl, rfl⟩
    · show 1 + j * (1 + (1 + rowsWt yes + 0 + 0)) + 0 ≤ 25; rw [y2]; exact first_n (m := 3) hj (by decide)
    · show 1 + (1 + (1 + rowsSz yes + 0 + 0)) + 0 ≤ 5; rw [y3]; decide
    · show (0 + (rowsLs yes + 1 + 1)) + 1 ≤ 5; rw [y4]; decide
    · show max (max (0 + 1) (max (max (rowsDp yes) 1 + 1) 1) + 1) 1 ≤ 3; rw [y5]; decide
  · have hc2 := hu2 ρ q32 q35
    rw [show (decide (u = 2) && decide ((1 : Int) < nb)) = false from by
      rw [← Bool.not_eq_true, Bool.and_eq_true, decide_eq_true_eq, decide_eq_true_eq]
      intro q
      exact g2 ⟨q.1, by omega⟩] at hc2
    exact ⟨[], ρ, ⟨trivial, Nat.zero_le _, Nat.zero_le _, by show 1 ≤ 5; decide, by show 1 ≤ 3; decide⟩, fun cs => Eq.trans (r_skip hu1) (r_skip hc2), q46, rfl, rfl, rfl, rfl, rfl⟩
theorem sz_app : ∀ (a b : List Row), rowsSz (a ++ b) = rowsSz a + rowsSz b
  | [], b => (Nat.zero_add _).symm
  | r :: a, b => by show r.sz + rowsSz (a ++ b) = r.sz + rowsSz a + rowsSz b; rw [sz_app a b]; omega
theorem ls_app : ∀ (a b : List Row), rowsLs (a ++ b) + 1 = rowsLs a + rowsLs b
  | [], b => Nat.add_comm ..
  | r :: a, b => by
    have := ls_app a b
    show r.ls + rowsLs (a ++ b) + 1 = r.ls + rowsLs a + rowsLs b
    omega
theorem dp_app : ∀ (a b : List Row), rowsDp (a ++ b) = max (rowsDp a) (rowsDp b)
  | [], b => (Nat.max_eq_right (dp_pos b)).symm
  | r :: a, b => by
    show max (r.dp + 1) (rowsDp (a ++ b)) = max (max (r.dp + 1) (rowsDp a)) (rowsDp b)
    rw [dp_app a b]
    exact (Nat.max_assoc ..).symm
theorem grow {a b c d m x : Nat} (h : a ≤ b + x) (hb : b = c + d) (hd : d ≤ m) : a ≤ c + (x + m) := by omega
theorem grow' {b c d m x z : Nat} (h : c + (x + m) ≤ z) (hb : b = c + d) (hd : d ≤ m) : b + x ≤ z := by omega
theorem p_wt {a b c t m z : Nat} (h : a = b + 1) (k : b ≤ c + (1 + t) * 21) (r : c ≤ m) (ht : t < 2) (hz : m + 43 ≤ z) : a ≤ z := by omega
theorem p_ls {a b c t m z : Nat} (h : a = b) (k : b ≤ c + (1 + t) * 10) (r : c ≤ m) (ht : t < 2) (hz : m + 20 ≤ z) : a ≤ z := by omega
theorem p_n {t m z : Nat} (ht : t < 2) (hz : 1 + m * 2 ≤ z) : 1 + (1 + t) * m ≤ z := Nat.le_trans (Nat.add_le_add_left (Nat.mul_comm m _ ▸ Nat.mul_le_mul_left m (by omega : 1 + t ≤ 2)) 1) hz
theorem p_s {t m a b z : Nat} (ht : t < 2) (h : a ≤ b) (hz : b + m * 2 ≤ z) : a + (1 + t) * m ≤ z := Nat.le_trans (Nat.add_le_add h (Nat.mul_comm m _ ▸ Nat.mul_le_mul_left m (by omega : 1 + t ≤ 2))) hz
theorem shift {n n1 m x z : Nat} (h : n + (x + m) ≤ z) (p : n1 ≤ n + m) : n1 + x ≤ z := by omega
noncomputable def pBody : List CS := [.newcell 46 (.bin .Add (.var 46) (.tup [(.call 22 [(.var 26), (.var 40), (.const (.int 2)), (.var 35), (.var 31)])]))]
section
variable {N : Nat} {xs : List Int} {rs : List (Int × Int)} {nb c : Nat}
theorem prog_loop {k : Nat} (HS : StOk N k xs rs nb c 2) : ∀ (ds : List PyData) (n : Nat) (τ : Store) (R : List Row) (ρ : Rho), n + ds.length * 31 ≤ 900 → τ[c]? = some (.live, [.int n]) → rowsOk rs.length nb R → rowsSz R + ds.length * 21 ≤ 100 → ρ 46 = some (.dat (.tuple (rowsD R))) →
    ρ 26 = some (.dat (.list (xs.map .int))) → ρ 40 = some (.cell c) → ρ 35 = some (.dat (sizesD rs nb)) → ρ 31 = some (.dat (.tuple (rs.map pairD))) →
    ∃ ρ' R' n', (rowsOk rs.length nb R' ∧ rowsWt R' ≤ rowsWt R + ds.length * 21 ∧ rowsSz R' ≤ rowsSz R + ds.length * 21 ∧ rowsLs R' ≤ rowsLs R + ds.length * 10 ∧ rowsDp R' ≤ max (rowsDp R) 3) ∧ forGo (.one 27) (fun ρ' σ' => evSs N (tabAt tab3 N k) pBody ρ' σ') ds ρ τ = some (.next ρ', τ.set c (.live, [.int (n' : Nat)])) ∧ ρ' 46 = some (.dat (.tuple (rowsD R'))) ∧ ∀ j, j ≠ 46 → j ≠ 27 → ρ' j = ρ j := by
  intro ds
  induction ds with
  | nil => intro n τ R ρ _ hc ho _ q46 _ _ _ _; exact ⟨ρ, R, n, ⟨ho, Nat.le_add_right .., Nat.le_add_right .., Nat.le_add_right .., Nat.le_max_left ..⟩, by rw [set_same hc]; rfl, q46, fun _ _ _ => rfl⟩
  | cons d ds ih =>
    intro n τ R ρ hn hc ho hs q46 q26 q40 q35 q31
    rw [List.length_cons, Nat.succ_mul] at hn hs
    obtain ⟨r, n1, p1, p2, p3⟩ := HS n τ (by show n + 31 ≤ 900; omega) hc
    have p2' : n1 ≤ n + 31 := p2
    have pw : r.wt ≤ 21 := p1.wt
    have ps : r.sz ≤ 21 := p1.sz
    have pl : r.ls ≤ 10 := p1.ls
    obtain ⟨ρ', R', n', ⟨a1, a2, a3, a4, a5⟩, a6, a7, a8⟩ := ih n1 (τ.set c (.live, [.int (n1 : Nat)])) (R ++ [r]) ((ρ.set 27 (.dat d)).set 46 (.dat (.tuple (rowsD (R ++ [r]))))) (shift hn p2') (get_set hc) (ok_app ho ⟨p1.ok, trivial⟩) (grow' hs (sz_app R [r]) ps) rfl q26 q40 q35 q31
    rw [List.set_set] at a6
    refine ⟨ρ', R', n', ⟨a1, ?_, ?_, ?_, ?_⟩, ?_, a7, fun j h1 h2 => (a8 j h1 h2).trans ((if_neg h1).trans (if_neg h2))⟩
    · rw [List.length_cons, Nat.succ_mul]; exact grow a2 (wt_app R [r]) pw
    · rw [List.length_cons, Nat.succ_mul]; exact grow a3 (sz_app R [r]) ps
    · rw [List.length_cons, Nat.succ_mul]; exact grow a4 (Nat.succ.inj (ls_app R [r])) pl
    · rw [dp_app] at a5
      exact Nat.le_trans a5 (Nat.max_le.mpr ⟨Nat.max_le.mpr ⟨Nat.le_max_left .., Nat.le_trans (Nat.max_le.mpr ⟨Nat.succ_le_succ p1.dp, by decide⟩ : max (r.dp + 1) 1 ≤ 3) (Nat.le_max_right ..)⟩, Nat.le_max_right ..⟩)
    · refine (for_next (ρ₁ := ρ.set 27 (.dat d)) (ρ₂ := (ρ.set 27 (.dat d)).set 46 (.dat (.tuple (rowsD (R ++ [r]))))) (σ₂ := τ.set c (.live, [.int (n1 : Nat)])) rfl ?_).trans a6
      have hcall : evE (tabAt tab3 N k) (.call 22 [(.var 26), (.var 40), (.const (.int 2)), (.var 35), (.var 31)]) (ρ.set 27 (.dat d)) τ = some (.dat r.d, τ.set c (.live, [.int (n1 : Nat)])) := ev_callR (vs := [.dat (.list (xs.map .int)), .cell c, .dat (.int 2), .dat (sizesD rs nb), .dat (.tuple (rs.map pairD))]) (σ₁ := τ) (el_var (v := .dat (.list (xs.map .int))) (by exact q26) (el_var (v := .cell c) (by exact q40) (el_one (v := .dat (.int 2)) rfl (el_var (v := .dat (sizesD rs nb)) (by exact q35) (el_var (v := .dat (.tuple (rs.map pairD))) (by exact q31) rfl))))) p3
      refine Eq.trans (r_newdat (σ₁ := τ.set c (.live, [.int (n1 : Nat)])) (d := .tuple (rowsD (R ++ [r]))) ?_) es_nil
      rw [ev_bin, evV (v := .dat (.tuple (rowsD R))) (by exact q46), Option.bind_some]
      show ((evE (tabAt tab3 N k) (.tup [(.call 22 [(.var 26), (.var 40), (.const (.int 2)), (.var 35), (.var 31)])]) (ρ.set 27 (.dat d)) τ).bind _) = _
      rw [ev_tup1 hcall, Option.bind_some]
      show (binD .Add (.tuple (rowsD R)) (.tuple [r.d])).bind _ = _
      rw [bi_addT (le_lim (m := 200) (by have := len_sz R; rw [rowsD_len]; show R.length + 1 ≤ 200; omega) (by decide)), rowsD_app]
      rfl
end
theorem s_program (N k : Nat) (xs : List Int) (hx : xs.length ≤ 63) (σ : Store) : ∃ rs nb rows, PB rs nb rows ∧ tabAt tab3 N (k + 8) 24 [.dat (.list (xs.map .int)), .dat (.int 0)] σ = some (.ret (.dat (progD rs nb rows)), σ) := by
  rw [tab_step (by rfl : tab3[24]? = some ([26, 45], c__law_program))]
  obtain ⟨rs, h3, hr, er⟩ := s_ranges N (k + 5) (cellAt xs 0) σ
  have hc0 := s_cell_at N (k + 6) xs hx 0 (by decide) σ
  have hc1 := fun τ => s_cell_at N (k + 6) xs hx 1 (by decide) τ
  have cell1 : ∀ (ρ : Rho) (τ : Store), ρ 26 = some (.dat (.list (xs.map .int))) → ρ 45 = some (.dat (.int 0)) → evE (tabAt tab3 N (k + 7)) (.call 16 [(.var 26), (.bin .Add (.var 45) (.const (.int 1)))]) ρ τ = some (.dat (.int (cellAt xs 1)), τ) := fun ρ τ h h' => ev_callR (vs := [.dat (.list (xs.map .int)), .dat (.int (0 + 1))]) (σ₁ := τ) (el_var (v := .dat (.list (xs.map .int))) h (el_one (v := .dat (.int (0 + 1))) (ev_addI (evV h') rfl) rfl)) (hc1 τ)
  generalize cellAt xs 1 = y at cell1
  obtain ⟨i5, hi5, e5⟩ := fmod_nat y (b := 5) (by decide)
  have e5' : y.fmod 5 = (i5 : Int) := e5
  have hmem := getD_mem (l := [1, 2, 3, 2, 6]) (j := i5) hi5
  have hpk := fun (ρ : Rho) (h : ρ 26 = some (.dat (.list (xs.map .int)))) (h' : ρ 45 = some (.dat (.int 0))) => ev_pick (Φ := tabAt tab3 N (k + 7)) (ρ := ρ) (σ := σ) (es := (.lst [(.const (.int 1)), (.const (.int 2)), (.const (.int 3)), (.const (.int 2)), (.const (.int 6))])) (i := .bin .Mod (.call 16 [(.var 26), (.bin .Add (.var 45) (.const (.int 1)))]) (.const (.int 5))) [1, 2, 3, 2, 6] i5 rfl (by rw [ev_modR (cell1 ρ σ h h') (by decide), e5']) hi5 (by show 5 < 1000; decide)
  generalize ([1, 2, 3, 2, 6] : List Int).getD i5 0 = mi at hmem hpk
  obtain ⟨nb, rfl, hb1, hb6⟩ := pick_nat hmem 1 6 rfl
  obtain ⟨R0, ρ7, hR0, e7, q46, q26, q40, q35, q31, q45⟩ := first_rows N (tabAt tab3 N (k + 7)) rs.length nb h3 hb1 hb6 (y.fdiv 10) (σ ++ [(.live, [.int ((1 : Nat) : Int)])]) (Rho.set (Rho.set (Rho.set (Rho.set (Rho.set (Rho.set (Rho.set (fun _ => none) 26 (.dat (.list (xs.map .int)))) 45 (.dat (.int 0))) 31 (.dat (.tuple (rs.map pairD)))) 35 (.dat (sizesD rs nb))) 40 (.cell σ.length)) 32 (.dat (.int (y.fdiv 10)))) 46 (.dat (.tuple []))) rfl rfl rfl
  have q26 := q26.trans rfl
  have q40 := q40.trans rfl
  have q35 := q35.trans rfl
  have q31 := q31.trans rfl
  have q45 := q45.trans rfl
  obtain ⟨t, ht, et⟩ := fmod_nat (y.fdiv 5) (b := 2) (by decide)
  have et' : (y.fdiv 5).fmod 2 = (t : Int) := et
  have r0w := hR0.wt
  have r0s := hR0.sz
  have r0l := hR0.ls
  have r0d := hR0.dp
  obtain ⟨ρ8, R1, n', ⟨a1, a2, a3, a4, a5⟩, a6, a7, a8⟩ := prog_loop (N := N) (xs := xs) (rs := rs) (nb := nb) (c := σ.length) (s_stmt hx h3 hb1 hb6 2 (by decide) k) ((List.range (1 + t)).map fun k => PyData.int (k : Nat)) 1 (σ ++ [(.live, [.int ((1 : Nat) : Int)])]) R0 ρ7 (by rw [List.length_map, List.length_range]; exact p_n ht (by decide)) (get_last ..) hR0.ok (by rw [List.length_map, List.length_range]; exact p_s ht r0s (by decide)) q46 q26 q40 q35 q31
  rw [List.length_map, List.length_range] at a2 a3 a4
  rw [set_last] at a6
  obtain ⟨e, he, ee⟩ := s_expr N (k + 5) (y.fdiv 9) rs h3 nb hb6 (σ ++ [(.live, [.int (n' : Nat)])])
  refine ⟨rs, nb, R1 ++ [.tell e], ⟨h3, fun r m => (hr r m).1, fun r m => (hr r m).2, hb1, hb6, ok_app a1 (show rowsOk rs.length nb [.tell e] from ⟨he, trivial⟩), p_wt (wt_app R1 [.tell e]) a2 r0w ht (by decide), p_wt (sz_app R1 [.tell e]) a3 r0s ht (by decide), p_ls (Nat.succ.inj (ls_app R1 [.tell e])) a4 r0l ht (by decide), by rw [dp_app]; exact Nat.max_le.mpr ⟨Nat.le_trans a5 (Nat.max_le.mpr ⟨r0d, Nat.le_refl _⟩), (by decide : 1 ≤ 3)⟩⟩, run_cell (τ := [(.live, [.int (n' : Nat)])]) rfl ?_⟩
  have hlen : ∀ ρ : Rho, ρ 31 = some (.dat (.tuple (rs.map pairD))) → evE (tabAt tab3 N (k + 7)) (.prim .len [(.var 31)]) ρ σ = some (.dat (.int rs.length), σ) := fun ρ h => by
    have := ev_lenT (Φ := tabAt tab3 N (k + 7)) (ρ := ρ) (σ := σ) (a := .var 31) (xs := rs.map pairD) (evV h) (by rw [List.length_map]; omega)
    rw [List.length_map] at this
    exact this
  have A1 : evSs N (tabAt tab3 N (k + 7)) c__law_program (Rho.set (Rho.set (fun _ => none) 26 (.dat (.list (xs.map .int)))) 45 (.dat (.int 0))) σ = evSs N (tabAt tab3 N (k + 7)) (c__law_program.drop 1) (Rho.set (Rho.set (Rho.set (fun _ => none) 26 (.dat (.list (xs.map .int)))) 45 (.dat (.int 0))) 31 (.dat (.tuple (rs.map pairD)))) σ :=
    r_newdat (d := .tuple (rs.map pairD)) (σ₁ := σ) (ev_callR (vs := [.dat (.int (cellAt xs 0))]) (σ₁ := σ) (el_one (v := .dat (.int (cellAt xs 0))) (ev_callR (vs := [.dat (.list (xs.map .int)), .dat (.int 0)]) (σ₁ := σ) rfl hc0) rfl) er)
  have A2 : evSs N (tabAt tab3 N (k + 7)) (c__law_program.drop 1) (Rho.set (Rho.set (Rho.set (fun _ => none) 26 (.dat (.list (xs.map .int)))) 45 (.dat (.int 0))) 31 (.dat (.tuple (rs.map pairD)))) σ = evSs N (tabAt tab3 N (k + 7)) (c__law_program.drop 2) (Rho.set (Rho.set (Rho.set (Rho.set (fun _ => none) 26 (.dat (.list (xs.map .int)))) 45 (.dat (.int 0))) 31 (.dat (.tuple (rs.map pairD)))) 35 (.dat (sizesD rs nb))) σ :=
    r_assign (v := .dat (sizesD rs nb)) (σ₁ := σ) (ev_tup2 (hlen _ rfl) (hpk _ rfl rfl))
  have A3 : evSs N (tabAt tab3 N (k + 7)) (c__law_program.drop 2) (Rho.set (Rho.set (Rho.set (Rho.set (fun _ => none) 26 (.dat (.list (xs.map .int)))) 45 (.dat (.int 0))) 31 (.dat (.tuple (rs.map pairD)))) 35 (.dat (sizesD rs nb))) σ = evSs N (tabAt tab3 N (k + 7)) (c__law_program.drop 3) (Rho.set (Rho.set (Rho.set (Rho.set (Rho.set (fun _ => none) 26 (.dat (.list (xs.map .int)))) 45 (.dat (.int 0))) 31 (.dat (.tuple (rs.map pairD)))) 35 (.dat (sizesD rs nb))) 40 (.cell σ.length)) (σ ++ [(.live, [.int ((1 : Nat) : Int)])]) :=
    r_newcell (ds := [.int ((1 : Nat) : Int)]) (σ₁ := σ) (by rw [ev_lst, el_one (ev_addI (x := 0) (y := 1) (evV rfl) rfl) rfl]; rfl)
  have h4a : evE (tabAt tab3 N (k + 7)) (.call 16 [(.var 26), (.bin .Add (.var 45) (.const (.int 1)))]) (Rho.set (Rho.set (Rho.set (Rho.set (Rho.set (fun _ => none) 26 (.dat (.list (xs.map .int)))) 45 (.dat (.int 0))) 31 (.dat (.tuple (rs.map pairD)))) 35 (.dat (sizesD rs nb))) 40 (.cell σ.length)) (σ ++ [(Flag.live, [PyData.int ((1 : Nat) : Int)])]) = some (.dat (.int y), (σ ++ [(Flag.live, [PyData.int ((1 : Nat) : Int)])])) := cell1 _ _ rfl rfl
  have h4 : evE (tabAt tab3 N (k + 7)) (.bin .FloorDiv (.call 16 [(.var 26), (.bin .Add (.var 45) (.const (.int 1)))]) (.const (.int 10))) (Rho.set (Rho.set (Rho.set (Rho.set (Rho.set (fun _ => none) 26 (.dat (.list (xs.map .int)))) 45 (.dat (.int 0))) 31 (.dat (.tuple (rs.map pairD)))) 35 (.dat (sizesD rs nb))) 40 (.cell σ.length)) (σ ++ [(Flag.live, [PyData.int ((1 : Nat) : Int)])]) = some (.dat (.int (y.fdiv 10)), (σ ++ [(Flag.live, [PyData.int ((1 : Nat) : Int)])])) := ev_divR h4a (by decide) (by decide)
  have A4 : evSs N (tabAt tab3 N (k + 7)) (c__law_program.drop 3) (Rho.set (Rho.set (Rho.set (Rho.set (Rho.set (fun _ => none) 26 (.dat (.list (xs.map .int)))) 45 (.dat (.int 0))) 31 (.dat (.tuple (rs.map pairD)))) 35 (.dat (sizesD rs nb))) 40 (.cell σ.length)) (σ ++ [(Flag.live, [PyData.int ((1 : Nat) : Int)])]) = evSs N (tabAt tab3 N (k + 7)) (c__law_program.drop 4) (Rho.set (Rho.set (Rho.set (Rho.set (Rho.set (Rho.set (fun _ => none) 26 (.dat (.list (xs.map .int)))) 45 (.dat (.int 0))) 31 (.dat (.tuple (rs.map pairD)))) 35 (.dat (sizesD rs nb))) 40 (.cell σ.length)) 32 (.dat (.int (y.fdiv 10)))) (σ ++ [(Flag.live, [PyData.int ((1 : Nat) : Int)])]) := r_assign h4
  have h5 : evE (tabAt tab3 N (k + 7)) (.tup []) (Rho.set (Rho.set (Rho.set (Rho.set (Rho.set (Rho.set (fun _ => none) 26 (.dat (.list (xs.map .int)))) 45 (.dat (.int 0))) 31 (.dat (.tuple (rs.map pairD)))) 35 (.dat (sizesD rs nb))) 40 (.cell σ.length)) 32 (.dat (.int (y.fdiv 10)))) (σ ++ [(Flag.live, [PyData.int ((1 : Nat) : Int)])]) = some (.dat (.tuple []), (σ ++ [(Flag.live, [PyData.int ((1 : Nat) : Int)])])) := rfl
  have A5 : evSs N (tabAt tab3 N (k + 7)) (c__law_program.drop 4) (Rho.set (Rho.set (Rho.set (Rho.set (Rho.set (Rho.set (fun _ => none) 26 (.dat (.list (xs.map .int)))) 45 (.dat (.int 0))) 31 (.dat (.tuple (rs.map pairD)))) 35 (.dat (sizesD rs nb))) 40 (.cell σ.length)) 32 (.dat (.int (y.fdiv 10)))) (σ ++ [(Flag.live, [PyData.int ((1 : Nat) : Int)])]) = evSs N (tabAt tab3 N (k + 7)) (c__law_program.drop 5) (Rho.set (Rho.set (Rho.set (Rho.set (Rho.set (Rho.set (Rho.set (fun _ => none) 26 (.dat (.list (xs.map .int)))) 45 (.dat (.int 0))) 31 (.dat (.tuple (rs.map pairD)))) 35 (.dat (sizesD rs nb))) 40 (.cell σ.length)) 32 (.dat (.int (y.fdiv 10)))) 46 (.dat (.tuple []))) (σ ++ [(Flag.live, [PyData.int ((1 : Nat) : Int)])]) := r_newdat h5
  have A7 := e7 ((c__law_program.drop 5).drop 2)
  rw [List.take_append_drop] at A7
  refine A1.trans (A2.trans (A3.trans (A4.trans (A5.trans (A7.trans ?_)))))
  refine Eq.trans (r_forS (vs := [.dat (.int ((1 + t : Nat) : Int))]) (ds := [.int ((1 + t : Nat) : Int)]) ?_ rfl rfl (range_it (by omega)) a6) ?_
  · refine el_one (v := .dat (.int ((1 + t : Nat) : Int))) ?_ rfl
    rw [show (((1 + t : Nat)) : Int) = 1 + (y.fdiv 5).fmod 2 from by omega]
    exact ev_addI rfl (ev_modR (ev_divR (cell1 _ _ q26 q45) (by decide) (by decide)) (by decide))
  · have b26 := (a8 26 (by decide) (by decide)).trans q26
    have b45 := (a8 45 (by decide) (by decide)).trans q45
    have b35 := (a8 35 (by decide) (by decide)).trans q35
    have b31 := (a8 31 (by decide) (by decide)).trans q31
    have k1 : evE (tabAt tab3 N (k + 7)) (.bin .FloorDiv (.call 16 [(.var 26), (.bin .Add (.var 45) (.const (.int 1)))]) (.const (.int 9))) ρ8 (σ ++ [(Flag.live, [PyData.int (n' : Nat)])]) = some (.dat (.int (y.fdiv 9)), (σ ++ [(Flag.live, [PyData.int (n' : Nat)])])) := ev_divR (cell1 ρ8 _ b26 b45) (by decide) (by decide)
    have k2 : evE (tabAt tab3 N (k + 7)) (.call 20 [(.bin .FloorDiv (.call 16 [(.var 26), (.bin .Add (.var 45) (.const (.int 1)))]) (.const (.int 9))), (.var 35), (.var 31)]) ρ8 (σ ++ [(Flag.live, [PyData.int (n' : Nat)])]) = some (.dat e.d, (σ ++ [(Flag.live, [PyData.int (n' : Nat)])])) := ev_callR (vs := [.dat (.int (y.fdiv 9)), .dat (sizesD rs nb), .dat (.tuple (rs.map pairD))]) (σ₁ := (σ ++ [(Flag.live, [PyData.int (n' : Nat)])])) (el_one (v := .dat (.int (y.fdiv 9))) k1 (el_var (v := .dat (sizesD rs nb)) b35 (el_var (v := .dat (.tuple (rs.map pairD))) b31 rfl))) ee
    have k3 : evE (tabAt tab3 N (k + 7)) (.tup [(.tup [(.const (.str (Str.ofString "tell"))), (.var 43)])]) (ρ8.set 43 (.dat e.d)) (σ ++ [(Flag.live, [PyData.int (n' : Nat)])]) = some (.dat (.tuple [(Row.tell e).d]), (σ ++ [(Flag.live, [PyData.int (n' : Nat)])])) := ev_tup1 (ev_tup2 rfl (evV rfl))
    refine Eq.trans (r_assign k2) (r_ret (ev_tup3 (d := .tuple (rs.map pairD)) (e := .int nb) (evV (by exact b31)) (ev_ixD (by exact b35) rfl) (ev_binR (x := .dat (.tuple (rowsD R1))) (y := .dat (.tuple [(Row.tell e).d])) (evV (by exact a7)) k3 rfl rfl ?_)))
    rw [rowsD_app]
    refine bi_addT (le_lim (m := 200) ?_ (by decide))
    have := len_sz R1
    rw [rowsD_len]
    show R1.length + 1 ≤ 200
    omega
theorem res_shaped (r : Res) (h : ∀ w, r = .stop w → wordOk w) : SeqAt.shaped r.d = true := by
  cases r with
  | told x =>
    have : PyData.strOk (Str.ofString "told") = true := by decide +kernel
    show ((PyData.strOk (Str.ofString "told") && (true && true)) && decide (max 0 (max 0 0) + 1 ≤ 64)) = true
    rw [this]; rfl
  | stop w =>
    have hw : PyData.strOk w = true := by
      unfold PyData.strOk
      rw [← Array.all_toList, List.all_eq_true]
      intro c hc
      exact decide_eq_true (by have := (h w rfl).2.2 c hc; omega)
    show ((PyData.strOk (W 4) && (PyData.strOk w && true)) && decide (max 0 (max 0 0) + 1 ≤ 64)) = true
    rw [w5, hw]; rfl
  | fin =>
    have : PyData.strOk (Str.ofString "end") = true := by decide +kernel
    show ((PyData.strOk (Str.ofString "end") && true) && decide (max 0 0 + 1 ≤ 64)) = true
    rw [this]; rfl
theorem goR_word {ni nb : Nat} {xs : List Int} : ∀ (n : Nat) (R : List Row) (bs : List Int), Good ni nb R → bs.length = nb → ∀ w, goR xs n R bs = .stop w → wordOk w := by
  intro n
  induction n with
  | zero => intro R bs _ _ w e; cases e
  | succ n ih =>
    intro R bs hg hb w e
    cases R with
    | nil => cases e
    | cons r rest =>
      replace e : (match stp xs rest bs r with | .go R bs' => goR xs n R bs' | .res q => q) = .stop w := e
      cases hs : stp xs rest bs r with
      | go R' bs' =>
        rw [hs] at e
        obtain ⟨g1, _, g3⟩ := stp_good hg hb hs
        exact ih R' bs' g1 g3 w e
      | res q =>
        rw [hs] at e
        cases r with
        | stop w' => cases hs; cases e; exact hg.ok _ (.head _)
        | tell x => cases hs; cases e
        | put b x => cases hs
        | ask x y m => cases hs
        | times k l => cases hs
theorem toldq : ∀ b : Bool, cmpD .Eq (.str (if b then Str.ofString "told" else Str.ofString "end")) (.str (Str.ofString "told")) = some b := by decide +kernel
theorem stopq : cmpD .Eq sStop (.str (Str.ofString "told")) = some false := by decide +kernel
theorem ev_cmpC {Φ : Phi} {ρ : Rho} {σ : Store} {op : CmpOp} {i j : Nat} {v : AV} {xs : List Int} {d : PyData} {r : Bool} (h1 : ρ i = some (.dat d)) (h2 : ρ j = some v) (hv : Sees σ v xs) (h3 : cmpD op d (.list (xs.map .int)) = some r) : evE Φ (.cmp op (.var i) (.var j)) ρ σ = some (.dat (.bool r), σ) := by
  rw [ev_cmp, evV h1, Option.bind_some, evV h2, Option.bind_some, x_rdD, Option.bind_some, hv.rd, Option.bind_some, h3]
  rfl
theorem ints_shaped (xs : List Int) : SeqAt.shaped (.list (xs.map .int)) = true := by
  show (PyData.canLayAll0 (xs.map .int) && decide (PyData.depthAll (xs.map .int) + 1 ≤ 64)) = true
  rw [canLay_ints, depth_ints]
  rfl
noncomputable def turnS : List CS := [.assign 29 (.call 15 [(.var 52), (.var 57)]), .ite (.bop .Or [(.nott (.isin (.var 29) .tuple)), (.cmp .NotEq (.var 29) (.call 26 [(.var 52), (.var 50)])), (.cmp .NotEq (.var 57) (.var 50))]) [.ret (.const (.bool false))] [], .ite (.bop .And [(.cmp .Eq (.idx (.var 29) (.const (.int 0))) (.const (.str (Str.ofString "told")))), (.nott (.call 18 [(.idx (.var 29) (.const (.int 1)))]))]) [.ret (.const (.bool false))] []]
section
variable {N k : Nat} (hN : 10000 < N) {rs : List (Int × Int)} {nb : Nat} {rows : List Row} (P : Prog rs nb rows) (hz : rowsSz rows ≤ 1000) {zs : List Int} (hin : okIn rs zs) {σ : Store} {c : Nat} (hc : Sees σ (.cell c) zs)
include hN P hz hin hc
theorem turn_ok (ρ : Rho) (q52 : ρ 52 = some (.dat (progD rs nb rows))) (q57 : ρ 57 = some (.dat (.list (zs.map .int)))) (q50 : ρ 50 = some (.cell c)) : evSs N (tabAt tab3 N (k + 9)) turnS ρ σ = some (.next (ρ.set 29 (.dat (goR zs N rows (List.replicate nb 0)).d)), σ) := by
  have hrun := s_run N (k + 1) hN rs nb rows P hz zs hin σ
  have hgo := s_going N (k + 7) hN rs nb rows P hz zs hin.1 σ (.cell c) hc
  have hsh := res_shaped (goR zs N rows (List.replicate nb 0)) (goR_word N rows _ (P.good hz) (by simp))
  generalize goR zs N rows (List.replicate nb 0) = r at hrun hgo hsh
  have h1 : evE (tabAt tab3 N (k + 9)) (.call 15 [(.var 52), (.var 57)]) ρ σ = some (.dat r.d, σ) := ev_callR (vs := [.dat (progD rs nb rows), .dat (.list (zs.map .int))]) (σ₁ := σ) (el_var (v := .dat (progD rs nb rows)) q52 (el_var (v := .dat (.list (zs.map .int))) q57 rfl)) hrun
  have h2 : evE (tabAt tab3 N (k + 9)) (.cmp .NotEq (.var 29) (.call 26 [(.var 52), (.var 50)])) (ρ.set 29 (.dat r.d)) σ = some (.dat (.bool false), σ) := ev_cmpR (dx := r.d) (evV rfl) (ev_callR (vs := [.dat (progD rs nb rows), .cell c]) (σ₁ := σ) (el_var (v := .dat (progD rs nb rows)) (by exact q52) (el_var (v := .cell c) (by exact q50) rfl)) hgo) (cm_ne_self hsh)
  have h3 : evE (tabAt tab3 N (k + 9)) (.cmp .NotEq (.var 57) (.var 50)) (ρ.set 29 (.dat r.d)) σ = some (.dat (.bool false), σ) := ev_cmpC (d := .list (zs.map .int)) (by exact q57) (by exact q50) hc (cm_ne_self (ints_shaped zs))
  have h0 : evE (tabAt tab3 N (k + 9)) (.nott (.isin (.var 29) .tuple)) (ρ.set 29 (.dat r.d)) σ = some (.dat (.bool false), σ) := by
    cases r <;> rfl
  have h4 : evE (tabAt tab3 N (k + 9)) (.bop .And [(.cmp .Eq (.idx (.var 29) (.const (.int 0))) (.const (.str (Str.ofString "told")))), (.nott (.call 18 [(.idx (.var 29) (.const (.int 1)))]))]) (ρ.set 29 (.dat r.d)) σ = some (.dat (.bool false), σ) := by
    cases r with
    | told x => exact ev_and2 (p := true) (q := false) (ev_cmpR (ev_ixD rfl rfl) rfl (toldq true)) fun _ => ev_notT (p := true) (ev_callR (vs := [.dat (.int x)]) (σ₁ := σ) (el_one (v := .dat (.int x)) (ev_ixD rfl rfl) rfl) (s_whole N (k + 8) (.int x) σ))
    | stop w => exact ev_and2 (p := false) (q := false) (ev_cmpR (ev_ixD rfl rfl) rfl stopq) fun e => nomatch e
    | fin => exact ev_and2 (p := false) (q := false) (ev_cmpR (ev_ixD rfl rfl) rfl (toldq false)) fun e => nomatch e
  exact Eq.trans (r_assign h1) (Eq.trans (r_skip (ev_or3 h0 h2 h3)) (Eq.trans (r_skip h4) es_nil))
theorem turns_ok (ρ : Rho) (q52 : ρ 52 = some (.dat (progD rs nb rows))) (q57 : ρ 57 = some (.dat (.list (zs.map .int)))) (q50 : ρ 50 = some (.cell c)) : ∃ ρ', (∀ cs, evSs N (tabAt tab3 N (k + 9)) (.forr (.one 58) .range1 [(.const (.int 2))] turnS :: cs) ρ σ = evSs N (tabAt tab3 N (k + 9)) cs ρ' σ) ∧ ∀ j, j ≠ 29 → j ≠ 58 → ρ' j = ρ j := by
  have t1 := turn_ok (k := k) hN P hz hin hc (ρ.set 58 (.dat (.int 0))) q52 q57 q50
  have t2 := turn_ok (k := k) hN P hz hin hc (((ρ.set 58 (.dat (.int 0))).set 29 (.dat (goR zs N rows (List.replicate nb 0)).d)).set 58 (.dat (.int 1))) q52 q57 q50
  refine ⟨_, fun cs => r_forS (vs := [.dat (.int 2)]) (ds := [.int 2]) (xs := [.int 0, .int 1]) rfl rfl rfl rfl (Eq.trans (for_next rfl t1) (Eq.trans (for_next rfl t2) rfl)), fun j h1 h2 => ?_⟩
  exact (if_neg h1).trans ((if_neg h2).trans ((if_neg h1).trans (if_neg h2)))
end
theorem r_unpack2 {N : Nat} {Φ : Phi} {ρ : Rho} {σ : Store} {i j : Nat} {e : CE} {a b : PyData} {cs : List CS} (h : evE Φ e ρ σ = some (.dat (.tuple [a, b]), σ)) : evSs N Φ (.unpack [i, j] e :: cs) ρ σ = evSs N Φ cs ((ρ.set i (.dat a)).set j (.dat b)) σ := by
  refine r_next ?_
  rw [es_unpack, h]
  rfl
noncomputable def inS : List CS := [.unpack [33, 56] (.idx (.var 31) (.var 55)), .append 50 (.idx (.lst [(.var 33), (.var 56), (.bin .Add (.var 33) (.bin .Mod (.bin .FloorDiv (.var 28) (.const (.int 9))) (.bin .Add (.bin .Sub (.var 56) (.var 33)) (.const (.int 1)))))]) (.bin .Mod (.bin .FloorDiv (.var 28) (.bin .Add (.const (.int 1)) (.bin .Mult (.const (.int 2)) (.var 55)))) (.const (.int 3))))]
noncomputable def okZ (rs : List (Int × Int)) (zs : List Int) : Prop := ∀ (i : Nat) (r : Int × Int) (z : Int), rs[i]? = some r → zs[i]? = some z → r.1 ≤ z ∧ z ≤ r.2
theorem okIn_of {rs : List (Int × Int)} {zs : List Int} (hl : zs.length = rs.length) (h : okZ rs zs) : okIn rs zs := by
  refine ⟨hl, List.all_eq_true.mpr fun p hp => ?_⟩
  obtain ⟨i, hi⟩ := List.mem_iff_getElem?.mp hp
  obtain ⟨h1, h2⟩ := List.getElem?_zip_eq_some.mp hi
  rw [List.getElem?_map] at h2
  obtain ⟨z, hz, h2⟩ := Option.map_eq_some_iff.mp h2
  obtain ⟨a1, a2⟩ := h i p.1 z h1 hz
  show amongB p.2 p.1 = true
  rw [← h2]
  show (decide (p.1.1 ≤ z) && decide (z ≤ p.1.2)) = true
  rw [decide_eq_true a1, decide_eq_true a2]
  rfl
theorem in_step {N : Nat} {Φ : Phi} {rs : List (Int × Int)} (h3 : rs.length ≤ 3) (hr : ∀ r ∈ rs, okR r) (x : Int) (σ : Store) (zs : List Int) (hl : zs.length < rs.length) (hz : okZ rs zs) (ρ : Rho) (q31 : ρ 31 = some (.dat (.tuple (rs.map pairD)))) (q28 : ρ 28 = some (.dat (.int x))) (q50 : ρ 50 = some (.cell σ.length)) (q55 : ρ 55 = some (.dat (.int zs.length))) :
    ∃ z r, okZ rs (zs ++ [z]) ∧ evSs N Φ inS ρ (σ ++ [(.live, zs.map .int)]) = some (.next ((ρ.set 33 (.dat (.int r.1))).set 56 (.dat (.int r.2))), σ ++ [(.live, (zs ++ [z]).map .int)]) ∧ r ∈ rs := by
  obtain ⟨r, hrr⟩ : ∃ r, rs[zs.length]? = some r := ⟨_, List.getElem?_eq_getElem hl⟩
  have hrm : r ∈ rs := List.mem_of_getElem? hrr
  obtain ⟨o1, o2⟩ := hr r hrm
  obtain ⟨i3, hi3, e3⟩ := fmod_nat (x.fdiv (1 + 2 * (zs.length : Int))) (b := 3) (by decide)
  have e3' : (x.fdiv (1 + 2 * (zs.length : Int))).fmod 3 = (i3 : Int) := e3
  obtain ⟨f0, f1⟩ := fmod_range (x.fdiv 9) (b := r.2 - r.1 + 1) (by omega)
  have hm := getD_mem (l := [r.1, r.2, r.1 + (x.fdiv 9).fmod (r.2 - r.1 + 1)]) (j := i3) hi3
  generalize hρ : (ρ.set 33 (.dat (.int r.1))).set 56 (.dat (.int r.2)) = ρ'
  have p33 : ρ' 33 = some (.dat (.int r.1)) := by rw [← hρ]; rfl
  have p56 : ρ' 56 = some (.dat (.int r.2)) := by rw [← hρ]; rfl
  have p28 : ρ' 28 = some (.dat (.int x)) := by rw [← hρ]; exact q28
  have p55 : ρ' 55 = some (.dat (.int zs.length)) := by rw [← hρ]; exact q55
  have p50 : ρ' 50 = some (.cell σ.length) := by rw [← hρ]; exact q50
  have h9 : evE Φ (.bin .FloorDiv (.var 28) (.const (.int 9))) ρ' (σ ++ [(.live, zs.map .int)]) = some (.dat (.int (x.fdiv 9)), σ ++ [(.live, zs.map .int)]) := ev_divR (evV p28) (by decide) (by decide)
  have hw : evE Φ (.bin .Add (.bin .Sub (.var 56) (.var 33)) (.const (.int 1))) ρ' (σ ++ [(.live, zs.map .int)]) = some (.dat (.int (r.2 - r.1 + 1)), σ ++ [(.live, zs.map .int)]) := ev_addI (x := r.2 - r.1) (ev_binR (x := .dat (.int r.2)) (y := .dat (.int r.1)) (evV p56) (evV p33) rfl rfl rfl) rfl
  have hmod : evE Φ (.bin .Mod (.bin .FloorDiv (.var 28) (.const (.int 9))) (.bin .Add (.bin .Sub (.var 56) (.var 33)) (.const (.int 1)))) ρ' (σ ++ [(.live, zs.map .int)]) = some (.dat (.int ((x.fdiv 9).fmod (r.2 - r.1 + 1))), σ ++ [(.live, zs.map .int)]) := ev_binR h9 hw rfl rfl (bi_mod (by omega))
  have hlst : evE Φ (.lst [(.var 33), (.var 56), (.bin .Add (.var 33) (.bin .Mod (.bin .FloorDiv (.var 28) (.const (.int 9))) (.bin .Add (.bin .Sub (.var 56) (.var 33)) (.const (.int 1)))))]) ρ' (σ ++ [(.live, zs.map .int)]) = some (.fresh ([r.1, r.2, r.1 + (x.fdiv 9).fmod (r.2 - r.1 + 1)].map .int), σ ++ [(.live, zs.map .int)]) := by
    rw [ev_lst, el_var (v := .dat (.int r.1)) p33 (el_var (v := .dat (.int r.2)) p56 (el_one (v := .dat (.int (r.1 + (x.fdiv 9).fmod (r.2 - r.1 + 1)))) (ev_addI (evV p33) hmod) rfl))]
    rfl
  have hidx : evE Φ (.bin .Mod (.bin .FloorDiv (.var 28) (.bin .Add (.const (.int 1)) (.bin .Mult (.const (.int 2)) (.var 55)))) (.const (.int 3))) ρ' (σ ++ [(.live, zs.map .int)]) = some (.dat (.int i3), σ ++ [(.live, zs.map .int)]) := by
    rw [← e3']
    exact ev_modR (ev_binR (evV p28) (ev_addI (x := 1) (y := 2 * (zs.length : Int)) rfl (ev_mulI (x := 2) rfl (evV p55) (mulOk_l (by decide)))) rfl rfl (bi_fdiv (by omega) (by omega))) (by decide)
  have hpk := ev_pick (Φ := Φ) (ρ := ρ') (σ := σ ++ [(.live, zs.map .int)]) [r.1, r.2, r.1 + (x.fdiv 9).fmod (r.2 - r.1 + 1)] i3 hlst hidx hi3 (by show 3 < 1000; decide)
  generalize ([r.1, r.2, r.1 + (x.fdiv 9).fmod (r.2 - r.1 + 1)] : List Int).getD i3 0 = z at hm hpk
  have hzr : r.1 ≤ z ∧ z ≤ r.2 := by
    simp only [List.mem_cons, List.not_mem_nil, or_false] at hm
    omega
  refine ⟨z, r, fun i q w a1 a2 => ?_, ?_, hrm⟩
  · rcases Nat.lt_trichotomy i zs.length with g | g | g
    · rw [List.getElem?_append_left g] at a2; exact hz i q w a1 a2
    · subst g
      rw [List.getElem?_append_right (Nat.le_refl _), Nat.sub_self] at a2
      cases a2
      rw [hrr] at a1
      cases a1
      exact hzr
    · rw [List.getElem?_eq_none (by simp; omega)] at a2; exact nsm a2
  · refine Eq.trans (r_unpack2 (a := .int r.1) (b := .int r.2) (ev_idxR (x := .dat (.tuple (rs.map pairD))) (y := .dat (.int zs.length)) (evV q31) (evV q55) rfl rfl (ix_tuple (by omega) (by rw [List.getElem?_map, hrr]; rfl)))) ?_
    rw [hρ]
    refine Eq.trans (r_append (c := σ.length) (ds := zs.map .int) (d := .int z) p50 hpk (get_last ..) (Nat.lt_of_lt_of_le (by rw [List.length_map]; exact Nat.lt_of_lt_of_le hl h3) (by decide : 3 ≤ lim))) ?_
    rw [set_last, es_nil, List.map_append]
    rfl
theorem in_loop {N : Nat} {Φ : Phi} {rs : List (Int × Int)} (h3 : rs.length ≤ 3) (hr : ∀ r ∈ rs, okR r) (x : Int) (σ : Store) (ρ : Rho) (q31 : ρ 31 = some (.dat (.tuple (rs.map pairD)))) (q28 : ρ 28 = some (.dat (.int x))) (q50 : ρ 50 = some (.cell σ.length)) :
    ∃ ρ' zs, zs.length = rs.length ∧ okZ rs zs ∧ (∀ cs, evSs N Φ (.forr (.one 55) .range1 [(.prim .len [(.var 31)])] inS :: cs) ρ (σ ++ [(.live, [])]) = evSs N Φ cs ρ' (σ ++ [(.live, zs.map .int)])) ∧ ∀ j, j ≠ 33 → j ≠ 56 → j ≠ 55 → ρ' j = ρ j := by
  have hlen := ev_lenT (Φ := Φ) (ρ := ρ) (σ := σ ++ [(.live, [])]) (a := .var 31) (xs := rs.map pairD) (evV q31) (by rw [List.length_map]; omega)
  rw [List.length_map] at hlen
  obtain ⟨ρ', σ', h1, h2, zs, h4, h5, h6⟩ := forGo_cnt (t := .one 55) (body := fun ρ' σ' => evSs N Φ inS ρ' σ') (fun i ρ' σ' => (∀ j, j ≠ 33 → j ≠ 56 → j ≠ 55 → ρ' j = ρ j) ∧ ∃ zs : List Int, zs.length = i ∧ okZ rs zs ∧ σ' = σ ++ [(.live, zs.map .int)])
    ((List.range rs.length).map fun k => PyData.int (k : Nat)) 0 ρ (σ ++ [(.live, [])]) (fun j d hd ρ₁ σ' hP => by
      obtain ⟨p1, zs, p4, p5, rfl⟩ := hP
      rw [Nat.zero_add] at p4
      have hj : j < rs.length := by
        have := (List.getElem?_eq_some_iff.mp hd).1
        simpa using this
      have hd' : d = .int j := by
        rw [List.getElem?_map, List.getElem?_range hj] at hd
        simpa using hd.symm
      subst hd'
      obtain ⟨z, r, a1, a2, a3⟩ := in_step (N := N) (Φ := Φ) h3 hr x σ zs (by omega) p5 (ρ₁.set 55 (.dat (.int j))) ((p1 31 (by decide) (by decide) (by decide)).trans q31) ((p1 28 (by decide) (by decide) (by decide)).trans q28) ((p1 50 (by decide) (by decide) (by decide)).trans q50) (by rw [p4]; rfl)
      exact ⟨_, _, _, rfl, a2, fun i b1 b2 b3 => (if_neg b2).trans ((if_neg b1).trans ((if_neg b3).trans (p1 i b1 b2 b3))), zs ++ [z], by simp [p4], a1, rfl⟩) ⟨fun _ _ _ _ => rfl, [], rfl, fun i r z _ a2 => by simp at a2, rfl⟩
  subst h6
  rw [List.length_map, List.length_range, Nat.zero_add] at h4
  exact ⟨ρ', zs, h4, h5, fun cs => r_forS (vs := [.dat (.int rs.length)]) (ds := [.int rs.length]) (el_one (v := .dat (.int rs.length)) hlen rfl) rfl rfl (range_it (by omega)) h1, h2⟩
theorem ev_idxS {Φ : Phi} {ρ : Rho} {σ σ₁ : Store} {a i : CE} {x y : AV} {dx dy r : PyData} (h1 : evE Φ a ρ σ = some (x, σ₁)) (h2 : evE Φ i ρ σ₁ = some (y, σ₁)) (h3 : rd σ₁ x = some dx) (h4 : rd σ₁ y = some dy) (h5 : idxD dx dy = some r) : evE Φ (.idx a i) ρ σ = some (.dat r, σ₁) := by
  rw [ev_idx, h1, Option.bind_some, h2, Option.bind_some, h3, Option.bind_some, h4, Option.bind_some, h5]; rfl
theorem ix_any {l : List PyData} {j : Nat} (h : j < l.length) (hl : l.length ≤ 100) : idxD (.list l) (.int j) = some l[j] := ix_list (by omega) (List.getElem?_eq_getElem h)
theorem ev_slA {Φ : Phi} {ρ : Rho} {σ : Store} {v : AV} {zs : List Int} {m : Nat} (q50 : ρ 50 = some v) (hv : Sees σ v zs) (q40 : ρ 40 = some (.dat (.int m))) (hl : zs.length ≤ 100) (hm : m ≤ 100) : evE Φ (.slice (.var 50) (.const .none) (.var 40)) ρ σ = some (.fresh ((zs.map .int).take m), σ) := by
  rw [ev_slice, evV q50, Option.bind_some, ev_const, Option.bind_some, evV q40, Option.bind_some, hv.rd, Option.bind_some]
  show (sliceD (.list (zs.map .int)) .none (.int m)).bind _ = _
  rw [sl_lA (by rw [List.length_map]; omega) (by omega)]
  rfl
theorem ev_slB {Φ : Phi} {ρ : Rho} {σ : Store} {v : AV} {zs : List Int} {m : Nat} (q50 : ρ 50 = some v) (hv : Sees σ v zs) (q40 : ρ 40 = some (.dat (.int m))) (hl : zs.length ≤ 100) (hm : m ≤ 100) : evE Φ (.slice (.var 50) (.bin .Add (.var 40) (.const (.int 1))) (.const .none)) ρ σ = some (.fresh ((zs.map .int).drop (m + 1)), σ) := by
  have h1 : evE Φ (.bin .Add (.var 40) (.const (.int 1))) ρ σ = some (.dat (.int ((m + 1 : Nat) : Int)), σ) := ev_addI (x := m) (y := 1) (evV q40) rfl
  rw [ev_slice, evV q50, Option.bind_some, h1, Option.bind_some, ev_const, Option.bind_some, hv.rd, Option.bind_some]
  show (sliceD (.list (zs.map .int)) (.int ((m + 1 : Nat) : Int)) .none).bind _ = _
  rw [sl_lB (by rw [List.length_map]; omega) (by omega)]
  rfl
theorem ev_put {Φ : Phi} {ρ : Rho} {σ : Store} {v : AV} {zs : List Int} {m : Nat} {e : CE} {d : PyData} (q50 : ρ 50 = some v) (hv : Sees σ v zs) (q40 : ρ 40 = some (.dat (.int m))) (hl : zs.length ≤ 100) (hm : m ≤ 100) (he : evE Φ (.lst [e]) ρ σ = some (.fresh [d], σ)) :
    evE Φ (.bin .Add (.bin .Add (.slice (.var 50) (.const .none) (.var 40)) (.lst [e])) (.slice (.var 50) (.bin .Add (.var 40) (.const (.int 1))) (.const .none))) ρ σ = some (.fresh (putAt (zs.map .int) m d), σ) :=
  ev_binR (ev_binR (ev_slA q50 hv q40 hl hm) he rfl rfl (bi_addL (le_lim (m := 1000) (by simp; omega) (by decide)))) (ev_slB q50 hv q40 hl hm) rfl rfl (bi_addL (le_lim (m := 1000) (by simp; omega) (by decide)))
theorem among_none {d : PyData} {r : Int × Int} (h : ∀ i, d = .int i → i < r.1 ∨ r.2 < i) : amongB d r = false := by
  cases d with
  | int i =>
    show (decide (r.1 ≤ i) && decide (i ≤ r.2)) = false
    rcases h i rfl with q | q
    · rw [decide_eq_false (by omega)]; rfl
    · rw [decide_eq_false (by omega : ¬ i ≤ r.2), Bool.and_false]
  | _ => rfl
noncomputable def oddL (ds : List PyData) : List PyData := [.none, .str (Str.ofString "0"), .bool true, .list ds, .int (10 ^ 40), .int (0 - 10 ^ 40)]
noncomputable def oddS : CS := .assign 59 (.idx (.lst [(.const .none), (.const (.str (Str.ofString "0"))), (.const (.bool true)), (.var 50), (.bin .Pow (.const (.int 10)) (.const (.int 40))), (.bin .Sub (.const (.int 0)) (.bin .Pow (.const (.int 10)) (.const (.int 40))))]) (.bin .Mod (.bin .FloorDiv (.var 28) (.const (.int 81))) (.const (.int 6))))
noncomputable def badS : List CS := [.assign 59 (.idx (.lst [(.const .none), (.const (.str (Str.ofString "0"))), (.const (.bool true)), (.var 50), (.bin .Pow (.const (.int 10)) (.const (.int 40))), (.bin .Sub (.const (.int 0)) (.bin .Pow (.const (.int 10)) (.const (.int 40))))]) (.bin .Mod (.bin .FloorDiv (.var 28) (.const (.int 81))) (.const (.int 6)))), .newcell 40 (.bin .Mod (.bin .FloorDiv (.var 28) (.const (.int 486))) (.bin .Add (.prim .len [(.var 50)]) (.const (.int 1)))), .assign 60 (.idx (.lst [(.bin .Add (.bin .Add (.slice (.var 50) (.const .none) (.var 40)) (.lst [(.var 59)])) (.slice (.var 50) (.bin .Add (.var 40) (.const (.int 1))) (.const .none))), (.bin .Add (.var 50) (.lst [(.const (.int 0))])), (.prim .tuple [(.var 50)]), (.const .none), (.const (.int 5))]) (.bin .Mod (.bin .FloorDiv (.var 28) (.const (.int 7))) (.const (.int 5)))), .ite (.bop .And [(.cmp .Lt (.var 40) (.prim .len [(.var 50)])), (.cmp .Eq (.bin .Mod (.bin .FloorDiv (.var 28) (.const (.int 3))) (.const (.int 4))) (.const (.int 1)))]) [.assign 60 (.bin .Add (.bin .Add (.slice (.var 50) (.const .none) (.var 40)) (.lst [(.idx (.lst [(.bin .Sub (.idx (.idx (.var 31) (.var 40)) (.const (.int 0))) (.const (.int 1))), (.bin .Add (.idx (.idx (.var 31) (.var 40)) (.const (.int 1))) (.const (.int 1)))]) (.bin .Mod (.var 28) (.const (.int 2))))])) (.slice (.var 50) (.bin .Add (.var 40) (.const (.int 1))) (.const .none)))] []]
theorem odd_ok {N : Nat} {Φ : Phi} {rs : List (Int × Int)} (hr : ∀ r ∈ rs, okR r ∧ farR r) (zs : List Int) (x : Int) (σ : Store) (ρ : Rho) (q28 : ρ 28 = some (.dat (.int x))) (q50 : ρ 50 = some (.cell σ.length)) :
    ∃ d, (∀ r ∈ rs, amongB d r = false) ∧ ∀ cs, evSs N Φ (oddS :: cs) ρ (σ ++ [(.live, zs.map .int)]) = evSs N Φ cs (ρ.set 59 (.dat d)) (σ ++ [(.frozen, zs.map .int)]) := by
  obtain ⟨i, hi, ei⟩ := fmod_nat (x.fdiv 81) (b := 6) (by decide)
  have hp : evE Φ (.bin .Pow (.const (.int 10)) (.const (.int 40))) ρ (σ ++ [(.live, zs.map .int)]) = some (.dat (.int (10 ^ 40)), σ ++ [(.live, zs.map .int)]) := ev_binR (x := .dat (.int 10)) (y := .dat (.int 40)) rfl rfl rfl rfl (r_pow (b := 40) (by decide))
  have hown : own (σ ++ [(Flag.live, zs.map PyData.int)]) (.cell σ.length) = some (.list (zs.map .int), σ ++ [(.frozen, zs.map .int)]) := by
    have h := get_last σ (Flag.live, zs.map PyData.int)
    simp only [own, h, set_last]
  have hlst : evE Φ (.lst [(.const .none), (.const (.str (Str.ofString "0"))), (.const (.bool true)), (.var 50), (.bin .Pow (.const (.int 10)) (.const (.int 40))), (.bin .Sub (.const (.int 0)) (.bin .Pow (.const (.int 10)) (.const (.int 40))))]) ρ (σ ++ [(.live, zs.map .int)]) = some (.fresh (oddL (zs.map .int)), σ ++ [(.frozen, zs.map .int)]) := by
    rw [ev_lst, el_one (v := .dat .none) rfl (el_one (v := .dat (.str (Str.ofString "0"))) rfl (el_one (v := .dat (.bool true)) rfl (el_var (v := .cell σ.length) q50 (el_one (v := .dat (.int (10 ^ 40))) hp (el_one (v := .dat (.int (0 - 10 ^ 40))) (ev_binR (x := .dat (.int 0)) (y := .dat (.int (10 ^ 40))) rfl hp rfl rfl rfl) rfl)))))]
    show (ownAll [.dat .none, .dat (.str (Str.ofString "0")), .dat (.bool true), .cell σ.length, .dat (.int (10 ^ 40)), .dat (.int (0 - 10 ^ 40))] (σ ++ [(Flag.live, zs.map PyData.int)])).bind _ = _
    rw [x_oa1, x_owD, Option.bind_some, x_oa1, x_owD, Option.bind_some, x_oa1, x_owD, Option.bind_some, x_oa1, hown]
    rfl
  have hk : i < (oddL (zs.map .int)).length := hi
  refine ⟨(oddL (zs.map .int))[i], fun r m => among_none fun w e => ?_, fun cs => r_assign (ev_idxS (y := .dat (.int i)) hlst (ev_dmE q28 (by decide) (by decide) (by decide) ei) rfl rfl (ix_any hk (by show 6 ≤ 100; decide)))⟩
  obtain ⟨⟨o1, o2⟩, o3, o4⟩ := hr r m
  have hw : w = 10 ^ 40 ∨ w = 0 - 10 ^ 40 := by
    match i, hi, hk, e with
    | 0, _, _, e => cases e
    | 1, _, _, e => cases e
    | 2, _, _, e => cases e
    | 3, _, _, e => cases e
    | 4, _, _, e => cases e; exact .inl rfl
    | 5, _, _, e => cases e; exact .inr rfl
  have h21 : r.1 ≤ 10 ^ 21 := o4
  have h22 : -(10 ^ 21) ≤ r.1 := o3
  rcases hw with rfl | rfl
  · right; omega
  · left; omega
theorem bad_ok {N : Nat} {Φ : Phi} {rs : List (Int × Int)} (h3 : rs.length ≤ 3) (hr : ∀ r ∈ rs, okR r ∧ farR r) (zs : List Int) (hl : zs.length = rs.length) (x : Int) (σ : Store) (ρ : Rho) (q28 : ρ 28 = some (.dat (.int x))) (q31 : ρ 31 = some (.dat (.tuple (rs.map pairD)))) (q50 : ρ 50 = some (.cell σ.length)) :
    ∃ ρ' d, BadIn rs d ∧ (∀ cs, evSs N Φ (badS ++ cs) ρ (σ ++ [(.live, zs.map .int)]) = evSs N Φ cs ρ' (σ ++ [(.frozen, zs.map .int)])) ∧ ρ' 60 = some (.dat d) ∧ ∀ j, j ≠ 59 → j ≠ 40 → j ≠ 60 → ρ' j = ρ j := by
  obtain ⟨d, hd, e1⟩ := odd_ok (N := N) (Φ := Φ) hr zs x σ ρ q28 q50
  have hv : Sees (σ ++ [(.frozen, zs.map .int)]) (.cell σ.length) zs := ⟨by rw [x_rdC, get_last]; rfl, rfl⟩
  obtain ⟨m, hm, em⟩ := fmod_nat (x.fdiv 486) (b := rs.length + 1) (by omega)
  generalize hρ : (ρ.set 59 (.dat d)).set 40 (.dat (.int m)) = ρ₂
  have p28 : ρ₂ 28 = some (.dat (.int x)) := by rw [← hρ]; exact q28
  have p31 : ρ₂ 31 = some (.dat (.tuple (rs.map pairD))) := by rw [← hρ]; exact q31
  have p50 : ρ₂ 50 = some (.cell σ.length) := by rw [← hρ]; exact q50
  have p40 : ρ₂ 40 = some (.dat (.int m)) := by rw [← hρ]; rfl
  have p59 : ρ₂ 59 = some (.dat d) := by rw [← hρ]; rfl
  have hoth : ∀ j, j ≠ 59 → j ≠ 40 → ρ₂ j = ρ j := fun j h1 h2 => by rw [← hρ]; exact (if_neg h2).trans (if_neg h1)
  have hln : ∀ ρ : Rho, ρ 50 = some (.cell σ.length) → evE Φ (.prim .len [(.var 50)]) ρ (σ ++ [(.frozen, zs.map .int)]) = some (.dat (.int rs.length), σ ++ [(.frozen, zs.map .int)]) := fun ρ h => by
    rw [← hl]; exact ev_lenV h hv (by omega)
  have e2 : evE Φ (.bin .Mod (.bin .FloorDiv (.var 28) (.const (.int 486))) (.bin .Add (.prim .len [(.var 50)]) (.const (.int 1)))) (ρ.set 59 (.dat d)) (σ ++ [(.frozen, zs.map .int)]) = some (.dat (.int m), σ ++ [(.frozen, zs.map .int)]) := by
    refine ev_binR (x := .dat (.int (x.fdiv 486))) (y := .dat (.int ((rs.length + 1 : Nat) : Int))) (ev_divR (evV (by exact q28)) (by decide) (by decide)) (ev_addI (x := rs.length) (y := 1) (hln _ (by exact q50)) rfl) rfl rfl ?_
    rw [bi_mod (by omega), em]
  have hA := ev_put (Φ := Φ) (e := .var 59) p50 hv p40 (by omega) (by omega) (by rw [ev_lst, el_var (v := .dat d) p59 rfl]; rfl)
  have hB : evE Φ (.bin .Add (.var 50) (.lst [(.const (.int 0))])) ρ₂ (σ ++ [(.frozen, zs.map .int)]) = some (.fresh (zs.map .int ++ [.int 0]), σ ++ [(.frozen, zs.map .int)]) := ev_binR (y := .fresh [.int 0]) (evV p50) rfl hv.rd rfl (bi_addL (le_lim (m := 1000) (by simp; omega) (by decide)))
  have hC : evE Φ (.prim .tuple [(.var 50)]) ρ₂ (σ ++ [(.frozen, zs.map .int)]) = some (.dat (.tuple (zs.map .int)), σ ++ [(.frozen, zs.map .int)]) := ev_primR (vs := [.cell σ.length]) (ds := [.list (zs.map .int)]) (σ₁ := σ ++ [(.frozen, zs.map .int)]) (el_var (v := .cell σ.length) p50 rfl) (by rw [x_ra1, hv.rd]; rfl) (pt_list (le_lim (m := 1000) (by rw [List.length_map]; omega) (by decide)))
  obtain ⟨i, hi, ei⟩ := fmod_nat (x.fdiv 7) (b := 5) (by decide)
  have hlst : evE Φ (.lst [(.bin .Add (.bin .Add (.slice (.var 50) (.const .none) (.var 40)) (.lst [(.var 59)])) (.slice (.var 50) (.bin .Add (.var 40) (.const (.int 1))) (.const .none))), (.bin .Add (.var 50) (.lst [(.const (.int 0))])), (.prim .tuple [(.var 50)]), (.const .none), (.const (.int 5))]) ρ₂ (σ ++ [(.frozen, zs.map .int)]) = some (.fresh [.list (putAt (zs.map .int) m d), .list (zs.map .int ++ [.int 0]), .tuple (zs.map .int), .none, .int 5], σ ++ [(.frozen, zs.map .int)]) := by
    rw [ev_lst, el_one hA (el_one hB (el_one hC (el_one (v := .dat .none) rfl (el_one (v := .dat (.int 5)) rfl rfl))))]
    rfl
  have hbad : ∀ (j : Nat) (h : j < 5), BadIn rs ([.list (putAt (zs.map .int) m d), .list (zs.map .int ++ [.int 0]), .tuple (zs.map .int), .none, .int 5] : List PyData)[j] := fun j h => by
    match j, h with
    | 0, _ => exact bad_put h3 (by rw [List.length_map]; exact hl) (by omega) fun r hr' => hd r (List.mem_of_getElem? hr')
    | 1, _ => exact .inr ⟨_, rfl, by simp; omega, .inl (by simp; omega)⟩
    | 2, _ => exact .inl fun ds e => by cases e
    | 3, _ => exact .inl fun ds e => by cases e
    | 4, _ => exact .inl fun ds e => by cases e
  have e3 : evE Φ (.idx (.lst [(.bin .Add (.bin .Add (.slice (.var 50) (.const .none) (.var 40)) (.lst [(.var 59)])) (.slice (.var 50) (.bin .Add (.var 40) (.const (.int 1))) (.const .none))), (.bin .Add (.var 50) (.lst [(.const (.int 0))])), (.prim .tuple [(.var 50)]), (.const .none), (.const (.int 5))]) (.bin .Mod (.bin .FloorDiv (.var 28) (.const (.int 7))) (.const (.int 5)))) ρ₂ (σ ++ [(.frozen, zs.map .int)]) = some (.dat ([.list (putAt (zs.map .int) m d), .list (zs.map .int ++ [.int 0]), .tuple (zs.map .int), .none, .int 5] : List PyData)[i], σ ++ [(.frozen, zs.map .int)]) := ev_idxR (y := .dat (.int i)) hlst (ev_dmE p28 (by decide) (by decide) (by decide) ei) rfl rfl (ix_any hi (by show 5 ≤ 100; decide))
  generalize hbd : ([.list (putAt (zs.map .int) m d), .list (zs.map .int ++ [.int 0]), .tuple (zs.map .int), .none, .int 5] : List PyData)[i] = bd at e3
  have hbdb : BadIn rs bd := by rw [← hbd]; exact hbad i hi
  obtain ⟨t, ht, et⟩ := fmod_nat (x.fdiv 3) (b := 4) (by decide)
  have c1 : evE Φ (.bop .And [(.cmp .Lt (.var 40) (.prim .len [(.var 50)])), (.cmp .Eq (.bin .Mod (.bin .FloorDiv (.var 28) (.const (.int 3))) (.const (.int 4))) (.const (.int 1)))]) (ρ₂.set 60 (.dat bd)) (σ ++ [(.frozen, zs.map .int)]) = some (.dat (.bool (decide ((m : Int) < rs.length) && decide (t = 1))), σ ++ [(.frozen, zs.map .int)]) := ev_and2 (ev_cmpR (evV (by exact p40)) (hln _ (by exact p50)) rfl) fun _ => ev_eqN 1 (ev_dmE (by exact p28) (by decide) (by decide) (by decide) et)
  have start : ∀ cs, evSs N Φ (badS ++ cs) ρ (σ ++ [(.live, zs.map .int)]) = evSs N Φ (badS.drop 3 ++ cs) (ρ₂.set 60 (.dat bd)) (σ ++ [(.frozen, zs.map .int)]) := fun cs => by
    refine (e1 (badS.tail ++ cs)).trans (Eq.trans (r_newdat e2) ?_)
    rw [hρ]
    exact r_assign e3
  cases hq : decide ((m : Int) < rs.length) && decide (t = 1) with
  | false =>
    rw [hq] at c1
    exact ⟨ρ₂.set 60 (.dat bd), bd, hbdb, fun cs => (start cs).trans (r_skip c1), rfl, fun j h1 h2 h3 => (if_neg h3).trans (hoth j h1 h2)⟩
  | true =>
    rw [hq] at c1
    have hmr : m < rs.length := by
      have := (Bool.and_eq_true_iff.mp hq).1
      have := of_decide_eq_true this
      omega
    obtain ⟨r, hrr⟩ : ∃ r, rs[m]? = some r := ⟨_, List.getElem?_eq_getElem hmr⟩
    obtain ⟨u, hu, eu⟩ := fmod_nat x (b := 2) (by decide)
    have hri : ∀ ρ : Rho, ρ 31 = some (.dat (.tuple (rs.map pairD))) → ρ 40 = some (.dat (.int m)) → evE Φ (.idx (.var 31) (.var 40)) ρ (σ ++ [(.frozen, zs.map .int)]) = some (.dat (pairD r), σ ++ [(.frozen, zs.map .int)]) := fun ρ h h' => ev_idxR (evV h) (evV h') rfl rfl (ix_tuple (by omega) (by rw [List.getElem?_map, hrr]; rfl))
    generalize hρ3 : ρ₂.set 60 (.dat bd) = ρ₃ at c1 start
    have s28 : ρ₃ 28 = some (.dat (.int x)) := by rw [← hρ3]; exact p28
    have s31 : ρ₃ 31 = some (.dat (.tuple (rs.map pairD))) := by rw [← hρ3]; exact p31
    have s50 : ρ₃ 50 = some (.cell σ.length) := by rw [← hρ3]; exact p50
    have s40 : ρ₃ 40 = some (.dat (.int m)) := by rw [← hρ3]; exact p40
    have hl2 : evE Φ (.lst [(.bin .Sub (.idx (.idx (.var 31) (.var 40)) (.const (.int 0))) (.const (.int 1))), (.bin .Add (.idx (.idx (.var 31) (.var 40)) (.const (.int 1))) (.const (.int 1)))]) ρ₃ (σ ++ [(.frozen, zs.map .int)]) = some (.fresh [.int (r.1 - 1), .int (r.2 + 1)], σ ++ [(.frozen, zs.map .int)]) := by
      have g0 : evE Φ (.idx (.idx (.var 31) (.var 40)) (.const (.int 0))) ρ₃ (σ ++ [(.frozen, zs.map .int)]) = some (.dat (.int r.1), σ ++ [(.frozen, zs.map .int)]) := ev_idxR (y := .dat (.int 0)) (hri ρ₃ s31 s40) rfl rfl rfl rfl
      have g1 : evE Φ (.idx (.idx (.var 31) (.var 40)) (.const (.int 1))) ρ₃ (σ ++ [(.frozen, zs.map .int)]) = some (.dat (.int r.2), σ ++ [(.frozen, zs.map .int)]) := ev_idxR (y := .dat (.int 1)) (hri ρ₃ s31 s40) rfl rfl rfl rfl
      rw [ev_lst, el_one (v := .dat (.int (r.1 - 1))) (ev_binR (x := .dat (.int r.1)) (y := .dat (.int 1)) g0 rfl rfl rfl rfl) (el_one (v := .dat (.int (r.2 + 1))) (ev_addI g1 rfl) rfl)]
      rfl
    have hpk : evE Φ (.idx (.lst [(.bin .Sub (.idx (.idx (.var 31) (.var 40)) (.const (.int 0))) (.const (.int 1))), (.bin .Add (.idx (.idx (.var 31) (.var 40)) (.const (.int 1))) (.const (.int 1)))]) (.bin .Mod (.var 28) (.const (.int 2)))) ρ₃ (σ ++ [(.frozen, zs.map .int)]) = some (.dat ([.int (r.1 - 1), .int (r.2 + 1)] : List PyData)[u], σ ++ [(.frozen, zs.map .int)]) := ev_idxR (y := .dat (.int u)) hl2 (ev_modE s28 (by decide) eu) rfl rfl (ix_any hu (by show 2 ≤ 100; decide))
    have hpu := ev_put (Φ := Φ) (e := .idx (.lst [(.bin .Sub (.idx (.idx (.var 31) (.var 40)) (.const (.int 0))) (.const (.int 1))), (.bin .Add (.idx (.idx (.var 31) (.var 40)) (.const (.int 1))) (.const (.int 1)))]) (.bin .Mod (.var 28) (.const (.int 2)))) s50 hv s40 (by omega) (by omega) (by rw [ev_lst, el_one hpk rfl]; rfl)
    refine ⟨ρ₃.set 60 (.dat (.list (putAt (zs.map .int) m ([.int (r.1 - 1), .int (r.2 + 1)] : List PyData)[u]))), _, bad_put h3 (by rw [List.length_map]; exact hl) (by omega) (fun q hq' => ?_), fun cs => (start cs).trans (r_next (Eq.trans (r_true c1) (Eq.trans (r_assign hpu) es_nil))), rfl, fun j h1 h2 h3 => (if_neg h3).trans (by rw [← hρ3]; exact (if_neg h3).trans (hoth j h1 h2))⟩
    rw [hrr] at hq'
    cases hq'
    have ho := (hr r (List.mem_of_getElem? hrr)).1.2
    match u, hu with
    | 0, _ => exact among_none fun w e => by cases e; left; omega
    | 1, _ => exact among_none fun w e => by cases e; right; omega
noncomputable def roundS : List CS := [.assign 28 (.call 17 [(.call 16 [(.var 26), (.bin .Add (.const (.int 41)) (.bin .Mod (.var 27) (.const (.int 3))))]), (.var 27)]), .newcell 50 (.lst []), .forr (.one 55) .range1 [(.prim .len [(.var 31)])] inS, .assign 57 (.prim .list [(.var 50)]), .forr (.one 58) .range1 [(.const (.int 2))] turnS] ++ (badS ++ [.ite (.nott (.call 27 [(.var 52), (.var 60)])) [.ret (.const (.bool false))] []])
theorem refS {Φ : Phi} {ρ : Rho} {σ : Store} {a b : PyData} (h1 : ρ 52 = some (.dat a)) (h2 : ρ 60 = some (.dat b)) (h : Φ 27 [.dat a, .dat b] σ = some (.ret (.dat (.bool true)), σ)) : evE Φ (.nott (.call 27 [(.var 52), (.var 60)])) ρ σ = some (.dat (.bool false), σ) :=
  ev_notT (p := true) (ev_callR (vs := [.dat a, .dat b]) (σ₁ := σ) (el_var (v := .dat a) h1 (el_var (v := .dat b) h2 rfl)) h)
theorem round_ok {N k : Nat} (hN : 10000 < N) (xs : List Int) (hx : xs.length ≤ 63) {rs : List (Int × Int)} {nb : Nat} {rows : List Row} (P : Prog rs nb rows) (hfr : ∀ r ∈ rs, farR r) (hz : rowsSz rows ≤ 1000) (i : Nat) (hi : i < 8) (σ : Store) (ρ : Rho) (q26 : ρ 26 = some (.dat (.list (xs.map .int)))) (q31 : ρ 31 = some (.dat (.tuple (rs.map pairD)))) (q52 : ρ 52 = some (.dat (progD rs nb rows))) (q27 : ρ 27 = some (.dat (.int i))) :
    ∃ ρ' σ', evSs N (tabAt tab3 N (k + 10)) roundS ρ σ = some (.next ρ', σ') ∧ ρ' 26 = some (.dat (.list (xs.map .int))) ∧ ρ' 31 = some (.dat (.tuple (rs.map pairD))) ∧ ρ' 52 = some (.dat (progD rs nb rows)) := by
  obtain ⟨j, hj, ej⟩ := fmod_nat ((i : Nat) : Int) (b := 3) (by decide)
  have c1 := s_cell_at N (k + 9) xs hx (41 + j) (by omega) σ
  have c2 := s_mixed N (k + 9) (cellAt xs (41 + j)) i (by omega) σ
  generalize hy : mixed (cellAt xs (41 + j)) i = x at c2
  have a0 : evE (tabAt tab3 N (k + 10)) (.bin .Add (.const (.int 41)) (.bin .Mod (.var 27) (.const (.int 3)))) ρ σ = some (.dat (.int ((41 + j : Nat) : Int)), σ) := ev_addI (x := 41) (y := j) rfl (ev_modE q27 (by decide) ej)
  have a1 : evE (tabAt tab3 N (k + 10)) (.call 16 [(.var 26), (.bin .Add (.const (.int 41)) (.bin .Mod (.var 27) (.const (.int 3))))]) ρ σ = some (.dat (.int (cellAt xs (41 + j))), σ) := ev_callR (vs := [.dat (.list (xs.map .int)), .dat (.int ((41 + j : Nat) : Int))]) (σ₁ := σ) (el_var (v := .dat (.list (xs.map .int))) q26 (el_one (v := .dat (.int ((41 + j : Nat) : Int))) a0 rfl)) c1
  have a2 : evE (tabAt tab3 N (k + 10)) (.call 17 [(.call 16 [(.var 26), (.bin .Add (.const (.int 41)) (.bin .Mod (.var 27) (.const (.int 3))))]), (.var 27)]) ρ σ = some (.dat (.int x), σ) := ev_callR (vs := [.dat (.int (cellAt xs (41 + j))), .dat (.int i)]) (σ₁ := σ) (el_one (v := .dat (.int (cellAt xs (41 + j)))) a1 (el_var (v := .dat (.int i)) q27 rfl)) c2
  have b1 : evE (tabAt tab3 N (k + 10)) (.lst []) (ρ.set 28 (.dat (.int x))) σ = some (.fresh [], σ) := rfl
  obtain ⟨ρ₁, zs, hl, hzs, e1, k1⟩ := in_loop (N := N) (Φ := tabAt tab3 N (k + 10)) P.h3 P.hr x σ ((ρ.set 28 (.dat (.int x))).set 50 (.cell σ.length)) (by exact q31) rfl rfl
  have hin := okIn_of hl hzs
  have r28 : ρ₁ 28 = some (.dat (.int x)) := (k1 28 (by decide) (by decide) (by decide)).trans rfl
  have r31 : ρ₁ 31 = some (.dat (.tuple (rs.map pairD))) := (k1 31 (by decide) (by decide) (by decide)).trans q31
  have r50 : ρ₁ 50 = some (.cell σ.length) := (k1 50 (by decide) (by decide) (by decide)).trans rfl
  have r52 : ρ₁ 52 = some (.dat (progD rs nb rows)) := (k1 52 (by decide) (by decide) (by decide)).trans q52
  have r26 : ρ₁ 26 = some (.dat (.list (xs.map .int))) := (k1 26 (by decide) (by decide) (by decide)).trans q26
  have hs : Sees (σ ++ [(.live, zs.map .int)]) (.cell σ.length) zs := ⟨by rw [x_rdC, get_last]; rfl, rfl⟩
  have h3 := P.h3
  have b2 : evE (tabAt tab3 N (k + 10)) (.prim .list [(.var 50)]) ρ₁ (σ ++ [(.live, zs.map .int)]) = some (.fresh (zs.map .int), σ ++ [(.live, zs.map .int)]) := ev_primR (vs := [.cell σ.length]) (ds := [.list (zs.map .int)]) (σ₁ := σ ++ [(.live, zs.map .int)]) (el_var (v := .cell σ.length) r50 rfl) (by rw [x_ra1, hs.rd]; rfl) (pk_list (le_lim (m := 1000) (by rw [List.length_map]; omega) (by decide)))
  obtain ⟨ρ₂, e2, k2⟩ := turns_ok (N := N) (k := k + 1) hN P hz hin hs (ρ₁.set 57 (.dat (.list (zs.map .int)))) (by exact r52) rfl (by exact r50)
  have t28 : ρ₂ 28 = some (.dat (.int x)) := (k2 28 (by decide) (by decide)).trans r28
  have t31 : ρ₂ 31 = some (.dat (.tuple (rs.map pairD))) := (k2 31 (by decide) (by decide)).trans r31
  have t50 : ρ₂ 50 = some (.cell σ.length) := (k2 50 (by decide) (by decide)).trans r50
  have t52 : ρ₂ 52 = some (.dat (progD rs nb rows)) := (k2 52 (by decide) (by decide)).trans r52
  have t26 : ρ₂ 26 = some (.dat (.list (xs.map .int))) := (k2 26 (by decide) (by decide)).trans r26
  obtain ⟨ρ₃, d, hd, e3, q60, k3⟩ := bad_ok (N := N) (Φ := tabAt tab3 N (k + 10)) P.h3 (fun r m => ⟨P.hr r m, hfr r m⟩) zs hl x σ ρ₂ t28 t31 t50
  have u52 : ρ₃ 52 = some (.dat (progD rs nb rows)) := (k3 52 (by decide) (by decide) (by decide)).trans t52
  have hrf := s_refused N (k + 1) hN rs nb rows P d hd (σ ++ [(.frozen, zs.map .int)])
  have b3 := refS (Φ := tabAt tab3 N (k + 10)) u52 q60 hrf
  refine ⟨ρ₃, σ ++ [(.frozen, zs.map .int)], ?_, (k3 26 (by decide) (by decide) (by decide)).trans t26, (k3 31 (by decide) (by decide) (by decide)).trans t31, u52⟩
  have A1 := r_assign (N := N) (i := 28) (cs := roundS.drop 1) a2
  have A2 := r_newcell (N := N) (i := 50) (cs := roundS.drop 2) b1
  have A3 := e1 (roundS.drop 3)
  have A4 := r_assign (N := N) (i := 57) (cs := roundS.drop 4) b2
  have A5 := e2 (badS ++ [.ite (.nott (.call 27 [(.var 52), (.var 60)])) [.ret (.const (.bool false))] []])
  have A6 := e3 [.ite (.nott (.call 27 [(.var 52), (.var 60)])) [.ret (.const (.bool false))] []]
  exact A1.trans (A2.trans (A3.trans (A4.trans (A5.trans (A6.trans ((r_skip b3).trans es_nil))))))
theorem PB.prog {rs : List (Int × Int)} {nb : Nat} {rows : List Row} (h : PB rs nb rows) : Prog rs nb rows := { h3 := h.h3, hr := h.hr, b1 := h.b1, b6 := h.b6, ok := h.ok, ls := by have := h.ls; omega, dp := by have := h.dp; omega, wt := by have := h.wt; omega }
theorem wrapped {rs : List (Int × Int)} {nb : Nat} {rows : List Row} (h : PB rs nb rows) (hw : rowsWt rows < 60) (t : Nat) (ht : t < 2) : Prog rs nb [.times (2 + t) rows] ∧ rowsSz [.times (2 + t) rows] ≤ 1000 := by
  have h1 := h.ls
  have h2 := h.sz
  have h4 := h.dp
  have hm : (2 + t) * rowsWt rows ≤ 3 * 59 := Nat.mul_le_mul (by omega) (by omega)
  exact ⟨{ h3 := h.h3, hr := h.hr, b1 := h.b1, b6 := h.b6, ok := ⟨⟨by omega, h.ok⟩, trivial⟩, ls := by show rowsLs rows + 1 ≤ 10000; omega, dp := by show max (rowsDp rows + 1) 1 ≤ 6; omega, wt := by show 1 + (2 + t) * rowsWt rows + 0 ≤ 200; omega }, by show 1 + rowsSz rows + 0 ≤ 1000; omega⟩
theorem law3 (N k : Nat) (hN : 10000 < N) (xs : List Int) (hx : xs.length ≤ 63) : tabAt tab3 N (k + 11) 28 [.dat (.list (xs.map .int))] [] = some (.ret (.dat (.bool true)), []) := by
  rw [tab_step (by rfl : tab3[28]? = some ([26], c_law))]
  obtain ⟨rs, nb, rows, hp, ep⟩ := s_program N (k + 2) xs hx []
  have c44 := s_cell_at N (k + 9) xs hx 44 (by decide) []
  generalize cellAt xs 44 = y at c44
  have hwt := s_weight N rs.length nb [] (k + 10) rows (by have := hp.dp; omega) hp.ok
  obtain ⟨u, hu, eu⟩ := fmod_nat y (b := 3) (by decide)
  obtain ⟨t, ht, et⟩ := fmod_nat (y.fdiv 3) (b := 2) (by decide)
  have et' : (y.fdiv 3).fmod 2 = (t : Int) := et
  have eu' : y.fmod 3 = (u : Int) := eu
  have a1 : evE (tabAt tab3 N (k + 10)) (.call 24 [(.var 26), (.const (.int 0))]) (Rho.set (fun _ => none) 26 (.dat (.list (xs.map .int)))) [] = some (.dat (progD rs nb rows), []) := ev_callR (vs := [.dat (.list (xs.map .int)), .dat (.int 0)]) (σ₁ := []) rfl ep
  generalize hρ : ((Rho.set (fun _ => none) 26 (.dat (.list (xs.map .int)))).set 52 (.dat (progD rs nb rows))).set 31 (.dat (.tuple (rs.map pairD))) = ρ
  have q26 : ρ 26 = some (.dat (.list (xs.map .int))) := by rw [← hρ]; rfl
  have q52 : ρ 52 = some (.dat (progD rs nb rows)) := by rw [← hρ]; rfl
  have q31 : ρ 31 = some (.dat (.tuple (rs.map pairD))) := by rw [← hρ]; rfl
  have hc : evE (tabAt tab3 N (k + 10)) (.call 16 [(.var 26), (.const (.int 44))]) ρ [] = some (.dat (.int y), []) := ev_callR (vs := [.dat (.list (xs.map .int)), .dat (.int 44)]) (σ₁ := []) (el_var (v := .dat (.list (xs.map .int))) q26 rfl) c44
  have hu1 : evE (tabAt tab3 N (k + 10)) (.bin .Mod (.call 16 [(.var 26), (.const (.int 44))]) (.const (.int 3))) ρ [] = some (.dat (.int u), []) := by rw [← eu']; exact ev_modR hc (by decide)
  have hw1 : evE (tabAt tab3 N (k + 10)) (.call 12 [(.idx (.var 52) (.const (.int 2)))]) ρ [] = some (.dat (.int (rowsWt rows)), []) := ev_callR (vs := [.dat (.tuple (rowsD rows))]) (σ₁ := []) (el_one (v := .dat (.tuple (rowsD rows))) (ev_ixD q52 rfl) rfl) hwt
  have hcond := ev_and2 (ev_eqN 1 hu1) fun _ => (ev_cmpR (op := .Lt) (b := .const (.int 60)) hw1 rfl (cm_lt _ _))
  have key : ∃ rows' ρ', Prog rs nb rows' ∧ rowsSz rows' ≤ 1000 ∧ (∀ cs, evSs N (tabAt tab3 N (k + 10)) ((c_law.drop 2).take 1 ++ cs) ρ [] = evSs N (tabAt tab3 N (k + 10)) cs ρ' []) ∧ ρ' 26 = some (.dat (.list (xs.map .int))) ∧ ρ' 31 = some (.dat (.tuple (rs.map pairD))) ∧ ρ' 52 = some (.dat (progD rs nb rows')) := by
    cases hq : decide (u = 1) && decide ((rowsWt rows : Int) < 60) with
    | false =>
      rw [hq] at hcond
      exact ⟨rows, ρ, hp.prog, by have := hp.sz; omega, fun cs => r_skip hcond, q26, q31, q52⟩
    | true =>
      rw [hq] at hcond
      have hw60 : rowsWt rows < 60 := by
        have := of_decide_eq_true (Bool.and_eq_true_iff.mp hq).2
        omega
      obtain ⟨w1, w2⟩ := wrapped hp hw60 t ht
      have hm : evE (tabAt tab3 N (k + 10)) (.bin .Add (.const (.int 2)) (.bin .Mod (.bin .FloorDiv (.call 16 [(.var 26), (.const (.int 44))]) (.const (.int 3))) (.const (.int 2)))) ρ [] = some (.dat (.int ((2 + t : Nat) : Int)), []) := by
        rw [show (((2 + t : Nat)) : Int) = 2 + (y.fdiv 3).fmod 2 from by omega]
        exact ev_addI rfl (ev_modR (ev_divR hc (by decide) (by decide)) (by decide))
      exact ⟨[.times (2 + t) rows], ρ.set 52 (.dat (progD rs nb [.times (2 + t) rows])), w1, w2, fun cs => r_next (Eq.trans (r_true hcond) (Eq.trans (r_assign (v := .dat (progD rs nb [.times (2 + t) rows])) (σ₁ := []) (ev_tup3 (evV q31) (ev_ixD q52 rfl) (ev_tup1 (ev_tup3 rfl hm (ev_ixD q52 rfl))))) es_nil)), q26, q31, rfl⟩
  obtain ⟨rows', ρ', P, hz, e2, s26, s31, s52⟩ := key
  obtain ⟨ρ'', σ'', e3, _⟩ := forGo_cnt (t := .one 27) (body := fun ρ' σ' => evSs N (tabAt tab3 N (k + 10)) roundS ρ' σ') (fun _ ρ _ => ρ 26 = some (.dat (.list (xs.map .int))) ∧ ρ 31 = some (.dat (.tuple (rs.map pairD))) ∧ ρ 52 = some (.dat (progD rs nb rows')))
    ((List.range 8).map fun k => PyData.int (k : Nat)) 0 ρ' [] (fun j d hd ρ₁ σ' hP => by
      obtain ⟨p1, p2, p3⟩ := hP
      have hj : j < 8 := by
        have := (List.getElem?_eq_some_iff.mp hd).1
        simpa using this
      have hd' : d = .int j := by
        rw [List.getElem?_map, List.getElem?_range hj] at hd
        simpa using hd.symm
      subst hd'
      obtain ⟨ρ₂, σ₂, a1, a2, a3, a4⟩ := round_ok (N := N) (k := k) hN xs hx P hp.fr hz j hj σ' (ρ₁.set 27 (.dat (.int j))) p1 p2 p3 rfl
      exact ⟨_, ρ₂, σ₂, rfl, a1, a2, a3, a4⟩) ⟨s26, s31, s52⟩
  have A1 := r_assign (N := N) (i := 52) (cs := c_law.drop 1) a1
  have b1 : evE (tabAt tab3 N (k + 10)) (.idx (.var 52) (.const (.int 0))) ((Rho.set (fun _ => none) 26 (.dat (.list (xs.map .int)))).set 52 (.dat (progD rs nb rows))) [] = some (.dat (.tuple (rs.map pairD)), []) := ev_ixD rfl rfl
  have A2 := r_newdat (N := N) (i := 31) (cs := c_law.drop 2) b1
  rw [hρ] at A2
  have A3 := e2 ((c_law.drop 2).drop 1)
  rw [List.take_append_drop] at A3
  have A4 := r_forS (N := N) (cs := [.ret (.const (.bool true))]) (its := [(.const (.int 8))]) (k := .range1) (vs := [.dat (.int 8)]) (ds := [.int 8]) rfl rfl rfl (range_it (n := 8) (by decide)) e3
  have hb : evSs N (tabAt tab3 N (k + 10)) c_law (Rho.set (fun _ => none) 26 (.dat (.list (xs.map .int)))) [] = some (.ret (.dat (.bool true)), σ'') := A1.trans (A2.trans (A3.trans (A4.trans (r_ret rfl))))
  exact run_cell (τ := σ'') rfl hb
noncomputable def cstV : Value → Option PyData
  | .int i _ => some (.int i)
  | .str x _ => some (.str x)
  | _ => none
theorem cst_rd {v : Value} {d : PyData} (e : cstV v = some d) : ∀ h S, Rd h S v d := by
  cases v with
  | int i t => cases e; exact fun _ _ => .int i t
  | str x t => cases e; exact fun _ _ => .str x t
  | _ => exact nsm e
open PySem.Calls PySem.W PyProof.Rows in
theorem cst_of {K : Frag} {x : Str} {d : PyData} (e : ((nsIn K mainGlobals x).bind fun o => o.bind cstV) = some d) : ∃ v, nsIn K mainGlobals x = some (some v) ∧ ∀ h S, Rd h S v d :=
  ob e fun o h1 e => ob e fun v h2 e => ⟨v, h1.trans (congrArg some h2), cst_rd e⟩
noncomputable def V3 : List Str := [("thing" : Str), ("least" : Str), ("most" : Str), ("many" : Str), ("one" : Str), ("ranges" : Str), ("inputs" : Str), ("pair" : Str), ("number" : Str), ("boxes" : Str), ("sign" : Str), ("word" : Str), ("row" : Str), ("waiting" : Str), ("rows" : Str), ("layer" : Str), ("below" : Str), ("some" : Str), ("found" : Str), ("expression" : Str), ("const" : Str), ("factors" : Str), ("others" : Str), ("factor" : Str), ("program" : Str), ("side" : Str), ("_law_script" : Str), ("_law_k" : Str), ("_law_cell" : Str), ("_law_found" : Str), ("_law_many" : Str), ("_law_ranges_here" : Str), ("_law_more" : Str), ("_law_low" : Str), ("_law_wide" : Str), ("_law_sizes" : Str), ("_law_factors" : Str), ("_law_others" : Str), ("_law_const" : Str), ("_law_letters" : Str), ("_law_at" : Str), ("_law_deep" : Str), ("_law_way" : Str), ("_law_e" : Str), ("_law_yes" : Str), ("_law_first" : Str), ("_law_rows_here" : Str), ("_law_zeros" : Str), ("_law_put" : Str), ("_law_ask" : Str), ("_law_inputs" : Str), ("_law_boxes" : Str), ("_law_program_here" : Str), ("_law_one" : Str), ("_law_other" : Str), ("_law_place" : Str), ("_law_high" : Str), ("_law_handed" : Str), ("_law_turn" : Str), ("_law_odd" : Str), ("_law_bad" : Str)]
noncomputable def G3 : Cfg := { V := V3, fns := [("is_whole", 82), ("is_among", 89), ("are_wholes", 94), ("need_inputs", 101), ("is_range", 108), ("is_expression", 115), ("is_word", 120), ("is_statement", 127), ("inner_rows", 134), ("are_rows", 141), ("is_program", 146), ("depth", 153), ("weight", 160), ("need_program", 167), ("worth", 174), ("run", 181), ("_law_cell_at", 188), ("_law_mixed", 195), ("_law_whole", 202), ("_law_ranges", 209), ("_law_expression", 214), ("_law_word_by", 219), ("_law_statement", 226), ("_law_rows", 231), ("_law_program", 238), ("_law_value", 243), ("_law_going", 250), ("_law_refused", 257), ("law", 264)], excs := [("CaseError", 0), ("BadProgram", 1), ("TooGreat", 2), ("BadInputs", 3), ("TooMany", 4)], consts := [("MOST_INPUTS", .int 3), ("MOST_WIDE", .int 20), ("MOST_BOXES", .int 6), ("MOST_TIMES", .int 8), ("MOST_LETTERS", .int 8), ("MOST_WEIGHT", .int 200), ("MOST_DEPTH", .int 6), ("LETTERS", .str "abcdefghijklmnopqrstuvwxyz")], cells := ["waiting", "boxes", "layer", "below", "_law_ranges_here", "_law_at", "_law_boxes", "_law_rows_here", "_law_inputs"] }
noncomputable def ec3 : ExcCls := fun c => [24,37,49,61,73].getD c 0
end Mine
namespace Mine
noncomputable def top3.tw10173294245419981259 : Nat := 0
noncomputable def top3.tw10252426880334580065 : Nat := 0
noncomputable def top3.tw10258466718254593941 : Nat := 0
noncomputable def top3.tw10328867605857838917 : Nat := 0
noncomputable def top3.tw10344853183873368037 : Nat := 0
noncomputable def top3.tw10359368915166661784 : Nat := 0
noncomputable def top3.tw10425068048990474071 : Nat := 0
noncomputable def top3.tw10445876293418009660 : Nat := 0
noncomputable def top3.tw10565202617568609431 : Nat := 0
noncomputable def top3.tw10653571394810161987 : Nat := 0
noncomputable def top3.tw10654523256767637742 : Nat := 0
noncomputable def top3.tw10813445108702717753 : Nat := 0
noncomputable def top3.tw10835865105528427451 : Nat := 0
noncomputable def top3.tw10881213972577838124 : Nat := 0
noncomputable def top3.tw1094168321247859325 : Nat := 0
noncomputable def top3.tw1108030724384328029 : Nat := 0
noncomputable def top3.tw11081116893652144458 : Nat := 0
noncomputable def top3.tw11098445706907340238 : Nat := 0
noncomputable def top3.tw11149186534266344036 : Nat := 0
noncomputable def top3.tw11204349466329851665 : Nat := 0
noncomputable def top3.tw11374892261477895889 : Nat := 0
noncomputable def top3.tw11429951140291078530 : Nat := 0
noncomputable def top3.tw11617311658187887912 : Nat := 0
noncomputable def top3.tw11638493330569819860 : Nat := 0
noncomputable def top3.tw11686323055010085877 : Nat := 0
noncomputable def top3.tw11727116999880224018 : Nat := 0
noncomputable def top3.tw11745188997928689163 : Nat := 0
noncomputable def top3.tw11841238857858634289 : Nat := 0
noncomputable def top3.tw1187643080135740503 : Nat := 0
noncomputable def top3.tw11883690651674041325 : Nat := 0
noncomputable def top3.tw11889702811202564998 : Nat := 0
noncomputable def top3.tw11927251681438361020 : Nat := 0
noncomputable def top3.tw12045164718727269825 : Nat := 0
noncomputable def top3.tw12117704337679816464 : Nat := 0
noncomputable def top3.tw12258406658721440355 : Nat := 0
noncomputable def top3.tw12280348937447738216 : Nat := 0
noncomputable def top3.tw12311809637451241360 : Nat := 0
noncomputable def top3.tw12392470109930753608 : Nat := 0
noncomputable def top3.tw12405368085533686339 : Nat := 0
noncomputable def top3.tw12447741871910996553 : Nat := 0
noncomputable def top3.tw1245880560343648871 : Nat := 0
noncomputable def top3.tw12518037321976757764 : Nat := 0
noncomputable def top3.tw12555711345720279873 : Nat := 0
noncomputable def top3.tw12839237791141211418 : Nat := 0
noncomputable def top3.tw12892704629345957896 : Nat := 0
noncomputable def top3.tw13118251372889880115 : Nat := 0
noncomputable def top3.tw13135447922177357532 : Nat := 0
noncomputable def top3.tw13136651340674631679 : Nat := 0
noncomputable def top3.tw13184729830903234679 : Nat := 0
noncomputable def top3.tw13201933212959478711 : Nat := 0
noncomputable def top3.tw1333934491955196227 : Nat := 0
noncomputable def top3.tw13340272275242415503 : Nat := 0
noncomputable def top3.tw13484685952212674603 : Nat := 0
noncomputable def top3.tw13553579938147590179 : Nat := 0
noncomputable def top3.tw13605857629870591322 : Nat := 0
noncomputable def top3.tw13625990767510958642 : Nat := 0
noncomputable def top3.tw13821849594936460167 : Nat := 0
noncomputable def top3.tw14109229475079113194 : Nat := 0
noncomputable def top3.tw14134856358708945301 : Nat := 0
noncomputable def top3.tw14227689276678616397 : Nat := 0
noncomputable def top3.tw1432540671843882846 : Nat := 0
noncomputable def top3.tw14452581656601683187 : Nat := 0
noncomputable def top3.tw14466476793302533081 : Nat := 0
noncomputable def top3.tw145072567342024324 : Nat := 0
noncomputable def top3.tw14712994313507494086 : Nat := 0
noncomputable def top3.tw14753006485779449777 : Nat := 0
noncomputable def top3.tw14772463995958802857 : Nat := 0
noncomputable def top3.tw14863239730371354260 : Nat := 0
noncomputable def top3.tw14872997591228750998 : Nat := 0
noncomputable def top3.tw14882049335674227299 : Nat := 0
noncomputable def top3.tw14903281616564816895 : Nat := 0
noncomputable def top3.tw14908936871165433316 : Nat := 0
noncomputable def top3.tw14980091205835663031 : Nat := 0
noncomputable def top3.tw14985230519761223694 : Nat := 0
noncomputable def top3.tw15047253386719854116 : Nat := 0
noncomputable def top3.tw1505017386009858524 : Nat := 0
noncomputable def top3.tw15148903819162891941 : Nat := 0
noncomputable def top3.tw15311328353484062194 : Nat := 0
noncomputable def top3.tw15337641788992237224 : Nat := 0
noncomputable def top3.tw15398769878876610077 : Nat := 0
noncomputable def top3.tw15450376321038530991 : Nat := 0
noncomputable def top3.tw15602104200104590727 : Nat := 0
noncomputable def top3.tw1564346640218090029 : Nat := 0
noncomputable def top3.tw1566639253430641505 : Nat := 0
noncomputable def top3.tw15726882417392141589 : Nat := 0
noncomputable def top3.tw15829337166180839177 : Nat := 0
noncomputable def top3.tw15869989852549283131 : Nat := 0
noncomputable def top3.tw16062285444623897621 : Nat := 0
noncomputable def top3.tw16084677847184660350 : Nat := 0
noncomputable def top3.tw16108444067383662449 : Nat := 0
noncomputable def top3.tw16130038415478918303 : Nat := 0
noncomputable def top3.tw1614079444587911564 : Nat := 0
noncomputable def top3.tw16209599295839928562 : Nat := 0
noncomputable def top3.tw16247752831677464531 : Nat := 0
noncomputable def top3.tw16316317422433886835 : Nat := 0
noncomputable def top3.tw16507165521855286454 : Nat := 0
noncomputable def top3.tw1653175606010534103 : Nat := 0
noncomputable def top3.tw16599455965060059060 : Nat := 0
noncomputable def top3.tw16626883403133985341 : Nat := 0
noncomputable def top3.tw16658849308856543452 : Nat := 0
noncomputable def top3.tw16679897415386499710 : Nat := 0
noncomputable def top3.tw16692597901088577446 : Nat := 0
noncomputable def top3.tw16776208664767394434 : Nat := 0
noncomputable def top3.tw16828595465100809237 : Nat := 0
noncomputable def top3.tw16892508454911465820 : Nat := 0
noncomputable def top3.tw16923822136260369705 : Nat := 0
noncomputable def top3.tw16925480775098193203 : Nat := 0
noncomputable def top3.tw16941574136796146243 : Nat := 0
noncomputable def top3.tw17126994020707357036 : Nat := 0
noncomputable def top3.tw17163429827040126967 : Nat := 0
noncomputable def top3.tw17231833297815709454 : Nat := 0
noncomputable def top3.tw17299558788367990225 : Nat := 0
noncomputable def top3.tw17320732554171088076 : Nat := 0
noncomputable def top3.tw17321573160113390381 : Nat := 0
noncomputable def top3.tw17367485504639135685 : Nat := 0
noncomputable def top3.tw17491182286380855023 : Nat := 0
noncomputable def top3.tw17505314358816359420 : Nat := 0
noncomputable def top3.tw17546699651564145253 : Nat := 0
noncomputable def top3.tw17550186643212346030 : Nat := 0
noncomputable def top3.tw17627676370523600141 : Nat := 0
noncomputable def top3.tw17649391001709618088 : Nat := 0
noncomputable def top3.tw17730851922782767645 : Nat := 0
noncomputable def top3.tw17744969688053123818 : Nat := 0
noncomputable def top3.tw17753139694312208478 : Nat := 0
noncomputable def top3.tw1787352802781068290 : Nat := 0
noncomputable def top3.tw1793757121859133483 : Nat := 0
noncomputable def top3.tw18046140070929666797 : Nat := 0
noncomputable def top3.tw18355776383724530049 : Nat := 0
noncomputable def top3.tw1863948820203832725 : Nat := 0
noncomputable def top3.tw1865866977819107940 : Nat := 0
noncomputable def top3.tw1882970389518493234 : Nat := 0
noncomputable def top3.tw1903620220290058887 : Nat := 0
noncomputable def top3.tw1950468539086925098 : Nat := 0
noncomputable def top3.tw2005285007153738332 : Nat := 0
noncomputable def top3.tw2066781845454364156 : Nat := 0
noncomputable def top3.tw2298793521895445690 : Nat := 0
noncomputable def top3.tw2300707907728269279 : Nat := 0
noncomputable def top3.tw2570627699585232944 : Nat := 0
noncomputable def top3.tw266385271903734677 : Nat := 0
noncomputable def top3.tw2708407843047669074 : Nat := 0
noncomputable def top3.tw2742828389298209655 : Nat := 0
noncomputable def top3.tw279020702282824967 : Nat := 0
noncomputable def top3.tw2818784617247548446 : Nat := 0
noncomputable def top3.tw316308838321675176 : Nat := 0
noncomputable def top3.tw3213539363341917681 : Nat := 0
noncomputable def top3.tw3296660362924670027 : Nat := 0
noncomputable def top3.tw3368815426056857108 : Nat := 0
noncomputable def top3.tw3380958342916853798 : Nat := 0
noncomputable def top3.tw3434944406680212436 : Nat := 0
noncomputable def top3.tw3441375882309149995 : Nat := 0
noncomputable def top3.tw344471849838720734 : Nat := 0
noncomputable def top3.tw3508015250812427196 : Nat := 0
noncomputable def top3.tw3536493667109365075 : Nat := 0
noncomputable def top3.tw3646917517330262749 : Nat := 0
noncomputable def top3.tw3740723422641139063 : Nat := 0
noncomputable def top3.tw3818742472037180552 : Nat := 0
noncomputable def top3.tw3831266755427087931 : Nat := 0
noncomputable def top3.tw3832569927607222800 : Nat := 0
noncomputable def top3.tw3875438513630875222 : Nat := 0
noncomputable def top3.tw3881277399532072582 : Nat := 0
noncomputable def top3.tw3999164620831824292 : Nat := 0
noncomputable def top3.tw4095059750800332220 : Nat := 0
noncomputable def top3.tw4104697601396427602 : Nat := 0
noncomputable def top3.tw4144464636528714855 : Nat := 0
noncomputable def top3.tw421044791793426316 : Nat := 0
noncomputable def top3.tw42251262344809732 : Nat := 0
noncomputable def top3.tw4413948183361701553 : Nat := 0
noncomputable def top3.tw4414429856836356555 : Nat := 0
noncomputable def top3.tw4414496638741717661 : Nat := 0
noncomputable def top3.tw4422931361429072623 : Nat := 0
noncomputable def top3.tw4427956925114948029 : Nat := 0
noncomputable def top3.tw4475047514039820628 : Nat := 0
noncomputable def top3.tw4513744306741637700 : Nat := 0
noncomputable def top3.tw4561895138545714424 : Nat := 0
noncomputable def top3.tw4603182972861627109 : Nat := 0
noncomputable def top3.tw4704231210416901759 : Nat := 0
noncomputable def top3.tw4731702316789397984 : Nat := 0
noncomputable def top3.tw4757552187437088662 : Nat := 0
noncomputable def top3.tw4809233326204915466 : Nat := 0
noncomputable def top3.tw487971513300900514 : Nat := 0
noncomputable def top3.tw4901031154027689392 : Nat := 0
noncomputable def top3.tw4964291537528454814 : Nat := 0
noncomputable def top3.tw5007731757985615204 : Nat := 0
noncomputable def top3.tw5034852735376983478 : Nat := 0
noncomputable def top3.tw5090542589474632604 : Nat := 0
noncomputable def top3.tw509563768814790966 : Nat := 0
noncomputable def top3.tw5149918140168109319 : Nat := 0
noncomputable def top3.tw51904154861832269 : Nat := 0
noncomputable def top3.tw5317413249999788843 : Nat := 0
noncomputable def top3.tw534071266793011206 : Nat := 0
noncomputable def top3.tw5349717671612007773 : Nat := 0
noncomputable def top3.tw5367175772296911657 : Nat := 0
noncomputable def top3.tw5460889534917125899 : Nat := 0
noncomputable def top3.tw5669402609263372881 : Nat := 0
noncomputable def top3.tw5672679514276692421 : Nat := 0
noncomputable def top3.tw5723565313724987510 : Nat := 0
noncomputable def top3.tw5733896281945794118 : Nat := 0
noncomputable def top3.tw5843902989491455554 : Nat := 0
noncomputable def top3.tw5862638664645874772 : Nat := 0
noncomputable def top3.tw5963342182101119198 : Nat := 0
noncomputable def top3.tw6235411808676718463 : Nat := 0
noncomputable def top3.tw6269973862822148658 : Nat := 0
noncomputable def top3.tw6288333104273297392 : Nat := 0
noncomputable def top3.tw6386709198352800819 : Nat := 0
noncomputable def top3.tw6446567706529874689 : Nat := 0
noncomputable def top3.tw652676391048521646 : Nat := 0
noncomputable def top3.tw6654262651543101641 : Nat := 0
noncomputable def top3.tw6790192378801078160 : Nat := 0
noncomputable def top3.tw6799411602306083904 : Nat := 0
noncomputable def top3.tw6824970322852232206 : Nat := 0
noncomputable def top3.tw6829116936846746628 : Nat := 0
noncomputable def top3.tw6846332144408479558 : Nat := 0
noncomputable def top3.tw7050780365806412841 : Nat := 0
noncomputable def top3.tw7082685968062625116 : Nat := 0
noncomputable def top3.tw7117225333331789474 : Nat := 0
noncomputable def top3.tw7193510169115851749 : Nat := 0
noncomputable def top3.tw7312400302244272981 : Nat := 0
noncomputable def top3.tw7460410544654041289 : Nat := 0
noncomputable def top3.tw7579422435422283143 : Nat := 0
noncomputable def top3.tw7581704253665399692 : Nat := 0
noncomputable def top3.tw7596275257341808669 : Nat := 0
noncomputable def top3.tw7598913529531138512 : Nat := 0
noncomputable def top3.tw7608791179158012835 : Nat := 0
noncomputable def top3.tw7647887340588834451 : Nat := 0
noncomputable def top3.tw768643110856964817 : Nat := 0
noncomputable def top3.tw7753993453675865128 : Nat := 0
noncomputable def top3.tw778677803136710892 : Nat := 0
noncomputable def top3.tw7810546054928663886 : Nat := 0
noncomputable def top3.tw7909358827056029700 : Nat := 0
noncomputable def top3.tw7945581502886789064 : Nat := 0
noncomputable def top3.tw8034448521061078832 : Nat := 0
noncomputable def top3.tw8064682706667366204 : Nat := 0
noncomputable def top3.tw8196213324498125030 : Nat := 0
noncomputable def top3.tw8211346249352032204 : Nat := 0
noncomputable def top3.tw8466563114115420741 : Nat := 0
noncomputable def top3.tw8653728658539810442 : Nat := 0
noncomputable def top3.tw8654234694273900219 : Nat := 0
noncomputable def top3.tw8730070744476244040 : Nat := 0
noncomputable def top3.tw8780184182316069902 : Nat := 0
noncomputable def top3.tw8902322604126403511 : Nat := 0
noncomputable def top3.tw8929924064458095845 : Nat := 0
noncomputable def top3.tw9013853758858674297 : Nat := 0
noncomputable def top3.tw9017034617624877389 : Nat := 0
noncomputable def top3.tw9245410473432791827 : Nat := 0
noncomputable def top3.tw9296173175088604486 : Nat := 0
noncomputable def top3.tw9297147624360043926 : Nat := 0
noncomputable def top3.tw9302479997322315212 : Nat := 0
noncomputable def top3.tw9363124082634102540 : Nat := 0
noncomputable def top3.tw9455488951585915489 : Nat := 0
noncomputable def top3.tw9550548352801434074 : Nat := 0
noncomputable def top3.tw9629138390941056469 : Nat := 0
noncomputable def top3.tw9686551959966010152 : Nat := 0
noncomputable def top3.tw9867286873681040920 : Nat := 0
noncomputable def top3.tw9979028475405826186 : Nat := 0
noncomputable def top3.tw9999828601438494143 : Nat := 0
end Mine
open PySem PySem.Spec PySem.Calls PySem.W PyProof.Rows Mine in
set_option Elab.async true in
set_option maxHeartbeats 16000000 in
theorem Mine.top3 : PySem.Challenge.rw_uf010029_03.Holds := by
  w_on; o_law; k_head; (case hw => w_witness2)
  intro w s₀ s₁ mg mb G Y fa o pm cd doc dV kV ho hd hcd hD hmg hg args vals as hpre hlay hrd hwl hlo
  have KX := kIn_of Y
  have fn_is_whole : FnIn (Mine.top3.heap_1_39 w.params) G3 "is_whole" 82 [0] c_is_whole := ⟨by kernel_rfl, _, _, _, _, _, _, _, ["thing"], rfl, rfl, rfl, rfl, rfl, rfl, rfl, rfl, rfl, rfl, rfl, rfl, rfl, (fun vals h => by rcases vals with _ | ⟨a, _ | ⟨q, r⟩⟩ <;> first | rfl | (simp at h)), by kernel_rfl, by kernel_rfl, by kernel_rfl, by kernel_rfl⟩
  have fn_is_among : FnIn (Mine.top3.heap_1_39 w.params) G3 "is_among" 89 [0, 1, 2] c_is_among := ⟨by kernel_rfl, _, _, _, _, _, _, _, ["thing", "least", "most"], rfl, rfl, rfl, rfl, rfl, rfl, rfl, rfl, rfl, rfl, rfl, rfl, rfl, (fun vals h => by rcases vals with _ | ⟨a, _ | ⟨b, _ | ⟨c, _ | ⟨q, r⟩⟩⟩⟩ <;> first | rfl | (simp at h)), by kernel_rfl, by kernel_rfl, by kernel_rfl, by kernel_rfl⟩
  have fn_are_wholes : FnIn (Mine.top3.heap_1_39 w.params) G3 "are_wholes" 94 [0, 3] c_are_wholes := ⟨by kernel_rfl, _, _, _, _, _, _, _, ["thing", "many"], rfl, rfl, rfl, rfl, rfl, rfl, rfl, rfl, rfl, rfl, rfl, rfl, rfl, (fun vals h => by rcases vals with _ | ⟨a, _ | ⟨b, _ | ⟨q, r⟩⟩⟩ <;> first | rfl | (simp at h)), by kernel_rfl, by kernel_rfl, by kernel_rfl, by kernel_rfl⟩
  have fn_need_inputs : FnIn (Mine.top3.heap_1_39 w.params) G3 "need_inputs" 101 [5, 6] c_need_inputs := ⟨by kernel_rfl, _, _, _, _, _, _, _, ["ranges", "inputs"], rfl, rfl, rfl, rfl, rfl, rfl, rfl, rfl, rfl, rfl, rfl, rfl, rfl, (fun vals h => by rcases vals with _ | ⟨a, _ | ⟨b, _ | ⟨q, r⟩⟩⟩ <;> first | rfl | (simp at h)), by kernel_rfl, by kernel_rfl, by kernel_rfl, by kernel_rfl⟩
  have fn_is_range : FnIn (Mine.top3.heap_1_39 w.params) G3 "is_range" 108 [0] c_is_range := ⟨by kernel_rfl, _, _, _, _, _, _, _, ["thing"], rfl, rfl, rfl, rfl, rfl, rfl, rfl, rfl, rfl, rfl, rfl, rfl, rfl, (fun vals h => by rcases vals with _ | ⟨a, _ | ⟨q, r⟩⟩ <;> first | rfl | (simp at h)), by kernel_rfl, by kernel_rfl, by kernel_rfl, by kernel_rfl⟩
  have fn_is_expression : FnIn (Mine.top3.heap_1_39 w.params) G3 "is_expression" 115 [0, 6, 9] c_is_expression := ⟨by kernel_rfl, _, _, _, _, _, _, _, ["thing", "inputs", "boxes"], rfl, rfl, rfl, rfl, rfl, rfl, rfl, rfl, rfl, rfl, rfl, rfl, rfl, (fun vals h => by rcases vals with _ | ⟨a, _ | ⟨b, _ | ⟨c, _ | ⟨q, r⟩⟩⟩⟩ <;> first | rfl | (simp at h)), by kernel_rfl, by kernel_rfl, by kernel_rfl, by kernel_rfl⟩
  have fn_is_word : FnIn (Mine.top3.heap_1_39 w.params) G3 "is_word" 120 [0] c_is_word := ⟨by kernel_rfl, _, _, _, _, _, _, _, ["thing"], rfl, rfl, rfl, rfl, rfl, rfl, rfl, rfl, rfl, rfl, rfl, rfl, rfl, (fun vals h => by rcases vals with _ | ⟨a, _ | ⟨q, r⟩⟩ <;> first | rfl | (simp at h)), by kernel_rfl, by kernel_rfl, by kernel_rfl, by kernel_rfl⟩
  have fn_is_statement : FnIn (Mine.top3.heap_1_39 w.params) G3 "is_statement" 127 [0, 6, 9] c_is_statement := ⟨by kernel_rfl, _, _, _, _, _, _, _, ["thing", "inputs", "boxes"], rfl, rfl, rfl, rfl, rfl, rfl, rfl, rfl, rfl, rfl, rfl, rfl, rfl, (fun vals h => by rcases vals with _ | ⟨a, _ | ⟨b, _ | ⟨c, _ | ⟨q, r⟩⟩⟩⟩ <;> first | rfl | (simp at h)), by kernel_rfl, by kernel_rfl, by kernel_rfl, by kernel_rfl⟩
  have fn_inner_rows : FnIn (Mine.top3.heap_1_39 w.params) G3 "inner_rows" 134 [12] c_inner_rows := ⟨by kernel_rfl, _, _, _, _, _, _, _, ["row"], rfl, rfl, rfl, rfl, rfl, rfl, rfl, rfl, rfl, rfl, rfl, rfl, rfl, (fun vals h => by rcases vals with _ | ⟨a, _ | ⟨q, r⟩⟩ <;> first | rfl | (simp at h)), by kernel_rfl, by kernel_rfl, by kernel_rfl, by kernel_rfl⟩
  have fn_are_rows : FnIn (Mine.top3.heap_1_39 w.params) G3 "are_rows" 141 [0, 6, 9] c_are_rows := ⟨by kernel_rfl, _, _, _, _, _, _, _, ["thing", "inputs", "boxes"], rfl, rfl, rfl, rfl, rfl, rfl, rfl, rfl, rfl, rfl, rfl, rfl, rfl, (fun vals h => by rcases vals with _ | ⟨a, _ | ⟨b, _ | ⟨c, _ | ⟨q, r⟩⟩⟩⟩ <;> first | rfl | (simp at h)), by kernel_rfl, by kernel_rfl, by kernel_rfl, by kernel_rfl⟩
  have fn_is_program : FnIn (Mine.top3.heap_1_39 w.params) G3 "is_program" 146 [0] c_is_program := ⟨by kernel_rfl, _, _, _, _, _, _, _, ["thing"], rfl, rfl, rfl, rfl, rfl, rfl, rfl, rfl, rfl, rfl, rfl, rfl, rfl, (fun vals h => by rcases vals with _ | ⟨a, _ | ⟨q, r⟩⟩ <;> first | rfl | (simp at h)), by kernel_rfl, by kernel_rfl, by kernel_rfl, by kernel_rfl⟩
  have fn_depth : FnIn (Mine.top3.heap_1_39 w.params) G3 "depth" 153 [14] c_depth := ⟨by kernel_rfl, _, _, _, _, _, _, _, ["rows"], rfl, rfl, rfl, rfl, rfl, rfl, rfl, rfl, rfl, rfl, rfl, rfl, rfl, (fun vals h => by rcases vals with _ | ⟨a, _ | ⟨q, r⟩⟩ <;> first | rfl | (simp at h)), by kernel_rfl, by kernel_rfl, by kernel_rfl, by kernel_rfl⟩
  have fn_weight : FnIn (Mine.top3.heap_1_39 w.params) G3 "weight" 160 [14] c_weight := ⟨by kernel_rfl, _, _, _, _, _, _, _, ["rows"], rfl, rfl, rfl, rfl, rfl, rfl, rfl, rfl, rfl, rfl, rfl, rfl, rfl, (fun vals h => by rcases vals with _ | ⟨a, _ | ⟨q, r⟩⟩ <;> first | rfl | (simp at h)), by kernel_rfl, by kernel_rfl, by kernel_rfl, by kernel_rfl⟩
  have fn_need_program : FnIn (Mine.top3.heap_1_39 w.params) G3 "need_program" 167 [0] c_need_program := ⟨by kernel_rfl, _, _, _, _, _, _, _, ["thing"], rfl, rfl, rfl, rfl, rfl, rfl, rfl, rfl, rfl, rfl, rfl, rfl, rfl, (fun vals h => by rcases vals with _ | ⟨a, _ | ⟨q, r⟩⟩ <;> first | rfl | (simp at h)), by kernel_rfl, by kernel_rfl, by kernel_rfl, by kernel_rfl⟩
  have fn_worth : FnIn (Mine.top3.heap_1_39 w.params) G3 "worth" 174 [19, 6, 9] c_worth := ⟨by kernel_rfl, _, _, _, _, _, _, _, ["expression", "inputs", "boxes"], rfl, rfl, rfl, rfl, rfl, rfl, rfl, rfl, rfl, rfl, rfl, rfl, rfl, (fun vals h => by rcases vals with _ | ⟨a, _ | ⟨b, _ | ⟨c, _ | ⟨q, r⟩⟩⟩⟩ <;> first | rfl | (simp at h)), by kernel_rfl, by kernel_rfl, by kernel_rfl, by kernel_rfl⟩
  have fn_run : FnIn (Mine.top3.heap_1_39 w.params) G3 "run" 181 [24, 6] c_run := ⟨by kernel_rfl, _, _, _, _, _, _, _, ["program", "inputs"], rfl, rfl, rfl, rfl, rfl, rfl, rfl, rfl, rfl, rfl, rfl, rfl, rfl, (fun vals h => by rcases vals with _ | ⟨a, _ | ⟨b, _ | ⟨q, r⟩⟩⟩ <;> first | rfl | (simp at h)), by kernel_rfl, by kernel_rfl, by kernel_rfl, by kernel_rfl⟩
  have fn__law_cell_at : FnIn (Mine.top3.heap_1_39 w.params) G3 "_law_cell_at" 188 [26, 27] c__law_cell_at := ⟨by kernel_rfl, _, _, _, _, _, _, _, ["_law_script", "_law_k"], rfl, rfl, rfl, rfl, rfl, rfl, rfl, rfl, rfl, rfl, rfl, rfl, rfl, (fun vals h => by rcases vals with _ | ⟨a, _ | ⟨b, _ | ⟨q, r⟩⟩⟩ <;> first | rfl | (simp at h)), by kernel_rfl, by kernel_rfl, by kernel_rfl, by kernel_rfl⟩
  have fn__law_mixed : FnIn (Mine.top3.heap_1_39 w.params) G3 "_law_mixed" 195 [28, 27] c__law_mixed := ⟨by kernel_rfl, _, _, _, _, _, _, _, ["_law_cell", "_law_k"], rfl, rfl, rfl, rfl, rfl, rfl, rfl, rfl, rfl, rfl, rfl, rfl, rfl, (fun vals h => by rcases vals with _ | ⟨a, _ | ⟨b, _ | ⟨q, r⟩⟩⟩ <;> first | rfl | (simp at h)), by kernel_rfl, by kernel_rfl, by kernel_rfl, by kernel_rfl⟩
  have fn__law_whole : FnIn (Mine.top3.heap_1_39 w.params) G3 "_law_whole" 202 [29] c__law_whole := ⟨by kernel_rfl, _, _, _, _, _, _, _, ["_law_found"], rfl, rfl, rfl, rfl, rfl, rfl, rfl, rfl, rfl, rfl, rfl, rfl, rfl, (fun vals h => by rcases vals with _ | ⟨a, _ | ⟨q, r⟩⟩ <;> first | rfl | (simp at h)), by kernel_rfl, by kernel_rfl, by kernel_rfl, by kernel_rfl⟩
  have fn__law_ranges : FnIn (Mine.top3.heap_1_39 w.params) G3 "_law_ranges" 209 [28] c__law_ranges := ⟨by kernel_rfl, _, _, _, _, _, _, _, ["_law_cell"], rfl, rfl, rfl, rfl, rfl, rfl, rfl, rfl, rfl, rfl, rfl, rfl, rfl, (fun vals h => by rcases vals with _ | ⟨a, _ | ⟨q, r⟩⟩ <;> first | rfl | (simp at h)), by kernel_rfl, by kernel_rfl, by kernel_rfl, by kernel_rfl⟩
  have fn__law_expression : FnIn (Mine.top3.heap_1_39 w.params) G3 "_law_expression" 214 [28, 35, 31] c__law_expression := ⟨by kernel_rfl, _, _, _, _, _, _, _, ["_law_cell", "_law_sizes", "_law_ranges_here"], rfl, rfl, rfl, rfl, rfl, rfl, rfl, rfl, rfl, rfl, rfl, rfl, rfl, (fun vals h => by rcases vals with _ | ⟨a, _ | ⟨b, _ | ⟨c, _ | ⟨q, r⟩⟩⟩⟩ <;> first | rfl | (simp at h)), by kernel_rfl, by kernel_rfl, by kernel_rfl, by kernel_rfl⟩
  have fn__law_word_by : FnIn (Mine.top3.heap_1_39 w.params) G3 "_law_word_by" 219 [28] c__law_word_by := ⟨by kernel_rfl, _, _, _, _, _, _, _, ["_law_cell"], rfl, rfl, rfl, rfl, rfl, rfl, rfl, rfl, rfl, rfl, rfl, rfl, rfl, (fun vals h => by rcases vals with _ | ⟨a, _ | ⟨q, r⟩⟩ <;> first | rfl | (simp at h)), by kernel_rfl, by kernel_rfl, by kernel_rfl, by kernel_rfl⟩
  have fn__law_statement : FnIn (Mine.top3.heap_1_39 w.params) G3 "_law_statement" 226 [26, 40, 41, 35, 31] c__law_statement := ⟨by kernel_rfl, _, _, _, _, _, _, _, ["_law_script", "_law_at", "_law_deep", "_law_sizes", "_law_ranges_here"], rfl, rfl, rfl, rfl, rfl, rfl, rfl, rfl, rfl, rfl, rfl, rfl, rfl, (fun vals h => by rcases vals with _ | ⟨a, _ | ⟨b, _ | ⟨c, _ | ⟨d, _ | ⟨e, _ | ⟨q, r⟩⟩⟩⟩⟩⟩ <;> first | rfl | (simp at h)), by kernel_rfl, by kernel_rfl, by kernel_rfl, by kernel_rfl⟩
  have fn__law_rows : FnIn (Mine.top3.heap_1_39 w.params) G3 "_law_rows" 231 [26, 40, 41, 35, 31] c__law_rows := ⟨by kernel_rfl, _, _, _, _, _, _, _, ["_law_script", "_law_at", "_law_deep", "_law_sizes", "_law_ranges_here"], rfl, rfl, rfl, rfl, rfl, rfl, rfl, rfl, rfl, rfl, rfl, rfl, rfl, (fun vals h => by rcases vals with _ | ⟨a, _ | ⟨b, _ | ⟨c, _ | ⟨d, _ | ⟨e, _ | ⟨q, r⟩⟩⟩⟩⟩⟩ <;> first | rfl | (simp at h)), by kernel_rfl, by kernel_rfl, by kernel_rfl, by kernel_rfl⟩
  have fn__law_program : FnIn (Mine.top3.heap_1_39 w.params) G3 "_law_program" 238 [26, 45] c__law_program := ⟨by kernel_rfl, _, _, _, _, _, _, _, ["_law_script", "_law_first"], rfl, rfl, rfl, rfl, rfl, rfl, rfl, rfl, rfl, rfl, rfl, rfl, rfl, (fun vals h => by rcases vals with _ | ⟨a, _ | ⟨b, _ | ⟨q, r⟩⟩⟩ <;> first | rfl | (simp at h)), by kernel_rfl, by kernel_rfl, by kernel_rfl, by kernel_rfl⟩
  have fn__law_value : FnIn (Mine.top3.heap_1_39 w.params) G3 "_law_value" 243 [43, 50, 51] c__law_value := ⟨by kernel_rfl, _, _, _, _, _, _, _, ["_law_e", "_law_inputs", "_law_boxes"], rfl, rfl, rfl, rfl, rfl, rfl, rfl, rfl, rfl, rfl, rfl, rfl, rfl, (fun vals h => by rcases vals with _ | ⟨a, _ | ⟨b, _ | ⟨c, _ | ⟨q, r⟩⟩⟩⟩ <;> first | rfl | (simp at h)), by kernel_rfl, by kernel_rfl, by kernel_rfl, by kernel_rfl⟩
  have fn__law_going : FnIn (Mine.top3.heap_1_39 w.params) G3 "_law_going" 250 [52, 50] c__law_going := ⟨by kernel_rfl, _, _, _, _, _, _, _, ["_law_program_here", "_law_inputs"], rfl, rfl, rfl, rfl, rfl, rfl, rfl, rfl, rfl, rfl, rfl, rfl, rfl, (fun vals h => by rcases vals with _ | ⟨a, _ | ⟨b, _ | ⟨q, r⟩⟩⟩ <;> first | rfl | (simp at h)), by kernel_rfl, by kernel_rfl, by kernel_rfl, by kernel_rfl⟩
  have fn__law_refused : FnIn (Mine.top3.heap_1_39 w.params) G3 "_law_refused" 257 [52, 50] c__law_refused := ⟨by kernel_rfl, _, _, _, _, _, _, _, ["_law_program_here", "_law_inputs"], rfl, rfl, rfl, rfl, rfl, rfl, rfl, rfl, rfl, rfl, rfl, rfl, rfl, (fun vals h => by rcases vals with _ | ⟨a, _ | ⟨b, _ | ⟨q, r⟩⟩⟩ <;> first | rfl | (simp at h)), by kernel_rfl, by kernel_rfl, by kernel_rfl, by kernel_rfl⟩
  have fn_law : FnIn (Mine.top3.heap_1_39 w.params) G3 "law" 264 [26] c_law := ⟨by kernel_rfl, _, _, _, _, _, _, _, ["_law_script"], rfl, rfl, rfl, rfl, rfl, rfl, rfl, rfl, rfl, rfl, rfl, rfl, rfl, (fun vals h => by rcases vals with _ | ⟨a, _ | ⟨q, r⟩⟩ <;> first | rfl | (simp at h)), by kernel_rfl, by kernel_rfl, by kernel_rfl, by kernel_rfl⟩
  have Tfn : ∀ (k : Nat) f a, G3.fns[k]? = some (f, a) → ∃ is cs, tab3[k]? = some (is, cs) ∧ FnIn (Mine.top3.heap_1_39 w.params) G3 f a is cs := by
    intro k f a e
    match k, e with
    | 0, e => cases e; exact ⟨_, _, rfl, fn_is_whole⟩
    | 1, e => cases e; exact ⟨_, _, rfl, fn_is_among⟩
    | 2, e => cases e; exact ⟨_, _, rfl, fn_are_wholes⟩
    | 3, e => cases e; exact ⟨_, _, rfl, fn_need_inputs⟩
    | 4, e => cases e; exact ⟨_, _, rfl, fn_is_range⟩
    | 5, e => cases e; exact ⟨_, _, rfl, fn_is_expression⟩
    | 6, e => cases e; exact ⟨_, _, rfl, fn_is_word⟩
    | 7, e => cases e; exact ⟨_, _, rfl, fn_is_statement⟩
    | 8, e => cases e; exact ⟨_, _, rfl, fn_inner_rows⟩
    | 9, e => cases e; exact ⟨_, _, rfl, fn_are_rows⟩
    | 10, e => cases e; exact ⟨_, _, rfl, fn_is_program⟩
    | 11, e => cases e; exact ⟨_, _, rfl, fn_depth⟩
    | 12, e => cases e; exact ⟨_, _, rfl, fn_weight⟩
    | 13, e => cases e; exact ⟨_, _, rfl, fn_need_program⟩
    | 14, e => cases e; exact ⟨_, _, rfl, fn_worth⟩
    | 15, e => cases e; exact ⟨_, _, rfl, fn_run⟩
    | 16, e => cases e; exact ⟨_, _, rfl, fn__law_cell_at⟩
    | 17, e => cases e; exact ⟨_, _, rfl, fn__law_mixed⟩
    | 18, e => cases e; exact ⟨_, _, rfl, fn__law_whole⟩
    | 19, e => cases e; exact ⟨_, _, rfl, fn__law_ranges⟩
    | 20, e => cases e; exact ⟨_, _, rfl, fn__law_expression⟩
    | 21, e => cases e; exact ⟨_, _, rfl, fn__law_word_by⟩
    | 22, e => cases e; exact ⟨_, _, rfl, fn__law_statement⟩
    | 23, e => cases e; exact ⟨_, _, rfl, fn__law_rows⟩
    | 24, e => cases e; exact ⟨_, _, rfl, fn__law_program⟩
    | 25, e => cases e; exact ⟨_, _, rfl, fn__law_value⟩
    | 26, e => cases e; exact ⟨_, _, rfl, fn__law_going⟩
    | 27, e => cases e; exact ⟨_, _, rfl, fn__law_refused⟩
    | 28, e => cases e; exact ⟨_, _, rfl, fn_law⟩
    | k + 29, e => simp [G3] at e
  have Tblt : ∀ f v, (f, v) ∈ bltL → nsIn (Mine.top3.heap_1_39 w.params) mainGlobals f = some none ∧ bootBuiltins f = some v ∧ f ≠ "__name__" := by
    intro f v h
    simp only [bltL, primL, tyL, restL, primP, tyP, List.map, List.cons_append, List.nil_append, List.mem_cons, List.not_mem_nil, or_false, Prod.mk.injEq] at h
    rcases h with ⟨rfl, rfl⟩ | ⟨rfl, rfl⟩ | ⟨rfl, rfl⟩ | ⟨rfl, rfl⟩ | ⟨rfl, rfl⟩ | ⟨rfl, rfl⟩ | ⟨rfl, rfl⟩ | ⟨rfl, rfl⟩ | ⟨rfl, rfl⟩ | ⟨rfl, rfl⟩ | ⟨rfl, rfl⟩ | ⟨rfl, rfl⟩ | ⟨rfl, rfl⟩ | ⟨rfl, rfl⟩ | ⟨rfl, rfl⟩ | ⟨rfl, rfl⟩ | ⟨rfl, rfl⟩ <;> exact ⟨by kernel_rfl, by decide +kernel, by decide +kernel⟩
  have Tcst : ∀ x d, G3.consts.lookup x = some d → ∃ v, nsIn (Mine.top3.heap_1_39 w.params) mainGlobals x = some (some v) ∧ ∀ h S, Rd h S v d := by
    intro x d h
    have h := mem_lookup h
    simp only [G3, List.mem_cons, List.not_mem_nil, or_false, Prod.mk.injEq] at h
    rcases h with ⟨rfl, rfl⟩ | ⟨rfl, rfl⟩ | ⟨rfl, rfl⟩ | ⟨rfl, rfl⟩ | ⟨rfl, rfl⟩ | ⟨rfl, rfl⟩ | ⟨rfl, rfl⟩ | ⟨rfl, rfl⟩
    all_goals exact cst_of (by kernel_rfl)
  have T : TabIn (Mine.top3.heap_1_39 w.params) G3 tab3 := ⟨Tfn, Tblt, Tcst⟩
  have Tx : ∀ x c, G3.excs.lookup x = some c → nsIn (Mine.top3.heap_1_39 w.params) mainGlobals x = some (some (.ref (ec3 c))) ∧ excIn (Mine.top3.heap_1_39 w.params) (ec3 c) vMro "ValueError.__new__" = true := by
    intro x c h
    have h := mem_lookup h
    simp only [G3, List.mem_cons, List.not_mem_nil, or_false, Prod.mk.injEq] at h
    rcases h with ⟨rfl, rfl⟩ | ⟨rfl, rfl⟩ | ⟨rfl, rfl⟩ | ⟨rfl, rfl⟩ | ⟨rfl, rfl⟩ <;> exact ⟨by kernel_rfl, by kernel_rfl⟩
  have Tcl : ∀ c, c < 5 → findObj (Mine.top3.heap_1_39 w.params) (ec3 c) none "__class__" = some (.bind (.builtin "getset_descriptor.__get__") (.builtin "object.__class__")) := by
    intro c hc
    match c, hc with
    | 0, _ => kernel_rfl
    | 1, _ => kernel_rfl
    | 2, _ => kernel_rfl
    | 3, _ => kernel_rfl
    | 4, _ => kernel_rfl
  have TX : XK (Mine.top3.heap_1_39 w.params) ⟨s₁.heap, fun _ => False, false⟩ ec3 := xk_of KX (by kernel_rfl) Tcl
  have TW : ExcIn ⟨s₁.heap, fun _ => False, false⟩ ec3 G3 := fun x c e => ⟨mg, G.T.g, own_of_in KX (topRead_of G.T) (Tx x c e).1 (Tx x c e).2⟩
  obtain ⟨is, rfl, hlen⟩ := Mine.law_args rfl rfl hpre
  obtain ⟨l, vs, rfl, hl, hv⟩ := Mine.well_list hwl
  have hfa : fa = 264 := by
    have e := hmg.symm.trans (mg_of KX G.T.g fn_law.glob)
    cases e
    rfl
  subst hfa
  exact Mine.run_law (ec := ec3) (N := 10001) (k := 11) (f := 28) KX G.T.g G.T.b G.T.builtins G.T.nolimit T (fun x c e => (Tx x c e).1) TX TW (by decide) rfl hl hv (Mine.law3 10001 0 (by decide) is hlen) fun h' tk hk => Mine.law_good hg hk
theorem PySem.Challenge.cw_uf010029_03_holds : PySem.Challenge.rw_uf010029_03.Holds :=
  Mine.top3
