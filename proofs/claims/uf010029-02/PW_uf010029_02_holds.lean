import PyProof.Rows.All
import Wide.All
import OpenK.AllK
import Wide.FinOn
import PySem.Challenge.RW_uf010029_02
set_option Elab.async false
set_option maxRecDepth 100000
set_option linter.unusedSimpArgs false
set_option linter.unusedVariables false
set_option genSizeOf false
set_option genSizeOfSpec false
namespace Mine
open PySem
inductive AV where
  | dat (d : PyData)
  | fresh (ds : List PyData)
  | cell (i : Nat)
  | exc (c : Nat)
inductive Flag where
  | live | locked | frozen
  deriving DecidableEq
abbrev Store := List (Flag × List PyData)
abbrev Rho := Nat → Option AV
noncomputable def Rho.set (ρ : Rho) (i : Nat) (v : AV) : Rho := fun j => if j = i then some v else ρ j
inductive Ty where
  | int | bool | tuple | list | str
  deriving DecidableEq
inductive Prim where
  | len | all | any | sum | tuple | list | int | max | join
  deriving DecidableEq
inductive Tgt where
  | one (i : Nat)
  | many (is : List Nat)
inductive ItK where
  | seq | range1 | range2 | zip
  deriving DecidableEq
inductive CE where
  | const (d : PyData)
  | var (i : Nat)
  | bin (op : Operator) (a b : CE)
  | neg (a : CE)
  | nott (a : CE)
  | bop (op : BoolOp) (es : List CE)
  | cmp (op : CmpOp) (a b : CE)
  | cmp2 (o1 o2 : CmpOp) (a b c : CE)
  | ite (c a b : CE)
  | idx (a i : CE)
  | slice (a lo hi : CE)
  | rev (a : CE)
  | tup (es : List CE)
  | lst (es : List CE)
  | call (f : Nat) (es : List CE)
  | prim (p : Prim) (es : List CE)
  | isin (e : CE) (t : Ty)
  | isexc (e : CE) (cs : List Nat)
  | pop (x : Nat)
  | pop0 (x : Nat)
  | comp (elt : CE) (t : Tgt) (k : ItK) (its : List CE) (ifs : List CE)
inductive CS where
  | assign (i : Nat) (e : CE)
  | newcell (i : Nat) (e : CE)
  | unpack (is : List Nat) (e : CE)
  | setItem (x : Nat) (i e : CE)
  | expr (e : CE)
  | append (x : Nat) (e : CE)
  | extend (x : Nat) (e : CE)
  | insert (x : Nat) (i e : CE)
  | ite (c : CE) (a b : List CS)
  | whil (c : CE) (body : List CS)
  | forr (t : Tgt) (k : ItK) (its : List CE) (body : List CS)
  | ret (e : CE)
  | raise (c : Nat)
  | tryy (wr : Bool) (f : Nat) (es : List CE) (x : Nat) (h : List CS)
noncomputable def rd (σ : Store) : AV → Option PyData
  | .dat d => some d
  | .fresh ds => some (.list ds)
  | .cell i => σ[i]?.bind fun p => some (.list p.2)
  | .exc _ => none
noncomputable def settle : AV → AV
  | .fresh ds => .dat (.list ds)
  | .dat d => .dat d
  | .cell i => .cell i
  | .exc c => .exc c
noncomputable def liveAt (σ : Store) (i : Nat) : Option (List PyData) := match σ[i]? with
  | some (.live, ds) => some ds
  | _ => none
noncomputable def own (σ : Store) : AV → Option (PyData × Store)
  | .dat d => some (d, σ)
  | .fresh ds => some (.list ds, σ)
  | .cell i => match σ[i]? with
    | some (.live, ds) => some (.list ds, σ.set i (.frozen, ds))
    | some (.frozen, ds) => some (.list ds, σ)
    | _ => none
  | .exc _ => none
noncomputable def ownAll : List AV → Store → Option (List PyData × Store)
  | [], σ => some ([], σ)
  | v :: vs, σ => (own σ v).bind fun p => (ownAll vs p.2).bind fun q => some (p.1 :: q.1, q.2)
noncomputable def lim : Nat := 16777216
noncomputable def mulOk (a b : Int) : Bool := decide (a.natAbs < 2 ^ 64) || decide (b.natAbs < 2 ^ 64) || (decide (a.natAbs < 2 ^ 30000) && decide (b.natAbs < 2 ^ 30000))
noncomputable def listD : PyData → Option (List PyData)
  | .list xs => some xs
  | _ => none
noncomputable def strD : PyData → Option Str
  | .str x => some x
  | _ => none
noncomputable def intD : PyData → Option Int
  | .int x => some x
  | _ => none
noncomputable def boolD : PyData → Option Bool
  | .bool b => some b
  | _ => none
noncomputable def tupD : PyData → Option (List PyData)
  | .tuple ds => some ds
  | _ => none
noncomputable def intOp (f : Int → Int → Option AV) (x y : PyData) : Option AV := (intD x).bind fun a => (intD y).bind fun b => f a b
noncomputable def addD (x y : PyData) : Option AV := match x with
  | .int a => (intD y).bind fun b => some (.dat (.int (a + b)))
  | .tuple xs => (tupD y).bind fun ys => if xs.length + ys.length ≤ lim then some (.dat (.tuple (xs ++ ys))) else none
  | .list xs => (listD y).bind fun ys => if xs.length + ys.length ≤ lim then some (.fresh (xs ++ ys)) else none
  | .str a => (strD y).bind fun b => if a.length + b.length ≤ lim then some (.dat (.str (a ++ b))) else none
  | _ => none
noncomputable def repS (n : Nat) (x : Str) : Str := ⟨(List.replicate n x.cps.toList).flatten.toArray⟩
noncomputable def mulD (x y : PyData) : Option AV := match x with
  | .int a => (intD y).bind fun b => if mulOk a b then some (.dat (.int (a * b))) else none
  | .tuple xs => (intD y).bind fun n => if n.natAbs * xs.length ≤ 65536 ∧ n.natAbs ≤ 65536 then some (.dat (.tuple ((List.replicate n.toNat xs).flatten))) else none
  | .list xs => (intD y).bind fun n => if n.natAbs * xs.length ≤ 65536 ∧ n.natAbs ≤ 65536 then some (.fresh ((List.replicate n.toNat xs).flatten)) else none
  | .str x => (intD y).bind fun n => if n.natAbs ≤ 65536 ∧ x.length ≤ 64 then some (.dat (.str (repS n.toNat x))) else none
  | _ => none
noncomputable def binD (op : Operator) (a b : PyData) : Option AV := match op with
  | .Add => addD a b
  | .Sub => intOp (fun a b => some (.dat (.int (a - b)))) a b
  | .Mult => mulD a b
  | .FloorDiv => intOp (fun a b => if b ≠ 0 ∧ b.natAbs < 1073741824 then some (.dat (.int (a.fdiv b))) else none) a b
  | .Mod => intOp (fun a b => if b ≠ 0 then some (.dat (.int (a.fmod b))) else none) a b
  | .Pow => intOp (fun a b => if 0 ≤ b ∧ b ≤ 1000000 ∧ a.natAbs < 2 ^ 64 then some (.dat (.int (a ^ b.toNat))) else none) a b
  | _ => none
noncomputable def intCmp (f : Int → Int → Bool) (x y : PyData) : Option Bool := (intD x).bind fun a => (intD y).bind fun b => some (f a b)
noncomputable def noneD : PyData → Bool
  | .none => true
  | _ => false
noncomputable def inD (x y : PyData) : Option Bool := (strD x).bind fun s => match y with
  | .tuple ys => if SeqAt.shaped (.tuple ys) && SeqAt.shaped (.str s) then some (ys.any fun y => PyData.eqv y (.str s)) else none
  | .str z => some (!(Builtin.Str.occurrences z s 0 z.length 1).isEmpty)
  | _ => none
noncomputable def cmpD (op : CmpOp) (a b : PyData) : Option Bool := match op with
  | .Eq => if SeqAt.shaped a && SeqAt.shaped b then some (PyData.eqv a b) else none
  | .NotEq => if SeqAt.shaped a && SeqAt.shaped b then some (!PyData.eqv a b) else none
  | .Lt => intCmp (fun a b => decide (a < b)) a b
  | .LtE => intCmp (fun a b => decide (a ≤ b)) a b
  | .Gt => intCmp (fun a b => decide (b < a)) a b
  | .GtE => intCmp (fun a b => decide (b ≤ a)) a b
  | .Is => none
  | .IsNot => none
  | .In => inD a b
  | _ => none
noncomputable def atD (x : PyData) (i : Nat) : Option PyData := match x with
  | .tuple xs => xs[i]?
  | .list xs => xs[i]?
  | .str x => x.cps[i]?.bind fun c => some (.str ⟨#[c]⟩)
  | _ => none
noncomputable def idxD (x y : PyData) : Option PyData := (intD y).bind fun i => if 0 ≤ i ∧ i.toNat < 4611686018427387904 then atD x i.toNat else none
noncomputable def partD : PyData → Option (Option Nat)
  | .none => some none
  | .int i => if 0 ≤ i ∧ i.toNat < 4611686018427387904 then some (some i.toNat) else none
  | _ => none
noncomputable def cutL (xs : List PyData) (lo hi : Option Nat) : List PyData :=
  (xs.take (hi.getD xs.length)).drop (lo.getD 0)
noncomputable def sliceD (x lo hi : PyData) : Option AV := (partD lo).bind fun l => (partD hi).bind fun h => match x with
  | .tuple xs => if xs.length ≤ lim then some (.dat (.tuple (cutL xs l h))) else none
  | .list xs => if xs.length ≤ lim then some (.fresh (cutL xs l h)) else none
  | _ => none
noncomputable def revD : PyData → Option AV
  | .tuple xs => if xs.length ≤ lim then some (.dat (.tuple xs.reverse)) else none
  | _ => none
noncomputable def seqD : PyData → Option (List PyData)
  | .tuple xs => some xs
  | .list xs => some xs
  | _ => none
noncomputable def boolsD : List PyData → Option (List Bool)
  | [] => some []
  | d :: r => (boolD d).bind fun b => (boolsD r).bind fun bs => some (b :: bs)
noncomputable def strsD : List PyData → Option (List Str)
  | [] => some []
  | d :: r => (strD d).bind fun b => (strsD r).bind fun bs => some (b :: bs)
noncomputable def lenD : PyData → Option AV
  | .tuple xs => if xs.length ≤ lim then some (.dat (.int xs.length)) else none
  | .list xs => if xs.length ≤ lim then some (.dat (.int xs.length)) else none
  | .str x => if x.length ≤ lim then some (.dat (.int x.length)) else none
  | _ => none
noncomputable def one : List PyData → Option PyData
  | [d] => some d
  | _ => none
noncomputable def two : List PyData → Option (PyData × PyData)
  | [d, e] => some (d, e)
  | _ => none
noncomputable def joinD (x : Str) (ss : List Str) : Option AV := if (ss.map (·.length)).sum + ss.length * x.length ≤ 16777216 then some (.dat (.str (Str.join x ss))) else none
noncomputable def primD (p : Prim) (ds : List PyData) : Option AV := match p with
  | .len => (one ds).bind lenD
  | .all => (one ds).bind fun d => (listD d).bind fun xs => (boolsD xs).bind fun bs => some (.dat (.bool (bs.all id)))
  | .any => none
  | .sum => none
  | .tuple => (one ds).bind fun d => (seqD d).bind fun xs => if xs.length ≤ lim then some (.dat (.tuple xs)) else none
  | .list => (one ds).bind fun d => (seqD d).bind fun xs => if xs.length ≤ lim then some (.fresh xs) else none
  | .int => (one ds).bind fun d => (boolD d).bind fun b => some (.dat (.int (if b then 1 else 0)))
  | .max => (two ds).bind fun p => (intD p.1).bind fun a => (intD p.2).bind fun b => some (.dat (.int (if b > a then b else a)))
  | .join => (two ds).bind fun p => (strD p.1).bind fun x => (listD p.2).bind fun ys => (strsD ys).bind fun ss => joinD x ss
noncomputable def isinD : Ty → PyData → Bool
  | .int, .int _ => true
  | .int, .bool _ => true
  | .bool, .bool _ => true
  | .tuple, .tuple _ => true
  | .list, .list _ => true
  | .str, .str _ => true
  | _, _ => false
noncomputable def datA : AV → Option PyData
  | .dat d => some d
  | _ => none
noncomputable def boolA (v : AV) : Option Bool := (datA v).bind boolD
noncomputable def intA (v : AV) : Option Int := (datA v).bind intD
noncomputable def tupA (v : AV) : Option (List PyData) := (datA v).bind tupD
noncomputable def cellA : AV → Option Nat
  | .cell i => some i
  | _ => none
noncomputable def excA : AV → Option Nat
  | .exc c => some c
  | _ => none
noncomputable def rangeL (a b : Int) : List PyData := (List.range (b - a).toNat).map fun (k : Nat) => .int (a + (k : Int))
noncomputable def charsD (x : Str) : List PyData := x.cps.toList.map fun c => .str ⟨#[c]⟩
noncomputable def iterD : PyData → Option (List PyData)
  | .str x => if x.cps.all (· < 128) = true then some (charsD x) else none
  | d => seqD d
noncomputable def itemsD (k : ItK) (ds : List PyData) : Option (List PyData) := match k with
  | .seq => (one ds).bind iterD
  | .range1 => (one ds).bind fun d => (intD d).bind fun b => if b.toNat < 1048576 then some (rangeL 0 b) else none
  | .range2 => (two ds).bind fun p => (intD p.1).bind fun a => (intD p.2).bind fun b => if (b - a).toNat < 1048576 then some (rangeL a b) else none
  | .zip => none
noncomputable def liveOf (σ : Store) : List AV → List Nat
  | [] => []
  | .cell i :: r => (match σ[i]? with | some (.live, _) => [i] | _ => []) ++ liveOf σ r
  | _ :: r => liveOf σ r
noncomputable def flagAll (f : Flag) : List Nat → Store → Store
  | [], σ => σ
  | i :: r, σ => flagAll f r (match σ[i]? with | some p => σ.set i (f, p.2) | none => σ)
noncomputable def rdAll (σ : Store) : List AV → Option (List PyData)
  | [] => some []
  | v :: vs => (rd σ v).bind fun d => (rdAll σ vs).bind fun ds => some (d :: ds)
noncomputable def bindMany : List Nat → List PyData → Rho → Option Rho
  | [], [], ρ => some ρ
  | i :: is, d :: ds, ρ => bindMany is ds (ρ.set i (.dat d))
  | _, _, _ => none
noncomputable def bindT (t : Tgt) (d : PyData) (ρ : Rho) : Option Rho := match t with
  | .one i => some (ρ.set i (.dat d))
  | .many is => (tupD d).bind fun ds => bindMany is ds ρ
noncomputable def compGo (elt : Rho → Store → Option (AV × Store)) (tests : Rho → Store → Option (Bool × Store)) (t : Tgt) (ρ : Rho) : List PyData → Store → Option (List PyData × Store)
  | [], σ => some ([], σ)
  | d :: ds, σ => (bindT t d ρ).bind fun ρ' => (tests ρ' σ).bind fun p =>
    if p.1 = true then (elt ρ' p.2).bind fun q => (own q.2 (settle q.1)).bind fun r => (compGo elt tests t ρ ds r.2).bind fun z => some (r.1 :: z.1, z.2)
    else compGo elt tests t ρ ds p.2
inductive CR where
  | ret (v : AV)
  | exc (c : Nat)
noncomputable def retC : CR → Option AV
  | .ret v => some v
  | _ => none
abbrev Phi := Nat → List AV → Store → Option (CR × Store)
noncomputable def excSub (c d : Nat) : Bool := c == d || d == 0 || d == 99
noncomputable def cellIn (ρ : Rho) (x : Nat) : Option Nat := (ρ x).bind cellA
mutual
noncomputable def evE (Φ : Phi) : CE → Rho → Store → Option (AV × Store)
  | .const d, _, σ => some (.dat d, σ)
  | .var i, ρ, σ => (ρ i).bind fun v => some (v, σ)
  | .bin op a b, ρ, σ => (evE Φ a ρ σ).bind fun p => (evE Φ b ρ p.2).bind fun q => (rd q.2 p.1).bind fun dx => (rd q.2 q.1).bind fun dy => (binD op dx dy).bind fun r => some (r, q.2)
  | .neg a, ρ, σ => (evE Φ a ρ σ).bind fun p => (intA p.1).bind fun i => some (.dat (.int (-i)), p.2)
  | .nott a, ρ, σ => (evE Φ a ρ σ).bind fun p => (boolA p.1).bind fun b => some (.dat (.bool (!b)), p.2)
  | .bop op es, ρ, σ => (evB Φ op es ρ σ).bind fun p => some (.dat (.bool p.1), p.2)
  | .cmp op a b, ρ, σ => (evE Φ a ρ σ).bind fun p => (evE Φ b ρ p.2).bind fun q => (rd q.2 p.1).bind fun dx => (rd q.2 q.1).bind fun dy => (cmpD op dx dy).bind fun r => some (.dat (.bool r), q.2)
  | .cmp2 o1 o2 a b c, ρ, σ => (evE Φ a ρ σ).bind fun p => (evE Φ b ρ p.2).bind fun q => (rd q.2 p.1).bind fun dx => (rd q.2 q.1).bind fun dy => (cmpD o1 dx dy).bind fun r =>
    if r = true then (evE Φ c ρ q.2).bind fun t => (rd t.2 q.1).bind fun dy' => (rd t.2 t.1).bind fun dz => (cmpD o2 dy' dz).bind fun r => some (.dat (.bool r), t.2)
    else some (.dat (.bool false), q.2)
  | .ite c a b, ρ, σ => (evE Φ c ρ σ).bind fun p => (boolA p.1).bind fun t => if t = true then evE Φ a ρ p.2 else evE Φ b ρ p.2
  | .idx a i, ρ, σ => (evE Φ a ρ σ).bind fun p => (evE Φ i ρ p.2).bind fun q => (rd q.2 p.1).bind fun dx => (rd q.2 q.1).bind fun dy => (idxD dx dy).bind fun r => some (.dat r, q.2)
  | .slice a lo hi, ρ, σ => (evE Φ a ρ σ).bind fun p => (evE Φ lo ρ p.2).bind fun l => (evE Φ hi ρ l.2).bind fun u => (rd u.2 p.1).bind fun dx => (rd u.2 l.1).bind fun dl => (rd u.2 u.1).bind fun du => (sliceD dx dl du).bind fun r => some (r, u.2)
  | .rev a, ρ, σ => (evE Φ a ρ σ).bind fun p => (rd p.2 p.1).bind fun dx => (revD dx).bind fun r => some (r, p.2)
  | .tup es, ρ, σ => (evEs Φ es ρ σ).bind fun p => (ownAll p.1 p.2).bind fun q => some (.dat (.tuple q.1), q.2)
  | .lst es, ρ, σ => (evEs Φ es ρ σ).bind fun p => (ownAll p.1 p.2).bind fun q => some (.fresh q.1, q.2)
  | .call f es, ρ, σ => (evEs Φ es ρ σ).bind fun p => (Φ f p.1 p.2).bind fun r => (retC r.1).bind fun v => some (v, r.2)
  | .prim k es, ρ, σ => (evEs Φ es ρ σ).bind fun p => (rdAll p.2 p.1).bind fun ds => (primD k ds).bind fun r => some (r, p.2)
  | .isin e t, ρ, σ => (evE Φ e ρ σ).bind fun p => (rd p.2 p.1).bind fun d => some (.dat (.bool (isinD t d)), p.2)
  | .isexc e cs, ρ, σ => (evE Φ e ρ σ).bind fun p => (excA p.1).bind fun c => if c < 5 then some (.dat (.bool (cs.any (excSub c))), p.2) else none
  | .pop x, ρ, σ => (cellIn ρ x).bind fun i => (liveAt σ i).bind fun ds => if ds.length ≤ lim then ds.getLast?.bind fun d => some (.dat d, σ.set i (.live, ds.dropLast)) else none
  | .pop0 _, _, _ => none
  | .comp elt t k its ifs, ρ, σ => (evEs Φ its ρ σ).bind fun p => (rdAll p.2 p.1).bind fun ds => (itemsD k ds).bind fun xs =>
    if xs.length ≤ lim then (compGo (fun ρ' σ' => evE Φ elt ρ' σ') (fun ρ' σ' => evB Φ .And ifs ρ' σ') t ρ xs (flagAll .locked (liveOf p.2 p.1) p.2)).bind fun r => some (.fresh r.1, flagAll .live (liveOf p.2 p.1) r.2) else none
noncomputable def evB (Φ : Phi) : BoolOp → List CE → Rho → Store → Option (Bool × Store)
  | op, [], _, σ => some (op == .And, σ)
  | op, e :: es, ρ, σ => (evE Φ e ρ σ).bind fun p => (boolA p.1).bind fun b => if (b == (op == .And)) = true then evB Φ op es ρ p.2 else some (b, p.2)
noncomputable def evEs (Φ : Phi) : List CE → Rho → Store → Option (List AV × Store)
  | [], _, σ => some ([], σ)
  | e :: es, ρ, σ => (evE Φ e ρ σ).bind fun p => (evEs Φ es ρ p.2).bind fun q => some (settle p.1 :: q.1, q.2)
end
inductive Fl where
  | next (ρ : Rho)
  | ret (v : AV)
  | exc (c : Nat)
noncomputable def Fl.on (k : Rho → Store → Option (Fl × Store)) : Fl × Store → Option (Fl × Store)
  | (.next ρ, σ) => k ρ σ
  | (.ret v, σ) => some (.ret v, σ)
  | (.exc c, σ) => some (.exc c, σ)
noncomputable def retF : Fl → Option AV
  | .ret v => some v
  | _ => none
noncomputable def tryC (wr : Bool) (ρ : Rho) (k : Nat → Store → Option (Fl × Store)) : CR × Store → Option (Fl × Store)
  | (.ret v, σ) => if wr = true then (own σ (settle v)).bind fun q => some (.ret (.fresh [q.1]), q.2) else some (.next ρ, σ)
  | (.exc c, σ) => if c < 5 then (k c σ).bind fun q => (retF q.1).bind fun v => some (.ret v, q.2) else none
noncomputable def flC (ρ : Rho) : CR → Fl
  | .ret _ => .next ρ
  | .exc c => .exc c
noncomputable def newc (i : Nat) (ρ : Rho) (σ : Store) : AV → Fl × Store
  | .fresh ds => (.next (ρ.set i (.cell σ.length)), σ ++ [(.live, ds)])
  | .dat d => (.next (ρ.set i (.dat d)), σ)
  | .cell j => (.next (ρ.set i (.cell j)), σ)
  | .exc c => (.next (ρ.set i (.exc c)), σ)
noncomputable def forGo (t : Tgt) (body : Rho → Store → Option (Fl × Store)) : List PyData → Rho → Store → Option (Fl × Store)
  | [], ρ, σ => some (.next ρ, σ)
  | d :: ds, ρ, σ => (bindT t d ρ).bind fun ρ₁ => (body ρ₁ σ).bind (Fl.on fun ρ₂ σ₂ => forGo t body ds ρ₂ σ₂)
noncomputable def whileGo (test : Rho → Store → Option (AV × Store)) (body : Rho → Store → Option (Fl × Store)) : Nat → Rho → Store → Option (Fl × Store)
  | 0, _, _ => none
  | n + 1, ρ, σ => (test ρ σ).bind fun p => (boolA p.1).bind fun b => if b = true then (body ρ p.2).bind (Fl.on fun ρ₂ σ₂ => whileGo test body n ρ₂ σ₂) else some (.next ρ, p.2)
noncomputable def callOf : CE → Option (Nat × List CE)
  | .call f es => some (f, es)
  | _ => none
mutual
noncomputable def evS (N : Nat) (Φ : Phi) : CS → Rho → Store → Option (Fl × Store)
  | .assign i e, ρ, σ => (evE Φ e ρ σ).bind fun p => some (.next (ρ.set i (settle p.1)), p.2)
  | .newcell i e, ρ, σ => (evE Φ e ρ σ).bind fun p => some (newc i ρ p.2 p.1)
  | .unpack is e, ρ, σ => (evE Φ e ρ σ).bind fun p => (tupA p.1).bind fun ds => (bindMany is ds ρ).bind fun ρ' => some (.next ρ', p.2)
  | .setItem x i e, ρ, σ => (cellIn ρ x).bind fun c => (evE Φ e ρ σ).bind fun p => (own p.2 (settle p.1)).bind fun q => (evE Φ i ρ q.2).bind fun r => (intA r.1).bind fun k => (liveAt r.2 c).bind fun ds =>
    if 0 ≤ k ∧ k.toNat < ds.length ∧ ds.length ≤ lim then some (.next ρ, r.2.set c (.live, ds.set k.toNat q.1)) else none
  | .expr e, ρ, σ => (callOf e).bind fun f => (evEs Φ f.2 ρ σ).bind fun p => (Φ f.1 p.1 p.2).bind fun r => some (flC ρ r.1, r.2)
  | .append x e, ρ, σ => (cellIn ρ x).bind fun c => (evE Φ e ρ σ).bind fun p => (own p.2 (settle p.1)).bind fun q => (liveAt q.2 c).bind fun ds => if ds.length < lim then some (.next ρ, q.2.set c (.live, ds ++ [q.1])) else none
  | .extend x e, ρ, σ => (cellIn ρ x).bind fun c => (evE Φ e ρ σ).bind fun p => (rd p.2 (settle p.1)).bind fun d => (listD d).bind fun es => (liveAt p.2 c).bind fun ds => if ds.length + es.length ≤ lim then some (.next ρ, p.2.set c (.live, ds ++ es)) else none
  | .insert x i e, ρ, σ => (cellIn ρ x).bind fun c => (evE Φ i ρ σ).bind fun r => (intA r.1).bind fun k => (evE Φ e ρ r.2).bind fun p => (own p.2 (settle p.1)).bind fun q => (liveAt q.2 c).bind fun ds =>
    if 0 ≤ k ∧ k.toNat ≤ ds.length ∧ ds.length < lim then some (.next ρ, q.2.set c (.live, ds.take k.toNat ++ q.1 :: ds.drop k.toNat)) else none
  | .ite c a b, ρ, σ => (evE Φ c ρ σ).bind fun p => (boolA p.1).bind fun t => if t = true then evSs N Φ a ρ p.2 else evSs N Φ b ρ p.2
  | .whil c body, ρ, σ => whileGo (fun ρ' σ' => evE Φ c ρ' σ') (fun ρ' σ' => evSs N Φ body ρ' σ') N ρ σ
  | .forr t k its body, ρ, σ => (evEs Φ its ρ σ).bind fun p => (rdAll p.2 p.1).bind fun ds => (itemsD k ds).bind fun xs =>
    (forGo t (fun ρ' σ' => evSs N Φ body ρ' σ') xs ρ (flagAll .locked (liveOf p.2 p.1) p.2)).bind fun r => some (r.1, flagAll .live (liveOf p.2 p.1) r.2)
  | .ret e, ρ, σ => (evE Φ e ρ σ).bind fun p => some (.ret p.1, p.2)
  | .raise c, _, σ => some (.exc c, σ)
  | .tryy wr f es x h, ρ, σ => (evEs Φ es ρ σ).bind fun p => (Φ f p.1 p.2).bind (tryC wr ρ fun c σ₂ => evSs N Φ h (ρ.set x (.exc c)) σ₂)
noncomputable def evSs (N : Nat) (Φ : Phi) : List CS → Rho → Store → Option (Fl × Store)
  | [], ρ, σ => some (.next ρ, σ)
  | c :: cs, ρ, σ => (evS N Φ c ρ σ).bind (Fl.on fun ρ₁ σ₁ => evSs N Φ cs ρ₁ σ₁)
end
noncomputable def leaveC : Flag × List PyData → Option AV
  | (.live, ds) => some (.fresh ds)
  | (.frozen, ds) => some (.dat (.list ds))
  | _ => none
noncomputable def leave (n : Nat) (σ : Store) : AV → Option AV
  | .cell i => if i < n then some (.cell i) else σ[i]?.bind leaveC
  | .exc _ => none
  | .dat d => some (.dat d)
  | .fresh ds => some (.fresh ds)
noncomputable def bindArgsR : List Nat → List AV → Rho → Option Rho
  | [], [], ρ => some ρ
  | i :: is, v :: vs, ρ => bindArgsR is vs (ρ.set i v)
  | [], _ :: _, _ => none
  | _ :: _, [], _ => none
noncomputable def endF (n : Nat) : Fl × Store → Option (CR × Store)
  | (.next _, σ) => some (.ret (.dat .none), σ.take n)
  | (.ret v, σ) => (leave n σ v).bind fun r => some (.ret r, σ.take n)
  | (.exc c, σ) => some (.exc c, σ.take n)
noncomputable def runF (N : Nat) (Φ : Phi) (params : List Nat) (body : List CS) (args : List AV) (σ : Store) : Option (CR × Store) :=
  (bindArgsR params args (fun _ => none)).bind fun ρ => (evSs N Φ body ρ σ).bind (endF σ.length)
noncomputable def tabAt (tab : List (List Nat × List CS)) (N : Nat) : Nat → Phi
  | 0 => fun _ _ _ => none
  | k + 1 => fun f args σ => tab[f]?.bind fun p => runF N (tabAt tab N k) p.1 p.2 args σ
theorem ob {α β : Type} {o : Option α} {f : α → Option β} {b : β} {P : Prop} (h : o.bind f = some b) (k : ∀ a, o = some a → f a = some b → P) : P :=
  (Option.bind_eq_some_iff.mp h).elim fun a q => k a q.1 q.2
theorem og {α : Type} {c : Prop} [Decidable c] {o : Option α} {b : α} {P : Prop} (h : (if c then o else none) = some b) (k : c → o = some b → P) : P := by
  by_cases q : c
  · rw [if_pos q] at h; exact k q h
  · rw [if_neg q] at h; cases h
theorem os {α : Type} {a c : α} {P : α → Prop} (h : some a = some c) (k : P a) : P c := by cases h; exact k
theorem ox {α β : Type} {a c : α} {b d : β} {P : α → β → Prop} (h : some (a, b) = some (c, d)) (k : P a b) : P c d := by cases h; exact k
theorem nsm {α : Type} {a : α} {P : Prop} (h : (none : Option α) = some a) : P := by cases h
theorem bft {P : Prop} (h : false = true) : P := by cases h
theorem ba {a b : Bool} {P : Prop} (h : (a && b) = true) (k : a = true → b = true → P) : P := by cases a <;> cases b <;> first | exact k rfl rfl | cases h
theorem bnd {α β : Type} {o : Option α} {f : α → Option β} {b : β} (h : o.bind f = some b) : ∃ a, o = some a ∧ f a = some b := Option.bind_eq_some_iff.mp h
theorem gd {α : Type} {c : Prop} [Decidable c] {o : Option α} {b : α} (h : (if c then o else none) = some b) : c ∧ o = some b := by
  by_cases q : c
  · rw [if_pos q] at h; exact ⟨q, h⟩
  · rw [if_neg q] at h; cases h
theorem pr {α β : Type} {a c : α} {b d : β} (h : some (a, b) = some (c, d)) : a = c ∧ b = d := Prod.mk.inj (Option.some.inj h)
theorem datA_eq {v : AV} {d : PyData} (h : datA v = some d) : v = .dat d := by cases v <;> cases h; rfl
theorem boolD_eq {v : PyData} {d : Bool} (h : boolD v = some d) : v = .bool d := by cases v <;> cases h; rfl
theorem intD_eq {v : PyData} {d : Int} (h : intD v = some d) : v = .int d := by cases v <;> cases h; rfl
theorem strD_eq {v : PyData} {d : Str} (h : strD v = some d) : v = .str d := by cases v <;> cases h; rfl
theorem listD_eq {v : PyData} {d : List PyData} (h : listD v = some d) : v = .list d := by cases v <;> cases h; rfl
theorem tupD_eq {v : PyData} {d : List PyData} (h : tupD v = some d) : v = .tuple d := by cases v <;> cases h; rfl
theorem boolA_eq {v : AV} {b : Bool} (h : boolA v = some b) : v = .dat (.bool b) := by
  obtain ⟨d, e, q⟩ := bnd h
  rw [datA_eq e, boolD_eq q]
theorem intA_eq {v : AV} {b : Int} (h : intA v = some b) : v = .dat (.int b) := by
  obtain ⟨d, e, q⟩ := bnd h
  rw [datA_eq e, intD_eq q]
theorem tupA_eq {v : AV} {b : List PyData} (h : tupA v = some b) : v = .dat (.tuple b) := by
  obtain ⟨d, e, q⟩ := bnd h
  rw [datA_eq e, tupD_eq q]
theorem cellA_eq {v : AV} {b : Nat} (h : cellA v = some b) : v = .cell b := by cases v <;> cases h; rfl
theorem excA_eq {v : AV} {b : Nat} (h : excA v = some b) : v = .exc b := by cases v <;> cases h; rfl
theorem retC_eq {v : CR} {b : AV} (h : retC v = some b) : v = .ret b := by cases v <;> cases h; rfl
theorem cellIn_eq {ρ : Rho} {x c : Nat} (h : cellIn ρ x = some c) : ρ x = some (.cell c) := by
  obtain ⟨v, e, q⟩ := bnd h
  rw [e, cellA_eq q]
theorem liveAt_eq {σ : Store} {i : Nat} {ds : List PyData} (h : liveAt σ i = some ds) : σ[i]? = some (.live, ds) := by
  unfold liveAt at h
  cases e : σ[i]? with
  | none => rw [e] at h; cases h
  | some p =>
    obtain ⟨f, es⟩ := p
    rw [e] at h
    cases f <;> cases h
    rfl
theorem one_eq {ds : List PyData} {d : PyData} (h : one ds = some d) : ds = [d] := by
  rcases ds with _ | ⟨a, _ | ⟨b, r⟩⟩ <;> cases h
  rfl
theorem two_eq {ds : List PyData} {p : PyData × PyData} (h : two ds = some p) : ds = [p.1, p.2] := by
  rcases ds with _ | ⟨a, _ | ⟨b, _ | ⟨c, r⟩⟩⟩ <;> cases h
  rfl
theorem ev_const {Φ : Phi} {ρ : Rho} {σ : Store} (d : PyData) : evE Φ (.const d) ρ σ = some (.dat d, σ) := rfl
theorem ev_var {Φ : Phi} {ρ : Rho} {σ : Store} (i : Nat) : evE Φ (.var i) ρ σ = (ρ i).bind fun v => some (v, σ) := rfl
theorem ev_bin {Φ : Phi} {ρ : Rho} {σ : Store} (op : Operator) (a b : CE) : evE Φ (.bin op a b) ρ σ = (evE Φ a ρ σ).bind fun p => (evE Φ b ρ p.2).bind fun q => (rd q.2 p.1).bind fun dx => (rd q.2 q.1).bind fun dy => (binD op dx dy).bind fun r => some (r, q.2) := rfl
theorem ev_neg {Φ : Phi} {ρ : Rho} {σ : Store} (a : CE) : evE Φ (.neg a) ρ σ = (evE Φ a ρ σ).bind fun p => (intA p.1).bind fun i => some (.dat (.int (-i)), p.2) := rfl
theorem ev_nott {Φ : Phi} {ρ : Rho} {σ : Store} (a : CE) : evE Φ (.nott a) ρ σ = (evE Φ a ρ σ).bind fun p => (boolA p.1).bind fun b => some (.dat (.bool (!b)), p.2) := rfl
theorem ev_bop {Φ : Phi} {ρ : Rho} {σ : Store} (op : BoolOp) (es : List CE) : evE Φ (.bop op es) ρ σ = (evB Φ op es ρ σ).bind fun p => some (.dat (.bool p.1), p.2) := rfl
theorem ev_cmp {Φ : Phi} {ρ : Rho} {σ : Store} (op : CmpOp) (a b : CE) : evE Φ (.cmp op a b) ρ σ = (evE Φ a ρ σ).bind fun p => (evE Φ b ρ p.2).bind fun q => (rd q.2 p.1).bind fun dx => (rd q.2 q.1).bind fun dy => (cmpD op dx dy).bind fun r => some (.dat (.bool r), q.2) := rfl
theorem ev_cmp2 {Φ : Phi} {ρ : Rho} {σ : Store} (o1 o2 : CmpOp) (a b c : CE) : evE Φ (.cmp2 o1 o2 a b c) ρ σ = (evE Φ a ρ σ).bind fun p => (evE Φ b ρ p.2).bind fun q => (rd q.2 p.1).bind fun dx => (rd q.2 q.1).bind fun dy => (cmpD o1 dx dy).bind fun r =>
    if r = true then (evE Φ c ρ q.2).bind fun t => (rd t.2 q.1).bind fun dy' => (rd t.2 t.1).bind fun dz => (cmpD o2 dy' dz).bind fun r => some (.dat (.bool r), t.2)
    else some (.dat (.bool false), q.2) := rfl
theorem ev_ite {Φ : Phi} {ρ : Rho} {σ : Store} (c a b : CE) : evE Φ (.ite c a b) ρ σ = (evE Φ c ρ σ).bind fun p => (boolA p.1).bind fun t => if t = true then evE Φ a ρ p.2 else evE Φ b ρ p.2 := rfl
theorem ev_idx {Φ : Phi} {ρ : Rho} {σ : Store} (a i : CE) : evE Φ (.idx a i) ρ σ = (evE Φ a ρ σ).bind fun p => (evE Φ i ρ p.2).bind fun q => (rd q.2 p.1).bind fun dx => (rd q.2 q.1).bind fun dy => (idxD dx dy).bind fun r => some (.dat r, q.2) := rfl
theorem ev_slice {Φ : Phi} {ρ : Rho} {σ : Store} (a lo hi : CE) : evE Φ (.slice a lo hi) ρ σ = (evE Φ a ρ σ).bind fun p => (evE Φ lo ρ p.2).bind fun l => (evE Φ hi ρ l.2).bind fun u => (rd u.2 p.1).bind fun dx => (rd u.2 l.1).bind fun dl => (rd u.2 u.1).bind fun du => (sliceD dx dl du).bind fun r => some (r, u.2) := rfl
theorem ev_rev {Φ : Phi} {ρ : Rho} {σ : Store} (a : CE) : evE Φ (.rev a) ρ σ = (evE Φ a ρ σ).bind fun p => (rd p.2 p.1).bind fun dx => (revD dx).bind fun r => some (r, p.2) := rfl
theorem ev_tup {Φ : Phi} {ρ : Rho} {σ : Store} (es : List CE) : evE Φ (.tup es) ρ σ = (evEs Φ es ρ σ).bind fun p => (ownAll p.1 p.2).bind fun q => some (.dat (.tuple q.1), q.2) := rfl
theorem ev_lst {Φ : Phi} {ρ : Rho} {σ : Store} (es : List CE) : evE Φ (.lst es) ρ σ = (evEs Φ es ρ σ).bind fun p => (ownAll p.1 p.2).bind fun q => some (.fresh q.1, q.2) := rfl
theorem ev_call {Φ : Phi} {ρ : Rho} {σ : Store} (f : Nat) (es : List CE) : evE Φ (.call f es) ρ σ = (evEs Φ es ρ σ).bind fun p => (Φ f p.1 p.2).bind fun r => (retC r.1).bind fun v => some (v, r.2) := rfl
theorem ev_prim {Φ : Phi} {ρ : Rho} {σ : Store} (k : Prim) (es : List CE) : evE Φ (.prim k es) ρ σ = (evEs Φ es ρ σ).bind fun p => (rdAll p.2 p.1).bind fun ds => (primD k ds).bind fun r => some (r, p.2) := rfl
theorem ev_isin {Φ : Phi} {ρ : Rho} {σ : Store} (e : CE) (t : Ty) : evE Φ (.isin e t) ρ σ = (evE Φ e ρ σ).bind fun p => (rd p.2 p.1).bind fun d => some (.dat (.bool (isinD t d)), p.2) := rfl
theorem ev_isexc {Φ : Phi} {ρ : Rho} {σ : Store} (e : CE) (cs : List Nat) : evE Φ (.isexc e cs) ρ σ = (evE Φ e ρ σ).bind fun p => (excA p.1).bind fun c => if c < 5 then some (.dat (.bool (cs.any (excSub c))), p.2) else none := rfl
theorem ev_pop {Φ : Phi} {ρ : Rho} {σ : Store} (x : Nat) : evE Φ (.pop x) ρ σ = (cellIn ρ x).bind fun i => (liveAt σ i).bind fun ds => if ds.length ≤ lim then ds.getLast?.bind fun d => some (.dat d, σ.set i (.live, ds.dropLast)) else none := rfl
theorem ev_comp {Φ : Phi} {ρ : Rho} {σ : Store} (elt : CE) (t : Tgt) (k : ItK) (its ifs : List CE) : evE Φ (.comp elt t k its ifs) ρ σ = (evEs Φ its ρ σ).bind fun p => (rdAll p.2 p.1).bind fun ds => (itemsD k ds).bind fun xs =>
    if xs.length ≤ lim then (compGo (fun ρ' σ' => evE Φ elt ρ' σ') (fun ρ' σ' => evB Φ .And ifs ρ' σ') t ρ xs (flagAll .locked (liveOf p.2 p.1) p.2)).bind fun r => some (.fresh r.1, flagAll .live (liveOf p.2 p.1) r.2) else none := rfl
theorem eb_nil {Φ : Phi} {ρ : Rho} {σ : Store} (op : BoolOp) : evB Φ op [] ρ σ = some (op == .And, σ) := rfl
theorem eb_cons {Φ : Phi} {ρ : Rho} {σ : Store} (op : BoolOp) (e : CE) (es : List CE) : evB Φ op (e :: es) ρ σ = (evE Φ e ρ σ).bind fun p => (boolA p.1).bind fun b => if (b == (op == .And)) = true then evB Φ op es ρ p.2 else some (b, p.2) := rfl
theorem el_nil {Φ : Phi} {ρ : Rho} {σ : Store} : evEs Φ [] ρ σ = some ([], σ) := rfl
theorem el_cons {Φ : Phi} {ρ : Rho} {σ : Store} (e : CE) (es : List CE) : evEs Φ (e :: es) ρ σ = (evE Φ e ρ σ).bind fun p => (evEs Φ es ρ p.2).bind fun q => some (settle p.1 :: q.1, q.2) := rfl
theorem es_assign {N : Nat} {Φ : Phi} {ρ : Rho} {σ : Store} (i : Nat) (e : CE) : evS N Φ (.assign i e) ρ σ = (evE Φ e ρ σ).bind fun p => some (.next (ρ.set i (settle p.1)), p.2) := rfl
theorem es_newcell {N : Nat} {Φ : Phi} {ρ : Rho} {σ : Store} (i : Nat) (e : CE) : evS N Φ (.newcell i e) ρ σ = (evE Φ e ρ σ).bind fun p => some (newc i ρ p.2 p.1) := rfl
theorem es_unpack {N : Nat} {Φ : Phi} {ρ : Rho} {σ : Store} (is : List Nat) (e : CE) : evS N Φ (.unpack is e) ρ σ = (evE Φ e ρ σ).bind fun p => (tupA p.1).bind fun ds => (bindMany is ds ρ).bind fun ρ' => some (.next ρ', p.2) := rfl
theorem es_setItem {N : Nat} {Φ : Phi} {ρ : Rho} {σ : Store} (x : Nat) (i e : CE) : evS N Φ (.setItem x i e) ρ σ = (cellIn ρ x).bind fun c => (evE Φ e ρ σ).bind fun p => (own p.2 (settle p.1)).bind fun q => (evE Φ i ρ q.2).bind fun r => (intA r.1).bind fun k => (liveAt r.2 c).bind fun ds =>
    if 0 ≤ k ∧ k.toNat < ds.length ∧ ds.length ≤ lim then some (.next ρ, r.2.set c (.live, ds.set k.toNat q.1)) else none := rfl
theorem es_append {N : Nat} {Φ : Phi} {ρ : Rho} {σ : Store} (x : Nat) (e : CE) : evS N Φ (.append x e) ρ σ = (cellIn ρ x).bind fun c => (evE Φ e ρ σ).bind fun p => (own p.2 (settle p.1)).bind fun q => (liveAt q.2 c).bind fun ds => if ds.length < lim then some (.next ρ, q.2.set c (.live, ds ++ [q.1])) else none := rfl
theorem es_extend {N : Nat} {Φ : Phi} {ρ : Rho} {σ : Store} (x : Nat) (e : CE) : evS N Φ (.extend x e) ρ σ = (cellIn ρ x).bind fun c => (evE Φ e ρ σ).bind fun p => (rd p.2 (settle p.1)).bind fun d => (listD d).bind fun es => (liveAt p.2 c).bind fun ds => if ds.length + es.length ≤ lim then some (.next ρ, p.2.set c (.live, ds ++ es)) else none := rfl
theorem es_insert {N : Nat} {Φ : Phi} {ρ : Rho} {σ : Store} (x : Nat) (i e : CE) : evS N Φ (.insert x i e) ρ σ = (cellIn ρ x).bind fun c => (evE Φ i ρ σ).bind fun r => (intA r.1).bind fun k => (evE Φ e ρ r.2).bind fun p => (own p.2 (settle p.1)).bind fun q => (liveAt q.2 c).bind fun ds =>
    if 0 ≤ k ∧ k.toNat ≤ ds.length ∧ ds.length < lim then some (.next ρ, q.2.set c (.live, ds.take k.toNat ++ q.1 :: ds.drop k.toNat)) else none := rfl
theorem es_ite {N : Nat} {Φ : Phi} {ρ : Rho} {σ : Store} (c : CE) (a b : List CS) : evS N Φ (.ite c a b) ρ σ = (evE Φ c ρ σ).bind fun p => (boolA p.1).bind fun t => if t = true then evSs N Φ a ρ p.2 else evSs N Φ b ρ p.2 := rfl
theorem es_whil {N : Nat} {Φ : Phi} {ρ : Rho} {σ : Store} (c : CE) (body : List CS) : evS N Φ (.whil c body) ρ σ = whileGo (fun ρ' σ' => evE Φ c ρ' σ') (fun ρ' σ' => evSs N Φ body ρ' σ') N ρ σ := rfl
theorem es_forr {N : Nat} {Φ : Phi} {ρ : Rho} {σ : Store} (t : Tgt) (k : ItK) (its : List CE) (body : List CS) : evS N Φ (.forr t k its body) ρ σ = (evEs Φ its ρ σ).bind fun p => (rdAll p.2 p.1).bind fun ds => (itemsD k ds).bind fun xs =>
    (forGo t (fun ρ' σ' => evSs N Φ body ρ' σ') xs ρ (flagAll .locked (liveOf p.2 p.1) p.2)).bind fun r => some (r.1, flagAll .live (liveOf p.2 p.1) r.2) := rfl
theorem es_ret {N : Nat} {Φ : Phi} {ρ : Rho} {σ : Store} (e : CE) : evS N Φ (.ret e) ρ σ = (evE Φ e ρ σ).bind fun p => some (.ret p.1, p.2) := rfl
theorem es_tryy {N : Nat} {Φ : Phi} {ρ : Rho} {σ : Store} (wr : Bool) (f : Nat) (es : List CE) (x : Nat) (h : List CS) : evS N Φ (.tryy wr f es x h) ρ σ = (evEs Φ es ρ σ).bind fun p => (Φ f p.1 p.2).bind (tryC wr ρ fun c σ₂ => evSs N Φ h (ρ.set x (.exc c)) σ₂) := rfl
theorem es_nil {N : Nat} {Φ : Phi} {ρ : Rho} {σ : Store} : evSs N Φ [] ρ σ = some (.next ρ, σ) := rfl
theorem es_cons {N : Nat} {Φ : Phi} {ρ : Rho} {σ : Store} (c : CS) (cs : List CS) : evSs N Φ (c :: cs) ρ σ = (evS N Φ c ρ σ).bind (Fl.on fun ρ₁ σ₁ => evSs N Φ cs ρ₁ σ₁) := rfl
theorem int_of {β : Type} {o : Option (AV × β)} {p : AV × β} {i : Int} (h : o = some p) (h' : intA p.1 = some i) : o = some (.dat (.int i), p.2) := by rw [h, ← intA_eq h']
theorem bool_of {β : Type} {o : Option (AV × β)} {p : AV × β} {i : Bool} (h : o = some p) (h' : boolA p.1 = some i) : o = some (.dat (.bool i), p.2) := by rw [h, ← boolA_eq h']
theorem tup_of {β : Type} {o : Option (AV × β)} {p : AV × β} {i : List PyData} (h : o = some p) (h' : tupA p.1 = some i) : o = some (.dat (.tuple i), p.2) := by rw [h, ← tupA_eq h']
section
variable {N : Nat} {Φ : Phi} {ρ : Rho} {σ σ' : Store} {av : AV} {fl : Fl} {R : Prop}
theorem i_var {i : Nat} (q : evE Φ (.var i) ρ σ = some (av, σ')) : ρ i = some av ∧ σ' = σ :=
  ob q fun v h q => by cases q; exact ⟨h, rfl⟩
theorem i_bin {op : Operator} {a b : CE} (q : evE Φ (.bin op a b) ρ σ = some (av, σ')) (k : ∀ x σ₁ y dx dy, evE Φ a ρ σ = some (x, σ₁) → evE Φ b ρ σ₁ = some (y, σ') → rd σ' x = some dx → rd σ' y = some dy → binD op dx dy = some av → R) : R :=
  ob q fun x h1 q => ob q fun y h2 q => ob q fun dx h3 q => ob q fun dy h4 q => ob q fun r h5 q => by cases q; exact k x.1 x.2 y.1 dx dy h1 h2 h3 h4 h5
theorem i_neg {a : CE} (q : evE Φ (.neg a) ρ σ = some (av, σ')) (k : ∀ i, evE Φ a ρ σ = some (.dat (.int i), σ') → av = .dat (.int (-i)) → R) : R :=
  ob q fun x h1 q => ob q fun i h2 q => by cases q; exact k i (int_of h1 h2) rfl
theorem i_nott {a : CE} (q : evE Φ (.nott a) ρ σ = some (av, σ')) (k : ∀ b, evE Φ a ρ σ = some (.dat (.bool b), σ') → av = .dat (.bool (!b)) → R) : R :=
  ob q fun x h1 q => ob q fun i h2 q => by cases q; exact k i (bool_of h1 h2) rfl
theorem i_bop {op : BoolOp} {es : List CE} (q : evE Φ (.bop op es) ρ σ = some (av, σ')) (k : ∀ b, evB Φ op es ρ σ = some (b, σ') → av = .dat (.bool b) → R) : R :=
  ob q fun x h1 q => by cases q; exact k x.1 h1 rfl
theorem i_cmp {op : CmpOp} {a b : CE} (q : evE Φ (.cmp op a b) ρ σ = some (av, σ')) (k : ∀ x σ₁ y dx dy r, evE Φ a ρ σ = some (x, σ₁) → evE Φ b ρ σ₁ = some (y, σ') → rd σ' x = some dx → rd σ' y = some dy → cmpD op dx dy = some r → av = .dat (.bool r) → R) : R :=
  ob q fun x h1 q => ob q fun y h2 q => ob q fun dx h3 q => ob q fun dy h4 q => ob q fun r h5 q => by cases q; exact k x.1 x.2 y.1 dx dy r h1 h2 h3 h4 h5 rfl
theorem i_cmp2 {o1 o2 : CmpOp} {a b c : CE} (q : evE Φ (.cmp2 o1 o2 a b c) ρ σ = some (av, σ')) (k : ∀ x σ₁ y σ₂ dx dy r, evE Φ a ρ σ = some (x, σ₁) → evE Φ b ρ σ₁ = some (y, σ₂) → rd σ₂ x = some dx → rd σ₂ y = some dy → cmpD o1 dx dy = some r →
    (if r = true then (evE Φ c ρ σ₂).bind fun t => (rd t.2 y).bind fun dy' => (rd t.2 t.1).bind fun dz => (cmpD o2 dy' dz).bind fun r => some (.dat (.bool r), t.2) else some (.dat (.bool false), σ₂)) = some (av, σ') → R) : R :=
  ob q fun x h1 q => ob q fun y h2 q => ob q fun dx h3 q => ob q fun dy h4 q => ob q fun r h5 q => k x.1 x.2 y.1 y.2 dx dy r h1 h2 h3 h4 h5 q
theorem i_ite {c a b : CE} (q : evE Φ (.ite c a b) ρ σ = some (av, σ')) (k : ∀ t σ₁, evE Φ c ρ σ = some (.dat (.bool t), σ₁) → (if t = true then evE Φ a ρ σ₁ else evE Φ b ρ σ₁) = some (av, σ') → R) : R :=
  ob q fun x h1 q => ob q fun i h2 q => k i x.2 (bool_of h1 h2) q
theorem i_idx {a b : CE} (q : evE Φ (.idx a b) ρ σ = some (av, σ')) (k : ∀ x σ₁ y dx dy d, evE Φ a ρ σ = some (x, σ₁) → evE Φ b ρ σ₁ = some (y, σ') → rd σ' x = some dx → rd σ' y = some dy → idxD dx dy = some d → av = .dat d → R) : R :=
  ob q fun x h1 q => ob q fun y h2 q => ob q fun dx h3 q => ob q fun dy h4 q => ob q fun r h5 q => by cases q; exact k x.1 x.2 y.1 dx dy r h1 h2 h3 h4 h5 rfl
theorem i_tup {es : List CE} (q : evE Φ (.tup es) ρ σ = some (av, σ')) (k : ∀ vs σ₁ ds, evEs Φ es ρ σ = some (vs, σ₁) → ownAll vs σ₁ = some (ds, σ') → av = .dat (.tuple ds) → R) : R :=
  ob q fun x h1 q => ob q fun y h2 q => by cases q; exact k x.1 x.2 y.1 h1 h2 rfl
theorem i_lst {es : List CE} (q : evE Φ (.lst es) ρ σ = some (av, σ')) (k : ∀ vs σ₁ ds, evEs Φ es ρ σ = some (vs, σ₁) → ownAll vs σ₁ = some (ds, σ') → av = .fresh ds → R) : R :=
  ob q fun x h1 q => ob q fun y h2 q => by cases q; exact k x.1 x.2 y.1 h1 h2 rfl
theorem ret_of {β : Type} {o : Option (CR × β)} {p : CR × β} {v : AV} (h : o = some p) (h' : retC p.1 = some v) : o = some (.ret v, p.2) := by rw [h, ← retC_eq h']
theorem i_call {f : Nat} {es : List CE} (q : evE Φ (.call f es) ρ σ = some (av, σ')) (k : ∀ vs σ₁, evEs Φ es ρ σ = some (vs, σ₁) → Φ f vs σ₁ = some (.ret av, σ') → R) : R :=
  ob q fun x h1 q => ob q fun y h2 q => ob q fun v h3 q => by cases q; exact k x.1 x.2 h1 (ret_of h2 h3)
theorem i_prim {p : Prim} {es : List CE} (q : evE Φ (.prim p es) ρ σ = some (av, σ')) (k : ∀ vs ds, evEs Φ es ρ σ = some (vs, σ') → rdAll σ' vs = some ds → primD p ds = some av → R) : R :=
  ob q fun x h1 q => ob q fun ds h2 q => ob q fun r h3 q => by cases q; exact k x.1 ds h1 h2 h3
theorem i_isin {e : CE} {t : Ty} (q : evE Φ (.isin e t) ρ σ = some (av, σ')) (k : ∀ x d, evE Φ e ρ σ = some (x, σ') → rd σ' x = some d → av = .dat (.bool (isinD t d)) → R) : R :=
  ob q fun x h1 q => ob q fun d h2 q => by cases q; exact k x.1 d h1 h2 rfl
theorem i_comp {elt : CE} {t : Tgt} {j : ItK} {its ifs : List CE} (q : evE Φ (.comp elt t j its ifs) ρ σ = some (av, σ')) (k : ∀ vs σ₁ ds xs ys σ₂, evEs Φ its ρ σ = some (vs, σ₁) → rdAll σ₁ vs = some ds → itemsD j ds = some xs → xs.length ≤ lim →
    compGo (fun ρ' σ' => evE Φ elt ρ' σ') (fun ρ' σ' => evB Φ .And ifs ρ' σ') t ρ xs (flagAll .locked (liveOf σ₁ vs) σ₁) = some (ys, σ₂) → av = .fresh ys → σ' = flagAll .live (liveOf σ₁ vs) σ₂ → R) : R :=
  ob q fun x h1 q => ob q fun ds h2 q => ob q fun xs h3 q => og q fun h4 q => ob q fun y h5 q => k x.1 x.2 ds xs y.1 y.2 h1 h2 h3 h4 h5 (pr q).1.symm (pr q).2.symm
theorem i_bcons {op : BoolOp} {e : CE} {es : List CE} {b : Bool} (q : evB Φ op (e :: es) ρ σ = some (b, σ')) (k : ∀ b₁ σ₁, evE Φ e ρ σ = some (.dat (.bool b₁), σ₁) → (if (b₁ == (op == .And)) = true then evB Φ op es ρ σ₁ else some (b₁, σ₁)) = some (b, σ') → R) : R :=
  ob q fun x h1 q => ob q fun i h2 q => k i x.2 (bool_of h1 h2) q
theorem i_lcons {e : CE} {es : List CE} {avs : List AV} (q : evEs Φ (e :: es) ρ σ = some (avs, σ')) (k : ∀ v σ₁ vs, evE Φ e ρ σ = some (v, σ₁) → evEs Φ es ρ σ₁ = some (vs, σ') → avs = settle v :: vs → R) : R :=
  ob q fun x h1 q => ob q fun y h2 q => by cases q; exact k x.1 x.2 y.1 h1 h2 rfl
theorem i_lnil {avs : List AV} (q : evEs Φ [] ρ σ = some (avs, σ')) : avs = [] ∧ σ' = σ := ⟨(pr q).1.symm, (pr q).2.symm⟩
theorem fl_on {f : Rho → Store → Option (Fl × Store)} {p : Fl × Store} (q : Fl.on f p = some (fl, σ')) (k1 : ∀ ρ₁, p.1 = .next ρ₁ → f ρ₁ p.2 = some (fl, σ') → R) (k2 : p = (fl, σ') → (∀ ρ₁, fl ≠ .next ρ₁) → R) : R := by
  rcases p with ⟨_ | _ | _, σ₁⟩
  · exact k1 _ rfl q
  · exact k2 (Option.some.inj q) fun _ e => by rw [← (pr q).1] at e; cases e
  · exact k2 (Option.some.inj q) fun _ e => by rw [← (pr q).1] at e; cases e
theorem nx {o : Option (Fl × Store)} {p : Fl × Store} {ρ : Rho} (h : o = some p) (e : p.1 = .next ρ) : o = some (.next ρ, p.2) := by rw [h, ← e]
theorem i_scons {c : CS} {cs : List CS} (q : evSs N Φ (c :: cs) ρ σ = some (fl, σ')) (k1 : ∀ ρ₁ σ₁, evS N Φ c ρ σ = some (.next ρ₁, σ₁) → evSs N Φ cs ρ₁ σ₁ = some (fl, σ') → R) (k2 : evS N Φ c ρ σ = some (fl, σ') → (∀ ρ₁, fl ≠ .next ρ₁) → R) : R :=
  ob q fun p h q => fl_on q (fun ρ₁ e q => k1 ρ₁ p.2 (nx h e) q) fun e n => k2 (h.trans (congrArg some e)) n
theorem i_ret {e : CE} (q : evS N Φ (.ret e) ρ σ = some (fl, σ')) (k : ∀ v, evE Φ e ρ σ = some (v, σ') → fl = .ret v → R) : R :=
  ob q fun x h1 q => by cases q; exact k x.1 h1 rfl
theorem i_site {c : CE} {a b : List CS} (q : evS N Φ (.ite c a b) ρ σ = some (fl, σ')) (k : ∀ t σ₁, evE Φ c ρ σ = some (.dat (.bool t), σ₁) → (if t = true then evSs N Φ a ρ σ₁ else evSs N Φ b ρ σ₁) = some (fl, σ') → R) : R :=
  ob q fun x h1 q => ob q fun i h2 q => k i x.2 (bool_of h1 h2) q
theorem i_assign {i : Nat} {e : CE} (q : evS N Φ (.assign i e) ρ σ = some (fl, σ')) (k : ∀ v, evE Φ e ρ σ = some (v, σ') → fl = .next (ρ.set i (settle v)) → R) : R :=
  ob q fun x h1 q => by cases q; exact k x.1 h1 rfl
theorem i_newcell {i : Nat} {e : CE} (q : evS N Φ (.newcell i e) ρ σ = some (fl, σ')) (k : ∀ v σ₁, evE Φ e ρ σ = some (v, σ₁) → newc i ρ σ₁ v = (fl, σ') → R) : R :=
  ob q fun x h1 q => k x.1 x.2 h1 (Option.some.inj q)
theorem i_unpack {is : List Nat} {e : CE} (q : evS N Φ (.unpack is e) ρ σ = some (fl, σ')) (k : ∀ ds ρ', evE Φ e ρ σ = some (.dat (.tuple ds), σ') → bindMany is ds ρ = some ρ' → fl = .next ρ' → R) : R :=
  ob q fun x h1 q => ob q fun ds h2 q => ob q fun ρ' h3 q => by cases q; exact k ds ρ' (tup_of h1 h2) h3 rfl
theorem i_append {x : Nat} {e : CE} (q : evS N Φ (.append x e) ρ σ = some (fl, σ')) (k : ∀ c v σ₁ d σ₂ ds, ρ x = some (.cell c) → evE Φ e ρ σ = some (v, σ₁) → own σ₁ (settle v) = some (d, σ₂) → σ₂[c]? = some (.live, ds) → ds.length < lim → fl = .next ρ → σ' = σ₂.set c (.live, ds ++ [d]) → R) : R :=
  ob q fun c h1 q => ob q fun x h2 q => ob q fun y h3 q => ob q fun ds h4 q => og q fun h5 q => k c x.1 x.2 y.1 y.2 ds (cellIn_eq h1) h2 h3 (liveAt_eq h4) h5 (pr q).1.symm (pr q).2.symm
theorem i_extend {x : Nat} {e : CE} (q : evS N Φ (.extend x e) ρ σ = some (fl, σ')) (k : ∀ c v σ₁ es ds, ρ x = some (.cell c) → evE Φ e ρ σ = some (v, σ₁) → rd σ₁ (settle v) = some (.list es) → σ₁[c]? = some (.live, ds) → ds.length + es.length ≤ lim → fl = .next ρ → σ' = σ₁.set c (.live, ds ++ es) → R) : R :=
  ob q fun c h1 q => ob q fun x h2 q => ob q fun d h3 q => ob q fun es h3' q => ob q fun ds h4 q => og q fun h5 q => k c x.1 x.2 es ds (cellIn_eq h1) h2 (h3.trans (congrArg some (listD_eq h3'))) (liveAt_eq h4) h5 (pr q).1.symm (pr q).2.symm
theorem i_setItem {x : Nat} {i e : CE} (q : evS N Φ (.setItem x i e) ρ σ = some (fl, σ')) (k : ∀ c v σ₁ d σ₂ j σ₃ ds, ρ x = some (.cell c) → evE Φ e ρ σ = some (v, σ₁) → own σ₁ (settle v) = some (d, σ₂) → evE Φ i ρ σ₂ = some (.dat (.int j), σ₃) → σ₃[c]? = some (.live, ds) → (0 ≤ j ∧ j.toNat < ds.length ∧ ds.length ≤ lim) → fl = .next ρ → σ' = σ₃.set c (.live, ds.set j.toNat d) → R) : R :=
  ob q fun c h1 q => ob q fun x h3 q => ob q fun y h4 q => ob q fun u h2 q => ob q fun j h2' q => ob q fun ds h5 q => og q fun h6 q => k c x.1 x.2 y.1 y.2 j u.2 ds (cellIn_eq h1) h3 h4 (int_of h2 h2') (liveAt_eq h5) h6 (pr q).1.symm (pr q).2.symm
theorem i_forr {t : Tgt} {j : ItK} {its : List CE} {body : List CS} (q : evS N Φ (.forr t j its body) ρ σ = some (fl, σ')) (k : ∀ vs σ₁ ds xs σ₂, evEs Φ its ρ σ = some (vs, σ₁) → rdAll σ₁ vs = some ds → itemsD j ds = some xs →
    forGo t (fun ρ' σ' => evSs N Φ body ρ' σ') xs ρ (flagAll .locked (liveOf σ₁ vs) σ₁) = some (fl, σ₂) → σ' = flagAll .live (liveOf σ₁ vs) σ₂ → R) : R :=
  ob q fun x h1 q => ob q fun ds h2 q => ob q fun xs h3 q => ob q fun y h4 q => k x.1 x.2 ds xs y.2 h1 h2 h3 (by rw [h4, ← (pr q).1]) (pr q).2.symm
end
end Mine
namespace Mine
open PySem
abbrev tupO (vs : List Value) (n : Nat) : Obj := { cls := .type "tuple", data := .seq vs.toArray n }
abbrev lstO (vs : List Value) (n : Nat) : Obj := { cls := .type "list", data := .seq vs.toArray n }
mutual
inductive Rd (h : Heap) (S : Addr → Prop) : Value → PyData → Prop
  | none : Rd h S .none .none
  | bool (b : Bool) : Rd h S (.bool b) (.bool b)
  | int (i : Int) (t : Tok) : Rd h S (.int i t) (.int i)
  | str (x : Str) (t : Tok) : Rd h S (.str x t) (.str x)
  | tuple {a : Addr} {vs : List Value} {n : Nat} {ds : List PyData} : S a → h.get? a = some (tupO vs n) → RdL h S vs ds → Rd h S (.ref a) (.tuple ds)
  | list {a : Addr} {vs : List Value} {n : Nat} {ds : List PyData} : S a → h.get? a = some (lstO vs n) → RdL h S vs ds → Rd h S (.ref a) (.list ds)
inductive RdL (h : Heap) (S : Addr → Prop) : List Value → List PyData → Prop
  | nil : RdL h S [] []
  | cons {v : Value} {vs : List Value} {d : PyData} {ds : List PyData} : Rd h S v d → RdL h S vs ds → RdL h S (v :: vs) (d :: ds)
end
mutual
theorem Rd.mono {h h' : Heap} {S S' : Addr → Prop} (hk : ∀ a o, S a → h.get? a = some o → h'.get? a = some o) (hs : ∀ a, S a → S' a) : ∀ {v : Value} {d : PyData}, Rd h S v d → Rd h' S' v d
  | _, _, .none => .none
  | _, _, .bool b => .bool b
  | _, _, .int i t => .int i t
  | _, _, .str x t => .str x t
  | _, _, .tuple a e r => .tuple (hs _ a) (hk _ _ a e) (RdL.mono hk hs r)
  | _, _, .list a e r => .list (hs _ a) (hk _ _ a e) (RdL.mono hk hs r)
theorem RdL.mono {h h' : Heap} {S S' : Addr → Prop} (hk : ∀ a o, S a → h.get? a = some o → h'.get? a = some o) (hs : ∀ a, S a → S' a) : ∀ {vs : List Value} {ds : List PyData}, RdL h S vs ds → RdL h' S' vs ds
  | _, _, .nil => .nil
  | _, _, .cons x r => .cons (Rd.mono hk hs x) (RdL.mono hk hs r)
end
mutual
theorem Rd.reads {h : Heap} {S : Addr → Prop} : ∀ {v : Value} {d : PyData}, Rd h S v d → ∃ as, Reads h v d as
  | _, _, .none => ⟨_, .none⟩
  | _, _, .bool b => ⟨_, .bool b⟩
  | _, _, .int i t => ⟨_, .int i t⟩
  | _, _, .str x t => ⟨_, .str x t⟩
  | _, _, .tuple _ e r => let ⟨as, q⟩ := RdL.reads r; ⟨as, .tuple e rfl rfl (by simpa using q)⟩
  | _, _, .list _ e r => let ⟨as, q⟩ := RdL.reads r; ⟨_, .list e rfl rfl (by simpa using q)⟩
theorem RdL.reads {h : Heap} {S : Addr → Prop} : ∀ {vs : List Value} {ds : List PyData}, RdL h S vs ds → ∃ as, ReadsAll h vs ds as
  | _, _, .nil => ⟨_, .nil⟩
  | _, _, .cons x r => let ⟨as, q⟩ := Rd.reads x; let ⟨bs, p⟩ := RdL.reads r; ⟨_, .cons q p⟩
end
theorem RdL.length {h : Heap} {S : Addr → Prop} {vs : List Value} {ds : List PyData} (r : RdL h S vs ds) : vs.length = ds.length := by
  induction vs generalizing ds with
  | nil => cases r; rfl
  | cons v vs ih => cases r with | cons _ r => simp [ih r]
theorem RdL.append {h : Heap} {S : Addr → Prop} {vs ws : List Value} {ds es : List PyData} (r : RdL h S vs ds) (q : RdL h S ws es) : RdL h S (vs ++ ws) (ds ++ es) := by
  induction vs generalizing ds with
  | nil => cases r; exact q
  | cons v vs ih => cases r with | cons x r => exact .cons x (ih r)
theorem RdL.get {h : Heap} {S : Addr → Prop} {vs : List Value} {ds : List PyData} (r : RdL h S vs ds) {k : Nat} {d : PyData} (hk : ds[k]? = some d) : ∃ v, vs[k]? = some v ∧ Rd h S v d := by
  induction vs generalizing ds k with
  | nil => cases r; simp at hk
  | cons v vs ih =>
    cases r with
    | cons x r =>
      cases k with
      | zero => simp at hk; subst hk; exact ⟨v, rfl, x⟩
      | succ k => simp at hk; simpa using ih r hk
theorem RdL.take {h : Heap} {S : Addr → Prop} {vs : List Value} {ds : List PyData} (r : RdL h S vs ds) (n : Nat) : RdL h S (vs.take n) (ds.take n) := by
  induction vs generalizing ds n with
  | nil => cases r; simpa using RdL.nil
  | cons v vs ih =>
    cases r with
    | cons x r => cases n with
      | zero => exact .nil
      | succ n => exact .cons x (ih r n)
theorem RdL.drop {h : Heap} {S : Addr → Prop} {vs : List Value} {ds : List PyData} (r : RdL h S vs ds) (n : Nat) : RdL h S (vs.drop n) (ds.drop n) := by
  induction vs generalizing ds n with
  | nil => cases r; simpa using RdL.nil
  | cons v vs ih =>
    cases r with
    | cons x r => cases n with
      | zero => exact .cons x r
      | succ n => exact ih r n
theorem RdL.one {h : Heap} {S : Addr → Prop} {v : Value} {d : PyData} (x : Rd h S v d) : RdL h S [v] [d] := .cons x .nil
theorem RdL.reverse {h : Heap} {S : Addr → Prop} {vs : List Value} {ds : List PyData} (r : RdL h S vs ds) : RdL h S vs.reverse ds.reverse := by
  induction vs generalizing ds with
  | nil => cases r; exact .nil
  | cons v vs ih => cases r with | cons x r => simpa using (ih r).append (.one x)
theorem RdL.replicate {h : Heap} {S : Addr → Prop} {vs : List Value} {ds : List PyData} (r : RdL h S vs ds) (n : Nat) : RdL h S (List.replicate n vs).flatten (List.replicate n ds).flatten := by
  induction n with
  | zero => exact .nil
  | succ n ih => simpa [List.replicate_succ] using r.append ih
theorem RdL.set {h : Heap} {S : Addr → Prop} {vs : List Value} {ds : List PyData} (r : RdL h S vs ds) {v : Value} {d : PyData} (x : Rd h S v d) (k : Nat) : RdL h S (vs.set k v) (ds.set k d) := by
  induction vs generalizing ds k with
  | nil => cases r; simpa using RdL.nil
  | cons w vs ih =>
    cases r with
    | cons y r => cases k with
      | zero => exact .cons x r
      | succ k => exact .cons y (ih r k)
inductive Rt (h : Heap) (S : Addr → Prop) : Value → PyData → Prop
  | dat {v : Value} {d : PyData} : Rd h S v d → Rt h S v d
  | lst {a : Addr} {vs : List Value} {n : Nat} {ds : List PyData} : h.get? a = some (lstO vs n) → RdL h S vs ds → Rt h S (.ref a) (.list ds)
theorem Rt.reads {h : Heap} {S : Addr → Prop} {v : Value} {d : PyData} (r : Rt h S v d) : ∃ as, Reads h v d as := by
  cases r with
  | dat r => exact r.reads
  | lst e r => obtain ⟨as, q⟩ := r.reads; exact ⟨_, .list e rfl rfl (by simpa using q)⟩
theorem Rt.lstD {h : Heap} {S : Addr → Prop} {v : Value} {ds : List PyData} (r : Rt h S v (.list ds)) : ∃ a vs n, v = .ref a ∧ h.get? a = some (lstO vs n) ∧ RdL h S vs ds := by
  cases r with
  | dat r => cases r with | list _ e q => exact ⟨_, _, _, rfl, e, q⟩
  | lst e q => exact ⟨_, _, _, rfl, e, q⟩
theorem Rt.tupD {h : Heap} {S : Addr → Prop} {v : Value} {ds : List PyData} (r : Rt h S v (.tuple ds)) : ∃ a vs n, v = .ref a ∧ S a ∧ h.get? a = some (tupO vs n) ∧ RdL h S vs ds := by
  cases r with
  | dat r => cases r with | tuple s e q => exact ⟨_, _, _, rfl, s, e, q⟩
theorem Rt.intD {h : Heap} {S : Addr → Prop} {v : Value} {i : Int} (r : Rt h S v (.int i)) : ∃ t, v = .int i t := by
  cases r with
  | dat r => cases r with | int i t => exact ⟨t, rfl⟩
theorem Rt.strD {h : Heap} {S : Addr → Prop} {v : Value} {x : Str} (r : Rt h S v (.str x)) : ∃ t, v = .str x t := by
  cases r with
  | dat r => cases r with | str i t => exact ⟨t, rfl⟩
theorem Rt.boolD {h : Heap} {S : Addr → Prop} {v : Value} {x : Bool} (r : Rt h S v (.bool x)) : v = .bool x := by
  cases r with
  | dat r => cases r with | bool i => rfl
theorem Rt.noneD {h : Heap} {S : Addr → Prop} {v : Value} (r : Rt h S v .none) : v = .none := by
  cases r with
  | dat r => cases r with | none => rfl
noncomputable def Plainly (o : Obj) : Prop := (∀ es n, o.data ≠ .dict es n) ∧ ∀ v, o.data ≠ .cell v
theorem lst_plain (vs : List Value) (n : Nat) : Plainly (lstO vs n) := by constructor <;> (intros; intro q; cases q)
theorem tup_plain (vs : List Value) (n : Nat) : Plainly (tupO vs n) := by constructor <;> (intros; intro q; cases q)
noncomputable def Live (μ : List Addr) (σ : Store) (a : Addr) : Prop := ∃ (i : Nat) (ds : List PyData), μ[i]? = some a ∧ σ[i]? = some (Flag.live, ds)
structure Bs where
  hp : Heap
  Z : Addr → Prop
  hot : Bool
abbrev Bs.get? (b : Bs) (a : Addr) : Option Obj := b.hp.get? a
noncomputable def IsD (r : Option Obj) : Prop := ∃ o es n, r = some o ∧ o.data = .dict es n
theorem IsD.grow {r r' : Option Obj} (x : IsD r) (k : ∀ o, r = some o → r' = some o) : IsD r' := let ⟨o, es, n, e, d⟩ := x; ⟨o, es, n, k o e, d⟩
theorem IsD.plain {r : Option Obj} {o : Obj} (x : IsD r) (e : r = some o) (p : ∀ es n, o.data ≠ .dict es n) : False := by
  obtain ⟨o', es, n, e', d⟩ := x
  rw [e] at e'; cases e'
  exact p es n d
structure Inv (base : Bs) (S : Addr → Prop) (μ : List Addr) (σ : Store) (h : Heap) : Prop where
  keepB : ∀ b o, base.get? b = some o → h.get? b = some o
  len : μ.length = σ.length
  cells : ∀ (i : Nat) (a : Addr) (f : Flag) (ds : List PyData), μ[i]? = some a → σ[i]? = some (f, ds) → ∃ vs n, h.get? a = some (lstO vs n) ∧ RdL h S vs ds ∧ (f = Flag.frozen → S a) ∧ (f ≠ Flag.frozen → ¬ S a)
  nodup : ∀ (i j : Nat) (a : Addr), μ[i]? = some a → μ[j]? = some a → i = j
  new : ∀ a ∈ μ, base.get? a = none
  inS : ∀ a, S a → ∃ o, h.get? a = some o ∧ Plainly o
  zs : ∀ L, base.Z L → base.get? L = none ∧ IsD (h.get? L)
noncomputable def Lk (o : Obj) (r : Option Obj) : Prop := r = some o ∨ ((∃ es n, o.data = .dict es n) ∧ ∃ sl, r = some { o with slots := sl })
theorem Lk.has {o : Obj} {r : Option Obj} (x : Lk o r) : ∃ o', r = some o' := by
  rcases x with x | ⟨_, sl, x⟩
  · exact ⟨_, x⟩
  · exact ⟨_, x⟩
theorem Lk.of {o : Obj} {r : Option Obj} (x : Lk o r) (p : ∀ es n, o.data ≠ .dict es n) : r = some o := by
  rcases x with x | ⟨⟨es, n, d⟩, _⟩
  · exact x
  · exact absurd d (p es n)
theorem Lk.trans {o : Obj} {h h' : Heap} {b : Addr} (x : Lk o (h.get? b)) (y : ∀ o', h.get? b = some o' → Lk o' (h'.get? b)) : Lk o (h'.get? b) := by
  rcases x with x | ⟨⟨es, n, d⟩, sl, x⟩
  · exact y o x
  · rcases y _ x with y | ⟨_, sl', y⟩
    · exact .inr ⟨⟨es, n, d⟩, sl, y⟩
    · exact .inr ⟨⟨es, n, d⟩, sl', y⟩
noncomputable def Keep (W : Addr → Prop) (h h' : Heap) : Prop := ∀ b o, ¬ W b → h.get? b = some o → Lk o (h'.get? b)
structure Ev (base : Bs) (μ : List Addr) (S S' : Addr → Prop) (σ σ' : Store) (h h' : Heap) : Prop where
  sub : ∀ a, S a → S' a
  new : ∀ a, S' a → S a ∨ h.get? a = none ∨ Live μ σ a
  inv : Inv base S' μ σ' h'
  keep : Keep (Live μ σ) h h'
  live : ∀ a, Live μ σ' a → Live μ σ a
theorem Inv.cell {base : Bs} {S : Addr → Prop} {μ : List Addr} {σ : Store} {h : Heap} (I : Inv base S μ σ h) {i : Nat} {f : Flag} {ds : List PyData} (e : σ[i]? = some (f, ds)) : ∃ a, μ[i]? = some a := by
  have : i < μ.length := by
    rw [I.len]
    rcases Nat.lt_or_ge i σ.length with q | q
    · exact q
    · rw [List.getElem?_eq_none q] at e; cases e
  exact ⟨_, List.getElem?_eq_getElem this⟩
theorem Inv.cellS {base : Bs} {S : Addr → Prop} {μ : List Addr} {σ : Store} {h : Heap} (I : Inv base S μ σ h) {i : Nat} {a : Addr} (e : μ[i]? = some a) : ∃ f ds, σ[i]? = some (f, ds) := by
  have : i < σ.length := by
    rw [← I.len]
    rcases Nat.lt_or_ge i μ.length with q | q
    · exact q
    · rw [List.getElem?_eq_none q] at e; cases e
  exact ⟨_, _, List.getElem?_eq_getElem this⟩
theorem Live.obj {base : Bs} {S : Addr → Prop} {μ : List Addr} {σ : Store} {h : Heap} {a : Addr} (I : Inv base S μ σ h) (l : Live μ σ a) : ∃ vs n, h.get? a = some (lstO vs n) := by
  obtain ⟨i, ds, e1, e2⟩ := l
  obtain ⟨vs, n, e, _⟩ := I.cells i a _ ds e1 e2
  exact ⟨vs, n, e⟩
theorem Live.notS {base : Bs} {S : Addr → Prop} {μ : List Addr} {σ : Store} {h : Heap} {a : Addr} (I : Inv base S μ σ h) (l : Live μ σ a) : ¬ S a := by
  obtain ⟨i, ds, e1, e2⟩ := l
  obtain ⟨vs, n, e, _, _, q⟩ := I.cells i a _ ds e1 e2
  exact q (by intro x; cases x)
theorem Inv.mem {base : Bs} {S : Addr → Prop} {μ : List Addr} {σ : Store} {h : Heap} (I : Inv base S μ σ h) {a : Addr} (m : a ∈ μ) : ∃ vs n, h.get? a = some (lstO vs n) := by
  obtain ⟨i, hi, rfl⟩ := List.getElem_of_mem m
  obtain ⟨f, ds, e⟩ := I.cellS (List.getElem?_eq_getElem hi)
  obtain ⟨vs, n, e, _⟩ := I.cells i _ f ds (List.getElem?_eq_getElem hi) e
  exact ⟨vs, n, e⟩
theorem Ev.keepS {base : Bs} {μ : List Addr} {S S' : Addr → Prop} {σ σ' : Store} {h h' : Heap} (I : Inv base S μ σ h) (x : Ev base μ S S' σ σ' h h') : ∀ a o, S a → h.get? a = some o → h'.get? a = some o :=
  fun a o hs e => (x.keep a o (fun l => l.notS I hs) e).of (by
    obtain ⟨o', e', p⟩ := I.inS a hs
    rw [e] at e'; cases e'
    exact p.1)
theorem Ev.refl {base : Bs} {μ : List Addr} {S : Addr → Prop} {σ : Store} {h : Heap} (I : Inv base S μ σ h) : Ev base μ S S σ σ h h :=
  ⟨fun _ x => x, fun _ x => .inl x, I, fun _ _ _ e => .inl e, fun _ x => x⟩
theorem Ev.stays {base : Bs} {μ : List Addr} {S S' : Addr → Prop} {σ σ' : Store} {h h' : Heap} (x : Ev base μ S S' σ σ' h h') {a : Addr} {o : Obj} (e : h.get? a = some o) : ∃ o', h'.get? a = some o' := by
  by_cases l : Live μ σ a
  · obtain ⟨i, ds, e1, _⟩ := l
    obtain ⟨vs, n, q⟩ := x.inv.mem (List.mem_of_getElem? e1)
    exact ⟨_, q⟩
  · exact (x.keep a o l e).has
theorem Ev.gone {base : Bs} {μ : List Addr} {S S' : Addr → Prop} {σ σ' : Store} {h h' : Heap} (x : Ev base μ S S' σ σ' h h') {a : Addr} (e : h'.get? a = none) : h.get? a = none := by
  cases q : h.get? a with
  | none => rfl
  | some o => obtain ⟨o', q'⟩ := x.stays q; rw [q'] at e; cases e
theorem Ev.trans {base : Bs} {μ : List Addr} {S S' S'' : Addr → Prop} {σ σ' σ'' : Store} {h h' h'' : Heap} (x : Ev base μ S S' σ σ' h h') (y : Ev base μ S' S'' σ' σ'' h' h'') : Ev base μ S S'' σ σ'' h h'' where
  sub := fun a s => y.sub a (x.sub a s)
  new := fun a s => by
    rcases y.new a s with q | q | q
    · exact x.new a q
    · exact .inr (.inl (x.gone q))
    · exact .inr (.inr (x.live a q))
  inv := y.inv
  keep := fun b o hb e => (x.keep b o hb e).trans fun o' e' => y.keep b o' (fun l => hb (x.live b l)) e'
  live := fun a l => x.live a (y.live a l)
abbrev ExcCls := Nat → Addr
inductive RdA (ec : ExcCls) (h : Heap) (S : Addr → Prop) (μ : List Addr) : Value → AV → Prop
  | dat {v : Value} {d : PyData} : Rd h S v d → RdA ec h S μ v (.dat d)
  | cell {i : Nat} {a : Addr} : μ[i]? = some a → RdA ec h S μ (.ref a) (.cell i)
  | exc {a : Addr} {o : Obj} {c : Nat} : S a → h.get? a = some o → (o.cls = .ref (ec c) ∧ o.dict = Option.none ∧ ∃ vs, o.data = .fields vs) → RdA ec h S μ (.ref a) (.exc c)
inductive RdR (ec : ExcCls) (h₀ h : Heap) (S : Addr → Prop) (μ : List Addr) : Value → AV → Prop
  | old {v : Value} {av : AV} : RdA ec h S μ v av → RdR ec h₀ h S μ v av
  | fresh {a : Addr} {vs : List Value} {n : Nat} {ds : List PyData} : h.get? a = some (lstO vs n) → RdL h S vs ds → ¬ S a → h₀.get? a = none → RdR ec h₀ h S μ (.ref a) (.fresh ds)
inductive RdAs (ec : ExcCls) (h : Heap) (S : Addr → Prop) (μ : List Addr) : List Value → List AV → Prop
  | nil : RdAs ec h S μ [] []
  | cons {v : Value} {vs : List Value} {av : AV} {avs : List AV} : RdA ec h S μ v av → RdAs ec h S μ vs avs → RdAs ec h S μ (v :: vs) (av :: avs)
section
variable {ec : ExcCls} {base : Bs} {μ : List Addr} {S S' : Addr → Prop} {σ σ' : Store} {h h' h₀ : Heap}
theorem RdA.mono {μ' : List Addr} (hk : ∀ a o, S a → h.get? a = some o → h'.get? a = some o) (hs : ∀ a, S a → S' a) (hm : ∀ (i : Nat) (a : Addr), μ[i]? = some a → μ'[i]? = some a) {v : Value} {av : AV} (r : RdA ec h S μ v av) : RdA ec h' S' μ' v av := by
  cases r with
  | dat r => exact .dat (r.mono hk hs)
  | cell e => exact .cell (hm _ _ e)
  | exc s e q => exact .exc (hs _ s) (hk _ _ s e) q
theorem RdA.ev (I : Inv base S μ σ h) (x : Ev base μ S S' σ σ' h h') {v : Value} {av : AV} (r : RdA ec h S μ v av) : RdA ec h' S' μ v av := r.mono (x.keepS I) x.sub fun _ _ q => q
theorem RdAs.ev (I : Inv base S μ σ h) (x : Ev base μ S S' σ σ' h h') {vs : List Value} {avs : List AV} (r : RdAs ec h S μ vs avs) : RdAs ec h' S' μ vs avs := by
  induction vs generalizing avs with
  | nil => cases r; exact .nil
  | cons v vs ih => cases r with | cons a r => exact .cons (a.ev I x) (ih r)
theorem RdA.rt (I : Inv base S μ σ h) {v : Value} {av : AV} {d : PyData} (r : RdA ec h S μ v av) (e : rd σ av = some d) : Rt h S v d := by
  cases r with
  | dat r => cases e; exact .dat r
  | @cell i a hi =>
    simp only [rd] at e
    obtain ⟨f, ds, q⟩ := I.cellS hi
    rw [q] at e; cases e
    obtain ⟨vs, n, e1, e2, _⟩ := I.cells i a f ds hi q
    exact .lst e1 e2
  | exc _ _ _ => cases e
end
end Mine
namespace Mine
open PySem
structure Step (S S' : Addr → Prop) (h h' : Heap) : Prop where
  grow : ∀ b o, h.get? b = some o → h'.get? b = some o
  sub : ∀ a, S a → S' a
  new : ∀ a, S' a → S a ∨ h.get? a = none
  inS : ∀ a, S' a → S a ∨ ∃ o, h'.get? a = some o ∧ Plainly o
theorem Step.refl {S : Addr → Prop} {h : Heap} : Step S S h h := ⟨fun _ _ e => e, fun _ x => x, fun _ x => .inl x, fun _ x => .inl x⟩
theorem Step.grown {S : Addr → Prop} {h h' : Heap} (g : ∀ b o, h.get? b = some o → h'.get? b = some o) : Step S S h h' := ⟨g, fun _ x => x, fun _ x => .inl x, fun _ x => .inl x⟩
theorem Step.add {S : Addr → Prop} {h h' : Heap} (g : ∀ b o, h.get? b = some o → h'.get? b = some o) {a : Addr} {o : Obj} (n : h.get? a = none) (e : h'.get? a = some o) (pl : Plainly o) : Step S (fun b => S b ∨ b = a) h h' :=
  ⟨g, fun _ x => .inl x, fun b x => x.elim .inl fun q => .inr (q ▸ n), fun b x => x.elim .inl fun q => .inr ⟨o, q ▸ e, pl⟩⟩
theorem Step.ev {base : Bs} {μ : List Addr} {S S' : Addr → Prop} {σ : Store} {h h' : Heap} (I : Inv base S μ σ h) (x : Step S S' h h') : Ev base μ S S' σ σ h h' where
  sub := x.sub
  new := fun a s => (x.new a s).elim .inl fun q => .inr (.inl q)
  inv := {
    keepB := fun b o e => x.grow b o (I.keepB b o e)
    len := I.len
    cells := fun i a f ds e1 e2 => by
      obtain ⟨vs, n, e, r, q1, q2⟩ := I.cells i a f ds e1 e2
      refine ⟨vs, n, x.grow _ _ e, r.mono (fun b o _ => x.grow b o) x.sub, fun hf => x.sub _ (q1 hf), fun hf s => ?_⟩
      rcases x.new a s with s | s
      · exact q2 hf s
      · rw [e] at s; cases s
    nodup := I.nodup
    new := I.new
    inS := fun a s => (x.inS a s).elim (fun s => let ⟨o, e, q⟩ := I.inS a s; ⟨o, x.grow _ _ e, q⟩) id
    zs := fun L z => ⟨(I.zs L z).1, (I.zs L z).2.grow fun o e => x.grow L o e⟩ }
  keep := fun b o _ e => .inl (x.grow b o e)
  live := fun _ l => l
theorem Step.trans {S S' S'' : Addr → Prop} {h h' h'' : Heap} (x : Step S S' h h') (y : Step S' S'' h' h'') : Step S S'' h h'' where
  grow := fun b o e => y.grow b o (x.grow b o e)
  sub := fun a s => y.sub a (x.sub a s)
  new := fun a s => (y.new a s).elim (x.new a) fun q => .inr (by
    cases e : h.get? a with
    | none => rfl
    | some o => rw [x.grow _ _ e] at q; cases q)
  inS := fun a s => (y.inS a s).elim (fun s => (x.inS a s).elim .inl fun ⟨o, e, q⟩ => .inr ⟨o, y.grow _ _ e, q⟩) .inr
noncomputable def PPost (ec : ExcCls) (s : Shared) (S : Addr → Prop) (μ : List Addr) (r : AV) (Q : Value → Shared → Prop) : Prop :=
  ∀ v h' tk S', Step S S' s.heap h' → RdR ec s.heap h' S' μ v r → Q v { s with heap := h', toks := tk }
section
variable {ec : ExcCls} {μ : List Addr} {S : Addr → Prop} {s : Shared} {r : AV} {Q : Value → Shared → Prop}
theorem PPost.same (p : PPost ec s S μ r Q) {v : Value} (x : RdA ec s.heap S μ v r) (tk : Nat) : Q v { s with toks := tk } := p v s.heap tk S Step.refl (.old x)
theorem PPost.dat {d : PyData} (p : PPost ec s S μ (.dat d) Q) {v : Value} (x : Rd s.heap S v d) (tk : Nat) : Q v { s with toks := tk } := p.same (.dat x) tk
theorem PPost.tup {ds : List PyData} (p : PPost ec s S μ (.dat (.tuple ds)) Q) {h' : Heap} {a : Addr} {vs : List Value} {n : Nat} (g : ∀ b o, s.heap.get? b = some o → h'.get? b = some o) (hn : s.heap.get? a = none)
    (e : h'.get? a = some (tupO vs n)) (x : RdL s.heap S vs ds) (tk : Nat) : Q (.ref a) { s with heap := h', toks := tk } :=
  p _ h' tk _ (Step.add g hn e (tup_plain _ _)) (.old (.dat (.tuple (.inr rfl) e (x.mono (fun b o _ => g b o) fun _ => .inl))))
theorem PPost.lst {ds : List PyData} (p : PPost ec s S μ (.fresh ds) Q) (hS : ∀ a, S a → ∃ o, s.heap.get? a = some o) {h' : Heap} {a : Addr} {vs : List Value} {n : Nat} (g : ∀ b o, s.heap.get? b = some o → h'.get? b = some o) (hn : s.heap.get? a = none)
    (e : h'.get? a = some (lstO vs n)) (x : RdL s.heap S vs ds) (tk : Nat) : Q (.ref a) { s with heap := h', toks := tk } :=
  p _ h' tk _ (Step.grown g) (.fresh e (x.mono (fun b o _ => g b o) fun _ q => q) (fun q => by obtain ⟨o, q⟩ := hS _ q; rw [hn] at q; cases q) hn)
end
theorem fresh_none (h : Heap) : h.get? h.objs.size = none := by
  cases e : h.get? h.objs.size with
  | none => rfl
  | some o => exact absurd (Heap.lt_size e) (Nat.lt_irrefl _)
theorem push_grow (h : Heap) (o : Obj) : ∀ b o', h.get? b = some o' → (h.push o).get? b = some o' := fun _ _ e => Heap.get?_push_of_some o e
theorem noFill_tuple_mul : fillsNumberSlot (.type "tuple") "mul" = pure false :=
  fillsNumberSlot_seq (id := "tuple.__mul__") (r := some (.builtin "tuple.__rmul__")) F.slot_tuple_mul.lookup (by decide +kernel) F.slot_tuple_rmul.lookup (by decide +kernel)
theorem repeat_tuple : seqRepeat? (.type "tuple") = pure (some (.builtin "tuple.__mul__")) := by
  unfold seqRepeat?
  rw [seqSlot_of (T := "tuple") (name := "__mul__") (id := "tuple.__mul__") F.slot_tuple_mul.lookup (by decide +kernel), seqSlot_of (T := "tuple") (name := "__rmul__") (id := "tuple.__rmul__") F.slot_tuple_rmul.lookup (by decide +kernel)]
  rfl
theorem int_rmul_tuple (a : Int) (t : Tok) (l : Addr) (items : Array Value) (n : Nat) :
    Meets (Builtin.«int.__rmul__» ⟨[.int a t, .ref l], []⟩) (fun _ R s => s.heap.get? l = some { cls := .type "tuple", dict := none, data := .seq items n, slots := #[] } ∧ R (.ok (.ret Value.notImplemented)) s) :=
  .of_wp fun prog w A R s h => by obtain ⟨hp, g, d, tk, os⟩ := s; obtain ⟨hl, h⟩ := h; wp_walk; exact ⟨_, rfl, h⟩
theorem tuple_mul_same (l : Addr) (items : Array Value) (n : Nat) (x : Int) (u : Tok) (hx : ¬ (decide (x < -(2 ^ 63)) || decide (x ≥ 2 ^ 63)) = true) (h1 : (items.isEmpty || x == 1) = true) :
    Meets (Builtin.«tuple.__mul__» ⟨[.ref l, .int x u], []⟩) (fun _ R s => s.heap.get? l = some { cls := .type "tuple", dict := none, data := .seq items n, slots := #[] } ∧ R (.ok (.ret (Value.ref l))) s) :=
  .of_wp fun prog w A R s h => by
    obtain ⟨hp, g, d, tk, os⟩ := s; obtain ⟨hl, h⟩ := h
    wp_walk
    refine wpAny_ite_false (decide_eq_false hx) ?_
    wp_walk
    exact ⟨_, rfl, h⟩
theorem tuple_mul_none (l : Addr) (items : Array Value) (n : Nat) (x : Int) (u : Tok) (hx : ¬ (decide (x < -(2 ^ 63)) || decide (x ≥ 2 ^ 63)) = true) (h1 : ¬ (items.isEmpty || x == 1) = true) (h2 : (decide (x ≤ 0) || items.isEmpty) = true) :
    Meets (Builtin.«tuple.__mul__» ⟨[.ref l, .int x u], []⟩) (fun _ R s => s.heap.get? l = some { cls := .type "tuple", dict := none, data := .seq items n, slots := #[] } ∧ R (.ok (.ret (Value.ref s.heap.objs.size))) { s with heap := s.heap.push { cls := Value.type "tuple", data := Data.seq #[] } }) :=
  .of_wp fun prog w A R s h => by
    obtain ⟨hp, g, d, tk, os⟩ := s; obtain ⟨hl, h⟩ := h
    wp_walk
    refine wpAny_ite_false (decide_eq_false hx) ?_
    wp_walk
    exact ⟨_, rfl, h⟩
theorem tuple_mul_many (l : Addr) (items : Array Value) (n : Nat) (x : Int) (u : Tok) (hx : ¬ (decide (x < -(2 ^ 63)) || decide (x ≥ 2 ^ 63)) = true) (h1 : ¬ (items.isEmpty || x == 1) = true) (h2 : ¬ (decide (x ≤ 0) || items.isEmpty) = true) (h3 : ¬ (items.size * x > (2 ^ 63 - 1) / 8)) (h4 : ¬ Builtin.Tuple.tupleTooMany (items.size * x) = true) (h5 : ¬ (List.foldl (fun x1 x2 => x1 ++ x2) #[] (List.replicate x.toNat items)).size > sizeLine) :
    Meets (Builtin.«tuple.__mul__» ⟨[.ref l, .int x u], []⟩) (fun _ R s => s.heap.get? l = some { cls := .type "tuple", dict := none, data := .seq items n, slots := #[] } ∧ R (.ok (.ret (Value.ref s.heap.objs.size))) { s with heap := s.heap.push { cls := Value.type "tuple", data := Data.seq (List.foldl (fun x1 x2 => x1 ++ x2) #[] (List.replicate x.toNat items)) } }) :=
  .of_wp fun prog w A R s h => by
    obtain ⟨hp, g, d, tk, os⟩ := s; obtain ⟨hl, h⟩ := h
    wp_walk
    refine wpAny_ite_false (decide_eq_false hx) ?_
    wp_walk
    refine wpAny_ite_false (decide_eq_false h3) ?_
    wp_walk
    exact ⟨_, rfl, h⟩
theorem foldl_app {α : Type} (xs : List α) : ∀ (n : Nat) (acc : Array α), List.foldl (fun x1 x2 => x1 ++ x2) acc (List.replicate n xs.toArray) = acc ++ ((List.replicate n xs).flatten).toArray := by
  intro n
  induction n with
  | zero => intro acc; simp
  | succ n ih => intro acc; simp only [List.replicate_succ, List.foldl_cons, ih, List.flatten_cons]; simp
theorem RdL.rep {h : Heap} {S : Addr → Prop} {vs : List Value} {ds : List PyData} (r : RdL h S vs ds) (n : Nat) : RdL h S ((List.replicate n vs).flatten) ((List.replicate n ds).flatten) := by
  induction n with
  | zero => exact .nil
  | succ n ih => simp only [List.replicate_succ, List.flatten_cons]; exact r.append ih
theorem flat_len {α : Type} (n : Nat) (xs : List α) : ((List.replicate n xs).flatten).length = n * xs.length := by simp
theorem lim_eq : lim = sizeLine := by decide
section
variable {ec : ExcCls} {μ : List Addr} {S : Addr → Prop} {prog : Program} {w : World} {A : Around} {E : Value → Shared → Prop} {s : Shared} {Q : Value → Shared → Prop}
theorem intBits_of_lt {a : Int} {k : Nat} (h : a.natAbs < 2 ^ k) : Builtin.Int.intBits a ≤ k := by
  unfold Builtin.Int.intBits
  split
  · exact Nat.zero_le _
  · rename_i h0
    have : a.natAbs ≠ 0 := by simpa using h0
    have := (Nat.log2_lt this).mpr h
    omega
theorem mulOk_ok {a b : Int} (h : mulOk a b = true) : IntMulOk a b := by
  unfold mulOk at h
  simp only [Bool.or_eq_true, decide_eq_true_eq, Bool.and_eq_true] at h
  rcases h with (h | h) | h
  · exact .of_left (intBits_of_lt h)
  · exact .of_right (intBits_of_lt h)
  · exact .of_bits (Nat.le_trans (intBits_of_lt h.1) (by decide)) (Nat.le_trans (intBits_of_lt h.2) (by decide))
theorem tup_add {l b : Addr} {xs ys : List Value} {n m : Nat} {ds es : List PyData} (s1 : S l) (e1 : s.heap.get? l = some (tupO xs n)) (r1 : RdL s.heap S xs ds) (s2 : S b) (e2 : s.heap.get? b = some (tupO ys m)) (r2 : RdL s.heap S ys es)
    (hz : ds.length + es.length ≤ lim) (p : PPost ec s S μ (.dat (.tuple (ds ++ es))) Q) : wpAny (model prog w) A (binaryOp .Add (.ref l) (.ref b)) Q E s := by
  by_cases h1 : xs = []
  · subst h1
    cases r1
    refine concat_meets ⟨_, e1, rfl⟩ ⟨_, e2, rfl⟩ noFill_tuple_add seq_tuple_add F.slot_tuple_add F.entry_tuple_add (F.args_tuple_add_2 _ _) (AutoSeq1.tuple___add___tuple_tuple_0 l _ n b _ m rfl) ⟨e1, e2, ?_⟩
    exact p.dat (.tuple s2 e2 r2) s.toks
  · by_cases h2 : ys = []
    · subst h2
      cases r2
      refine concat_meets ⟨_, e1, rfl⟩ ⟨_, e2, rfl⟩ noFill_tuple_add seq_tuple_add F.slot_tuple_add F.entry_tuple_add (F.args_tuple_add_2 _ _) (AutoSeq1.tuple___add___tuple_tuple_1 l _ n b _ m (by simpa using h1) rfl) ⟨e1, e2, ?_⟩
      exact p.dat (.tuple s1 e1 (by simpa using r1)) s.toks
    · refine P.add_tuple e1 e2 (by simpa using h1) (by simpa using h2) ?_ (by rw [← lim_eq]; simpa [r1.length, r2.length] using hz)
      exact p.tup (push_grow _ _) (fresh_none _) (vs := xs ++ ys) (n := 0) (by simpa using Heap.get?_push_size s.heap (o := tupO (xs ++ ys) 0) rfl) (r1.append r2) s.toks
theorem tup_mul {l : Addr} {xs : List Value} {n : Nat} {ds : List PyData} {x : Int} {u : Tok} (s1 : S l) (e1 : s.heap.get? l = some (tupO xs n)) (r1 : RdL s.heap S xs ds) (hz : x.natAbs * ds.length ≤ 65536 ∧ x.natAbs ≤ 65536) (p : PPost ec s S μ (.dat (.tuple ((List.replicate x.toNat ds).flatten))) Q) :
    wpAny (model prog w) A (binaryOp .Mult (.ref l) (.int x u)) Q E s := by
  have hl := r1.length
  have hx : ¬ (decide (x < -(2 ^ 63)) || decide (x ≥ 2 ^ 63)) = true := by simp; omega
  have go : ∀ (v : Value) (s' : Shared), Meets (Builtin.«tuple.__mul__» ⟨[.ref l, .int x u], []⟩) (fun _ R s₀ => s₀.heap.get? l = some (tupO xs n) ∧ s₀ = s ∧ R (.ok (.ret v)) s') → Q v s' → wpAny (model prog w) A (binaryOp .Mult (.ref l) (.int x u)) Q E s := fun v s' M hq =>
    wpAny_binaryOp_repeat_ref (T := "tuple") (U := "int") (by decide) ⟨_, e1, rfl⟩ (fun s' => typeIs_int s' x u) noFill_tuple_mul F.fills_int_mul F.slot_int_rmul repeat_tuple F.slot_int_index.lookup
      (call_meets F.slot_int_rmul (typeIs_int s x u) F.entry_int_rmul (F.args_int_rmul_2 _ _) (int_rmul_tuple x u l xs.toArray n)
        ⟨e1, rfl, ⟨_, e1, rfl⟩, call_meets F.slot_tuple_mul ⟨_, e1, rfl⟩ F.entry_tuple_mul (F.args_tuple_mul_2 _ _) M ⟨e1, rfl, hq⟩⟩)
  by_cases h1 : (xs.toArray.isEmpty || x == 1) = true
  · refine go (.ref l) s (fun prog w A R s₀ h => tuple_mul_same l xs.toArray n x u hx h1 prog w A R s₀ ⟨h.1, by rw [h.2.1]; exact h.2.2⟩) ?_
    have e : (List.replicate x.toNat ds).flatten = ds := by
      rcases Bool.or_eq_true_iff.mp h1 with q | q
      · have : xs = [] := by simpa using q
        subst this
        cases r1; simp
      · rw [beq_iff_eq.mp q]; simp
    rw [e] at p
    exact p.dat (.tuple s1 e1 r1) s.toks
  · have hne : xs ≠ [] := fun q => h1 (by rw [q]; rfl)
    by_cases h2 : (decide (x ≤ 0) || xs.toArray.isEmpty) = true
    · refine go (.ref s.heap.objs.size) { s with heap := s.heap.push (tupO [] 0) } (fun prog w A R s₀ h => tuple_mul_none l xs.toArray n x u hx h1 h2 prog w A R s₀ ⟨h.1, by rw [h.2.1]; exact h.2.2⟩) ?_
      have hx0 : x.toNat = 0 := by
        have : x ≤ 0 := by
          rcases Bool.or_eq_true_iff.mp h2 with q | q
          · exact of_decide_eq_true q
          · exact absurd (by simpa using q) hne
        omega
      rw [hx0] at p
      exact p.tup (push_grow _ _) (fresh_none _) (vs := []) (n := 0) (Heap.get?_push_size s.heap rfl) .nil s.toks
    · have hb : ((xs.toArray.size : Int)) * x ≤ 65536 := by
        have h0 : 0 ≤ x := by
          have : ¬ x ≤ 0 := fun q => h2 (by rw [decide_eq_true q]; rfl)
          omega
        obtain ⟨k, rfl⟩ := Int.eq_ofNat_of_zero_le h0
        have h3 := hz.1
        rw [← hl] at h3
        rw [Int.natAbs_natCast, Nat.mul_comm] at h3
        rw [List.size_toArray, ← Int.natCast_mul]
        exact Int.ofNat_le.mpr h3
      have hsz : ((List.replicate x.toNat xs).flatten).length ≤ 65536 := by
        rw [flat_len, hl]
        exact Nat.le_trans (Nat.mul_le_mul_right _ (by omega)) hz.1
      have h4 : ¬ Builtin.Tuple.tupleTooMany (xs.toArray.size * x) = true := by
        unfold Builtin.Tuple.tupleTooMany
        rw [decide_eq_true_eq]
        have : (sizeLine : Int) = 16777216 := by decide
        omega
      have h5 : ¬ (List.foldl (fun x1 x2 => x1 ++ x2) #[] (List.replicate x.toNat xs.toArray)).size > sizeLine := by
        rw [foldl_app, Array.size_append, List.size_toArray, List.size_toArray, List.length_nil]
        have : sizeLine = 16777216 := by decide
        omega
      refine go (.ref s.heap.objs.size) { s with heap := s.heap.push (tupO ((List.replicate x.toNat xs).flatten) 0) } (fun prog w A R s₀ h => tuple_mul_many l xs.toArray n x u hx h1 h2 (by omega) h4 h5 prog w A R s₀ ⟨h.1, by rw [h.2.1, foldl_app]; simpa using h.2.2⟩) ?_
      exact p.tup (push_grow _ _) (fresh_none _) (vs := (List.replicate x.toNat xs).flatten) (n := 0) (Heap.get?_push_size s.heap rfl) (r1.rep x.toNat) s.toks
theorem add_ok (hS : ∀ a, S a → ∃ o, s.heap.get? a = some o) {dx dy : PyData} {r : AV} {x y : Value} (e : addD dx dy = some r) (rx : Rt s.heap S x dx) (ry : Rt s.heap S y dy) (p : PPost ec s S μ r Q) :
    wpAny (model prog w) A (binaryOp .Add x y) Q E s := by
  cases dx <;> first | (cases e; done) | skip
  case int a =>
    obtain ⟨b, h, e₁⟩ := bnd e
    cases intD_eq h
    cases e₁; obtain ⟨t, rfl⟩ := rx.intD; obtain ⟨u, rfl⟩ := ry.intD
    exact P.add_int (p.dat (.int _ _) _)
  case list xs =>
    obtain ⟨ys, h, e₁⟩ := bnd e
    obtain ⟨hz, e₂⟩ := gd e₁
    cases listD_eq h
    cases e₂
    obtain ⟨a, vs, n, rfl, e1, r1⟩ := rx.lstD
    obtain ⟨b, ws, m, rfl, e2, r2⟩ := ry.lstD
    refine P.add_list e1 e2 ?_ (by rw [← lim_eq]; simpa [r1.length, r2.length] using hz)
    exact p.lst hS (push_grow _ _) (fresh_none _) (vs := vs ++ ws) (n := 0) (by simpa using Heap.get?_push_size s.heap (o := lstO (vs ++ ws) 0) rfl) (r1.append r2) s.toks
  case tuple xs =>
    obtain ⟨ys, h, e₁⟩ := bnd e
    obtain ⟨hz, e₂⟩ := gd e₁
    cases tupD_eq h
    cases e₂
    obtain ⟨a, vs, n, rfl, s1, e1, r1⟩ := rx.tupD
    obtain ⟨b, ws, m, rfl, s2, e2, r2⟩ := ry.tupD
    exact tup_add s1 e1 r1 s2 e2 r2 hz p
  case str x' =>
    refine ob e fun y' h e' => og e' fun hz e'' => ?_
    cases strD_eq h
    cases e''
    obtain ⟨t, rfl⟩ := rx.strD
    obtain ⟨u, rfl⟩ := ry.strD
    refine P.add_str ?_
    by_cases h1 : (x'.length == 0) = true
    · rw [if_pos h1]
      have e1 : x' ++ y' = y' := by
        show (⟨x'.cps ++ y'.cps⟩ : Str) = y'
        rw [Array.eq_empty_of_size_eq_zero (eq_of_beq h1), Array.empty_append]
      rw [e1] at p
      exact p.dat (.str _ _) s.toks
    · rw [if_neg h1]
      by_cases h2 : (y'.length == 0) = true
      · rw [if_pos h2]
        have e1 : x' ++ y' = x' := by
          show (⟨x'.cps ++ y'.cps⟩ : Str) = x'
          rw [Array.eq_empty_of_size_eq_zero (eq_of_beq h2), Array.append_empty]
        rw [e1] at p
        exact p.dat (.str _ _) s.toks
      · rw [if_neg h2]
        exact ⟨by rw [← lim_eq]; exact Nat.le_trans (Nat.le_of_eq (Str.length_append x' y')) hz, p.dat (.str _ _) _⟩
theorem lst_mul (hS : ∀ a, S a → ∃ o, s.heap.get? a = some o) {l : Addr} {xs : List Value} {n : Nat} {ds : List PyData} {x : Int} {u : Tok} (e1 : s.heap.get? l = some (lstO xs n)) (r1 : RdL s.heap S xs ds) (hz : x.natAbs * ds.length ≤ 65536 ∧ x.natAbs ≤ 65536) (p : PPost ec s S μ (.fresh ((List.replicate x.toNat ds).flatten)) Q) :
    wpAny (model prog w) A (binaryOp .Mult (.ref l) (.int x u)) Q E s := by
  have hb : xs.toArray.size * x.toNat ≤ 65536 := by
    rw [List.size_toArray, r1.length, Nat.mul_comm]
    exact Nat.le_trans (Nat.mul_le_mul_right _ (by omega)) hz.1
  refine wpAny_binaryOp_repeat_ref (T := "list") (U := "int") (by decide) ⟨_, e1, rfl⟩ (fun s' => typeIs_int s' x u) noFill_list_mul F.fills_int_mul F.slot_int_rmul repeat_list F.slot_int_index.lookup
    (call_meets F.slot_int_rmul (typeIs_int s x u) F.entry_int_rmul (F.args_int_rmul_2 _ _) (int___rmul___int_list x u l xs.toArray n)
      ⟨e1, rfl, ⟨_, e1, rfl⟩, call_meets F.slot_list_mul ⟨_, e1, rfl⟩ F.entry_list_mul (F.args_list_mul_2 _ _)
        (AutoListH.list___mul___list_int_3 l xs.toArray n x u (by simp [Builtin.List.listFitsIndex]; omega) (by omega) (by rw [List.size_toArray] at hb; simp [Builtin.List.listTooLong, sizeLine]; omega)) ⟨e1, ?_⟩⟩)
  exact p.lst hS (push_grow _ _) (fresh_none _) (vs := (List.replicate x.toNat xs).flatten) (n := 0) (by rw [PyProof.Rows.listMul_foldl_if]; exact Heap.get?_push_size s.heap rfl) (r1.rep _) s.toks
theorem str_mul {z : Str} {t u : Tok} {x : Int} (hz : x.natAbs ≤ 65536 ∧ z.length ≤ 64) (p : PPost ec s S μ (.dat (.str (repS x.toNat z))) Q) : wpAny (model prog w) A (binaryOp .Mult (.str z t) (.int x u)) Q E s := by
  have hlen : (repS x.toNat z).length = x.toNat * z.length := by
    show (List.replicate x.toNat z.cps.toList).flatten.toArray.size = _
    rw [List.size_toArray, flat_len]; rfl
  have hb : z.length * x.toNat ≤ 64 * 65536 := Nat.mul_le_mul hz.2 (by omega)
  refine P.mul_str (by simp; omega) (fun _ _ => by
      intro q
      have : (64 : Int) < (z.length : Int) := Int.lt_of_le_of_lt (by
        refine (Int.le_ediv_iff_mul_le (by omega)).mpr ?_
        omega) q
      omega) (fun _ _ => by simp [Builtin.Str.tooLong, sizeLine]; omega) ?_
  by_cases h1 : x < 1
  · rw [if_pos h1]
    have e0 : x.toNat = 0 := by omega
    rw [e0] at p
    exact ⟨by decide, p.dat (.str _ _) _⟩
  · rw [if_neg h1]
    by_cases h2 : (x == 1 || z.length == 0) = true
    · rw [if_pos h2]
      have e1 : repS x.toNat z = z := by
        rcases Bool.or_eq_true_iff.mp h2 with q | q
        · rw [eq_of_beq q]; show (⟨(List.replicate 1 z.cps.toList).flatten.toArray⟩ : Str) = z; simp
        · have : z.cps = #[] := Array.eq_empty_of_size_eq_zero (eq_of_beq q)
          show (⟨(List.replicate x.toNat z.cps.toList).flatten.toArray⟩ : Str) = z
          obtain ⟨c⟩ := z
          cases this
          simp
      rw [e1] at p
      exact p.dat (.str _ _) s.toks
    · rw [if_neg h2]
      have e1 : (⟨(List.replicate x.toNat z.cps).foldl (· ++ ·) #[]⟩ : Str) = repS x.toNat z := by
        have := foldl_app z.cps.toList x.toNat #[]
        rw [Array.toArray_toList] at this
        show (⟨List.foldl (fun x1 x2 => x1 ++ x2) #[] (List.replicate x.toNat z.cps)⟩ : Str) = _
        rw [this, Array.empty_append]; rfl
      rw [e1]
      exact ⟨by rw [hlen, ← lim_eq, Nat.mul_comm]; exact Nat.le_trans hb (by decide), p.dat (.str _ _) _⟩
theorem mul_ok (hS : ∀ a, S a → ∃ o, s.heap.get? a = some o) {dx dy : PyData} {r : AV} {x y : Value} (e : mulD dx dy = some r) (rx : Rt s.heap S x dx) (ry : Rt s.heap S y dy) (p : PPost ec s S μ r Q) :
    wpAny (model prog w) A (binaryOp .Mult x y) Q E s := by
  cases dx <;> first | (cases e; done) | skip
  case int a =>
    obtain ⟨b, h, e₁⟩ := bnd e
    obtain ⟨hm, e₂⟩ := gd e₁
    cases intD_eq h
    cases e₂; obtain ⟨t, rfl⟩ := rx.intD; obtain ⟨u, rfl⟩ := ry.intD
    exact P.mul_int (p.dat (.int _ _) _) (mulOk_ok hm)
  case tuple xs =>
    obtain ⟨b, h, e₁⟩ := bnd e
    obtain ⟨hm, e₂⟩ := gd e₁
    cases intD_eq h
    cases e₂
    obtain ⟨a, vs, n, rfl, s1, e1, r1⟩ := rx.tupD
    obtain ⟨u, rfl⟩ := ry.intD
    exact tup_mul s1 e1 r1 hm p
  case list xs =>
    refine ob e fun b h e' => og e' fun hm e'' => ?_
    cases intD_eq h
    cases e''
    obtain ⟨a, vs, n, rfl, e1, r1⟩ := rx.lstD
    obtain ⟨u, rfl⟩ := ry.intD
    exact lst_mul hS e1 r1 hm p
  case str z =>
    refine ob e fun b h e' => og e' fun hm e'' => ?_
    cases intD_eq h
    cases e''
    obtain ⟨t, rfl⟩ := rx.strD
    obtain ⟨u, rfl⟩ := ry.intD
    exact str_mul hm p
theorem int2 {M : Value → Value → Prop} {h : Heap} {f : Int → Int → Option AV} {dx dy : PyData} {r : AV} {x y : Value} (e : intOp f dx dy = some r) (rx : Rt h S x dx) (ry : Rt h S y dy) (k : ∀ a b t u, f a b = some r → M (.int a t) (.int b u)) : M x y := by
  refine ob e fun a h1 e => ob e fun b h2 e => ?_
  cases intD_eq h1
  cases intD_eq h2
  obtain ⟨t, rfl⟩ := rx.intD
  obtain ⟨u, rfl⟩ := ry.intD
  exact k a b t u e
theorem bin_ok (hS : ∀ a, S a → ∃ o, s.heap.get? a = some o) {op : Operator} {dx dy : PyData} {r : AV} {x y : Value} (e : binD op dx dy = some r) (rx : Rt s.heap S x dx) (ry : Rt s.heap S y dy) (p : PPost ec s S μ r Q) :
    wpAny (model prog w) A (binaryOp op x y) Q E s := by
  cases op <;> first | exact nsm e | skip
  case Add => exact add_ok hS e rx ry p
  case Sub => exact int2 (M := fun x y => wpAny (model prog w) A (binaryOp .Sub x y) Q E s) e rx ry fun a b t u e => os (P := fun r => PPost ec s S μ r Q → _) e (fun p => P.sub_int (p.dat (.int _ _) _)) p
  case Mult => exact mul_ok hS e rx ry p
  case FloorDiv => exact int2 (M := fun x y => wpAny (model prog w) A (binaryOp .FloorDiv x y) Q E s) e rx ry fun a b t u e => og e fun hb e => os (P := fun r => PPost ec s S μ r Q → _) e (fun p => PyProof.Rows.floordiv_int hb.1 (p.dat (.int _ _) _) (.inl (PyProof.noPylong_small hb.2))) p
  case Mod => exact int2 (M := fun x y => wpAny (model prog w) A (binaryOp .Mod x y) Q E s) e rx ry fun a b t u e => og e fun hb e => os (P := fun r => PPost ec s S μ r Q → _) e (fun p => PyProof.Rows.mod_int hb (p.dat (.int _ _) _)) p
  case Pow => exact int2 (M := fun x y => wpAny (model prog w) A (binaryOp .Pow x y) Q E s) e rx ry fun a b t u e => og e fun hb e => os (P := fun r => PPost ec s S μ r Q → _) e (fun p => PyProof.Rows.pow_int_small hb.1 hb.2.1 hb.2.2 (p.dat (.int _ _) _)) p
theorem int2c {M : Value → Value → Prop} {h : Heap} {f : Int → Int → Bool} {dx dy : PyData} {r : Bool} {x y : Value} (e : intCmp f dx dy = some r) (rx : Rt h S x dx) (ry : Rt h S y dy) (k : ∀ a b t u, some (f a b) = some r → M (.int a t) (.int b u)) : M x y := by
  refine ob e fun a h1 e => ob e fun b h2 e => ?_
  cases intD_eq h1
  cases intD_eq h2
  obtain ⟨t, rfl⟩ := rx.intD
  obtain ⟨u, rfl⟩ := ry.intD
  exact k a b t u e
theorem in_ok {dx dy : PyData} {b : Bool} {x y : Value} (hu : A.units + 200 < cLine) (e : inD dx dy = some b) (rx : Rt s.heap S x dx) (ry : Rt s.heap S y dy) (p : ∀ tk, Q (.bool b) { s with toks := tk }) :
    wpAny (model prog w) A (compareOp .In x y) Q E s := by
  refine ob e fun z h1 e => ?_
  cases strD_eq h1
  cases dy <;> first | exact nsm e | skip
  · obtain ⟨t, rfl⟩ := rx.strD
    obtain ⟨u, rfl⟩ := ry.strD
    exact os (P := fun b => (∀ tk, Q (.bool b) { s with toks := tk }) → _) e (fun p => P.in_str (p s.toks)) p
  · obtain ⟨as, qx⟩ := rx.reads
    obtain ⟨bs, qy⟩ := ry.reads
    refine og e fun hs e => ba hs fun hs1 hs2 => ?_
    have h2 := SeqAt.depth_of_shaped hs1
    refine SeqAt.in_tuple_reads qy qx (SeqAt.canLay_of_shaped hs1) (SeqAt.canLay_of_shaped hs2) ?_ (os (P := fun b => (∀ tk, Q (.bool b) { s with toks := tk }) → Q (.bool _) s) e (fun p => p s.toks) p)
    simp only [PyData.depth, Nat.min_zero]; omega
theorem cmp_ok {op : CmpOp} {dx dy : PyData} {b : Bool} {x y : Value} (hu : A.units + 200 < cLine) (e : cmpD op dx dy = some b) (rx : Rt s.heap S x dx) (ry : Rt s.heap S y dy) (p : ∀ tk, Q (.bool b) { s with toks := tk }) :
    wpAny (model prog w) A (compareOp op x y) Q E s := by
  obtain ⟨as, qx⟩ := rx.reads
  obtain ⟨bs, qy⟩ := ry.reads
  cases op <;> first | exact nsm e | skip
  case Eq => exact og e fun hs e => ba hs fun h1 h2 => os (P := fun b => (∀ tk, Q (.bool b) { s with toks := tk }) → _) e (fun p => SeqAt.compareEq_shaped qx qy h1 h2 (Nat.lt_of_le_of_lt (Nat.add_le_add_left (by decide) _) hu) (p s.toks)) p
  case NotEq => exact og e fun hs e => ba hs fun h1 h2 => os (P := fun b => (∀ tk, Q (.bool b) { s with toks := tk }) → _) e (fun p => SeqAt.compareNe_shaped qx qy h1 h2 (Nat.lt_of_le_of_lt (Nat.add_le_add_left (by decide) _) hu) (p s.toks)) p
  case Lt => exact int2c (M := fun x y => wpAny (model prog w) A (compareOp .Lt x y) Q E s) e rx ry fun a b t u e => os (P := fun b => (∀ tk, Q (.bool b) { s with toks := tk }) → _) e (fun p => P.lt_int (p s.toks)) p
  case LtE => exact int2c (M := fun x y => wpAny (model prog w) A (compareOp .LtE x y) Q E s) e rx ry fun a b t u e => os (P := fun b => (∀ tk, Q (.bool b) { s with toks := tk }) → _) e (fun p => P.le_int (p s.toks)) p
  case Gt => exact int2c (M := fun x y => wpAny (model prog w) A (compareOp .Gt x y) Q E s) e rx ry fun a b t u e => os (P := fun b => (∀ tk, Q (.bool b) { s with toks := tk }) → _) e (fun p => P.gt_int (p s.toks)) p
  case GtE => exact int2c (M := fun x y => wpAny (model prog w) A (compareOp .GtE x y) Q E s) e rx ry fun a b t u e => os (P := fun b => (∀ tk, Q (.bool b) { s with toks := tk }) → _) e (fun p => P.ge_int (p s.toks)) p
  case In => exact in_ok hu e rx ry p
theorem idx_ok {dx dy d : PyData} {x y : Value} (e : idxD dx dy = some d) (rx : Rt s.heap S x dx) (ry : Rt s.heap S y dy) (p : ∀ v tk, Rd s.heap S v d → Q v { s with toks := tk }) :
    wpAny (model prog w) A (getItem x y) Q E s := by
  obtain ⟨i, h, e₁⟩ := bnd e
  obtain ⟨hb, e₂⟩ := gd e₁
  cases intD_eq h
  cases dx <;> first | (cases e₂; done) | skip
  case str x =>
    obtain ⟨t, rfl⟩ := rx.strD
    obtain ⟨u, rfl⟩ := ry.intD
    obtain ⟨c, hc, e₃⟩ := bnd e₂
    cases e₃
    have hlt : i.toNat < x.cps.size := (Array.getElem?_eq_some_iff.mp hc).1
    refine PyProof.Rows.getItem_str (c := c) (by simp; omega) ?_ (p _ _ (.str _ _))
    have hl : x.length = x.cps.size := rfl
    rw [seqIndex_of hb.1 (by rw [hl]; omega)]
    exact hc
  case list xs =>
    obtain ⟨a, vs, n, rfl, e1, r1⟩ := rx.lstD
    obtain ⟨u, rfl⟩ := ry.intD
    obtain ⟨v, hv, rv⟩ := r1.get e₂
    exact wpAny_getItem_list ⟨_, e1, rfl, n, rfl⟩ hb.1 (by omega) (by simpa using hv) (p v s.toks rv)
  case tuple xs =>
    obtain ⟨a, vs, n, rfl, s1, e1, r1⟩ := rx.tupD
    obtain ⟨u, rfl⟩ := ry.intD
    obtain ⟨v, hv, rv⟩ := r1.get e₂
    have hlt : (_ : Int).toNat < vs.length := (List.getElem?_eq_some_iff.mp hv).1
    exact P.getItem_tuple e1 (by omega) (by omega) (seqIndex_of hb.1 (by simp; omega)) (by simpa using hv) (p v s.toks rv)
theorem isin_ok {ty : Ty} {d : PyData} {x : Value} {T : String} (hT : T = (match ty with | .int => "int" | .bool => "bool" | .tuple => "tuple" | .list => "list" | .str => "str")) (hd : ∀ kvs, d ≠ .dict kvs) (rx : Rt s.heap S x d) (p : ∀ tk, Q (.bool (isinD ty d)) { s with toks := tk }) :
    wpAny (model prog w) A (call (.builtin "isinstance") [x, .type T]) Q E s := by
  subst hT
  cases d with
  | none =>
    obtain rfl := rx.noneD
    cases ty
    · exact IsiPair.NoneType_int (p _)
    · exact IsiPair.NoneType_bool (p _)
    · exact IsiPair.NoneType_tuple (p _)
    · exact IsiPair.NoneType_list (p _)
    · exact IsiPair.NoneType_str (p _)
  | bool b =>
    obtain rfl := rx.boolD
    cases ty
    · exact IsiPair.bool_int (p s.toks)
    · exact IsiPair.bool_bool (p s.toks)
    · exact IsiPair.bool_tuple (p _)
    · exact IsiPair.bool_list (p _)
    · exact IsiPair.bool_str (p _)
  | int b =>
    obtain ⟨t, rfl⟩ := rx.intD
    cases ty
    · exact IsiPair.int_int (p s.toks)
    · exact IsiPair.int_bool (p _)
    · exact IsiPair.int_tuple (p _)
    · exact IsiPair.int_list (p _)
    · exact IsiPair.int_str (p _)
  | str b =>
    obtain ⟨t, rfl⟩ := rx.strD
    cases ty
    · exact IsiPair.str_int (p _)
    · exact IsiPair.str_bool (p _)
    · exact IsiPair.str_tuple (p _)
    · exact IsiPair.str_list (p _)
    · exact IsiPair.str_str (p s.toks)
  | list ds =>
    obtain ⟨a, vs, n, rfl, e, _⟩ := rx.lstD
    cases ty
    · exact IsiPair.list_int e rfl (p _)
    · exact IsiPair.list_bool e rfl (p _)
    · exact IsiPair.list_tuple e rfl (p _)
    · exact IsiPair.list_list e rfl (p s.toks)
    · exact IsiPair.list_str e rfl (p _)
  | tuple ds =>
    obtain ⟨a, vs, n, rfl, _, e, _⟩ := rx.tupD
    cases ty
    · exact IsiPair.tuple_int e rfl (p _)
    · exact IsiPair.tuple_bool e rfl (p _)
    · exact IsiPair.tuple_tuple e rfl (p s.toks)
    · exact IsiPair.tuple_list e rfl (p _)
    · exact IsiPair.tuple_str e rfl (p _)
  | dict kvs => exact absurd rfl (hd kvs)
theorem boolsD_ok : ∀ {ds : List PyData} {bs : List Bool} {h : Heap} {vs : List Value}, boolsD ds = some bs → RdL h S vs ds → vs = bs.map .bool
  | [], bs, h, vs, e, r => by cases e; cases r; rfl
  | d :: ds, bs, h, vs, e, r => by
    cases r with
    | cons x r =>
      cases d with
      | bool b =>
        simp only [boolsD] at e
        cases q : boolsD ds with
        | none => rw [q] at e; cases e
        | some cs => rw [q] at e; cases e; cases x; rw [boolsD_ok q r]; rfl
      | _ => cases e
theorem iter_lst {l : Addr} {vs : List Value} {n : Nat} {Q : Value → Shared → Prop} (e : s.heap.get? l = some (lstO vs n))
    (h : ∀ s₂ : Shared, s₂ = { s with heap := s.heap.push { cls := .type "list_iterator", data := .fields #[.ref l, .int 0 0] } } →
      (s₂.heap.IsListIter s.heap.objs.size l 0 ∧ s₂.heap.IsList l vs.toArray) → (∀ b ∈ [s.heap.objs.size, l], b < s₂.heap.objs.size) → l ≠ s.heap.objs.size → Q (.ref s.heap.objs.size) s₂) :
    wpAny (model prog w) A (pyIter (.ref l)) Q E s := by
  have hl : s.heap.IsList l vs.toArray := ⟨_, e, rfl, n, rfl⟩
  have hlt : l < s.heap.objs.size := Heap.lt_size e
  refine wpAny_pyIter_list hl (h _ rfl ⟨⟨_, Heap.get?_push_size _ rfl, rfl, rfl⟩, hl.push _⟩ (fun b hb => ?_) (Nat.ne_of_lt hlt))
  show b < (s.heap.push _).objs.size
  rw [Heap.size_push]
  simp only [List.mem_cons, List.not_mem_nil, or_false] at hb
  rcases hb with rfl | rfl
  · exact Nat.lt_succ_self _
  · exact Nat.lt_succ_of_lt hlt
theorem kept_iter {l : Addr} {h' : Heap} {o : Obj} (hk : ∀ b o', b ∉ [s.heap.objs.size] → (s.heap.push o).get? b = some o' → h'.get? b = some o') : ∀ b o', s.heap.get? b = some o' → h'.get? b = some o' := fun b o' e => by
  refine hk b o' (fun hm => ?_) (Heap.get?_push_of_some _ e)
  simp only [List.mem_cons, List.not_mem_nil, or_false] at hm
  subst hm
  rw [fresh_none] at e; cases e
theorem truth_bools (bs : List Bool) : TruthOf prog w A (fun i v => ((bs.map Value.bool).toArray)[i]? = some v) (fun i => (bs[i]?).getD true) := by
  intro i v s Q E hv hq
  have : ∃ b, bs[i]? = some b ∧ v = .bool b := by
    simp only [List.getElem?_toArray, List.getElem?_map] at hv
    cases q : bs[i]? with
    | none => rw [q] at hv; cases hv
    | some b => rw [q] at hv; exact ⟨b, rfl, (Option.some.inj hv).symm⟩
  obtain ⟨b, e, rfl⟩ := this
  refine wpAny_truthy_bool ?_
  simpa only [e, Option.getD_some] using hq
theorem all_range_bools (bs : List Bool) : (List.range bs.length).all (fun i => (bs[i]?).getD true) = bs.all id := by
  rw [Bool.eq_iff_iff]
  simp only [List.all_eq_true, List.mem_range, id]
  constructor
  · intro h b hb
    obtain ⟨i, hi, rfl⟩ := List.getElem_of_mem hb
    simpa [List.getElem?_eq_getElem hi] using h i hi
  · intro h i hi
    rw [List.getElem?_eq_getElem hi]
    exact h _ (List.getElem_mem hi)
theorem all_ok (hh : A.handled = none) {ds : List PyData} {bs : List Bool} {x : Value} (e : boolsD ds = some bs) (rx : Rt s.heap S x (.list ds)) (p : PPost ec s S μ (.dat (.bool (bs.all id))) Q) : wpAny (model prog w) A (call (.builtin "all") [x]) Q E s := by
  obtain ⟨a, vs, n, rfl, e1, r1⟩ := rx.lstD
  obtain rfl := boolsD_ok e r1
  refine call_all_walk (iter_lst e1 fun s₂ es st _ hne => ?_)
  subst es
  refine ⟨_, _, _, _, _, _, _, rfl, Walks.list (A := A.in1) hh _ a hne _, st, truth_bools bs, fun h' tk hk => ?_⟩
  rw [show (bs.map Value.bool).toArray.size = bs.length by simp, all_range_bools]
  exact p _ h' tk S (.grown (kept_iter (l := a) hk)) (.old (.dat (.bool _)))
theorem tuple_ok {ds : List PyData} {d : PyData} {x : Value} (e : seqD d = some ds) (hz : ds.length ≤ lim) (rx : Rt s.heap S x d) (p : PPost ec s S μ (.dat (.tuple ds)) Q) : wpAny (model prog w) A (call (.type "tuple") [x]) Q E s := by
  cases d with
  | tuple xs =>
    cases e
    obtain ⟨a, vs, n, rfl, s1, e1, r1⟩ := rx.tupD
    exact call_tuple_same ⟨_, e1, rfl, n, rfl⟩ (p.dat (.tuple s1 e1 r1) s.toks)
  | list xs =>
    cases e
    obtain ⟨a, vs, n, rfl, e1, r1⟩ := rx.lstD
    refine call_tuple_list ⟨_, e1, rfl, n, rfl⟩ (fun h' hk => ?_) (by rw [← lim_eq]; simpa [r1.length] using hz)
    refine p.tup (fun b o q => Heap.get?_push_of_some _ (hk b o q)) ?_ (Heap.get?_push_size h' (o := tupO vs 0) rfl) r1 s.toks
    cases q : s.heap.get? h'.objs.size with
    | none => rfl
    | some o => have := hk _ _ q; rw [fresh_none] at this; cases this
  | _ => cases e
theorem list_ok (hS : ∀ a, S a → ∃ o, s.heap.get? a = some o) {ds : List PyData} {d : PyData} {x : Value} (e : seqD d = some ds) (hz : ds.length ≤ lim) (rx : Rt s.heap S x d) (p : PPost ec s S μ (.fresh ds) Q) : wpAny (model prog w) A (call (.type "list") [x]) Q E s := by
  cases d with
  | tuple xs =>
    cases e
    obtain ⟨a, vs, n, rfl, s1, e1, r1⟩ := rx.tupD
    exact call_list_seq a (.inr rfl) e1 rfl rfl (fun h' c' hk hq => p.lst hS hk (fresh_none _) hq r1 s.toks) (by rw [← lim_eq]; simpa [r1.length] using hz)
  | list xs =>
    cases e
    obtain ⟨a, vs, n, rfl, e1, r1⟩ := rx.lstD
    exact call_list_seq a (.inl rfl) e1 rfl rfl (fun h' c' hk hq => p.lst hS hk (fresh_none _) hq r1 s.toks) (by rw [← lim_eq]; simpa [r1.length] using hz)
  | _ => cases e
inductive RtL (h : Heap) (S : Addr → Prop) : List Value → List PyData → Prop
  | nil : RtL h S [] []
  | cons {v : Value} {vs : List Value} {d : PyData} {ds : List PyData} : Rt h S v d → RtL h S vs ds → RtL h S (v :: vs) (d :: ds)
noncomputable def primF : Prim → Value
  | .len => .builtin "len"
  | .all => .builtin "all"
  | .any => .builtin "any"
  | .sum => .builtin "sum"
  | .tuple => .type "tuple"
  | .list => .type "list"
  | .int => .type "int"
  | .max => .builtin "max"
  | .join => .none
theorem one_v {M : List Value → Prop} {h : Heap} {vs : List Value} {ds : List PyData} {d : PyData} (e : one ds = some d) (rx : RtL h S vs ds) (k : ∀ x, Rt h S x d → M [x]) : M vs := by
  cases one_eq e
  cases rx with
  | cons x rx => cases rx with
    | nil => exact k _ x
theorem lim_63 {k : Nat} (h : k ≤ lim) : (k : Int) < 2 ^ 63 := by unfold lim at h; omega
theorem len_ok {d : PyData} {r : AV} {x : Value} (e : lenD d = some r) (rd : Rt s.heap S x d) (p : PPost ec s S μ r Q) : wpAny (model prog w) A (call (.builtin "len") [x]) Q E s := by
  cases d <;> first | exact nsm e | skip
  case str x =>
    obtain ⟨t, rfl⟩ := rd.strD
    exact og e fun hz e => os (P := fun r => PPost ec s S μ r Q → _) e (fun p => PyProof.Rows.len_str (Int.not_le.mpr (lim_63 hz)) (p.dat (.int _ _) _)) p
  case list xs =>
    obtain ⟨a, us, n, rfl, e1, r1⟩ := rd.lstD
    refine og e fun hz e => os (P := fun r => PPost ec s S μ r Q → _) e (fun p => Calls.call_len_list ⟨_, e1, rfl, n, rfl⟩ (by rw [List.size_toArray, r1.length]; exact lim_63 hz) ?_) p
    rw [List.size_toArray, r1.length]
    exact p.dat (.int _ _) _
  case tuple xs =>
    obtain ⟨a, us, n, rfl, s1, e1, r1⟩ := rd.tupD
    refine og e fun hz e => os (P := fun r => PPost ec s S μ r Q → _) e (fun p => P.len_tuple e1 (by rw [List.size_toArray, r1.length]; exact Int.not_le.mpr (lim_63 hz)) ?_) p
    rw [List.size_toArray, r1.length]
    exact p.dat (.int _ _) _
theorem prim_ok (hh : A.handled = none) (hS : ∀ a, S a → ∃ o, s.heap.get? a = some o) {q : Prim} {ds : List PyData} {r : AV} {vs : List Value} (hq : q ≠ .join) (e : primD q ds = some r) (rx : RtL s.heap S vs ds) (p : PPost ec s S μ r Q) :
    wpAny (model prog w) A (call (primF q) vs) Q E s := by
  cases q with
  | join => exact absurd rfl hq
  | len => exact ob e fun d h1 e => one_v (M := fun vs => wpAny (model prog w) A (call (.builtin "len") vs) Q E s) h1 rx fun x rd => len_ok e rd p
  | all => exact ob e fun d h1 e => ob e fun xs h2 e => ob e fun bs hb e => one_v (M := fun vs => wpAny (model prog w) A (call (.builtin "all") vs) Q E s) h1 rx fun x rd => os (P := fun r => PPost ec s S μ r Q → _) e (fun p => all_ok hh hb (listD_eq h2 ▸ rd) p) p
  | any => cases e
  | sum => cases e
  | tuple => exact ob e fun d h1 e => ob e fun xs hb e => og e fun hz e => one_v (M := fun vs => wpAny (model prog w) A (call (.type "tuple") vs) Q E s) h1 rx fun x rd => os (P := fun r => PPost ec s S μ r Q → _) e (fun p => tuple_ok hb hz rd p) p
  | list => exact ob e fun d h1 e => ob e fun xs hb e => og e fun hz e => one_v (M := fun vs => wpAny (model prog w) A (call (.type "list") vs) Q E s) h1 rx fun x rd => os (P := fun r => PPost ec s S μ r Q → _) e (fun p => list_ok hS hb hz rd p) p
  | int =>
    refine ob e fun d h1 e => ob e fun b h2 e => one_v (M := fun vs => wpAny (model prog w) A (call (.type "int") vs) Q E s) h1 rx fun x rd => ?_
    obtain rfl := (boolD_eq h2 ▸ rd : Rt s.heap S x (.bool b)).boolD
    exact os (P := fun r => PPost ec s S μ r Q → _) e (fun p => call_int_bool (p.dat (.int _ _) _)) p
  | max =>
    refine ob e fun d h1 e1 => ob e1 fun a h2 e2 => ob e2 fun b h3 e3 => ?_
    cases two_eq h1
    cases rx with
    | cons x rx => cases rx with
      | cons y rx => cases rx with
        | nil =>
          obtain ⟨t, rfl⟩ := (intD_eq h2 ▸ x : Rt s.heap S _ (.int a)).intD
          obtain ⟨u, rfl⟩ := (intD_eq h3 ▸ y : Rt s.heap S _ (.int b)).intD
          refine os (P := fun r => PPost ec s S μ r Q → _) e3 (fun p => max_two_ints hh fun h' tk hk => ?_) p
          split
          · rename_i hc; have := p (.int b u) h' tk S (.grown hk) (.old (by rw [if_pos hc]; exact .dat (.int _ u))); exact this
          · rename_i hc; have := p (.int a t) h' tk S (.grown hk) (.old (by rw [if_neg hc]; exact .dat (.int _ t))); exact this
end
end Mine
namespace Mine
open PySem
structure Mv (wr S S' : Addr → Prop) (h h' : Heap) : Prop where
  keep : ∀ b o, ¬ wr b → h.get? b = some o → h'.get? b = some o
  sub : ∀ a, S a → S' a
  new : ∀ a, S' a → S a ∨ h.get? a = none
  inS : ∀ a, S' a → S a ∨ ∃ o, h'.get? a = some o ∧ Plainly o
theorem Mv.same {wr S : Addr → Prop} {h h' : Heap} (k : ∀ b o, ¬ wr b → h.get? b = some o → h'.get? b = some o) : Mv wr S S h h' := ⟨k, fun _ x => x, fun _ x => .inl x, fun _ x => .inl x⟩
noncomputable def isTupT : Expr → Bool
  | .Tuple .. => true
  | _ => false
noncomputable def isNameT : Expr → Bool
  | .Name .. => true
  | _ => false
structure Src (prog : Program) (w : World) (A : Around) (I : Addr) (fp wr : Addr → Prop) (xs : List PyData) (T : Expr → Prop) (St : Nat → Heap → Prop) (Mid : Nat → Value → Heap → Prop) (Ok : (Addr → Prop) → Heap → Prop) : Prop where
  sub : ∀ b, wr b → fp b
  frame : ∀ i h h', St i h → (∀ b o, fp b → h.get? b = some o → h'.get? b = some o) → St i h'
  alloc : ∀ i h b, St i h → fp b → ∃ o, h.get? b = some o ∧ Plainly o
  mono : ∀ (S S' : Addr → Prop) (h h' : Heap), Ok S h → (∀ a, S a → S' a) → (∀ a o, S a → h.get? a = some o → h'.get? a = some o) → Ok S' h'
  next : ∀ (i : Nat) (d : PyData) (S : Addr → Prop) (s : Shared) (Q : Option Value → Shared → Prop) (E : Value → Shared → Prop), xs[i]? = some d → St i s.heap → Ok S s.heap → (∀ a, S a → ¬ wr a) →
    (∀ v h' tk S', Mv wr S S' s.heap h' → Rd h' S' v d → Mid i v h' → Q (some v) { s with heap := h', toks := tk }) → wpAny (model prog w) A (pyNext (.ref I)) Q E s
  go : ∀ (i : Nat) (v : Value) (t : Expr) (s : Shared) (Q : Unit → Shared → Prop) (E : Value → Shared → Prop), T t → Mid i v s.heap →
    (∀ h', (∀ b o, ¬ wr b → s.heap.get? b = some o → h'.get? b = some o) → St (i + 1) h' → Q () { s with heap := h' }) → wpAny (model prog w) A (letOwnedTupleGo t (.ref I) v) Q E s
  done : ∀ (S : Addr → Prop) (s : Shared) (Q : Option Value → Shared → Prop) (E : Value → Shared → Prop), St xs.length s.heap → Ok S s.heap →
    (∀ h' tk, (∀ b o, ¬ wr b → s.heap.get? b = some o → h'.get? b = some o) → Q none { s with heap := h', toks := tk }) → wpAny (model prog w) A (pyNext (.ref I)) Q E s
  self : ∀ (i : Nat) (s : Shared) (Q : Value → Shared → Prop) (E : Value → Shared → Prop), St i s.heap → Q (.ref I) s → wpAny (model prog w) A (pyIter (.ref I)) Q E s
theorem go_name {prog : Program} {w : World} {A : Around} {E : Value → Shared → Prop} {s : Shared} {t : Expr} {it v : Value} {Q : Unit → Shared → Prop} (ht : isNameT t = true) (h : Q () s) : wpAny (model prog w) A (letOwnedTupleGo t it v) Q E s := by
  cases t <;> first | (cases ht; done) | exact wpAny_pure h
theorem go_plain {prog : Program} {w : World} {A : Around} {E : Value → Shared → Prop} {s : Shared} {t : Expr} {I : Addr} {o : Obj} {n : String} {v : Value} {Q : Unit → Shared → Prop} (ht : isNameT t = true ∨ isTupT t = true) (ho : s.heap.get? I = some o) (hc : o.cls = .type n)
    (hn : (["enumerate", "zip", "dict_itemiterator", "dict_reverseitemiterator", "odict_iterator", "itertools.zip_longest", "itertools.pairwise"].contains n) = false) (h : Q () s) :
    wpAny (model prog w) A (letOwnedTupleGo t (.ref I) v) Q E s := by
  rcases ht with ht | ht
  · exact go_name ht h
  · cases t <;> first | (cases ht; done) | skip
    unfold letOwnedTupleGo
    cases v <;> first | exact wpAny_pure h | skip
    refine wpAny_bind (wpAny_load ho ?_)
    rw [hc]
    cases o.data <;> first | exact wpAny_pure h | skip
    dsimp only
    rw [hn, Bool.false_and, if_neg Bool.false_ne_true]
    exact wpAny_pure h
section
variable {prog : Program} {w : World} {A : Around}
theorem Src.list (hh : A.handled = none) (I l : Addr) (hne : l ≠ I) (vs : List Value) (n : Nat) (xs : List PyData) :
    Src prog w A I (fun b => b = I ∨ b = l) (fun b => b = I) xs (fun t => isNameT t = true ∨ isTupT t = true)
      (fun i h => h.IsListIter I l i ∧ h.get? l = some (lstO vs n)) (fun i _ h => h.IsListIter I l (i + 1) ∧ h.get? l = some (lstO vs n)) (fun S h => RdL h S vs xs) where
  sub := fun _ hb => .inl hb
  frame := fun i h h' st hk => ⟨st.1.at fun o e => hk I o (.inl rfl) e, hk l _ (.inr rfl) st.2⟩
  alloc := fun i h b st hb => by
    rcases hb with rfl | rfl
    · obtain ⟨o, e, _, hd⟩ := st.1
      exact ⟨o, e, by constructor <;> (intros; rw [hd]; intro q; cases q)⟩
    · exact ⟨_, st.2, by constructor <;> (intros; intro q; cases q)⟩
  mono := fun S S' h h' r hs hk => r.mono hk hs
  next := fun i d S s Q E hd st r hw hQ => by
    obtain ⟨v, hv, rv⟩ := RdL.get r hd
    refine wpAny_pyNext_list_item st.1 ⟨_, st.2, rfl, n, rfl⟩ (x := v) (by simpa using hv) fun h' hit hs => ?_
    refine hQ v h' s.toks S (.same fun b o hb e => hs.extBut b o hb e) (rv.mono (fun a o ha e => hs.extBut a o (fun q => hw a ha q) e) fun _ q => q) ⟨hit, hs.extBut _ _ hne st.2⟩
  go := fun i v t s Q E ht hm hQ => by
    obtain ⟨o, ho, hc, _⟩ := id hm.1
    exact go_plain ht ho hc (by decide) (hQ s.heap (fun _ _ _ e => e) hm)
  done := fun S s Q E st r hQ =>
    wpAny_pyNext_list_end hh st.1 ⟨_, st.2, rfl, n, rfl⟩ (by simp [RdL.length r]) fun h' he => hQ h' s.toks fun b o hb e => he b o hb e
  self := fun i s Q E st hQ => wpAny_pyIter_listiter st.1 hQ
theorem Src.tuple (hh : A.handled = none) (I l : Addr) (hne : l ≠ I) (vs : List Value) (n : Nat) (xs : List PyData) :
    Src prog w A I (fun b => b = I ∨ b = l) (fun b => b = I) xs (fun t => isNameT t = true ∨ isTupT t = true)
      (fun i h => h.IsTupleIter I l i ∧ h.get? l = some (tupO vs n)) (fun i _ h => h.IsTupleIter I l (i + 1) ∧ h.get? l = some (tupO vs n)) (fun S h => RdL h S vs xs) where
  sub := fun _ hb => .inl hb
  frame := fun i h h' st hk => ⟨st.1.at fun o e => hk I o (.inl rfl) e, hk l _ (.inr rfl) st.2⟩
  alloc := fun i h b st hb => by
    rcases hb with rfl | rfl
    · obtain ⟨o, e, _, hd⟩ := st.1
      exact ⟨o, e, by constructor <;> (intros; rw [hd]; intro q; cases q)⟩
    · exact ⟨_, st.2, by constructor <;> (intros; intro q; cases q)⟩
  mono := fun S S' h h' r hs hk => r.mono hk hs
  next := fun i d S s Q E hd st r hw hQ => by
    obtain ⟨v, hv, rv⟩ := RdL.get r hd
    refine wpAny_pyNext_tuple_item st.1 ⟨_, st.2, rfl, n, rfl⟩ (x := v) (by simpa using hv) fun h' hit hs => ?_
    refine hQ v h' s.toks S (.same fun b o hb e => hs.extBut b o hb e) (rv.mono (fun a o ha e => hs.extBut a o (fun q => hw a ha q) e) fun _ q => q) ⟨hit, hs.extBut _ _ hne st.2⟩
  go := fun i v t s Q E ht hm hQ => by
    obtain ⟨o, ho, hc, _⟩ := id hm.1
    exact go_plain ht ho hc (by decide) (hQ s.heap (fun _ _ _ e => e) hm)
  done := fun S s Q E st r hQ =>
    wpAny_pyNext_tuple_end hh st.1 ⟨_, st.2, rfl, n, rfl⟩ (by simp [RdL.length r]) fun h' he => hQ h' s.toks fun b o hb e => he b o hb e
  self := fun i s Q E st hQ => wpAny_pyIter_tupleiter st.1 hQ
theorem Src.strA (hh : A.handled = none) (I : Addr) (x : Str) (t : Tok) :
    Src prog w A I (fun b => b = I) (fun b => b = I) (charsD x) (fun t => isNameT t = true ∨ isTupT t = true)
      (fun i h => h.IsStrIter I "str_ascii_iterator" x t i) (fun i _ h => h.IsStrIter I "str_ascii_iterator" x t (i + 1)) (fun _ _ => True) where
  sub := fun _ hb => hb
  frame := fun i h h' st hk => let ⟨o, ho, r⟩ := st; ⟨o, hk I o rfl ho, r⟩
  alloc := fun i h b st hb => by
    subst hb
    obtain ⟨o, e, _, hd⟩ := st
    exact ⟨o, e, by constructor <;> (intros; rw [hd]; intro q; cases q)⟩
  mono := fun _ _ _ _ _ _ _ => trivial
  next := fun i d S s Q E hd st r hw hQ => by
    have hd' : (x.cps.toList[i]?).map (fun c => PyData.str ⟨#[c]⟩) = some d := by rw [← List.getElem?_map]; exact hd
    obtain ⟨c, hc, rfl⟩ := Option.map_eq_some_iff.mp hd'
    refine wpAny_pyNext_ascii_item st (c := c) (by rw [← Array.getElem?_toList]; exact hc) fun h' hit hs => ?_
    exact hQ _ h' _ S (.same fun b o hb e => hs.extBut b o hb e) (.str _ _) hit
  go := fun i v t s Q E ht hm hQ => by
    obtain ⟨o, ho, hc, _⟩ := id hm
    exact go_plain ht ho hc (by decide) (hQ s.heap (fun _ _ _ e => e) hm)
  done := fun S s Q E st r hQ =>
    wpAny_pyNext_ascii_end hh st (by rw [← Array.getElem?_toList, List.getElem?_eq_none]; simp [charsD]) fun h' he => hQ h' s.toks fun b o hb e => he b o hb e
  self := fun i s Q E st hQ => wpAny_pyIter_striter_ascii st hQ
theorem rangeL_get {a b : Int} {i : Nat} {d : PyData} (h : (rangeL a b)[i]? = some d) : i < (b - a).toNat ∧ d = .int (a + i) := by
  unfold rangeL at h
  rw [List.getElem?_map] at h
  cases q : (List.range (b - a).toNat)[i]? with
  | none => rw [q] at h; cases h
  | some k =>
    rw [q] at h
    obtain ⟨h1, h2⟩ := List.getElem?_eq_some_iff.mp q
    simp at h1 h2
    subst h2
    exact ⟨by omega, (Option.some.inj h).symm⟩
theorem rangeL_len (a b : Int) : (rangeL a b).length = (b - a).toNat := by simp [rangeL]
theorem Src.range (hh : A.handled = none) (I : Addr) (a b : Int) :
    Src prog w A I (fun c => c = I) (fun c => c = I) (rangeL a b) (fun t => isNameT t = true)
      (fun i h => IsRangeIter h I (a + (i : Nat) * 1) ((((b - a).toNat : Nat) : Int) - (i : Nat)) 1) (fun i _ h => IsRangeIter h I (a + ((i + 1 : Nat) : Int) * 1) ((((b - a).toNat : Nat) : Int) - ((i + 1 : Nat) : Int)) 1) (fun _ _ => True) where
  sub := fun _ hb => hb
  frame := fun i h h' st hk => hk I _ rfl st
  alloc := fun i h c st hc => by
    subst hc
    exact ⟨_, st, by constructor <;> (intros; intro q; cases q)⟩
  mono := fun _ _ _ _ _ _ _ => trivial
  next := fun i d S s Q E hd st r hw hQ => by
    obtain ⟨hi, rfl⟩ := rangeL_get hd
    refine wpAny_pyNext_range_item st (by omega) fun h' hit hs => ?_
    rw [Int.mul_one] at *
    refine hQ _ h' _ S (.same fun b o hb e => hs.extBut b o hb e) (.int _ _) ?_
    have e1 : a + ((i + 1 : Nat) : Int) = a + (i : Int) + 1 := by omega
    have e2 : (((b - a).toNat : Nat) : Int) - ((i + 1 : Nat) : Int) = (((b - a).toNat : Nat) : Int) - (i : Int) - 1 := by omega
    rw [e1, e2]; exact hit
  go := fun i v t s Q E ht hm hQ => go_name ht (hQ s.heap (fun _ _ _ e => e) hm)
  done := fun S s Q E st r hQ => wpAny_pyNext_range_end hh st (by rw [rangeL_len]; omega) fun h' he => hQ h' s.toks fun b o hb e => he b o hb e
  self := fun i s Q E st hQ => wpAny_pyIter_rangeiter st hQ
end
noncomputable def itAt (k : Bool) (h : Heap) (it l : Addr) (i : Nat) : Prop := if k then h.IsListIter it l i else h.IsTupleIter it l i
noncomputable def seqO (k : Bool) (vs : List Value) (n : Nat) : Obj := if k then lstO vs n else tupO vs n
theorem itAt.ext {k : Bool} {h h' : Heap} {it l b : Addr} {i : Nat} (x : itAt k h it l i) (hs : Heap.ExtBut b h h') (hne : it ≠ b) : itAt k h' it l i := by
  cases k
  · exact Heap.IsTupleIter.extBut x hs hne
  · exact Heap.IsListIter.extBut x hs hne
theorem itAt.at {k : Bool} {h h' : Heap} {it l : Addr} {i : Nat} (x : itAt k h it l i) (hs : ∀ o, h.get? it = some o → h'.get? it = some o) : itAt k h' it l i := by
  cases k
  · exact Heap.IsTupleIter.at x hs
  · exact Heap.IsListIter.at x hs
theorem itAt.obj {k : Bool} {h : Heap} {it l : Addr} {i : Nat} (x : itAt k h it l i) : ∃ o, h.get? it = some o ∧ Plainly o := by
  cases k <;> (obtain ⟨o, e, _, hd⟩ := x; exact ⟨o, e, by constructor <;> (intros; rw [hd]; intro q; cases q)⟩)
section
variable {prog : Program} {w : World} {A : Around} {E : Value → Shared → Prop} {s : Shared}
structure ZA (z TI TO i1 i2 l1 l2 : Addr) : Prop where
  TIz : TI ≠ z
  TOz : TO ≠ z
  i1z : i1 ≠ z
  i2z : i2 ≠ z
  TITO : TI ≠ TO
  TIi1 : TI ≠ i1
  TIi2 : TI ≠ i2
  TOi1 : TO ≠ i1
  TOi2 : TO ≠ i2
  i12 : i1 ≠ i2
  l1z : l1 ≠ z
  l1TO : l1 ≠ TO
  l1i1 : l1 ≠ i1
  l1i2 : l1 ≠ i2
  l2z : l2 ≠ z
  l2TO : l2 ≠ TO
  l2i1 : l2 ≠ i1
  l2i2 : l2 ≠ i2
end
end Mine
namespace Mine
open PySem
abbrev iterO (k : Bool) (l : Addr) : Obj := { cls := .type (cond k "list_iterator" "tuple_iterator"), data := .fields #[.ref l, .int 0 0] }
section
variable {prog : Program} {w : World} {A : Around} {E : Value → Shared → Prop} {s : Shared}
theorem pyIter_k {k : Bool} {l : Addr} {vs : List Value} {n : Nat} {Q : Value → Shared → Prop} (hl : s.heap.get? l = some (seqO k vs n))
    (hQ : Q (.ref s.heap.objs.size) { s with heap := s.heap.push (iterO k l) }) : wpAny (model prog w) A (pyIter (.ref l)) Q E s := by
  cases k with
  | true => exact wpAny_pyIter_list ⟨_, hl, rfl, n, rfl⟩ hQ
  | false => exact wpAny_pyIter_tuple ⟨_, hl, rfl, n, rfl⟩ hQ
theorem itAt_new {k : Bool} {l : Addr} {h : Heap} {a : Addr} (e : h.get? a = some (iterO k l)) : itAt k h a l 0 := by
  cases k <;> exact ⟨_, e, rfl, rfl⟩
end
end Mine
namespace Mine
open PySem PySem.Calls
noncomputable def slotL : List Str → Nat → Str → Option Nat
  | [], _, _ => none
  | y :: ys, k, x => if x == y then some k else slotL ys (k + 1) x
theorem slotL_get : ∀ {V : List Str} {k i : Nat} {x : Str}, slotL V k x = some i → k ≤ i ∧ V[i - k]? = some x
  | [], _, _, _, h => by cases h
  | y :: ys, k, i, x, h => by
    unfold slotL at h
    split at h
    · rename_i q
      cases h
      exact ⟨Nat.le_refl _, by simp [beq_iff_eq.mp q]⟩
    · obtain ⟨h1, h2⟩ := slotL_get h
      refine ⟨by omega, ?_⟩
      have : i - k = (i - (k + 1)) + 1 := by omega
      rw [this]; simpa using h2
theorem slot_inj {V : List Str} {i : Nat} {x y : Str} (h1 : slotL V 0 x = some i) (h2 : slotL V 0 y = some i) : x = y := by
  have a := (slotL_get h1).2
  have b := (slotL_get h2).2
  rw [a] at b
  exact Option.some.inj b
abbrev Sc := List (Str × NameKind)
noncomputable def isVar (sc : Sc) (x : Str) : Bool := match sc.lookup x with
  | some .local => true
  | some .cell => true
  | some .free => true
  | _ => false
noncomputable def isGlob (sc : Sc) (x : Str) : Bool := match sc.lookup x with
  | some .globalImplicit => true
  | _ => false
noncomputable def okName (x : Str) : Bool := !(x == ("__debug__" : Str)) && !(x == ("__classdict__" : Str))
noncomputable def Glb (base : Bs) (x : Str) (v : Value) : Prop :=
  ∃ mg, base.hp.Ns mainGlobals mg ∧ (mg x = some v ∨ (mg x = none ∧ ∃ mb, base.hp.Ns builtinsNs mb ∧ mb x = some v))
noncomputable def Own (env : Env) (a : Addr) : Prop := a = env.locals ∨ ∃ x, env.cells.lookup x = some a
structure FrOk (base : Bs) (ec : ExcCls) (V : List Str) (S : Addr → Prop) (μ : List Addr) (env : Env) (ρ : Rho) (h : Heap) : Prop where
  kind : env.scope.kind = .function
  glob : env.globals = mainGlobals
  blt : env.builtins = builtinsNs
  ns : ∃ m, h.Ns env.locals m ∧ ∀ x i av, slotL V 0 x = some i → ρ i = some av → env.kindOf x = some .local → ∃ v, m x = some v ∧ RdA ec h S μ v av
  cell : ∀ x c, env.cells.lookup x = some c → ∃ vo, h.IsCell c vo
  val : ∀ x c i av, env.cells.lookup x = some c → slotL V 0 x = some i → ρ i = some av → (env.kindOf x = some .cell ∨ env.kindOf x = some .free) → ∃ v, h.IsCell c (some v) ∧ RdA ec h S μ v av
  has : ∀ x, env.kindOf x = some .cell ∨ env.kindOf x = some .free → ∃ c, env.cells.lookup x = some c
  apart : ∀ x y c, env.cells.lookup x = some c → env.cells.lookup y = some c → x = y
  newL : base.get? env.locals = none
  newC : ∀ x c, env.cells.lookup x = some c → base.get? c = none
section
variable {base : Bs} {ec : ExcCls} {V : List Str} {S S' : Addr → Prop} {μ : List Addr} {σ σ' : Store} {env : Env} {ρ ρ' : Rho} {h h' : Heap}
theorem IsCell.inj {c : Addr} {v u : Option Value} (x : h.IsCell c v) (y : h.IsCell c u) : v = u := by
  obtain ⟨o, e, d⟩ := x
  obtain ⟨o', e', d'⟩ := y
  rw [e] at e'; cases e'
  rw [d] at d'; exact Data.cell.inj d'
theorem Own.notList (F : FrOk base ec V S μ env ρ h) {a : Addr} (o : Own env a) {b : Obj} (e : h.get? a = some b) : ¬ Plainly b := by
  rintro ⟨p1, p2⟩
  rcases o with rfl | ⟨x, hx⟩
  · obtain ⟨m, ⟨o, es, ep, e', d, _⟩, _⟩ := F.ns
    rw [e] at e'; cases e'
    exact p1 es ep d
  · obtain ⟨vo, o, e', d⟩ := F.cell x a hx
    rw [e] at e'; cases e'
    exact p2 vo d
theorem Own.notLive (I : Inv base S μ σ h) (F : FrOk base ec V S μ env ρ h) {a : Addr} (o : Own env a) : ¬ Live μ σ a := fun l => by
  obtain ⟨vs, n, e⟩ := l.obj I
  exact o.notList F e (lst_plain vs n)
theorem Own.notMu (I : Inv base S μ σ h) (F : FrOk base ec V S μ env ρ h) {a : Addr} (o : Own env a) : a ∉ μ := fun l => by
  obtain ⟨vs, n, e⟩ := I.mem l
  exact o.notList F e (lst_plain vs n)
theorem FrOk.mono {μ' : List Addr} (F : FrOk base ec V S μ env ρ h) (hO : ∀ a o, Own env a → h.get? a = some o → Lk o (h'.get? a)) (hR : ∀ v av, RdA ec h S μ v av → RdA ec h' S' μ' v av) : FrOk base ec V S' μ' env ρ h' where
  kind := F.kind
  glob := F.glob
  blt := F.blt
  ns := by
    obtain ⟨m, hn, hv⟩ := F.ns
    have hn' : h'.Ns env.locals m := by
      obtain ⟨o, es, ep, ho, hd, r⟩ := hn
      rcases hO _ o (.inl rfl) ho with z | ⟨_, sl, z⟩
      · exact ⟨o, es, ep, z, hd, r⟩
      · exact ⟨_, es, ep, z, hd, r⟩
    refine ⟨m, hn', fun x i av h1 h2 h3 => ?_⟩
    obtain ⟨v, e, r⟩ := hv x i av h1 h2 h3
    exact ⟨v, e, hR v av r⟩
  cell := fun x c hc => by
    obtain ⟨vo, o, e, d⟩ := F.cell x c hc
    exact ⟨vo, o, (hO c o (.inr ⟨x, hc⟩) e).of (fun _ _ z => by rw [d] at z; cases z), d⟩
  val := fun x c i av h0 h1 h2 h3 => by
    obtain ⟨v, ⟨o, e, d⟩, r⟩ := F.val x c i av h0 h1 h2 h3
    exact ⟨v, ⟨o, (hO c o (.inr ⟨x, h0⟩) e).of (fun _ _ z => by rw [d] at z; cases z), d⟩, hR v av r⟩
  has := F.has
  apart := F.apart
  newL := F.newL
  newC := F.newC
theorem FrOk.ev (I : Inv base S μ σ h) (F : FrOk base ec V S μ env ρ h) (x : Ev base μ S S' σ σ' h h') : FrOk base ec V S' μ env ρ h' :=
  F.mono (fun a o ha e => x.keep a o (ha.notLive I F) e) fun _ _ r => r.ev I x
theorem FrOk.weaken (F : FrOk base ec V S μ env ρ h) (hw : ∀ i av, ρ' i = some av → ρ i = some av) : FrOk base ec V S μ env ρ' h where
  kind := F.kind
  glob := F.glob
  blt := F.blt
  ns := let ⟨m, hn, hv⟩ := F.ns; ⟨m, hn, fun x i av h1 h2 h3 => hv x i av h1 (hw i av h2) h3⟩
  cell := F.cell
  val := fun x c i av h0 h1 h2 h3 => F.val x c i av h0 h1 (hw i av h2) h3
  has := F.has
  apart := F.apart
  newL := F.newL
  newC := F.newC
end
section
variable {base : Bs} {ec : ExcCls} {V : List Str} {S S' : Addr → Prop} {μ : List Addr} {σ σ' : Store} {env : Env} {ρ ρ' : Rho} {M : Model} {A : Around} {E : Value → Shared → Prop} {s : Shared}
theorem eval_var {x : Str} {pos : Pos} {i : Nat} {av : AV} {Q : Value → Shared → Prop} (F : FrOk base ec V S μ env ρ s.heap) (hv : isVar env.scope.names x = true) (ho : okName x = true) (hx : slotL V 0 x = some i) (hi : ρ i = some av)
    (h : ∀ v, RdA ec s.heap S μ v av → Q v s) : wpAny M A (eval (.Name x pos) env) Q E s := by
  unfold okName at ho
  rw [Bool.and_eq_true, Bool.not_eq_true', Bool.not_eq_true'] at ho
  refine wpAny_Name ?_ ho.1
  unfold isVar at hv
  have hk : ∀ k, env.scope.names.lookup x = some k → env.kindOf x = some k := fun _ e => e
  split at hv
  · rename_i q
    obtain ⟨m, hn, hm⟩ := F.ns
    obtain ⟨v, e, r⟩ := hm x i av hx hi (hk _ q)
    exact wpAny_loadName_local F.kind (hk _ q) hn e (h v r)
  · rename_i q
    obtain ⟨c, hc⟩ := F.has x (.inl (hk _ q))
    obtain ⟨v, e, r⟩ := F.val x c i av hc hx hi (.inl (hk _ q))
    exact wpAny_loadName_cell F.kind (hk _ q) hc e (h v r)
  · rename_i q
    obtain ⟨c, hc⟩ := F.has x (.inr (hk _ q))
    obtain ⟨v, e, r⟩ := F.val x c i av hc hx hi (.inr (hk _ q))
    exact wpAny_loadName_free F.kind (hk _ q) hc e (h v r) ho.2
  · cases hv
theorem eval_glob {x : Str} {pos : Pos} {v : Value} {Q : Value → Shared → Prop} (F : FrOk base ec V S μ env ρ s.heap) (hb : ∀ b o, base.get? b = some o → s.heap.get? b = some o) (hv : isGlob env.scope.names x = true) (ho : okName x = true) (g : Glb base x v)
    (h : Q v s) : wpAny M A (eval (.Name x pos) env) Q E s := by
  unfold okName at ho
  rw [Bool.and_eq_true, Bool.not_eq_true', Bool.not_eq_true'] at ho
  have hk : env.kindOf x = some .globalImplicit := by
    unfold isGlob at hv
    split at hv
    · rename_i q; exact q
    · cases hv
  refine Name_function_global F.kind hk ?_ ho.1
  obtain ⟨mg, hn, hm⟩ := g
  have hn' : s.heap.Ns env.globals mg := by rw [F.glob]; exact hn.keeps hb
  rcases hm with hm | ⟨hm, mb, hnb, hmb⟩
  · exact loadGlobal_global hn' hm h
  · exact loadGlobal_builtin hn' hm (by rw [F.blt]; exact hnb.keeps hb) hmb h
theorem store_name {x : Str} {v : Value} {i : Nat} {av : AV} {Q : Unit → Shared → Prop} (I : Inv base S μ σ s.heap) (F : FrOk base ec V S μ env ρ s.heap) (hx : slotL V 0 x = some i)
    (hk : env.kindOf x = some .local ∨ env.kindOf x = some .cell) (r : RdA ec s.heap S μ v av)
    (h : ∀ h' tk c, Own env c → (env.kindOf x = some .local → c = env.locals) → Inv base S μ σ h' → FrOk base ec V S μ env (ρ.set i av) h' → (∀ b o, b ≠ c → s.heap.get? b = some o → h'.get? b = some o) → (∀ b o, s.heap.get? b = some o → ∃ o', h'.get? b = some o') → Q () { s with heap := h', toks := tk }) :
    wpAny M A (storeName env x v) Q E s := by
  have other : ∀ y j aw, slotL V 0 y = some j → (ρ.set i av) j = some aw → y ≠ x → ρ j = some aw := fun y j aw hy hj hne => by
    unfold Rho.set at hj
    split at hj
    · rename_i q; subst q; exact absurd (slot_inj hy hx) hne
    · exact hj
  have same : ∀ aw, (ρ.set i av) i = some aw → aw = av := fun aw hj => by simp [Rho.set] at hj; exact hj.symm
  have rest : ∀ a h', Own env a → Heap.SameBut a s.heap h' → (∃ o', h'.get? a = some o') → (IsD (s.heap.get? a) → IsD (h'.get? a)) → (∀ b o, b ≠ a → s.heap.get? b = some o → h'.get? b = some o) ∧ (∀ u aw, RdA ec s.heap S μ u aw → RdA ec h' S μ u aw) ∧ Inv base S μ σ h' ∧ (∀ b o, s.heap.get? b = some o → ∃ o', h'.get? b = some o') := by
    intro a h' ha hs hal hz
    have pl : ∀ b o, s.heap.get? b = some o → Plainly o → h'.get? b = some o := fun b o e p => hs.extBut b o (fun q => ha.notList F (q ▸ e) p) e
    have kS : ∀ b o, S b → s.heap.get? b = some o → h'.get? b = some o := fun b o hb e => by
      obtain ⟨o', e', p⟩ := I.inS b hb
      rw [e] at e'; cases e'
      exact pl b o e p
    have hna : base.get? a = none := by
      rcases ha with rfl | ⟨y, hy⟩
      · exact F.newL
      · exact F.newC y a hy
    refine ⟨fun b o hb e => hs.extBut b o hb e, fun u aw q => q.mono kS (fun _ x => x) fun _ _ x => x, ?_, ?_⟩
    · refine ⟨fun b o e => hs.extBut b o (fun q => by subst q; rw [hna] at e; cases e) (I.keepB b o e), I.len, fun j b f ds e1 e2 => ?_, I.nodup, I.new, fun b hb => ?_, fun L z => ⟨(I.zs L z).1, ?_⟩⟩
      · obtain ⟨vs, n, e, q, w1, w2⟩ := I.cells j b f ds e1 e2
        exact ⟨vs, n, pl b _ e (lst_plain vs n), q.mono kS fun _ x => x, w1, w2⟩
      · obtain ⟨o, e, p⟩ := I.inS b hb
        exact ⟨o, pl b o e p, p⟩
      · by_cases q : L = a
        · subst q; exact hz (I.zs L z).2
        · exact (I.zs L z).2.grow fun o e => hs.extBut L o q e
    · intro b o e
      by_cases q : b = a
      · subst q; exact hal
      · exact ⟨o, hs.extBut b o q e⟩
  rcases hk with hk | hk
  · obtain ⟨m, hn, hm⟩ := F.ns
    refine wpAny_storeName_local hk hn (fun h' hn' hs => ?_) (by rw [F.kind]; rfl)
    have hO : Own env env.locals := .inl rfl
    obtain ⟨k1, k2, k3, k4⟩ := rest _ h' hO hs (by obtain ⟨o, _, _, e, _⟩ := hn'; exact ⟨o, e⟩) (fun _ => by obtain ⟨o, es, ep, e, d, _⟩ := hn'; exact ⟨o, es, ep, e, d⟩)
    have hcl : ∀ y c, env.cells.lookup y = some c → c ≠ env.locals := fun y c hy q => by
      obtain ⟨vo, o, e, d⟩ := F.cell y c hy
      obtain ⟨o', es, ep, e', d', _⟩ := hn
      rw [q, e'] at e; cases e
      rw [d] at d'; cases d'
    refine h h' _ _ hO (fun _ => rfl) k3 ⟨F.kind, F.glob, F.blt, ⟨_, hn', fun y j aw hy hj hky => ?_⟩, fun y c hy => ?_, fun y c j aw h0 hy hj hky => ?_, F.has, F.apart, F.newL, F.newC⟩ k1 k4
    · by_cases q : y = x
      · subst q
        rw [hx] at hy; cases hy
        rw [same aw hj]
        exact ⟨v, by simp, k2 _ _ r⟩
      · obtain ⟨u, e, ru⟩ := hm y j aw hy (other y j aw hy hj q) hky
        exact ⟨u, by simp [q, e], k2 _ _ ru⟩
    · obtain ⟨vo, e⟩ := F.cell y c hy
      exact ⟨vo, e.sameBut hs (hcl y c hy)⟩
    · have q : y ≠ x := by
        rintro rfl
        rw [hk] at hky
        rcases hky with q | q <;> cases q
      obtain ⟨u, e, ru⟩ := F.val y c j aw h0 hy (other y j aw hy hj q) hky
      exact ⟨u, e.sameBut hs (hcl y c h0), k2 _ _ ru⟩
  · obtain ⟨c, hc⟩ := F.has x (.inl hk)
    obtain ⟨vo, hv⟩ := F.cell x c hc
    refine wpAny_storeName_cell F.kind hk hc hv fun h' hv' hs => ?_
    have hO : Own env c := .inr ⟨x, hc⟩
    obtain ⟨k1, k2, k3, k4⟩ := rest _ h' hO hs (by obtain ⟨o, e, _⟩ := hv'; exact ⟨o, e⟩) (fun z => by obtain ⟨o, e, d⟩ := hv; exact (z.plain e fun _ _ q => by rw [d] at q; cases q).elim)
    obtain ⟨m, hn, hm⟩ := F.ns
    have hcl : env.locals ≠ c := fun q => by
      obtain ⟨o, e, d⟩ := hv
      obtain ⟨o', es, ep, e', d', _⟩ := hn
      rw [q, e] at e'; cases e'
      rw [d] at d'; cases d'
    refine h h' _ _ hO (fun q => by rw [hk] at q; cases q) k3 ⟨F.kind, F.glob, F.blt, ⟨m, hn.sameBut hs hcl, fun y j aw hy hj hky => ?_⟩, fun y d hy => ?_, fun y d j aw h0 hy hj hky => ?_, F.has, F.apart, F.newL, F.newC⟩ k1 k4
    · have q : y ≠ x := by
        rintro rfl
        rw [hk] at hky; cases hky
      obtain ⟨u, e, ru⟩ := hm y j aw hy (other y j aw hy hj q) hky
      exact ⟨u, e, k2 _ _ ru⟩
    · by_cases q : d = c
      · subst q; exact ⟨_, hv'⟩
      · obtain ⟨uo, e⟩ := F.cell y d hy
        exact ⟨uo, e.sameBut hs q⟩
    · by_cases q : y = x
      · subst q
        rw [hc] at h0; cases h0
        rw [hx] at hy; cases hy
        rw [same aw hj]
        exact ⟨v, hv', k2 _ _ r⟩
      · obtain ⟨u, e, ru⟩ := F.val y d j aw h0 hy (other y j aw hy hj q) hky
        refine ⟨u, e.sameBut hs fun w => q ?_, k2 _ _ ru⟩
        subst w
        exact F.apart _ _ _ h0 hc
theorem store_var {x : Str} {v : Value} {i : Nat} {av : AV} {Q : Unit → Shared → Prop} (I : Inv base S μ σ s.heap) (F : FrOk base ec V S μ env ρ s.heap) (hx : slotL V 0 x = some i)
    (hk : env.kindOf x = some .local ∨ env.kindOf x = some .cell) (r : RdA ec s.heap S μ v av)
    (h : ∀ h' tk c, Own env c → (env.kindOf x = some .local → c = env.locals) → Inv base S μ σ h' → FrOk base ec V S μ env (ρ.set i av) h' → (∀ b o, b ≠ c → s.heap.get? b = some o → h'.get? b = some o) → (∀ b o, s.heap.get? b = some o → ∃ o', h'.get? b = some o') → Q () { s with heap := h', toks := tk }) :
    wpAny M A (bindName env x v) Q E s := wpAny_bindName (store_name I F hx hk r h)
end
end Mine
namespace Mine
open PySem PySem.Calls
structure Cfg where
  V : List Str
  fns : List (Str × Addr)
  excs : List (Str × Nat)
  consts : List (Str × PyData)
  cells : List Str
noncomputable def constD : Const → Option PyData
  | .none => some .none
  | .bool b => some (.bool b)
  | .int i => some (.int i)
  | .str x => some (.str x)
  | _ => none
noncomputable def primL : List (Str × Prim) := [("len", .len), ("all", .all), ("any", .any), ("sum", .sum), ("tuple", .tuple), ("list", .list), ("int", .int), ("max", .max)]
noncomputable def tyL : List (Str × Ty) := [("int", .int), ("bool", .bool), ("tuple", .tuple), ("list", .list), ("str", .str)]
noncomputable def primOf (f : Str) : Option Prim := primL.lookup f
noncomputable def tyOf (f : Str) : Option Ty := tyL.lookup f
noncomputable def tyName : Ty → String
  | .int => "int" | .bool => "bool" | .tuple => "tuple" | .list => "list" | .str => "str"
noncomputable def isOwnN (sc : Sc) (x : Str) : Bool := match sc.lookup x with
  | some .local => true
  | some .cell => true
  | _ => false
noncomputable def trL (f : Expr → Option CE) : List Expr → Option (List CE)
  | [] => some []
  | e :: es => (f e).bind fun c => (trL f es).bind fun cs => some (c :: cs)
noncomputable def nameOf : Expr → Option Str
  | .Name x _ => some x
  | _ => none
noncomputable def varOf (G : Cfg) (sc : Sc) (x : Str) : Option Nat := if isVar sc x && okName x then slotL G.V 0 x else none
noncomputable def ownOf (G : Cfg) (sc : Sc) (x : Str) : Option Nat := if isOwnN sc x && okName x then slotL G.V 0 x else none
noncomputable def ownsOf (G : Cfg) (sc : Sc) : List Expr → Option (List Nat)
  | [] => some []
  | e :: r => (nameOf e).bind fun x => (ownOf G sc x).bind fun i => (ownsOf G sc r).bind fun is => some (i :: is)
noncomputable def trT (G : Cfg) (sc : Sc) : Expr → Option Tgt
  | .Name x _ => (ownOf G sc x).bind fun i => some (.one i)
  | .Tuple es _ _ => (ownsOf G sc es).bind fun is => some (.many is)
  | _ => none
noncomputable def noSlice : Expr → Bool
  | .Slice .. => false
  | _ => true
noncomputable def noSet : Expr → Bool
  | .Set .. => false
  | _ => true
noncomputable def noStar : Expr → Bool
  | .Starred .. => false
  | _ => true
noncomputable def tgtFits : ItK → Tgt → Bool
  | .zip, .many _ => true
  | .zip, .one _ => false
  | .range1, .one _ => true
  | .range2, .one _ => true
  | .range1, .many _ => false
  | .range2, .many _ => false
  | .seq, _ => true
noncomputable def trI1 (sc : Sc) (f : Expr → Option CE) (e : Expr) : Option (ItK × List CE) := if noSet e = true then (f e).bind fun c => some (.seq, [c]) else none
noncomputable def args1 : List Expr → Option Expr
  | [] => none
  | a :: r => if r.isEmpty = true then (if noStar a = true then some a else none) else none
noncomputable def args2 : List Expr → Option (Expr × Expr)
  | [] => none
  | a :: r => (args1 r).bind fun b => if noStar a = true then some (a, b) else none
noncomputable def nameCall : Expr → Option (Str × List Expr)
  | .Call g args kws _ => if kws.isEmpty = true then (nameOf g).bind fun x => some (x, args) else none
  | _ => none
noncomputable def trIr (f : Expr → Option CE) (args : List Expr) : Option (ItK × List CE) := match args1 args with
  | some a => (f a).bind fun c => some (.range1, [c])
  | none => none
noncomputable def isG (sc : Sc) (g h : Str) : Bool := isGlob sc g && (okName g && (g == h))
noncomputable def trI (sc : Sc) (f : Expr → Option CE) (e : Expr) : Option (ItK × List CE) := match nameCall e with
  | some p => if isG sc p.1 "range" = true then trIr f p.2 else trI1 sc f e
  | none => trI1 sc f e
noncomputable def kindIs (k : Option NameKind) (j : NameKind) : Bool := match k, j with
  | some .local, .local => true
  | some .cell, .cell => true
  | some .free, .free => true
  | _, _ => false
noncomputable def scopeFits (sc : Sc) (scope : Scope) : Bool :=
  (match scope.kind with | .function => true | _ => false) &&
  scope.names.all fun p => match p.2 with
    | .cell => false
    | .local => kindIs (scope.names.lookup p.1) .local
    | .free => kindIs (sc.lookup p.1) .cell || kindIs (sc.lookup p.1) .free
    | _ => true
noncomputable def localT (sc : Sc) : Expr → Bool
  | .Name x _ => kindIs (sc.lookup x) .local
  | .Tuple es _ _ => es.all fun e => match e with | .Name x _ => kindIs (sc.lookup x) .local | _ => false
  | _ => false
noncomputable def Tgt.has : Tgt → Nat → Bool
  | .one i, j => i == j
  | .many is, j => is.contains j
noncomputable def locsIn (G : Cfg) (scope : Scope) (tg : Tgt) : Bool := scope.names.all fun p => match p.2 with
  | .local => (match slotL G.V 0 p.1 with | none => true | some i => tg.has i)
  | _ => true
noncomputable def unE : UnaryOp → CE → Option CE
  | .USub, a => some (.neg a)
  | .Not, a => some (.nott a)
  | _, _ => none
noncomputable def trCmp1 (f : Expr → Option CE) (a : CE) (op : CmpOp) : List Expr → Option CE
  | [] => none
  | r :: t => if t.isEmpty = true then (f r).bind fun b => if noSet r = true then some (.cmp op a b) else none else none
noncomputable def trCmp2 (f : Expr → Option CE) (a : CE) (o1 o2 : CmpOp) : List Expr → Option CE
  | [] => none
  | m :: t => (f m).bind fun b => match t with
    | [] => none
    | r :: t => if t.isEmpty = true then (f r).bind fun c => if noSet r = true then some (.cmp2 o1 o2 a b c) else none else none
noncomputable def trCmpR (f : Expr → Option CE) (a : CE) (op : CmpOp) (rs : List Expr) : List CmpOp → Option CE
  | [] => trCmp1 f a op rs
  | o2 :: t => if t.isEmpty = true then trCmp2 f a op o2 rs else none
noncomputable def trCmp (f : Expr → Option CE) (a : CE) (ops : List CmpOp) (rs : List Expr) : Option CE := match ops with
  | [] => none
  | op :: t => trCmpR f a op rs t
noncomputable def optE (f : Expr → Option CE) : Option Expr → Option CE
  | some x => f x
  | none => some (.const .none)
noncomputable def intOf : Const → Option Int
  | .int i => some i
  | _ => none
noncomputable def constOf : Expr → Option Const
  | .Constant c _ _ => some c
  | _ => none
noncomputable def negOf : Expr → Option Expr
  | .UnaryOp op e _ => (match op with | .USub => some e | _ => none)
  | _ => none
noncomputable def isIntE (k : Int) (e : Expr) : Bool := ((constOf e).bind intOf) == some k
noncomputable def isRevE (e : Expr) : Bool := match negOf e with
  | some e => isIntE 1 e
  | none => false
noncomputable def trSl (f : Expr → Option CE) (a : CE) (lo hi st : Option Expr) : Option CE := match st with
  | none => (optE f lo).bind fun l => (optE f hi).bind fun u => some (.slice a l u)
  | some e => if (lo.isNone && (hi.isNone && isRevE e)) = true then some (.rev a) else none
noncomputable def trSub (f : Expr → Option CE) (a : CE) (i : Expr) : Option CE := match i with
  | .Slice lo hi st _ => trSl f a lo hi st
  | i => (f i).bind fun b => some (.idx a b)
noncomputable def trIsi (G : Cfg) (sc : Sc) (a : CE) (e : Expr) : Option CE := (nameOf e).bind fun t => if (isGlob sc t && okName t) = true then (tyOf t).bind fun ty => some (.isin a ty) else none
noncomputable def trCallP (G : Cfg) (sc : Sc) (f : Expr → Option CE) (g : Str) (args : List Expr) : Option CE :=
  if (g == ("isinstance" : Str)) = true then (args2 args).bind fun p => (f p.1).bind fun a => trIsi G sc a p.2
  else (primOf g).bind fun p => (trL f args).bind fun cs => some (.prim p cs)
noncomputable def trCallN (G : Cfg) (sc : Sc) (f : Expr → Option CE) (g : Str) (args : List Expr) : Option CE :=
  if (isGlob sc g && (okName g && (args.all noStar && !args.isEmpty))) = true then
    (match slotL (G.fns.map (·.1)) 0 g with
    | some k => (trL f args).bind fun cs => some (.call k cs)
    | none => trCallP G sc f g args) else none
noncomputable def strOf (e : Expr) : Option Str := (constOf e).bind fun c => match c with
  | .str x => some x
  | _ => none
noncomputable def trPop (i : Nat) : List Expr → Option CE
  | [] => some (.pop i)
  | _ :: _ => none
noncomputable def trJoin (f : Expr → Option CE) (x : Str) (args : List Expr) : Option CE := (args1 args).bind fun a => (f a).bind fun c => some (.prim .join [.const (.str x), c])
noncomputable def trCallA (G : Cfg) (sc : Sc) (f : Expr → Option CE) (o : Expr) (m : Str) (args : List Expr) (ln : Bool) : Option CE := if ln = true then
  if (m == ("pop" : Str)) = true then (nameOf o).bind fun x => (varOf G sc x).bind fun i => trPop i args
  else if (m == ("join" : Str)) = true then (strOf o).bind fun x => trJoin f x args
  else none else none
noncomputable def trComp (G : Cfg) (sc : Sc) (f : Sc → Expr → Option CE) (elt : Expr) (g : Comprehension) (scope : Scope) : Option CE :=
  if (g.is_async == 0 && (scopeFits sc scope && localT scope.names g.target)) = true then
    (trT G scope.names g.target).bind fun tg => (trI sc (f sc) g.iter).bind fun p => (f scope.names elt).bind fun ce => (trL (f scope.names) g.ifs).bind fun cs =>
    if (tgtFits p.1 tg && locsIn G scope tg) = true then some (.comp ce tg p.1 p.2 cs) else none
  else none
noncomputable def trCall (G : Cfg) (sc : Sc) (f : Expr → Option CE) (args : List Expr) (pos : Pos) : Expr → Option CE
  | .Name g _ => trCallN G sc f g args
  | .Attribute o m ap => trCallA G sc f o m args (ap.endLine == pos.line)
  | _ => none
noncomputable def trName (G : Cfg) (sc : Sc) (x : Str) : Option CE := if isVar sc x = true then (varOf G sc x).bind fun i => some (.var i)
  else if (isGlob sc x && okName x) = true then (G.consts.lookup x).bind fun d => some (.const d) else none
noncomputable def okEs (es : List Expr) : Bool := decide (es.length ≤ 1000) && es.all noStar
noncomputable def comp1 : List Comprehension → Option Comprehension
  | [] => none
  | g :: r => if r.isEmpty = true then some g else none
noncomputable def trE (G : Cfg) : Nat → Sc → Expr → Option CE
  | 0, _, _ => none
  | n + 1, sc, e => match e with
    | .Constant c _ _ => (constD c).bind fun d => some (.const d)
    | .Name x _ => trName G sc x
    | .BinOp l op r _ => (trE G n sc l).bind fun a => (trE G n sc r).bind fun b => some (.bin op a b)
    | .UnaryOp op x _ => (trE G n sc x).bind fun a => unE op a
    | .BoolOp op vs _ => if vs.isEmpty = false then (trL (trE G n sc) vs).bind fun cs => some (.bop op cs) else none
    | .Compare l ops rs _ => (trE G n sc l).bind fun a => trCmp (trE G n sc) a ops rs
    | .IfExp t a b _ => (trE G n sc t).bind fun x => (trE G n sc a).bind fun y => (trE G n sc b).bind fun z => some (.ite x y z)
    | .Subscript v i _ => (trE G n sc v).bind fun a => trSub (trE G n sc) a i
    | .Tuple es _ _ => if okEs es = true then (trL (trE G n sc) es).bind fun cs => some (.tup cs) else none
    | .List es _ => if okEs es = true then (trL (trE G n sc) es).bind fun cs => some (.lst cs) else none
    | .Call g args kws pos => if kws.isEmpty = true then trCall G sc (trE G n sc) args pos g else none
    | .ListComp elt gens scope _ => (comp1 gens).bind fun g => trComp G sc (trE G n) elt g scope
    | _ => none
theorem e_name {e : Expr} {x : Str} {P : Expr → Prop} (h : nameOf e = some x) (k : ∀ p, P (.Name x p)) : P e := by
  cases e <;> first | exact nsm h | (cases h; exact k _)
theorem e_const {e : Expr} {x : Const} {P : Expr → Prop} (h : constOf e = some x) (k : ∀ j p, P (.Constant x j p)) : P e := by
  cases e <;> first | exact nsm h | (cases h; exact k _ _)
theorem e_neg {e a : Expr} {P : Expr → Prop} (h : negOf e = some a) (k : ∀ p, P (.UnaryOp .USub a p)) : P e := by
  cases e <;> first | exact nsm h | skip
  rename_i op _ _
  cases op <;> first | exact nsm h | (cases h; exact k _)
theorem c_int {c : Const} {i : Int} {P : Const → Prop} (h : intOf c = some i) (k : P (.int i)) : P c := by
  cases c <;> first | exact nsm h | (cases h; exact k)
theorem e_int {e : Expr} {i : Int} {P : Expr → Prop} (h : isIntE i e = true) (k : ∀ j p, P (.Constant (.int i) j p)) : P e :=
  ob (eq_of_beq h) fun c h1 h2 => e_const h1 fun j p => c_int (P := fun c => P (.Constant c j p)) h2 (k j p)
theorem e_rev {e : Expr} {P : Expr → Prop} (h : isRevE e = true) (k : ∀ j p p', P (.UnaryOp .USub (.Constant (.int 1) j p) p')) : P e := by
  unfold isRevE at h
  cases q : negOf e with
  | none => rw [q] at h; exact bft h
  | some a => rw [q] at h; exact e_neg q fun p' => e_int (P := fun a => P (.UnaryOp .USub a p')) h fun j p => k j p p'
theorem c_str {c : Const} {i : Str} {P : Const → Prop} (h : (match c with | .str x => some x | _ => none) = some i) (k : P (.str i)) : P c := by
  cases c <;> first | exact nsm h | (cases h; exact k)
theorem e_str {e : Expr} {i : Str} {P : Expr → Prop} (h : strOf e = some i) (k : ∀ j p, P (.Constant (.str i) j p)) : P e :=
  ob h fun c h1 h2 => e_const h1 fun j p => c_str (P := fun c => P (.Constant c j p)) h2 (k j p)
theorem l_one {α : Type} {r : List α} {P : List α → Prop} (h : r.isEmpty = true) (k : P []) : P r := by
  cases r with
  | nil => exact k
  | cons _ _ => exact bft h
theorem a_one {es : List Expr} {a : Expr} {P : List Expr → Prop} (h : args1 es = some a) (k : noStar a = true → P [a]) : P es := by
  cases es with
  | nil => exact nsm h
  | cons b r => exact og h fun h1 h => og h fun h2 h => l_one (P := fun r => P (b :: r)) h1 (os (P := fun a => (noStar a = true → P [a]) → P [b]) h (fun k => k h2) k)
theorem a_two {es : List Expr} {p : Expr × Expr} {P : List Expr → Prop} (h : args2 es = some p) (k : noStar p.1 = true → noStar p.2 = true → P [p.1, p.2]) : P es := by
  cases es with
  | nil => exact nsm h
  | cons b r => exact ob h fun c h1 h => og h fun h2 h => a_one (P := fun r => P (b :: r)) h1 fun h3 => os (P := fun p => (noStar p.1 = true → noStar p.2 = true → P [p.1, p.2]) → P [b, c]) h (fun k => k h2 h3) k
theorem e_call {e : Expr} {p : Str × List Expr} {P : Expr → Prop} (h : nameCall e = some p) (k : ∀ q q', P (.Call (.Name p.1 q) p.2 [] q')) : P e := by
  cases e <;> first | exact nsm h | skip
  rename_i g args kws pos
  exact og h fun h1 h => ob h fun x h2 h => l_one (P := fun kws => P (.Call g args kws pos)) h1 (e_name (P := fun g => P (.Call g args [] pos)) h2 fun q => os (P := fun p => (∀ q q', P (.Call (.Name p.1 q) p.2 [] q')) → P (.Call (.Name x q) args [] pos)) h (fun k => k q pos) k)
theorem t_inv {G : Cfg} {sc : Sc} {t : Expr} {tg : Tgt} {P : Expr → Tgt → Prop} (h : trT G sc t = some tg) (k1 : ∀ x p i, ownOf G sc x = some i → P (.Name x p) (.one i)) (k2 : ∀ es k p is, ownsOf G sc es = some is → P (.Tuple es k p) (.many is)) : P t tg := by
  cases t <;> first | exact nsm h | skip
  · exact ob h fun i h1 h => os (P := P _) h (k1 _ _ i h1)
  · exact ob h fun i h1 h => os (P := P _) h (k2 _ _ _ i h1)
theorem owns_inv {G : Cfg} {sc : Sc} {e : Expr} {r : List Expr} {is : List Nat} {P : Expr → List Nat → Prop} (h : ownsOf G sc (e :: r) = some is) (k : ∀ x p i is, ownOf G sc x = some i → ownsOf G sc r = some is → P (.Name x p) (i :: is)) : P e is :=
  ob h fun x h1 h => ob h fun i h2 h => ob h fun js h3 h => e_name (P := fun e => P e is) h1 fun p => os (P := P (.Name x p)) h (k x p i js h2 h3)
theorem var_inv {G : Cfg} {sc : Sc} {x : Str} {i : Nat} {P : Prop} (h : varOf G sc x = some i) (k : isVar sc x = true → okName x = true → slotL G.V 0 x = some i → P) : P := og h fun h1 h => ba h1 fun h2 h3 => k h2 h3 h
theorem own_inv {G : Cfg} {sc : Sc} {x : Str} {i : Nat} {P : Prop} (h : ownOf G sc x = some i) (k : isOwnN sc x = true → slotL G.V 0 x = some i → P) : P := og h fun h1 h => ba h1 fun h2 _ => k h2 h
end Mine
namespace Mine
open PySem PySem.Calls
section
variable {base : Bs} {ec : ExcCls} {S S' S'' : Addr → Prop} {μ : List Addr} {σ σ' σ'' : Store} {h h' h'' : Heap}
theorem Ev.add (I : Inv base S μ σ h) (x : Ev base μ S S' σ σ' h h') {a : Addr} {o : Obj} (hn : h.get? a = none) (e : h'.get? a = some o) (p : Plainly o) : Ev base μ S (fun b => S' b ∨ b = a) σ σ' h h' where
  sub := fun b s => .inl (x.sub b s)
  new := fun b s => s.elim (x.new b) fun q => .inr (.inl (q ▸ hn))
  inv := {
    keepB := x.inv.keepB
    len := x.inv.len
    cells := fun i b f ds e1 e2 => by
      obtain ⟨vs, n, e', r, q1, q2⟩ := x.inv.cells i b f ds e1 e2
      refine ⟨vs, n, e', r.mono (fun _ _ _ q => q) fun _ => .inl, fun hf => .inl (q1 hf), fun hf s => ?_⟩
      rcases s with s | s
      · exact q2 hf s
      · subst s
        obtain ⟨_, _, q⟩ := I.mem (List.mem_of_getElem? e1)
        rw [hn] at q; cases q
    nodup := x.inv.nodup
    new := x.inv.new
    inS := fun b s => s.elim (x.inv.inS b) fun q => ⟨o, q ▸ e, p⟩
    zs := x.inv.zs }
  keep := x.keep
  live := x.live
theorem settle_step (I : Inv base S μ σ h) (x : Ev base μ S S' σ σ' h h') {v : Value} {av : AV} (r : RdR ec h h' S' μ v av) : ∃ S'', Ev base μ S S'' σ σ' h h' ∧ RdA ec h' S'' μ v (settle av) := by
  cases r with
  | old r =>
    refine ⟨S', x, ?_⟩
    cases r with
    | dat r => exact .dat r
    | cell e => exact .cell e
    | exc s e q => exact .exc s e q
  | @fresh a vs n ds e r hs hn =>
    exact ⟨_, x.add I hn e (lst_plain _ _), .dat (.list (.inr rfl) e (r.mono (fun _ _ _ q => q) fun _ => .inl))⟩
theorem rd_settle (σ : Store) (av : AV) : rd σ (settle av) = rd σ av := by cases av <;> rfl
theorem set_at {σ : Store} {i : Nat} {q p : Flag × List PyData} (e : σ[i]? = some q) : (σ.set i p)[i]? = some p := by
  have : i < σ.length := (List.getElem?_eq_some_iff.mp e).1
  simp [this]
theorem set_ne {σ : Store} {i j : Nat} {p : Flag × List PyData} (h : i ≠ j) : (σ.set i p)[j]? = σ[j]? := by rw [List.getElem?_set, if_neg h]
theorem own_step (x : Ev base μ S S' σ σ' h h') {v : Value} {av : AV} {d : PyData} (hf : ∀ ds, av ≠ .fresh ds) (r : RdA ec h' S' μ v av) (e : own σ' av = some (d, σ'')) : ∃ S'', Ev base μ S S'' σ σ'' h h' ∧ Rd h' S'' v d ∧ ∀ a, S' a → S'' a := by
  cases r with
  | dat r => cases e; exact ⟨S', x, r, fun _ q => q⟩
  | exc _ _ _ => cases e
  | @cell i a hi =>
    simp only [own] at e
    obtain ⟨f, ds, q⟩ := x.inv.cellS hi
    rw [q] at e
    cases f with
    | locked => cases e
    | frozen =>
      cases e
      obtain ⟨vs, n, e1, e2, e3, _⟩ := x.inv.cells i a _ ds hi q
      exact ⟨S', x, .list (e3 rfl) e1 e2, fun _ q => q⟩
    | live =>
      cases e
      obtain ⟨vs, n, e1, e2, _, e3⟩ := x.inv.cells i a _ ds hi q
      refine ⟨fun b => S' b ∨ b = a, ?_, .list (.inr rfl) e1 (e2.mono (fun _ _ _ q => q) fun _ => .inl), fun _ => .inl⟩
      exact {
        sub := fun b s => .inl (x.sub b s)
        new := fun b s => s.elim (x.new b) fun w => .inr (.inr (x.live b ⟨i, ds, w ▸ hi, q⟩))
        inv := {
          keepB := x.inv.keepB
          len := by rw [List.length_set]; exact x.inv.len
          cells := fun j b f' es h1 h2 => by
            by_cases w : i = j
            · subst w
              rw [set_at q] at h2; cases h2
              rw [hi] at h1; cases h1
              exact ⟨vs, n, e1, e2.mono (fun _ _ _ q => q) fun _ => .inl, fun _ => .inr rfl, fun w => absurd rfl w⟩
            · rw [set_ne w] at h2
              obtain ⟨us, m, k1, k2, k3, k4⟩ := x.inv.cells j b f' es h1 h2
              refine ⟨us, m, k1, k2.mono (fun _ _ _ q => q) fun _ => .inl, fun z => .inl (k3 z), fun z s => s.elim (k4 z) fun y => ?_⟩
              subst y
              exact w (x.inv.nodup i j _ hi h1)
          nodup := x.inv.nodup
          new := x.inv.new
          inS := fun b s => s.elim (x.inv.inS b) fun w => ⟨_, w ▸ e1, lst_plain _ _⟩
          zs := x.inv.zs }
        keep := x.keep
        live := fun b l => by
          obtain ⟨j, es, h1, h2⟩ := l
          by_cases w : i = j
          · subst w; rw [set_at q] at h2; cases h2
          · rw [set_ne w] at h2; exact x.live b ⟨j, es, h1, h2⟩ }
theorem settle_notFresh (av : AV) : ∀ ds, settle av ≠ .fresh ds := by cases av <;> (intro ds q; cases q)
theorem Rd.sub {v : Value} {d : PyData} (r : Rd h S v d) (hs : ∀ a, S a → S' a) : Rd h S' v d := r.mono (fun _ _ _ q => q) hs
theorem RdL.sub {v : List Value} {d : List PyData} (r : RdL h S v d) (hs : ∀ a, S a → S' a) : RdL h S' v d := r.mono (fun _ _ _ q => q) hs
theorem RdA.sub {v : Value} {d : AV} (r : RdA ec h S μ v d) (hs : ∀ a, S a → S' a) : RdA ec h S' μ v d := r.mono (fun _ _ _ q => q) hs fun _ _ q => q
theorem RdAs.sub {vs : List Value} {ds : List AV} (r : RdAs ec h S μ vs ds) (hs : ∀ a, S a → S' a) : RdAs ec h S' μ vs ds := by
  induction vs generalizing ds with
  | nil => cases r; exact .nil
  | cons v vs ih => cases r with | cons a r => exact .cons (a.sub hs) (ih r)
theorem ownAll_step (x : Ev base μ S S' σ σ' h h') {vs : List Value} {avs : List AV} {ds : List PyData} (hf : ∀ av ∈ avs, ∀ ds, av ≠ .fresh ds) (r : RdAs ec h' S' μ vs avs) (e : ownAll avs σ' = some (ds, σ'')) : ∃ S'', Ev base μ S S'' σ σ'' h h' ∧ RdL h' S'' vs ds ∧ ∀ a, S' a → S'' a := by
  induction avs generalizing vs ds σ' S' with
  | nil => cases r; cases e; exact ⟨S', x, .nil, fun _ q => q⟩
  | cons av avs ih =>
    cases r with
    | cons ra r =>
      obtain ⟨⟨d, σ₁⟩, q, e₁⟩ := bnd e
      obtain ⟨⟨ds', σ₂⟩, q2, e₂⟩ := bnd e₁
      obtain ⟨rfl, rfl⟩ := pr e₂
      obtain ⟨S₁, x₁, rd₁, sub₁⟩ := own_step x (hf av (.head _)) ra q
      obtain ⟨S₂, x₂, rd₂, sub₂⟩ := ih x₁ (fun b hb => hf b (.tail _ hb)) (r.sub sub₁) q2
      exact ⟨S₂, x₂, .cons (rd₁.sub sub₂) rd₂, fun a s => sub₂ a (sub₁ a s)⟩
theorem RdR.back {v : Value} {av : AV} (x : Ev base μ S S' σ σ' h h') (r : RdR ec h' h'' S'' μ v av) : RdR ec h h'' S'' μ v av := by
  cases r with
  | old r => exact .old r
  | fresh e r s n => exact .fresh e r s (x.gone n)
end
structure AOk (base : Bs) (n : Nat) (A : Around) : Prop where
  fr : ∃ l, A.frames = some l ∧ ∀ env ∈ l, env.scope.kind ≠ .module ∧ ∃ L, env.frame = some L ∧ base.Z L
  hd : base.hot = false → A.handled = none
  dp : A.depth + n < recursionLimit
  un : A.units + 8 * n + 400 < cLine
noncomputable def ScOk (env : Env) (sc : Sc) : Prop := ∀ x, env.scope.names.lookup x = sc.lookup x ∨ (sc.lookup x = some .free ∧ env.scope.names.lookup x = some .cell)
theorem ScOk.var {env : Env} {sc : Sc} (h : ScOk env sc) (x : Str) : isVar env.scope.names x = isVar sc x := by
  unfold isVar
  rcases h x with q | ⟨q1, q2⟩
  · rw [q]
  · rw [q1, q2]
theorem ScOk.gl {env : Env} {sc : Sc} (h : ScOk env sc) (x : Str) : isGlob env.scope.names x = isGlob sc x := by
  unfold isGlob
  rcases h x with q | ⟨q1, q2⟩
  · rw [q]
  · rw [q1, q2]
noncomputable def Post (ec : ExcCls) (base : Bs) (μ : List Addr) (S : Addr → Prop) (σ σ' : Store) (s : Shared) (av : AV) (Q : Value → Shared → Prop) : Prop :=
  ∀ v h' tk S', Ev base μ S S' σ σ' s.heap h' → RdR ec s.heap h' S' μ v av → Q v { s with heap := h', toks := tk }
theorem post_prim {ec : ExcCls} {base : Bs} {μ : List Addr} {S S₂ : Addr → Prop} {σ σ₂ : Store} {s : Shared} {h₂ : Heap} {tk : Nat} {av : AV} {Q : Value → Shared → Prop} (x : Ev base μ S S₂ σ σ₂ s.heap h₂) (P : Post ec base μ S σ σ₂ s av Q) :
    PPost ec { s with heap := h₂, toks := tk } S₂ μ av Q := fun v h' tk' S' st r => P v h' tk' S' (x.trans (st.ev x.inv)) (r.back x)
noncomputable def restL : List (Str × Value) := [("isinstance", .builtin "isinstance"), ("range", .type "range"), ("zip", .type "zip"), ("ValueError", .type "ValueError")]
noncomputable def tyP (p : Str × Ty) : Str × Value := (p.1, .type (tyName p.2))
noncomputable def primP (p : Str × Prim) : Str × Value := (p.1, primF p.2)
noncomputable def bltL : List (Str × Value) := primL.map primP ++ (tyL.map tyP ++ restL)
theorem mem_lookup {α : Type} {x : Str} {c : α} : ∀ {l : List (Str × α)}, l.lookup x = some c → (x, c) ∈ l
  | [], h => nsm h
  | (y, d) :: l, h => by
    rw [List.lookup_cons] at h
    cases q : x == y with
    | true => rw [q] at h; exact os (P := fun c => (x, c) ∈ (y, d) :: l) h (eq_of_beq q ▸ .head _)
    | false => rw [q] at h; exact .tail _ (mem_lookup h)
theorem blt_ty {t : Str} {y : Ty} (h : tyOf t = some y) : (t, Value.type (tyName y)) ∈ bltL := List.mem_append_right _ (List.mem_append_left _ (List.mem_map.mpr ⟨(t, y), mem_lookup h, rfl⟩))
theorem blt_prim {t : Str} {y : Prim} (h : primOf t = some y) : (t, primF y) ∈ bltL := List.mem_append_left _ (List.mem_map.mpr ⟨(t, y), mem_lookup h, rfl⟩)
theorem blt_rest {p : Str × Value} (h : p ∈ restL) : p ∈ bltL := List.mem_append_right _ (List.mem_append_right _ h)
theorem primL_ok : ∀ p ∈ primL, p.2 ≠ .join := by decide
theorem primF_ok : ∀ {q : Prim}, q ≠ .join → (∃ id, primF q = .builtin id) ∨ ∃ T, primF q = .type T
  | .len, _ => .inl ⟨_, rfl⟩
  | .all, _ => .inl ⟨_, rfl⟩
  | .any, _ => .inl ⟨_, rfl⟩
  | .sum, _ => .inl ⟨_, rfl⟩
  | .tuple, _ => .inr ⟨_, rfl⟩
  | .list, _ => .inr ⟨_, rfl⟩
  | .int, _ => .inr ⟨_, rfl⟩
  | .max, _ => .inl ⟨_, rfl⟩
  | .join, h => absurd rfl h
structure Wd (base : Bs) (ec : ExcCls) (G : Cfg) : Prop where
  cold : base.hot = false
  fn : ∀ (k : Nat) f a, G.fns[k]? = some (f, a) → Glb base f (.ref a) ∧ ∃ o fd, base.get? a = some o ∧ o.data = .func fd
  blt : ∀ f v, (f, v) ∈ bltL → Glb base f v
  cst : ∀ x d, G.consts.lookup x = some d → ∃ v, Glb base x v ∧ ∀ h S, Rd h S v d
  exc : ∀ x c, G.excs.lookup x = some c → Glb base x (.ref (ec c))
noncomputable def FnOk (prog : Program) (w : World) (base : Bs) (ec : ExcCls) (n : Nat) (a : Addr) (g : List AV → Store → Option (CR × Store)) : Prop :=
  ∀ (A : Around) (S : Addr → Prop) (μ : List Addr) (σ σ' : Store) (s : Shared) (vals : List Value) (args : List AV) (r : AV) (Q : Value → Shared → Prop) (E : Value → Shared → Prop),
    AOk base n A → Inv base S μ σ s.heap → RdAs ec s.heap S μ vals args → g args σ = some (.ret r, σ') → Post ec base μ S σ σ' s r Q → wpAny (model prog w) A (call (.ref a) vals) Q E s
noncomputable def PhiOk (prog : Program) (w : World) (base : Bs) (ec : ExcCls) (G : Cfg) (n : Nat) (Φ : Phi) : Prop := ∀ (k : Nat) f a, G.fns[k]? = some (f, a) → FnOk prog w base ec n a (Φ k)
section
variable (prog : Program) (w : World) (base : Bs) (ec : ExcCls) (G : Cfg) (n : Nat) (Φ : Phi)
noncomputable def SE (sc : Sc) (e : Expr) (c : CE) : Prop :=
  ∀ (A : Around) (env : Env) (ρ : Rho) (σ σ' : Store) (av : AV) (S : Addr → Prop) (μ : List Addr) (s : Shared) (Q : Value → Shared → Prop) (E : Value → Shared → Prop),
    AOk base n A → ScOk env sc → Inv base S μ σ s.heap → FrOk base ec G.V S μ env ρ s.heap → evE Φ c ρ σ = some (av, σ') → Post ec base μ S σ σ' s av Q → wpAny (model prog w) A (eval e env) Q E s
noncomputable def ST (sc : Sc) (e : Expr) (c : CE) : Prop :=
  ∀ (A : Around) (env : Env) (ρ : Rho) (σ σ' : Store) (av : AV) (b : Bool) (S : Addr → Prop) (μ : List Addr) (s : Shared) (Q : Bool → Shared → Prop) (E : Value → Shared → Prop),
    AOk base n A → ScOk env sc → Inv base S μ σ s.heap → FrOk base ec G.V S μ env ρ s.heap → evE Φ c ρ σ = some (av, σ') → boolA av = some b →
    (∀ h' tk S', Ev base μ S S' σ σ' s.heap h' → Q b { s with heap := h', toks := tk }) → wpAny (model prog w) A (isTrue e env (eval e env)) Q E s
inductive SEs (sc : Sc) : List Expr → List CE → Prop
  | nil : SEs sc [] []
  | cons {e : Expr} {es : List Expr} {c : CE} {cs : List CE} : noStar e = true → SE prog w base ec G n Φ sc e c → SEs sc es cs → SEs sc (e :: es) (c :: cs)
end
section
variable {prog : Program} {w : World} {base : Bs} {ec : ExcCls} {G : Cfg} {n : Nat} {Φ : Phi} {sc : Sc} {A : Around} {env : Env} {ρ : Rho} {σ σ' σ₁ σ₂ : Store} {S : Addr → Prop} {μ : List Addr} {s : Shared} {E : Value → Shared → Prop}
theorem seq1 {e : Expr} {c : CE} {x : AV} {R : Value → Shared → Prop} (H : SE prog w base ec G n Φ sc e c) (hA : AOk base n A) (hs : ScOk env sc) (I : Inv base S μ σ s.heap) (F : FrOk base ec G.V S μ env ρ s.heap) (q : evE Φ c ρ σ = some (x, σ₁))
    (h : ∀ v h' tk S', Ev base μ S S' σ σ₁ s.heap h' → RdA ec h' S' μ v (settle x) → FrOk base ec G.V S' μ env ρ h' → R v { s with heap := h', toks := tk }) : wpAny (model prog w) A (eval e env) R E s :=
  H A env ρ σ σ₁ x S μ s R E hA hs I F q fun v h' tk S' x r => by
    obtain ⟨S'', x', r'⟩ := settle_step I x r
    exact h v h' tk S'' x' r' (F.ev I x')
theorem seq2 {e₁ e₂ : Expr} {c₁ c₂ : CE} {x y : AV} {R : Value → Value → Shared → Prop} (H₁ : SE prog w base ec G n Φ sc e₁ c₁) (H₂ : SE prog w base ec G n Φ sc e₂ c₂) (hA : AOk base n A) (hs : ScOk env sc) (I : Inv base S μ σ s.heap) (F : FrOk base ec G.V S μ env ρ s.heap)
    (q₁ : evE Φ c₁ ρ σ = some (x, σ₁)) (q₂ : evE Φ c₂ ρ σ₁ = some (y, σ₂))
    (h : ∀ v u h' tk S', Ev base μ S S' σ σ₂ s.heap h' → RdA ec h' S' μ v (settle x) → RdA ec h' S' μ u (settle y) → FrOk base ec G.V S' μ env ρ h' → R v u { s with heap := h', toks := tk }) :
    wpAny (model prog w) A (eval e₁ env) (fun v s₁ => wpAny (model prog w) A (eval e₂ env) (R v) E s₁) E s :=
  seq1 H₁ hA hs I F q₁ fun v h₁ tk₁ S₁ x₁ r₁ F₁ =>
    seq1 (s := { s with heap := h₁, toks := tk₁ }) H₂ hA hs x₁.inv F₁ q₂ fun u h₂ tk₂ S₂ x₂ r₂ F₂ => h v u h₂ tk₂ S₂ (x₁.trans x₂) (r₁.ev x₁.inv x₂) r₂ F₂
theorem rtOf {v : Value} {av : AV} {d : PyData} {h : Heap} (I : Inv base S μ σ h) (r : RdA ec h S μ v (settle av)) (e : rd σ av = some d) : Rt h S v d := r.rt I (by rw [rd_settle]; exact e)
theorem inSome {h : Heap} (I : Inv base S μ σ h) : ∀ a, S a → ∃ o, h.get? a = some o := fun a s => let ⟨o, e, _⟩ := I.inS a s; ⟨o, e⟩
theorem se_const {d : PyData} {cc : Const} {k : Nat} {pos : Pos} (hc : constD cc = some d) : SE prog w base ec G n Φ sc (.Constant cc k pos) (.const d) := by
  intro A env ρ σ σ' av S μ s Q E hA hs I F q P
  cases q
  have fin : ∀ v tk, Rd s.heap S v d → Q v { s with toks := tk } := fun v tk r => P v s.heap tk S (.refl I) (.old (.dat r))
  cases cc <;> first | (cases hc; done) | skip
  · cases hc; exact wpAny_Constant_none (fin _ s.toks .none)
  · cases hc; exact wpAny_Constant_bool (fin _ s.toks (.bool _))
  · cases hc; exact wpAny_Constant_int (fin _ _ (.int _ _))
  · cases hc; exact PySem.wpAny_Constant_str (fin _ _ (.str _ _))
theorem se_var {x : Str} {pos : Pos} {i : Nat} (hx : varOf G sc x = some i) : SE prog w base ec G n Φ sc (.Name x pos) (.var i) := by
  intro A env ρ σ σ' av S μ s Q E hA hs I F q P
  obtain ⟨hi, rfl⟩ := i_var q
  exact var_inv hx fun h1 h2 h3 => eval_var F ((hs.var x).trans h1) h2 h3 hi fun v r => P v s.heap s.toks S (.refl I) (.old r)
theorem se_cst (W : Wd base ec G) {x : Str} {pos : Pos} {d : PyData} (hg : isGlob sc x = true) (ho : okName x = true) (hx : G.consts.lookup x = some d) : SE prog w base ec G n Φ sc (.Name x pos) (.const d) := by
  intro A env ρ σ σ' av S μ s Q E hA hs I F q P
  cases q
  obtain ⟨v, g, r⟩ := W.cst x d hx
  exact eval_glob F I.keepB ((hs.gl x).trans hg) ho g (P v s.heap s.toks S (.refl I) (.old (.dat (r _ _))))
theorem se_bin {l r : Expr} {op : Operator} {pos : Pos} {a b : CE} (H₁ : SE prog w base ec G n Φ sc l a) (H₂ : SE prog w base ec G n Φ sc r b) : SE prog w base ec G n Φ sc (.BinOp l op r pos) (.bin op a b) := by
  intro A env ρ σ σ' av S μ s Q E hA hs I F q P
  refine i_bin q fun x σ₁ y dx dy q₁ q₂ e₁ e₂ e₃ => ?_
  refine wpAny_BinOp (seq2 H₁ H₂ hA hs I F q₁ q₂ fun v u h' tk S' x r₁ r₂ F' => ?_)
  exact bin_ok (inSome x.inv) e₃ (rtOf x.inv r₁ e₁) (rtOf x.inv r₂ e₂) (post_prim x P)
theorem se_neg {e : Expr} {pos : Pos} {a : CE} (H : SE prog w base ec G n Φ sc e a) : SE prog w base ec G n Φ sc (.UnaryOp .USub e pos) (.neg a) := by
  intro A env ρ σ σ' av S μ s Q E hA hs I F q P
  refine i_neg q fun i q₁ z1 => ?_
  subst z1
  refine wpAny_UnaryOp (seq1 H hA hs I F q₁ fun v h' tk S' x r F' => ?_)
  obtain ⟨t, rfl⟩ := (rtOf (d := .int i) x.inv r rfl).intD
  exact PySem.P.neg_int ((post_prim x P).dat (.int _ _) _)
end
end Mine
namespace Mine
open PySem PySem.Calls PyProof.Rows
section
variable {prog : Program} {w : World} {base : Bs} {ec : ExcCls} {G : Cfg} {n : Nat} {Φ : Phi} {sc : Sc}
theorem st_of_se {e : Expr} {c : CE} (he : ∀ env whole, isTrue e env whole = (do let v ← whole; standAt e.pos; holding [v] (truthy v))) (H : SE prog w base ec G n Φ sc e c) : ST prog w base ec G n Φ sc e c := by
  intro A env ρ σ σ' av b S μ s Q E hA hs I F q hb P
  obtain rfl := boolA_eq hb
  refine wpAny_isTrue_value (H A env ρ σ σ' _ S μ s _ E hA hs I F q fun v h' tk S' x r => ?_) (he env _)
  cases r with
  | old r => cases r with
    | dat r => cases r; exact wpAny_truthy_bool (P h' tk S' x)
theorem se_not {e : Expr} {pos : Pos} {a : CE} (H : SE prog w base ec G n Φ sc e a) : SE prog w base ec G n Φ sc (.UnaryOp .Not e pos) (.nott a) := by
  intro A env ρ σ σ' av S μ s Q E hA hs I F q P
  refine i_nott q fun b q₁ z1 => ?_
  subst z1
  refine wpAny_UnaryOp (seq1 H hA hs I F q₁ fun v h' tk S' x r F' => ?_)
  obtain rfl := (rtOf (d := .bool b) x.inv r rfl).boolD
  exact not_value (wpAny_truthy_bool (P _ h' tk S' x (.old (.dat (.bool _)))))
theorem st_not {e : Expr} {pos : Pos} {a : CE} (H : ST prog w base ec G n Φ sc e a) : ST prog w base ec G n Φ sc (.UnaryOp .Not e pos) (.nott a) := by
  intro A env ρ σ σ' av b S μ s Q E hA hs I F q hb P
  refine i_nott q fun c q₁ z1 => ?_
  subst z1
  cases hb
  exact wpAny_isTrue_Not (H A env ρ σ _ _ c S μ s _ E hA hs I F q₁ rfl P)
noncomputable def SB (prog : Program) (w : World) (base : Bs) (ec : ExcCls) (G : Cfg) (n : Nat) (Φ : Phi) (sc : Sc) (e : Expr) (c : CE) : Prop := SE prog w base ec G n Φ sc e c ∧ ST prog w base ec G n Φ sc e c
inductive SBs (prog : Program) (w : World) (base : Bs) (ec : ExcCls) (G : Cfg) (n : Nat) (Φ : Phi) (sc : Sc) : List Expr → List CE → Prop
  | nil : SBs prog w base ec G n Φ sc [] []
  | cons {e : Expr} {es : List Expr} {c : CE} {cs : List CE} : SB prog w base ec G n Φ sc e c → SBs prog w base ec G n Φ sc es cs → SBs prog w base ec G n Φ sc (e :: es) (c :: cs)
theorem bop_ok {op : BoolOp} {pos : Pos} : ∀ {es : List Expr} {cs : List CE} (A : Around) (env : Env) (ρ : Rho) (σ σ' : Store) (b : Bool) (S : Addr → Prop) (μ : List Addr) (s : Shared) (Q : Value → Shared → Prop) (E : Value → Shared → Prop),
    SBs prog w base ec G n Φ sc es cs → es ≠ [] → AOk base n A → ScOk env sc → Inv base S μ σ s.heap → FrOk base ec G.V S μ env ρ s.heap → evB Φ op cs ρ σ = some (b, σ') → Post ec base μ S σ σ' s (.dat (.bool b)) Q →
    wpAny (model prog w) A (boolOp pos op (evalEach es env)) Q E s := by
  intro es
  induction es with
  | nil => intros; contradiction
  | cons e es ih =>
    intro cs A env ρ σ σ' b S μ s Q E hS _ hA hs I F q P
    cases hS with
    | @cons _ _ c cs' H hS =>
    refine i_bcons q fun b₁ σ₁ q₁ q => ?_
    cases es with
    | nil =>
      cases hS
      show wpAny _ A (eval e env) Q E s
      have : b = b₁ ∧ σ' = σ₁ := by
        by_cases w : (b₁ == (op == BoolOp.And)) = true
        · rw [if_pos w] at q
          obtain ⟨rfl, rfl⟩ := pr q
          exact ⟨(beq_iff_eq.mp w).symm, rfl⟩
        · rw [if_neg w] at q
          obtain ⟨rfl, rfl⟩ := pr q
          exact ⟨rfl, rfl⟩
      obtain ⟨rfl, rfl⟩ := this
      exact H.1 A env ρ σ _ _ S μ s Q E hA hs I F q₁ P
    | cons e₂ es₂ =>
      show wpAny _ A (do
        let v ← eval e env
        standAt pos
        let t ← holding [v] (truthy v)
        match op, t with
        | .And, false | .Or, true => pure v
        | _, _ => boolOp pos op (evalEach (e₂ :: es₂) env)) Q E s
      refine wpAny_bind (seq1 H.1 hA hs I F q₁ fun v h' tk S' x r F' => ?_)
      obtain rfl := (rtOf (d := .bool b₁) x.inv r rfl).boolD
      refine wpAny_bind (wpAny_standAt (wpAny_bind (wpAny_holding (wpAny_truthy_bool ?_))))
      have stop : (b₁ == (op == BoolOp.And)) = false → wpAny (model prog w) A (pure (Value.bool b₁)) Q E { s with heap := h', toks := tk } := fun w => by
        rw [if_neg (by rw [w]; exact Bool.false_ne_true)] at q
        obtain ⟨rfl, rfl⟩ := pr q
        exact wpAny_pure (P _ h' tk S' x (.old (.dat (.bool _))))
      have goOn : (b₁ == (op == BoolOp.And)) = true → wpAny (model prog w) A (boolOp pos op (evalEach (e₂ :: es₂) env)) Q E { s with heap := h', toks := tk } := fun w => by
        rw [if_pos w] at q
        exact ih A env ρ σ₁ σ' b S' μ { s with heap := h', toks := tk } Q E hS (by simp) hA hs x.inv F' q fun v h'' tk' S'' x' r' => P v h'' tk' S'' (x.trans x') (r'.back x)
      cases op <;> cases b₁
      · exact stop rfl
      · exact goOn rfl
      · exact goOn rfl
      · exact stop rfl
theorem se_bop {op : BoolOp} {es : List Expr} {cs : List CE} {pos : Pos} (hne : es ≠ []) (hS : SBs prog w base ec G n Φ sc es cs) : SE prog w base ec G n Φ sc (.BoolOp op es pos) (.bop op cs) := by
  intro A env ρ σ σ' av S μ s Q E hA hs I F q P
  refine i_bop q fun b q₁ z1 => ?_
  subst z1
  show wpAny _ A (boolOp pos op (evalEach es env)) Q E s
  exact bop_ok A env ρ σ _ b S μ s Q E hS hne hA hs I F q₁ P
theorem allTrue_ok {op : BoolOp} : ∀ {es : List Expr} {cs : List CE} (A : Around) (env : Env) (ρ : Rho) (σ σ' : Store) (b : Bool) (S : Addr → Prop) (μ : List Addr) (s : Shared) (Q : Bool → Shared → Prop) (E : Value → Shared → Prop),
    SBs prog w base ec G n Φ sc es cs → AOk base n A → ScOk env sc → Inv base S μ σ s.heap → FrOk base ec G.V S μ env ρ s.heap → evB Φ op cs ρ σ = some (b, σ') → (∀ h' tk S', Ev base μ S S' σ σ' s.heap h' → Q b { s with heap := h', toks := tk }) →
    wpAny (model prog w) A (allTrue op es env) Q E s := by
  intro es
  induction es with
  | nil =>
    intro cs A env ρ σ σ' b S μ s Q E hS hA hs I F q P
    cases hS
    cases q
    have := P s.heap s.toks S (.refl I)
    exact wpAny_pure this
  | cons e es ih =>
    intro cs A env ρ σ σ' b S μ s Q E hS hA hs I F q P
    cases hS with
    | @cons _ _ c cs' H hS =>
    refine i_bcons q fun b₁ σ₁ q₁ q => ?_
    show wpAny _ A (do match op, ← isTrue e env (eval e env) with | .And, false => pure false | .Or, true => pure true | _, _ => allTrue op es env) Q E s
    refine wpAny_bind (H.2 A env ρ σ σ₁ _ b₁ S μ s _ E hA hs I F q₁ rfl fun h' tk S' x => ?_)
    have stop : (b₁ == (op == BoolOp.And)) = false → Q b₁ { s with heap := h', toks := tk } := fun w => by
      rw [if_neg (by rw [w]; exact Bool.false_ne_true)] at q
      obtain ⟨rfl, rfl⟩ := pr q
      exact P h' tk S' x
    have goOn : (b₁ == (op == BoolOp.And)) = true → wpAny (model prog w) A (allTrue op es env) Q E { s with heap := h', toks := tk } := fun w => by
      rw [if_pos w] at q
      exact ih A env ρ σ₁ σ' b S' μ { s with heap := h', toks := tk } Q E hS hA hs x.inv (F.ev I x) q fun h'' tk' S'' x' => P h'' tk' S'' (x.trans x')
    cases op <;> cases b₁
    · exact wpAny_pure (stop rfl)
    · exact goOn rfl
    · exact goOn rfl
    · exact wpAny_pure (stop rfl)
theorem st_bop {op : BoolOp} {es : List Expr} {cs : List CE} {pos : Pos} (hS : SBs prog w base ec G n Φ sc es cs) : ST prog w base ec G n Φ sc (.BoolOp op es pos) (.bop op cs) := by
  intro A env ρ σ σ' av b S μ s Q E hA hs I F q hb P
  refine i_bop q fun b' q₁ z1 => ?_
  subst z1
  cases hb
  exact wpAny_isTrue_BoolOp (allTrue_ok A env ρ σ _ _ S μ s Q E hS hA hs I F q₁ P)
theorem noSet_marks {op : CmpOp} {e : Expr} (h : noSet e = true) : behindInMarks op e = false := by
  cases e <;> first | rfl | cases h
theorem AOk.un2 {A : Around} (h : AOk base n A) : A.units + 200 < cLine := by have := h.un; omega
theorem se_cmp {l r : Expr} {op : CmpOp} {pos : Pos} {a b : CE} (hn : noSet r = true) (H₁ : SE prog w base ec G n Φ sc l a) (H₂ : SE prog w base ec G n Φ sc r b) : SE prog w base ec G n Φ sc (.Compare l [op] [r] pos) (.cmp op a b) := by
  intro A env ρ σ σ' av S μ s Q E hA hs I F q P
  refine i_cmp q fun x σ₁ y dx dy rr q₁ q₂ e₁ e₂ e₃ z1 => ?_
  subst z1
  refine wpAny_Compare1 (seq2 H₁ H₂ hA hs I F q₁ q₂ fun v u h' tk S' x r₁ r₂ F' => ?_) (noSet_marks hn)
  exact cmp_ok hA.un2 e₃ (rtOf x.inv r₁ e₁) (rtOf x.inv r₂ e₂) fun tk' => P _ h' tk' S' x (.old (.dat (.bool _)))
theorem st_cmp {l r : Expr} {op : CmpOp} {pos : Pos} {a b : CE} (hn : noSet r = true) (H₁ : SE prog w base ec G n Φ sc l a) (H₂ : SE prog w base ec G n Φ sc r b) : ST prog w base ec G n Φ sc (.Compare l [op] [r] pos) (.cmp op a b) := by
  intro A env ρ σ σ' av bb S μ s Q E hA hs I F q hb P
  refine i_cmp q fun x σ₁ y dx dy rr q₁ q₂ e₁ e₂ e₃ z1 => ?_
  subst z1
  cases hb
  refine wpAny_isTrue_Compare1 (seq2 H₁ H₂ hA hs I F q₁ q₂ fun v u h' tk S' x r₁ r₂ F' => ?_) (noSet_marks hn)
  exact cmp_ok hA.un2 e₃ (rtOf x.inv r₁ e₁) (rtOf x.inv r₂ e₂) fun tk' => wpAny_truthy_bool (P h' tk' S' x)
end
end Mine
namespace Mine
open PySem PySem.Calls PyProof.Rows
section
variable {prog : Program} {w : World} {base : Bs} {ec : ExcCls} {G : Cfg} {n : Nat} {Φ : Phi} {sc : Sc}
theorem last_marks {o1 o2 : CmpOp} {m r : Expr} (h : noSet r = true) : lastMarks [o1, o2] [m, r] = false := noSet_marks h
theorem se_cmp2 {l m r : Expr} {o1 o2 : CmpOp} {pos : Pos} {a b c : CE} (hn : noSet r = true) (H₁ : SE prog w base ec G n Φ sc l a) (H₂ : SE prog w base ec G n Φ sc m b) (H₃ : SE prog w base ec G n Φ sc r c) : SE prog w base ec G n Φ sc (.Compare l [o1, o2] [m, r] pos) (.cmp2 o1 o2 a b c) := by
  intro A env ρ σ σ' av S μ s Q E hA hs I F q P
  refine i_cmp2 q fun x σ₁ y σ₂ dx dy r₀ q₁ q₂ e₁ e₂ e₃ h => ?_
  refine Compare_chain (seq1 H₁ hA hs I F q₁ fun v h₁ tk₁ S₁ x₁ r₁ F₁ => ?_) (last_marks hn)
  refine chain_link (seq1 (s := { s with heap := h₁, toks := tk₁ }) H₂ hA hs x₁.inv F₁ q₂ fun u h₂ tk₂ S₂ x₂ r₂ F₂ => ?_)
  have r₁' := r₁.ev x₁.inv x₂
  refine cmp_ok hA.un2 e₃ (rtOf x₂.inv r₁' e₁) (rtOf x₂.inv r₂ e₂) fun tk' => wpAny_truthy_bool ?_
  cases r₀ with
  | false =>
    obtain rfl := (pr h).1
    obtain rfl := (pr h).2
    exact P _ h₂ tk' S₂ (x₁.trans x₂) (.old (.dat (.bool _)))
  | true =>
    refine ob h fun t q₃ h => ob h fun dy' e₄ h => ob h fun dz e₅ h => ob h fun rr e₆ h => ?_
    obtain rfl := (pr h).1
    obtain rfl := (pr h).2
    refine chain_last (seq1 (s := { s with heap := h₂, toks := tk' }) H₃ hA hs x₂.inv F₂ q₃ fun t h₃ tk₃ S₃ x₃ r₃ F₃ => ?_)
    exact cmp_ok hA.un2 e₆ (rtOf x₃.inv (r₂.ev x₂.inv x₃) e₄) (rtOf x₃.inv r₃ e₅) fun tk'' => P _ h₃ tk'' S₃ ((x₁.trans x₂).trans x₃) (.old (.dat (.bool _)))
theorem st_cmp2 {l m r : Expr} {o1 o2 : CmpOp} {pos : Pos} {a b c : CE} (hn : noSet r = true) (H₁ : SE prog w base ec G n Φ sc l a) (H₂ : SE prog w base ec G n Φ sc m b) (H₃ : SE prog w base ec G n Φ sc r c) : ST prog w base ec G n Φ sc (.Compare l [o1, o2] [m, r] pos) (.cmp2 o1 o2 a b c) := by
  intro A env ρ σ σ' av bb S μ s Q E hA hs I F q hb P
  refine i_cmp2 q fun x σ₁ y σ₂ dx dy r₀ q₁ q₂ e₁ e₂ e₃ h => ?_
  refine isTrue_chain (seq1 H₁ hA hs I F q₁ fun v h₁ tk₁ S₁ x₁ r₁ F₁ => ?_) (last_marks hn)
  refine test_link (seq1 (s := { s with heap := h₁, toks := tk₁ }) H₂ hA hs x₁.inv F₁ q₂ fun u h₂ tk₂ S₂ x₂ r₂ F₂ => ?_)
  have r₁' := r₁.ev x₁.inv x₂
  refine cmp_ok hA.un2 e₃ (rtOf x₂.inv r₁' e₁) (rtOf x₂.inv r₂ e₂) fun tk' => wpAny_truthy_bool ?_
  cases r₀ with
  | false =>
    obtain rfl := (pr h).1
    obtain rfl := (pr h).2
    obtain rfl := Option.some.inj hb
    exact P h₂ tk' S₂ (x₁.trans x₂)
  | true =>
    refine ob h fun t q₃ h => ob h fun dy' e₄ h => ob h fun dz e₅ h => ob h fun rr e₆ h => ?_
    obtain rfl := (pr h).1
    obtain rfl := (pr h).2
    obtain rfl := Option.some.inj hb
    refine test_last (seq1 (s := { s with heap := h₂, toks := tk' }) H₃ hA hs x₂.inv F₂ q₃ fun t h₃ tk₃ S₃ x₃ r₃ F₃ => ?_)
    exact cmp_ok hA.un2 e₆ (rtOf x₃.inv (r₂.ev x₂.inv x₃) e₄) (rtOf x₃.inv r₃ e₅) fun tk'' => wpAny_truthy_bool (P h₃ tk'' S₃ ((x₁.trans x₂).trans x₃))
theorem Post.past {ec : ExcCls} {base : Bs} {μ : List Addr} {S S₁ : Addr → Prop} {σ σ₁ σ' : Store} {s : Shared} {h₁ : Heap} {tk : Nat} {av : AV} {Q : Value → Shared → Prop} (x : Ev base μ S S₁ σ σ₁ s.heap h₁) (P : Post ec base μ S σ σ' s av Q) :
    Post ec base μ S₁ σ₁ σ' { s with heap := h₁, toks := tk } av Q := fun v h' tk' S' x' r => P v h' tk' S' (x.trans x') (r.back x)
theorem se_ite {t a b : Expr} {pos : Pos} {x y z : CE} (H₁ : ST prog w base ec G n Φ sc t x) (H₂ : SE prog w base ec G n Φ sc a y) (H₃ : SE prog w base ec G n Φ sc b z) : SE prog w base ec G n Φ sc (.IfExp t a b pos) (.ite x y z) := by
  intro A env ρ σ σ' av S μ s Q E hA hs I F q P
  refine i_ite q fun c σ₁ q₁ q₂ => ?_
  refine wpAny_IfExp (H₁ A env ρ σ σ₁ _ c S μ s _ E hA hs I F q₁ rfl fun h' tk S' x => ?_)
  cases c
  · exact H₃ A env ρ σ₁ σ' av S' μ { s with heap := h', toks := tk } Q E hA hs x.inv (F.ev I x) q₂ (P.past x)
  · exact H₂ A env ρ σ₁ σ' av S' μ { s with heap := h', toks := tk } Q E hA hs x.inv (F.ev I x) q₂ (P.past x)
theorem st_ite {t a b : Expr} {pos : Pos} {x y z : CE} (H₁ : ST prog w base ec G n Φ sc t x) (H₂ : ST prog w base ec G n Φ sc a y) (H₃ : ST prog w base ec G n Φ sc b z) : ST prog w base ec G n Φ sc (.IfExp t a b pos) (.ite x y z) := by
  intro A env ρ σ σ' av bb S μ s Q E hA hs I F q hb P
  refine i_ite q fun c σ₁ q₁ q₂ => ?_
  rw [arm_isTrue_IfExp]
  refine wpAny_bind (H₁ A env ρ σ σ₁ _ c S μ s _ E hA hs I F q₁ rfl fun h' tk S' x => ?_)
  cases c
  · exact H₃ A env ρ σ₁ σ' av bb S' μ { s with heap := h', toks := tk } Q E hA hs x.inv (F.ev I x) q₂ hb fun h'' tk' S'' x' => P h'' tk' S'' (x.trans x')
  · exact H₂ A env ρ σ₁ σ' av bb S' μ { s with heap := h', toks := tk } Q E hA hs x.inv (F.ev I x) q₂ hb fun h'' tk' S'' x' => P h'' tk' S'' (x.trans x')
theorem noSlice_sub {i : Expr} {o k : Value} (h : noSlice i = true) : subscripted i false o k = operate [o, k] (getItem o k) := by
  cases i <;> first | rfl | cases h
theorem se_idx {v i : Expr} {pos : Pos} {a b : CE} (hn : noSlice i = true) (H₁ : SE prog w base ec G n Φ sc v a) (H₂ : SE prog w base ec G n Φ sc i b) : SE prog w base ec G n Φ sc (.Subscript v i pos) (.idx a b) := by
  intro A env ρ σ σ' av S μ s Q E hA hs I F q P
  refine i_idx q fun x σ₁ y dx dy rr q₁ q₂ e₁ e₂ e₃ z1 => ?_
  subst z1
  refine Subscript_ (seq2 H₁ H₂ hA hs I F q₁ q₂ fun u k h' tk S' x r₁ r₂ F' => ?_)
  have t₁ := rtOf x.inv r₁ e₁
  have t₂ := rtOf x.inv r₂ e₂
  have g : wpAny (model prog w) A (getItem u k) Q E { s with heap := h', toks := tk } := idx_ok e₃ t₁ t₂ fun u' tk' ru => P _ h' tk' S' x (.old (.dat ru))
  obtain ⟨i, _, e₄⟩ := bnd e₃
  obtain ⟨_, e₅⟩ := gd e₄
  cases dx <;> first | (cases e₅; done) | skip
  case str =>
    obtain ⟨t, rfl⟩ := t₁.strD
    exact tail_any (T := "str") (by rfl) PySem.F.slot_str_getitem.lookup g (noSlice_sub hn)
  case list =>
    obtain ⟨a, vs, m, rfl, e, _⟩ := t₁.lstD
    exact tail_any ⟨_, e, rfl⟩ slot_list_getitem.lookup g (noSlice_sub hn)
  case tuple =>
    obtain ⟨a, vs, m, rfl, _, e, _⟩ := t₁.tupD
    exact tail_any ⟨_, e, rfl⟩ PySem.F.slot_tuple_getitem.lookup g (noSlice_sub hn)
theorem starEach_no {e : Expr} {es : List Expr} {env : Env} (h : noStar e = true) : starEach (e :: es) env = (false, eval e env) :: starEach es env := by
  cases e <;> first | rfl | cases h
theorem es_ok {pos : Pos} : ∀ {es : List Expr} {cs : List CE} {A : Around} {env : Env} {ρ : Rho} {σ σ' : Store} {avs : List AV} {S : Addr → Prop} {μ : List Addr} {s : Shared} {R : List Value → Shared → Prop} {E : Value → Shared → Prop},
    SEs prog w base ec G n Φ sc es cs → AOk base n A → ScOk env sc → Inv base S μ σ s.heap → FrOk base ec G.V S μ env ρ s.heap → evEs Φ cs ρ σ = some (avs, σ') →
    (∀ vs h' tk S', Ev base μ S S' σ σ' s.heap h' → RdAs ec h' S' μ vs avs → FrOk base ec G.V S' μ env ρ h' → (∀ av ∈ avs, ∀ ds, av ≠ .fresh ds) → vs.length = es.length → R vs { s with heap := h', toks := tk }) →
    wpAny (model prog w) A (spliced (backTo pos (starEach es env))) R E s := by
  intro es
  induction es with
  | nil =>
    intro cs A env ρ σ σ' avs S μ s R E hS hA hs I F q P
    cases hS
    cases q
    exact wpAny_items_nil (P [] s.heap s.toks S (.refl I) .nil F (fun _ h => nomatch h) rfl)
  | cons e es ih =>
    intro cs A env ρ σ σ' avs S μ s R E hS hA hs I F q P
    cases hS with
    | @cons _ _ c cs' hn H hS =>
    refine i_lcons q fun x σ₁ xs q₁ q₂ z1 => ?_
    subst z1
    refine wpAny_items_cons (seq1 H hA hs I F q₁ fun v h₁ tk₁ S₁ x₁ r₁ F₁ => ?_) (starEach_no hn)
    refine ih (s := { s with heap := h₁, toks := tk₁ }) hS hA hs x₁.inv F₁ q₂ fun vs h₂ tk₂ S₂ x₂ r₂ F₂ hf hl => ?_
    refine P (v :: vs) h₂ tk₂ S₂ (x₁.trans x₂) (.cons (r₁.ev x₁.inv x₂) r₂) F₂ (fun av hav => ?_) (by simp [hl])
    rcases hav with _ | ⟨_, hav⟩
    · exact settle_notFresh x
    · exact hf av hav
theorem se_tup {es : List Expr} {cs : List CE} {k : Nat} {pos : Pos} (hz : es.length ≤ 1000) (hS : SEs prog w base ec G n Φ sc es cs) : SE prog w base ec G n Φ sc (.Tuple es k pos) (.tup cs) := by
  intro A env ρ σ σ' av S μ s Q E hA hs I F q P
  refine i_tup q fun avs σ₁ ds q₁ q₂ z1 => ?_
  subst z1
  refine wpAny_Tuple (es_ok hS hA hs I F q₁ fun vs h' tk S' x r F' hf hl => ?_)
  obtain ⟨S₂, x₂, rl, _⟩ := ownAll_step x hf r q₂
  refine ⟨by rw [hl, ← lim_eq]; unfold lim; omega, ?_⟩
  exact (post_prim (tk := tk) x₂ P).tup (push_grow _ _) (fresh_none _) (Heap.get?_push_size h' (o := tupO vs 0) rfl) rl tk
theorem se_lst {es : List Expr} {cs : List CE} {pos : Pos} (hz : es.length ≤ 1000) (hS : SEs prog w base ec G n Φ sc es cs) : SE prog w base ec G n Φ sc (.List es pos) (.lst cs) := by
  intro A env ρ σ σ' av S μ s Q E hA hs I F q P
  refine i_lst q fun avs σ₁ ds q₁ q₂ z1 => ?_
  subst z1
  refine wpAny_List (es_ok hS hA hs I F q₁ fun vs h' tk S' x r F' hf hl => ?_)
  obtain ⟨S₂, x₂, rl, _⟩ := ownAll_step x hf r q₂
  refine ⟨by rw [hl, ← lim_eq]; unfold lim; omega, ?_⟩
  exact (post_prim (tk := tk) x₂ P).lst (inSome x₂.inv) (push_grow _ _) (fresh_none _) (Heap.get?_push_size h' (o := lstO vs 0) rfl) rl tk
theorem SEs.plain {es : List Expr} {cs : List CE} (hS : SEs prog w base ec G n Φ sc es cs) (pos : Pos) (env : Env) : (backTo pos (starEach es env)).any (·.1) = false := by
  induction hS with
  | nil => rfl
  | cons hn _ _ ih =>
    rw [starEach_no hn]
    show (false || _) = false
    rw [Bool.false_or]; exact ih
theorem callB_ok {f : Value} (hf : (∃ id, f = .builtin id) ∨ ∃ T, f = .type T) {es : List Expr} {cs : List CE} {pos : Pos} (hne : es ≠ []) (hS : SEs prog w base ec G n Φ sc es cs) {A : Around} {env : Env} {ρ : Rho} {σ σ' : Store} {avs : List AV} {S : Addr → Prop} {μ : List Addr} {s : Shared} {Q : Value → Shared → Prop} {E : Value → Shared → Prop}
    (hA : AOk base n A) (hs : ScOk env sc) (I : Inv base S μ σ s.heap) (F : FrOk base ec G.V S μ env ρ s.heap) (q : evEs Φ cs ρ σ = some (avs, σ'))
    (P : ∀ vs h' tk S', Ev base μ S S' σ σ' s.heap h' → RdAs ec h' S' μ vs avs → wpAny (model prog w) A (call f vs) Q E { s with heap := h', toks := tk }) :
    wpAny (model prog w) A (callWith pos f [] (backTo pos (starEach es env)) (backToKw pos (keywordEach [] env))) Q E s := by
  cases hS with
  | nil => exact absurd rfl hne
  | @cons e es' c cs' hn H hS =>
    have full := SEs.cons hn H hS
    have ev : wpAny (model prog w) A (spliced (backTo pos (starEach (e :: es') env))) (fun vs s₁ => wpAny (model prog w) A (call f vs) Q E s₁) E s := es_ok full hA hs I F q fun vs h' tk S' x r F' hf hl => P vs h' tk S' x r
    rcases hf with ⟨id, rfl⟩ | ⟨T, rfl⟩
    · exact PyProof.Rows.callWith_builtin1 ev (starEach_no hn) (hS.plain pos env)
    · exact PyProof.Rows.callWith_type1 ev (starEach_no hn) (hS.plain pos env)
theorem RdAs.rtL {h : Heap} {S : Addr → Prop} {μ : List Addr} {σ : Store} (I : Inv base S μ σ h) : ∀ {vs : List Value} {avs : List AV} {ds : List PyData}, RdAs ec h S μ vs avs → rdAll σ avs = some ds → RtL h S vs ds := by
  intro vs
  induction vs with
  | nil => intro avs ds r e; cases r; cases e; exact .nil
  | cons v vs ih =>
    intro avs ds r e
    cases r with
    | @cons _ _ av avs' ra r =>
      obtain ⟨d, q, e₁⟩ := bnd e
      obtain ⟨ds', q', e₂⟩ := bnd e₁
      cases e₂
      exact .cons (ra.rt I q) (ih r q')
theorem slotL_lt {V : List Str} {i : Nat} {x : Str} (h : slotL V 0 x = some i) : V[i]? = some x := by simpa using (slotL_get h).2
theorem se_prim (W : Wd base ec G) {g : Str} {p pos : Pos} {es : List Expr} {cs : List CE} {q : Prim} (hg : isGlob sc g = true) (ho : okName g = true) (hq : primOf g = some q) (hne : es ≠ []) (hS : SEs prog w base ec G n Φ sc es cs) :
    SE prog w base ec G n Φ sc (.Call (.Name g p) es [] pos) (.prim q cs) := by
  intro A env ρ σ σ' av S μ s Q E hA hs I F ev P
  refine i_prim ev fun avs ds q₁ q₂ q₃ => ?_
  have hj := primL_ok _ (mem_lookup hq)
  refine wpAny_Call_Name_kw (eval_glob F I.keepB ((hs.gl g).trans hg) ho (W.blt _ _ (blt_prim hq)) ?_)
  refine callB_ok (primF_ok hj) hne hS hA hs I F q₁ fun vs h' tk S' x r => ?_
  exact prim_ok (hA.hd W.cold) (inSome x.inv) hj q₃ (r.rtL x.inv q₂) (post_prim x P)
theorem Rt.noDict {h : Heap} {S : Addr → Prop} {v : Value} {d : PyData} (r : Rt h S v d) : ∀ kvs, d ≠ .dict kvs := by
  intro kvs e
  subst e
  cases r with
  | dat r => cases r
theorem se_call (W : Wd base ec G) (HP : PhiOk prog w base ec G n Φ) {g : Str} {p pos : Pos} {es : List Expr} {cs : List CE} {k : Nat} (hg : isGlob sc g = true) (ho : okName g = true) (hk : slotL (G.fns.map (·.1)) 0 g = some k) (hne : es ≠ []) (hS : SEs prog w base ec G n Φ sc es cs) :
    SE prog w base ec G n Φ sc (.Call (.Name g p) es [] pos) (.call k cs) := by
  intro A env ρ σ σ' av S μ s Q E hA hs I F ev P
  refine i_call ev fun avs σ₁ q₁ q₂ => ?_
  have e := slotL_lt hk
  rw [List.getElem?_map] at e
  cases q : G.fns[k]? with
  | none => rw [q] at e; cases e
  | some fa =>
    obtain ⟨f, a⟩ := fa
    rw [q] at e
    obtain rfl : f = g := Option.some.inj e
    obtain ⟨hgl, o, fd, ho', hd⟩ := W.fn k f a q
    refine wpAny_Call_Name_kw (eval_glob F I.keepB ((hs.gl f).trans hg) ho hgl ?_)
    cases hS with
    | nil => exact absurd rfl hne
    | @cons e es' c cs' hn H hS =>
      have full := SEs.cons hn H hS
      refine PyProof.Rows.callWith_def hd (es_ok full hA hs I F q₁ fun vs h' tk S' x r F' hf hl => ⟨x.inv.keepB _ _ ho', ?_⟩) (starEach_no hn)
      exact HP k f a q A S' μ σ₁ _ { s with heap := h', toks := tk } vs avs _ Q E hA x.inv r q₂ (P.past x)
theorem se_isin (W : Wd base ec G) {g t : Str} {p p' pos : Pos} {x : Expr} {a : CE} {ty : Ty} (hn : noStar x = true) (hg : isGlob sc g = true) (ho : okName g = true) (hgi : (g == ("isinstance" : Str)) = true) (ht : isGlob sc t = true) (ht' : okName t = true) (hty : tyOf t = some ty) (H : SE prog w base ec G n Φ sc x a) :
    SE prog w base ec G n Φ sc (.Call (.Name g p) [x, .Name t p'] [] pos) (.isin a ty) := by
  intro A env ρ σ σ' av S μ s Q E hA hs I F ev P
  refine i_isin ev fun y d q₁ q₂ z1 => ?_
  subst z1
  rw [beq_iff_eq] at hgi
  subst hgi
  have hT : Glb base t (.type (tyName ty)) := W.blt _ _ (blt_ty hty)
  refine wpAny_Call_Name_kw (eval_glob F I.keepB ((hs.gl _).trans hg) ho (W.blt _ (.builtin "isinstance") (blt_rest (.head _))) ?_)
  refine PyProof.Rows.callWith_builtin1 ?_ (starEach_no hn) rfl
  refine wpAny_items_cons (seq1 H hA hs I F q₁ fun v h' tk S' x r F' => ?_) (starEach_no hn)
  refine wpAny_items_cons (eval_glob (s := { s with heap := h', toks := tk }) F' x.inv.keepB ((hs.gl t).trans ht) ht' hT ?_) rfl
  refine wpAny_items_nil ?_
  have t := rtOf x.inv r q₂
  exact isin_ok (by cases ty <;> rfl) t.noDict t fun tk' => P _ h' tk' S' x (.old (.dat (.bool _)))
end
end Mine
namespace Mine
open PySem PySem.Calls PyProof.Rows
structure Evo (base : Bs) (X : Addr → Prop) (μ μ' : List Addr) (S S' : Addr → Prop) (σ σ' : Store) (h h' : Heap) : Prop where
  ext : ∃ ν, μ' = μ ++ ν ∧ ∀ a ∈ ν, h.get? a = none
  sub : ∀ a, S a → S' a
  new : ∀ a, S' a → S a ∨ h.get? a = none ∨ Live μ σ a
  inv : Inv base S' μ' σ' h'
  keep : ∀ b o, ¬ X b → ¬ Live μ σ b → h.get? b = some o → Lk o (h'.get? b)
  live : ∀ a, Live μ' σ' a → Live μ σ a ∨ h.get? a = none
  stay : ∀ b o, h.get? b = some o → ∃ o', h'.get? b = some o'
section
variable {base : Bs} {X Y : Addr → Prop} {μ μ' μ'' : List Addr} {S S' S'' : Addr → Prop} {σ σ' σ'' : Store} {h h' h'' : Heap} {ec : ExcCls} {V : List Str} {env : Env} {ρ : Rho}
theorem Evo.refl (I : Inv base S μ σ h) : Evo base X μ μ S S σ σ h h :=
  ⟨⟨[], by simp, fun _ q => nomatch q⟩, fun _ q => q, fun _ q => .inl q, I, fun _ _ _ _ e => .inl e, fun _ q => .inl q, fun _ o e => ⟨o, e⟩⟩
theorem Evo.of (x : Ev base μ S S' σ σ' h h') : Evo base X μ μ S S' σ σ' h h' :=
  ⟨⟨[], by simp, fun _ q => nomatch q⟩, x.sub, x.new, x.inv, fun b o _ hl e => x.keep b o hl e, fun a l => .inl (x.live a l), fun _ _ e => x.stays e⟩
theorem Evo.gone (x : Evo base X μ μ' S S' σ σ' h h') {a : Addr} (e : h'.get? a = none) : h.get? a = none := by
  cases q : h.get? a with
  | none => rfl
  | some o => obtain ⟨o', q'⟩ := x.stay a o q; rw [q'] at e; cases e
theorem Evo.trans (x : Evo base X μ μ' S S' σ σ' h h') (y : Evo base Y μ' μ'' S' S'' σ' σ'' h' h'') (hY : ∀ a o, Y a → h.get? a = some o → X a) : Evo base X μ μ'' S S'' σ σ'' h h'' where
  ext := by
    obtain ⟨ν, rfl, n1⟩ := x.ext
    obtain ⟨ν', rfl, n2⟩ := y.ext
    refine ⟨ν ++ ν', by simp, fun a ha => ?_⟩
    rcases List.mem_append.mp ha with q | q
    · exact n1 a q
    · exact x.gone (n2 a q)
  sub := fun a s => y.sub a (x.sub a s)
  new := fun a s => by
    rcases y.new a s with q | q | q
    · exact x.new a q
    · exact .inr (.inl (x.gone q))
    · rcases x.live a q with q | q
      · exact .inr (.inr q)
      · exact .inr (.inl q)
  inv := y.inv
  keep := fun b o hb hl e => (x.keep b o hb hl e).trans fun o' e' => y.keep b o' (fun q => hb (hY b o q e)) (fun l => (x.live b l).elim hl fun q => by rw [q] at e; cases e) e'
  live := fun a l => by
    rcases y.live a l with q | q
    · exact x.live a q
    · exact .inr (x.gone q)
  stay := fun b o e => let ⟨o', e'⟩ := x.stay b o e; y.stay b o' e'
theorem Evo.wide (x : Evo base X μ μ' S S' σ σ' h h') (hY : ∀ a o, X a → h.get? a = some o → Y a) : Evo base Y μ μ' S S' σ σ' h h' :=
  ⟨x.ext, x.sub, x.new, x.inv, fun b o hb hl e => x.keep b o (fun q => hb (hY b o q e)) hl e, x.live, x.stay⟩
theorem Evo.toEv (I : Inv base S μ σ h) (x : Evo base X μ μ S S' σ σ' h h') (hX : ∀ a, X a → h.get? a = none) : Ev base μ S S' σ σ' h h' where
  sub := x.sub
  new := x.new
  inv := x.inv
  keep := fun b o hl e => x.keep b o (fun q => by rw [hX b q] at e; cases e) hl e
  live := fun a l => by
    rcases x.live a l with q | q
    · exact q
    · obtain ⟨i, ds, e1, _⟩ := l
      obtain ⟨vs, n, e⟩ := I.mem (List.mem_of_getElem? e1)
      rw [q] at e; cases e
theorem Evo.mu (x : Evo base X μ μ' S S' σ σ' h h') : ∀ (i : Nat) (a : Addr), μ[i]? = some a → μ'[i]? = some a := by
  obtain ⟨ν, rfl, _⟩ := x.ext
  intro i a e
  rw [List.getElem?_append_left (List.getElem?_eq_some_iff.mp e).1]; exact e
theorem Evo.keepS (I : Inv base S μ σ h) (x : Evo base X μ μ' S S' σ σ' h h') (hX : ∀ a, X a → ¬ S a) : ∀ a o, S a → h.get? a = some o → h'.get? a = some o :=
  fun a o hs e => (x.keep a o (fun q => hX a q hs) (fun l => l.notS I hs) e).of (by
    obtain ⟨o', e', p⟩ := I.inS a hs
    rw [e] at e'; cases e'
    exact p.1)
theorem RdA.evo (I : Inv base S μ σ h) (x : Evo base X μ μ' S S' σ σ' h h') (hX : ∀ a, X a → ¬ S a) {v : Value} {av : AV} (r : RdA ec h S μ v av) : RdA ec h' S' μ' v av := r.mono (x.keepS I hX) x.sub x.mu
theorem Inv.mv {wr : Addr → Prop} (I : Inv base S μ σ h) (m : Mv wr S S' h h') (hS : ∀ a, wr a → ¬ S a) (hM : ∀ a, wr a → a ∉ μ) (hB : ∀ a, wr a → base.get? a = none) (hZ : ∀ a, wr a → base.Z a → IsD (h'.get? a)) : Inv base S' μ σ h' where
  keepB := fun b o e => m.keep b o (fun q => by rw [hB b q] at e; cases e) (I.keepB b o e)
  len := I.len
  cells := fun i a f ds e1 e2 => by
    obtain ⟨vs, n, e, r, q1, q2⟩ := I.cells i a f ds e1 e2
    refine ⟨vs, n, m.keep a _ (fun q => hM a q (List.mem_of_getElem? e1)) e, r.mono (fun b o hb e => m.keep b o (fun q => hS b q hb) e) m.sub, fun z => m.sub a (q1 z), fun z s => ?_⟩
    rcases m.new a s with q | q
    · exact q2 z q
    · rw [q] at e; cases e
  nodup := I.nodup
  new := I.new
  inS := fun a s => by
    rcases m.inS a s with q | q
    · obtain ⟨o, e, p⟩ := I.inS a q
      exact ⟨o, m.keep a o (fun z => hS a z q) e, p⟩
    · exact q
  zs := fun L z => ⟨(I.zs L z).1, by
    by_cases q : wr L
    · exact hZ L q z
    · exact (I.zs L z).2.grow fun o e => m.keep L o q e⟩
theorem Evo.poke {wr : Addr → Prop} (x : Evo base X μ μ' S S' σ σ' h h') (m : Mv wr S' S'' h' h'') (hX : ∀ a o, wr a → h.get? a = some o → X a) (hS : ∀ a, wr a → ¬ S' a) (hM : ∀ a, wr a → a ∉ μ') (hB : ∀ a, wr a → base.get? a = none) (hZ : ∀ a, wr a → base.Z a → IsD (h''.get? a))
    (al : ∀ a o, wr a → h.get? a = some o → ∃ o', h''.get? a = some o') : Evo base X μ μ' S S'' σ σ' h h'' where
  ext := x.ext
  sub := fun a s => m.sub a (x.sub a s)
  new := fun a s => by
    rcases m.new a s with q | q
    · exact x.new a q
    · exact .inr (.inl (x.gone q))
  inv := x.inv.mv m hS hM hB hZ
  keep := fun b o hb hl e => (x.keep b o hb hl e).trans fun o' e' => .inl (m.keep b o' (fun q => hb (hX b o q e)) e')
  live := x.live
  stay := fun b o e => by
    by_cases q : wr b
    · exact al b o q e
    · obtain ⟨o', e'⟩ := x.stay b o e
      exact ⟨o', m.keep b o' q e'⟩
theorem Own.notS {a : Addr} (I : Inv base S μ σ h) (F : FrOk base ec V S μ env ρ h) (o : Own env a) : ¬ S a := fun s => by
  obtain ⟨b, e, p⟩ := I.inS a s
  exact o.notList F e p
theorem Own.new {a : Addr} (F : FrOk base ec V S μ env ρ h) (o : Own env a) : base.get? a = none := by
  rcases o with rfl | ⟨x, hx⟩
  · exact F.newL
  · exact F.newC x a hx
theorem Own.has {a : Addr} (F : FrOk base ec V S μ env ρ h) (o : Own env a) : ∃ b, h.get? a = some b := by
  rcases o with rfl | ⟨x, hx⟩
  · obtain ⟨m, ⟨o, _, _, e, _⟩, _⟩ := F.ns; exact ⟨o, e⟩
  · obtain ⟨vo, o, e, _⟩ := F.cell x a hx; exact ⟨o, e⟩
theorem FrOk.evo (I : Inv base S μ σ h) (F : FrOk base ec V S μ env ρ h) (x : Evo base X μ μ' S S' σ σ' h h') (hX : ∀ a, X a → ¬ S a) (hO : ∀ a, Own env a → ¬ X a) : FrOk base ec V S' μ' env ρ h' :=
  F.mono (fun a o ha e => x.keep a o (hO a ha) (ha.notLive I F) e) fun _ _ r => r.evo I x hX
theorem FrOk.mv {wr : Addr → Prop} (F : FrOk base ec V S μ env ρ h) (m : Mv wr S S' h h') (hS : ∀ a, wr a → ¬ S a) (hO : ∀ a, Own env a → ¬ wr a) : FrOk base ec V S' μ env ρ h' :=
  F.mono (fun a o ha e => .inl (m.keep a o (hO a ha) e)) fun _ _ r => r.mono (fun b o hb e => m.keep b o (fun q => hS b q hb) e) m.sub fun _ _ q => q
end
structure Lp (base : Bs) (X : Addr → Prop) (μ : List Addr) (S : Addr → Prop) (σ : Store) (h : Heap) (fp wr : Addr → Prop) (St : Nat → Heap → Prop) (Ok : (Addr → Prop) → Heap → Prop) (i : Nat) (μ' : List Addr) (S' : Addr → Prop) (σ' : Store) (h' : Heap) : Prop where
  ev : Evo base X μ μ' S S' σ σ' h h'
  st : St i h'
  ok : Ok S' h'
  nw : ∀ a, S' a → ¬ wr a
  nl : ∀ b, fp b → ¬ Live μ' σ' b
  nm : ∀ b, wr b → b ∉ μ'
  wn : ∀ b, wr b → h.get? b = none
  wb : ∀ b, wr b → base.get? b = none
section
variable {prog : Program} {w : World} {A : Around} {I : Addr} {xs : List PyData} {T : Expr → Prop} {Mid : Nat → Value → Heap → Prop}
variable {base : Bs} {X Y : Addr → Prop} {μ μ' μ'' : List Addr} {S S' S'' : Addr → Prop} {σ σ' σ'' : Store} {h h' h'' : Heap} {fp wr : Addr → Prop} {St : Nat → Heap → Prop} {Ok : (Addr → Prop) → Heap → Prop} {i : Nat}
theorem Lp.step (Z : Src prog w A I fp wr xs T St Mid Ok) (L : Lp base X μ S σ h fp wr St Ok i μ' S' σ' h') (y : Evo base Y μ' μ'' S' S'' σ' σ'' h' h'') (hY : ∀ a o, Y a → h.get? a = some o → X a) (hf : ∀ a, Y a → ¬ fp a) (hS : ∀ a, Y a → ¬ S' a) : Lp base X μ S σ h fp wr St Ok i μ'' S'' σ'' h'' where
  ev := L.ev.trans y hY
  st := Z.frame i _ _ L.st fun b o hb e => (y.keep b o (fun q => hf b q hb) (L.nl b hb) e).of (by
    obtain ⟨o', e', p⟩ := Z.alloc _ _ b L.st hb
    rw [e] at e'; cases e'
    exact p.1)
  ok := Z.mono _ _ _ _ L.ok y.sub (y.keepS L.ev.inv hS)
  nw := fun a s q => by
    rcases y.new a s with z | z | z
    · exact L.nw a z q
    · obtain ⟨o, e, _⟩ := Z.alloc i _ a L.st (Z.sub a q)
      rw [e] at z; cases z
    · exact L.nl a (Z.sub a q) z
  nl := fun b hb l => by
    rcases y.live b l with z | z
    · exact L.nl b hb z
    · obtain ⟨o, e, _⟩ := Z.alloc i _ b L.st hb
      rw [e] at z; cases z
  nm := fun b hb q => by
    obtain ⟨ν, rfl, n1⟩ := y.ext
    rcases List.mem_append.mp q with z | z
    · exact L.nm b hb z
    · obtain ⟨o, e, _⟩ := Z.alloc i _ b L.st (Z.sub b hb)
      rw [n1 b z] at e; cases e
  wn := L.wn
  wb := L.wb
theorem Lp.poke (Z : Src prog w A I fp wr xs T St Mid Ok) (L : Lp base X μ S σ h fp wr St Ok i μ' S' σ' h') {P : Addr → Prop} (hk : ∀ b o, ¬ P b → h'.get? b = some o → h''.get? b = some o) (hX : ∀ a o, P a → h.get? a = some o → X a) (hS : ∀ a, P a → ¬ S' a) (hM : ∀ a, P a → a ∉ μ')
    (hB : ∀ a, P a → base.get? a = none) (hZ : ∀ a, P a → base.Z a → IsD (h''.get? a)) (hf : ∀ a, P a → ¬ fp a) (al : ∀ a o, P a → h'.get? a = some o → ∃ o', h''.get? a = some o') : Lp base X μ S σ h fp wr St Ok i μ' S' σ' h'' where
  ev := L.ev.poke (Mv.same hk) hX hS hM hB hZ fun a o hp e => let ⟨o', e'⟩ := L.ev.stay a o e; al a o' hp e'
  st := Z.frame i _ _ L.st fun b o hb e => hk b o (fun q => hf b q hb) e
  ok := Z.mono _ _ _ _ L.ok (fun _ q => q) fun a o hs e => hk a o (fun q => hS a q hs) e
  nw := L.nw
  nl := L.nl
  nm := L.nm
  wn := L.wn
  wb := L.wb
theorem Lp.next (Z : Src prog w A I fp wr xs T St Mid Ok) {s : Shared} (L : Lp base X μ S σ h fp wr St Ok i μ' S' σ' s.heap) {d : PyData} (hd : xs[i]? = some d) {t : Expr} (ht : T t) {E : Value → Shared → Prop} {Q : Option Value → Shared → Prop}
    (hQ : ∀ v h₂ tk S₂, (∀ E' Q', (∀ h₃, Mv wr S' S₂ s.heap h₃ → Lp base X μ S σ h fp wr St Ok (i + 1) μ' S₂ σ' h₃ → Rd h₃ S₂ v d → Q' () { s with heap := h₃, toks := tk }) → wpAny (model prog w) A (letOwnedTupleGo t (.ref I) v) Q' E' { s with heap := h₂, toks := tk }) → Q (some v) { s with heap := h₂, toks := tk }) :
    wpAny (model prog w) A (pyNext (.ref I)) Q E s := by
  refine Z.next i d S' s Q E hd L.st L.ok L.nw fun v h₂ tk S₂ m r hm => ?_
  refine hQ v h₂ tk S₂ fun E' Q' hQ' => ?_
  refine Z.go i v t { s with heap := h₂, toks := tk } Q' E' ht hm fun h₃ k₃ st₃ => ?_
  have wS : ∀ a, S₂ a → ¬ wr a := fun a s₂ q => by
    rcases m.new a s₂ with z | z
    · exact L.nw a z q
    · obtain ⟨o, e, _⟩ := Z.alloc i _ a L.st (Z.sub a q)
      rw [e] at z; cases z
  have kS : ∀ a o, S₂ a → h₂.get? a = some o → h₃.get? a = some o := fun a o hs e => k₃ a o (wS a hs) e
  have m' : Mv wr S' S₂ s.heap h₃ := ⟨fun b o hb e => k₃ b o hb (m.keep b o hb e), m.sub, m.new, fun a hs => (m.inS a hs).imp id fun ⟨o, e, p⟩ => ⟨o, kS a o hs e, p⟩⟩
  refine hQ' h₃ m' ?_ (r.mono kS fun _ q => q)
  exact {
    ev := L.ev.poke m' (fun a o hw e => by rw [L.wn a hw] at e; cases e) (fun a hw hs => L.nw a hs hw) L.nm L.wb (fun a hw z => by obtain ⟨o, e, p⟩ := Z.alloc _ _ a L.st (Z.sub a hw); exact ((L.ev.inv.zs a z).2.plain e p.1).elim) fun a o hw _ => let ⟨o', e', _⟩ := Z.alloc (i + 1) _ a st₃ (Z.sub a hw); ⟨o', e'⟩
    st := st₃
    ok := Z.mono _ _ _ _ L.ok m.sub fun a o hs e => m'.keep a o (L.nw a hs) e
    nw := wS
    nl := L.nl
    nm := L.nm
    wn := L.wn
    wb := L.wb }
theorem Lp.done (Z : Src prog w A I fp wr xs T St Mid Ok) {s : Shared} (L : Lp base X μ S σ h fp wr St Ok xs.length μ' S' σ' s.heap) {E : Value → Shared → Prop} {Q : Option Value → Shared → Prop}
    (hQ : ∀ h₂ tk, Mv wr S' S' s.heap h₂ → Evo base X μ μ' S S' σ σ' h h₂ → Q none { s with heap := h₂, toks := tk }) : wpAny (model prog w) A (pyNext (.ref I)) Q E s :=
  Z.done S' s Q E L.st L.ok fun h₂ tk k => hQ h₂ tk (Mv.same k) (L.ev.poke (Mv.same k) (fun a o hw e => by rw [L.wn a hw] at e; cases e) (fun a hw hs => L.nw a hs hw) L.nm L.wb (fun a hw z => by obtain ⟨o, e, p⟩ := Z.alloc _ _ a L.st (Z.sub a hw); exact ((L.ev.inv.zs a z).2.plain e p.1).elim) fun a o hw e => by rw [L.wn a hw] at e; cases e)
end
noncomputable def OwnL (lc : Bool) (env : Env) (b : Addr) : Prop := Own env b ∧ (lc = true → b = env.locals)
noncomputable def locE (env : Env) : Expr → Prop
  | .Name x _ => env.kindOf x = some .local
  | .Tuple es _ _ => ∀ x p, Expr.Name x p ∈ es → env.kindOf x = some .local
  | _ => True
section
variable {prog : Program} {w : World} {base : Bs} {ec : ExcCls} {G : Cfg} {n : Nat} {sc : Sc} {A : Around} {env : Env} {ρ ρ' : Rho} {σ : Store} {S : Addr → Prop} {μ : List Addr} {s : Shared} {E : Value → Shared → Prop} {lc : Bool}
theorem own_kind (hs : ScOk env sc) {x : Str} {i : Nat} (h : ownOf G sc x = some i) {P : Prop} (k : slotL G.V 0 x = some i → (env.kindOf x = some .local ∨ env.kindOf x = some .cell) → P) : P := by
  refine own_inv h fun q1 h => k h ?_
  unfold isOwnN at q1
  have e : env.kindOf x = sc.lookup x := by
    rcases hs x with e | ⟨e, _⟩
    · exact e
    · rw [e] at q1; exact bft q1
  rw [← e] at q1
  split at q1
  · rename_i e'; exact .inl e'
  · rename_i e'; exact .inr e'
  · exact bft q1
theorem name_ok (hs : ScOk env sc) {x : Str} {i : Nat} {p : Pos} {v : Value} {d : AV} (hx : ownOf G sc x = some i) (hl : lc = true → env.kindOf x = some .local) (I : Inv base S μ σ s.heap) (F : FrOk base ec G.V S μ env ρ s.heap) (r : RdA ec s.heap S μ v d) {Q : Unit → Shared → Prop}
    (h : ∀ h' tk, Inv base S μ σ h' → FrOk base ec G.V S μ env (ρ.set i d) h' → (∀ b o, ¬ OwnL lc env b → s.heap.get? b = some o → h'.get? b = some o) → (∀ b o, s.heap.get? b = some o → ∃ o', h'.get? b = some o') → Q () { s with heap := h', toks := tk }) :
    wpAny (model prog w) A (assign (.Name x p) env v) Q E s := by
  refine own_kind hs hx fun h1 h2 => ?_
  rw [PySem.assign_Name]
  refine wpAny_bind (wpAny_standAt (store_var I F h1 h2 r fun h' tk c hc hcl I' F' hk st => ?_))
  exact h h' tk I' F' (fun b o hb e => hk b o (fun q => hb (q ▸ ⟨hc, fun z => hcl (hl z)⟩)) e) st
theorem names_ok (hs : ScOk env sc) : ∀ {es : List Expr} {is : List Nat} {vs : List Value} {ds : List PyData} {ρ ρ' : Rho} {s : Shared} {Q : Unit → Shared → Prop}, ownsOf G sc es = some is → (lc = true → ∀ x p, Expr.Name x p ∈ es → env.kindOf x = some .local) → Inv base S μ σ s.heap →
    FrOk base ec G.V S μ env ρ s.heap → RdL s.heap S vs ds → bindMany is ds ρ = some ρ' →
    (∀ h' tk, Inv base S μ σ h' → FrOk base ec G.V S μ env ρ' h' → (∀ b o, ¬ OwnL lc env b → s.heap.get? b = some o → h'.get? b = some o) → (∀ b o, s.heap.get? b = some o → ∃ o', h'.get? b = some o') → Q () { s with heap := h', toks := tk }) →
    wpAny (model prog w) A (assignInOrder ((assignEach es env).map (·.2)) vs) Q E s := by
  intro es
  induction es with
  | nil =>
    intro is vs ds ρ ρ' s Q ht hl I F r hb h
    cases ht
    cases ds with
    | cons d ds => cases hb
    | nil =>
      cases hb
      cases r
      exact wpAny_pure (h s.heap s.toks I F (fun _ _ _ e => e) fun _ o e => ⟨o, e⟩)
  | cons e es ih =>
    intro is vs ds ρ ρ' s Q ht hl I F r hb h
    refine owns_inv (P := fun e is => (lc = true → ∀ x p, Expr.Name x p ∈ e :: es → env.kindOf x = some .local) → bindMany is ds ρ = some ρ' → wpAny (model prog w) A (assignInOrder ((assignEach (e :: es) env).map (·.2)) vs) Q E s) ht (fun x p i is' hi hi' hl hb => ?_) hl hb
    cases r with
    | nil => exact nsm hb
    | @cons v vs d ds rv r =>
      show wpAny _ A (do holding vs (assign (.Name x p) env v); assignInOrder ((assignEach es env).map (·.2)) vs) Q E s
      refine wpAny_bind (wpAny_holding (name_ok (lc := lc) hs hi (fun z => hl z x p (.head _)) I F (.dat rv) fun h₁ tk₁ I₁ F₁ k₁ st₁ => ?_))
      have kS : ∀ a o, S a → s.heap.get? a = some o → h₁.get? a = some o := fun a o ha e => k₁ a o (fun q => q.1.notS I F ha) e
      refine ih (s := { s with heap := h₁, toks := tk₁ }) hi' (fun z x p hm => hl z x p (.tail _ hm)) I₁ F₁ (r.mono kS fun _ q => q) hb fun h₂ tk₂ I₂ F₂ k₂ st₂ => ?_
      exact h h₂ tk₂ I₂ F₂ (fun b o hb e => k₂ b o hb (k₁ b o hb e)) fun b o e => (st₁ b o e).elim fun o' e' => st₂ b o' e'
theorem owns_len : ∀ {es : List Expr} {is : List Nat}, ownsOf G sc es = some is → (assignEach es env).length = is.length ∧ (assignEach es env).findIdx? (·.1) = none
  | [], is, h => os (P := fun is => (assignEach [] env).length = is.length ∧ (assignEach [] env).findIdx? (·.1) = none) h ⟨rfl, rfl⟩
  | e :: es, is, h => owns_inv (P := fun e is => (assignEach (e :: es) env).length = is.length ∧ (assignEach (e :: es) env).findIdx? (·.1) = none) h fun x p i is' _ hi' => ⟨congrArg Nat.succ (owns_len hi').1, by
      show List.findIdx? (·.1) ((false, assign (.Name x p) env) :: assignEach es env) = none
      rw [List.findIdx?_cons, (owns_len hi').2]
      rfl⟩
theorem bindMany_len : ∀ {is : List Nat} {ds : List PyData} {ρ ρ' : Rho}, bindMany is ds ρ = some ρ' → is.length = ds.length := by
  intro is
  induction is with
  | nil => intro ds ρ ρ' h; cases ds with | nil => rfl | cons _ _ => cases h
  | cons i is ih => intro ds ρ ρ' h; cases ds with | nil => cases h | cons d ds => simp [ih h]
theorem bind_ok {t : Expr} {tg : Tgt} (ht : trT G sc t = some tg) (hA : A.handled = none) (hs : ScOk env sc) (hl : lc = true → locE env t) (I : Inv base S μ σ s.heap) (F : FrOk base ec G.V S μ env ρ s.heap) {v : Value} {d : PyData} (r : Rd s.heap S v d) (hb : bindT tg d ρ = some ρ') {Q : Unit → Shared → Prop}
    (h : ∀ h' tk, Inv base S μ σ h' → FrOk base ec G.V S μ env ρ' h' → (∀ b o, ¬ OwnL lc env b → s.heap.get? b = some o → h'.get? b = some o) → (∀ b o, s.heap.get? b = some o → ∃ o', h'.get? b = some o') → Q () { s with heap := h', toks := tk }) :
    wpAny (model prog w) A (assign t env v) Q E s := by
  refine t_inv (P := fun t tg => (lc = true → locE env t) → bindT tg d ρ = some ρ' → wpAny (model prog w) A (assign t env v) Q E s) ht (fun x p i hi hl hb => ?_) (fun es k p is hi hl hb => ?_) hl hb
  · obtain rfl := Option.some.inj hb
    exact name_ok hs hi hl I F (.dat r) h
  · refine ob hb fun ds hd hb => ?_
    cases tupD_eq hd
    cases r with
    | @tuple a vs m _ sa e r =>
      have hlen := bindMany_len hb
      have hl12 := owns_len (env := env) hi
      refine wpAny_assign_Tuple hA (items := vs.toArray) ⟨_, e, rfl, m, rfl⟩ (by rw [hl12.1, hlen, ← r.length]; rfl) hl12.2 fun h₁ x₁ => ?_
      have k₁ : ∀ b o, s.heap.get? b = some o → h₁.get? b = some o := fun b o e => x₁ b o (Nat.ne_of_lt (Heap.lt_size e)) e
      have mv : Mv (fun _ => False) S S s.heap h₁ := Mv.same fun b o _ e => k₁ b o e
      have I₁ := I.mv mv (fun _ q => q.elim) (fun _ q => q.elim) (fun _ q => q.elim) fun _ q => q.elim
      have F₁ := F.mv mv (fun _ q => q.elim) fun _ _ q => q
      refine names_ok (lc := lc) (s := { s with heap := h₁ }) hs hi (fun z => hl z) I₁ F₁ (r.mono (fun b o _ e => k₁ b o e) fun _ q => q) hb fun h₂ tk₂ I₂ F₂ k₂ st₂ => ?_
      exact h h₂ tk₂ I₂ F₂ (fun b o hb e => k₂ b o hb (k₁ b o e)) fun b o e => st₂ b o (k₁ b o e)
end
end Mine
namespace Mine
open PySem PySem.Calls PyProof.Rows
theorem flagAll_len (f : Flag) : ∀ (L : List Nat) (σ : Store), (flagAll f L σ).length = σ.length := by
  intro L
  induction L with
  | nil => intro σ; rfl
  | cons i L ih =>
    intro σ
    simp only [flagAll]
    rw [ih]
    split
    · rw [List.length_set]
    · rfl
theorem flagAll_get (f : Flag) : ∀ (L : List Nat) (σ : Store) (i : Nat), (flagAll f L σ)[i]? = if i ∈ L then (match σ[i]? with | some p => some (f, p.2) | none => none) else σ[i]? := by
  intro L
  induction L with
  | nil => intro σ i; simp [flagAll]
  | cons j L ih =>
    intro σ i
    simp only [flagAll]
    rw [ih]
    by_cases hij : i = j
    · subst hij
      cases q : σ[i]? with
      | none => simp [q]
      | some p =>
        have : (σ.set i (f, p.2))[i]? = some (f, p.2) := set_at q
        simp [this]
    · cases q : σ[j]? with
      | none => simp [hij]
      | some p =>
        have : (σ.set j (f, p.2))[i]? = σ[i]? := set_ne (Ne.symm hij)
        simp [this, hij]
theorem mem_liveOf {σ : Store} : ∀ {vs : List AV} {i : Nat}, i ∈ liveOf σ vs ↔ AV.cell i ∈ vs ∧ ∃ ds, σ[i]? = some (Flag.live, ds) := by
  intro vs
  induction vs with
  | nil => intro i; simp [liveOf]
  | cons v vs ih =>
    intro i
    cases v with
    | cell j =>
      simp only [liveOf, List.mem_append, ih, List.mem_cons]
      constructor
      · rintro (h | ⟨h1, h2⟩)
        · split at h
          · rename_i ds q
            rcases List.mem_singleton.mp h with rfl
            exact ⟨.inl rfl, ds, q⟩
          · cases h
        · exact ⟨.inr h1, h2⟩
      · rintro ⟨h | h, ds, q⟩
        · cases h
          left
          rw [q]
          exact List.mem_singleton.mpr rfl
        · exact .inr ⟨h, ds, q⟩
    | dat d => simp only [liveOf, ih, List.mem_cons]; simp
    | fresh d => simp only [liveOf, ih, List.mem_cons]; simp
    | exc d => simp only [liveOf, ih, List.mem_cons]; simp
section
variable {base : Bs} {X : Addr → Prop} {μ μ' : List Addr} {S S' : Addr → Prop} {σ σ' : Store} {h h' : Heap} {ec : ExcCls} {L : List Nat}
theorem lock_live (hL : ∀ i ∈ L, ∃ ds, σ[i]? = some (Flag.live, ds)) {a : Addr} (l : Live μ (flagAll .locked L σ) a) : Live μ σ a := by
  obtain ⟨i, ds, e1, e2⟩ := l
  rw [flagAll_get] at e2
  split at e2
  · split at e2 <;> cases e2
  · exact ⟨i, ds, e1, e2⟩
theorem lock_ev (I : Inv base S μ σ h) (hL : ∀ i ∈ L, ∃ ds, σ[i]? = some (Flag.live, ds)) : Ev base μ S S σ (flagAll .locked L σ) h h where
  sub := fun _ q => q
  new := fun _ q => .inl q
  inv := {
    keepB := I.keepB
    len := by rw [flagAll_len]; exact I.len
    cells := fun i a f ds e1 e2 => by
      rw [flagAll_get] at e2
      split at e2
      · rename_i hi
        obtain ⟨es, q⟩ := hL i hi
        rw [q] at e2
        cases e2
        obtain ⟨vs, n, k1, k2, k3, k4⟩ := I.cells i a _ _ e1 q
        exact ⟨vs, n, k1, k2, fun z => (nomatch z), fun _ => k4 (by intro z; cases z)⟩
      · exact I.cells i a f ds e1 e2
    nodup := I.nodup
    new := I.new
    inS := I.inS
    zs := I.zs }
  keep := fun _ _ _ e => .inl e
  live := fun _ l => lock_live hL l
theorem unlock (I : Inv base S μ σ h) (hL : ∀ i ∈ L, ∃ ds, σ[i]? = some (Flag.live, ds)) (x : Evo base X μ μ' S S' (flagAll .locked L σ) σ' h h') : Evo base X μ μ' S S' σ (flagAll .live L σ') h h' := by
  have muL : ∀ (i : Nat) (a : Addr), i ∈ L → μ'[i]? = some a → μ[i]? = some a := fun i a hi e => by
    obtain ⟨ds, q⟩ := hL i hi
    obtain ⟨b, hb⟩ := I.cell q
    rw [x.mu i b hb] at e
    rw [hb]; exact e
  have nLive : ∀ (i : Nat) (a : Addr), i ∈ L → μ[i]? = some a → ¬ Live μ (flagAll .locked L σ) a := fun i a hi e l => by
    obtain ⟨j, ds, e1, e2⟩ := l
    obtain rfl := I.nodup i j a e e1
    rw [flagAll_get, if_pos hi] at e2
    split at e2 <;> cases e2
  refine ⟨x.ext, x.sub, fun a s => ?_, ?_, fun b o hb hl e => x.keep b o hb (fun l => hl (lock_live hL l)) e, fun a l => ?_, x.stay⟩
  · rcases x.new a s with q | q | q
    · exact .inl q
    · exact .inr (.inl q)
    · exact .inr (.inr (lock_live hL q))
  · refine ⟨x.inv.keepB, by rw [flagAll_len]; exact x.inv.len, fun i a f ds e1 e2 => ?_, x.inv.nodup, x.inv.new, x.inv.inS, x.inv.zs⟩
    rw [flagAll_get] at e2
    split at e2
    · rename_i hi
      split at e2
      · rename_i p q
        cases e2
        obtain ⟨f', es⟩ := p
        obtain ⟨vs, n, k1, k2, _, _⟩ := x.inv.cells i a f' es e1 q
        refine ⟨vs, n, k1, k2, fun z => (nomatch z), fun _ s => ?_⟩
        have em := muL i a hi e1
        obtain ⟨us, q⟩ := hL i hi
        obtain ⟨ws, m, j1, _, _, j4⟩ := I.cells i a _ us em q
        rcases x.new a s with z | z | z
        · exact j4 (by intro z; cases z) z
        · rw [z] at j1; cases j1
        · exact nLive i a hi em z
      · cases e2
    · exact x.inv.cells i a f ds e1 e2
  · obtain ⟨i, ds, e1, e2⟩ := l
    rw [flagAll_get] at e2
    split at e2
    · rename_i hi
      obtain ⟨us, q⟩ := hL i hi
      exact .inl ⟨i, us, muL i a hi e1, q⟩
    · rcases x.live a ⟨i, ds, e1, e2⟩ with z | z
      · exact .inl (lock_live hL z)
      · exact .inr z
theorem liveOf_ok {vs : List AV} : ∀ i ∈ liveOf σ vs, ∃ ds, σ[i]? = some (Flag.live, ds) := fun _ hi => (mem_liveOf.mp hi).2
theorem seq_locked {vs : List AV} (I : Inv base S μ σ h) {v : Value} {av : AV} {a : Addr} (m : av ∈ vs) (r : RdA ec h S μ v av) (e : v = .ref a) : ¬ Live μ (flagAll .locked (liveOf σ vs) σ) a := fun l => by
  have l' := lock_live liveOf_ok l
  cases r with
  | dat r =>
    subst e
    cases r with
    | tuple s e _ => exact l'.notS I s
    | list s e _ => exact l'.notS I s
  | @cell i b hi =>
    cases e
    obtain ⟨j, ds, e1, e2⟩ := l
    obtain rfl := I.nodup i j _ hi e1
    rw [flagAll_get] at e2
    split at e2
    · split at e2 <;> cases e2
    · rename_i hn
      exact hn (mem_liveOf.mpr ⟨m, ds, e2⟩)
  | exc s _ _ => cases e; exact l'.notS I s
end
section
variable {prog : Program} {w : World} {A : Around}
theorem Src.long (hh : A.handled = none) (I : Addr) (a b : Int) :
    Src prog w A I (fun c => c = I) (fun c => c = I) (rangeL a b) (fun t => isNameT t = true)
      (fun i h => IsLongIter h I (a + (i : Nat) * 1) ((((b - a).toNat : Nat) : Int) - (i : Nat)) 1) (fun i _ h => IsLongIter h I (a + ((i + 1 : Nat) : Int) * 1) ((((b - a).toNat : Nat) : Int) - ((i + 1 : Nat) : Int)) 1) (fun _ _ => True) where
  sub := fun _ hb => hb
  frame := fun i h h' st hk => hk I _ rfl st
  alloc := fun i h c st hc => by
    subst hc
    exact ⟨_, st, by constructor <;> (intros; intro q; cases q)⟩
  mono := fun _ _ _ _ _ _ _ => trivial
  next := fun i d S s Q E hd st r hw hQ => by
    obtain ⟨hi, rfl⟩ := rangeL_get hd
    refine wpAny_pyNext_long_item st (by omega) fun h' hit hs => ?_
    rw [Int.mul_one] at *
    refine hQ _ h' _ S (.same fun b o hb e => hs.extBut b o hb e) (.int _ _) ?_
    have e1 : a + ((i + 1 : Nat) : Int) = a + (i : Int) + 1 := by omega
    have e2 : (((b - a).toNat : Nat) : Int) - ((i + 1 : Nat) : Int) = (((b - a).toNat : Nat) : Int) - (i : Int) - 1 := by omega
    rw [e1, e2]; exact hit
  go := fun i v t s Q E ht hm hQ => go_name ht (hQ s.heap (fun _ _ _ e => e) hm)
  done := fun S s Q E st r hQ => wpAny_pyNext_long_end hh st (by rw [rangeL_len]; omega) fun h' he => hQ h' s.toks fun b o hb e => he b o hb e
  self := fun i s Q E st hQ => wpAny_pyIter_longiter st hQ
end
noncomputable def Tk : ItK → Expr → Prop
  | .seq, t => isNameT t = true ∨ isTupT t = true
  | .range1, t => isNameT t = true
  | .range2, t => isNameT t = true
  | .zip, t => isTupT t = true
structure Made (prog : Program) (w : World) (A : Around) (μ : List Addr) (S : Addr → Prop) (σ : Store) (k : ItK) (xs : List PyData) (I : Addr) (h₀ h₁ : Heap) (fp wr : Addr → Prop) (St : Nat → Heap → Prop) (Mid : Nat → Value → Heap → Prop) (Ok : (Addr → Prop) → Heap → Prop) : Prop where
  src : Src prog w A I fp wr xs (Tk k) St Mid Ok
  grow : ∀ b o, h₀.get? b = some o → h₁.get? b = some o
  st : St 0 h₁
  ok : Ok S h₁
  wn : ∀ b, wr b → h₀.get? b = none
  nl : ∀ b, fp b → ¬ Live μ σ b
noncomputable def SI (prog : Program) (w : World) (base : Bs) (ec : ExcCls) (G : Cfg) (n : Nat) (Φ : Phi) (sc : Sc) (e : Expr) (k : ItK) (cs : List CE) : Prop :=
  (∀ env x, foldedSetIterable e env x = pure x) ∧
  ∀ (A : Around) (env : Env) (ρ : Rho) (σ σ₁ : Store) (vs : List AV) (ds xs : List PyData) (S : Addr → Prop) (μ : List Addr) (s : Shared) (Q : Value → Shared → Prop) (E : Value → Shared → Prop),
    AOk base n A → ScOk env sc → Inv base S μ σ s.heap → FrOk base ec G.V S μ env ρ s.heap → evEs Φ cs ρ σ = some (vs, σ₁) → rdAll σ₁ vs = some ds → itemsD k ds = some xs →
    (∀ I h₀ h₁ tk S₀ fp wr St Mid Ok, Ev base μ S S₀ σ σ₁ s.heap h₀ → Made prog w A μ S₀ (flagAll .locked (liveOf σ₁ vs) σ₁) k xs I h₀ h₁ fp wr St Mid Ok → Q (.ref I) { s with heap := h₁, toks := tk }) →
    wpAny (model prog w) A (eval e env) (fun xv s₁ => wpAny (model prog w) A (pyIter xv) Q E s₁) E s
section
variable {prog : Program} {w : World} {base : Bs} {ec : ExcCls} {G : Cfg} {n : Nat} {Φ : Phi} {sc : Sc}
theorem noSet_fold {e : Expr} (h : noSet e = true) : ∀ env x, foldedSetIterable e env x = pure x := by
  intro env x
  cases e <;> first | rfl | cases h
theorem fresh_not {h : Heap} {a : Addr} {o : Obj} (e : h.get? a = some o) : a ≠ h.objs.size := Nat.ne_of_lt (Heap.lt_size e)
theorem seqD_get {h : Heap} {S : Addr → Prop} {v : Value} {d : PyData} {xs : List PyData} (r : Rt h S v d) (e : seqD d = some xs) : ∃ k a vs m, v = .ref a ∧ h.get? a = some (seqO k vs m) ∧ RdL h S vs xs := by
  cases d <;> first | (cases e; done) | skip
  · cases e
    obtain ⟨a, vs, m, rfl, e, q⟩ := r.lstD
    exact ⟨true, a, vs, m, rfl, e, q⟩
  · cases e
    obtain ⟨a, vs, m, rfl, _, e, q⟩ := r.tupD
    exact ⟨false, a, vs, m, rfl, e, q⟩
theorem made_seq {A : Around} (hA : A.handled = none) {k : Bool} {a : Addr} {vs : List Value} {m : Nat} {xs : List PyData} {h : Heap} {S : Addr → Prop} {μ : List Addr} {σ : Store} (he : h.get? a = some (seqO k vs m)) (r : RdL h S vs xs) (hl : ¬ Live μ σ a)
    (hI : ∀ b, Live μ σ b → ∃ o, h.get? b = some o) : ∃ fp wr St Mid Ok, Made prog w A μ S σ .seq xs h.objs.size h (h.push (iterO k a)) fp wr St Mid Ok := by
  have g : ∀ b o, h.get? b = some o → (h.push (iterO k a)).get? b = some o := fun _ _ e => Heap.get?_push_of_some _ e
  have hi : (h.push (iterO k a)).get? h.objs.size = some (iterO k a) := Heap.get?_push_size _ rfl
  have nl : ∀ b, b = h.objs.size ∨ b = a → ¬ Live μ σ b := fun b hb l => by
    rcases hb with rfl | rfl
    · obtain ⟨o, e⟩ := hI _ l
      exact fresh_not e rfl
    · exact hl l
  cases k with
  | true => exact ⟨_, _, _, _, _, Src.list hA h.objs.size a (fresh_not he) vs m xs, g, ⟨itAt_new (k := true) hi, g _ _ he⟩, r.mono (fun b o _ e => g b o e) (fun _ q => q), fun b hb => hb ▸ fresh_none h, nl⟩
  | false => exact ⟨_, _, _, _, _, Src.tuple hA h.objs.size a (fresh_not he) vs m xs, g, ⟨itAt_new (k := false) hi, g _ _ he⟩, r.mono (fun b o _ e => g b o e) (fun _ q => q), fun b hb => hb ▸ fresh_none h, nl⟩
theorem live_has {h : Heap} {S : Addr → Prop} {μ : List Addr} {σ : Store} (I : Inv base S μ σ h) : ∀ b, Live μ σ b → ∃ o, h.get? b = some o := fun b l => let ⟨_, _, e⟩ := l.obj I; ⟨_, e⟩
theorem si_seq (hot0 : base.hot = false) {e : Expr} {c : CE} (hn : noSet e = true) (H : SE prog w base ec G n Φ sc e c) : SI prog w base ec G n Φ sc e .seq [c] := by
  refine ⟨noSet_fold hn, fun A env ρ σ σ₁ vs ds xs S μ s Q E hA hs I F q₁ q₂ q₃ P => ?_⟩
  refine i_lcons q₁ fun v σ₂ vs' q q' z1 => ?_
  subst z1
  obtain ⟨rfl, rfl⟩ := i_lnil q'
  obtain ⟨d, qd, q₂⟩ := bnd q₂
  cases q₂
  refine seq1 H hA hs I F q fun u h' tk S' x r F' => ?_
  have t := r.rt x.inv qd
  have L := lock_ev (L := liveOf σ₁ [settle v]) x.inv liveOf_ok
  have key : seqD d = some xs → wpAny (model prog w) A (pyIter u) Q E { s with heap := h', toks := tk } := fun q₃ => by
    obtain ⟨k, a, us, m, rfl, he, rl⟩ := seqD_get t q₃
    refine pyIter_k he ?_
    obtain ⟨fp, wr, St, Mid, Ok, M⟩ := made_seq (prog := prog) (w := w) (μ := μ) (hA.hd hot0) he rl (seq_locked x.inv (.head _) r rfl) (live_has L.inv)
    exact P _ _ _ tk S' _ _ _ _ _ x M
  cases d <;> first | exact key q₃ | skip
  obtain ⟨t', rfl⟩ := t.strD
  refine og q₃ fun ha q₃ => os (P := fun xs => (∀ I h₀ h₁ tk S₀ fp wr St Mid Ok, Ev base μ S S₀ σ σ₁ s.heap h₀ → Made prog w A μ S₀ (flagAll .locked (liveOf σ₁ [settle v]) σ₁) .seq xs I h₀ h₁ fp wr St Mid Ok → Q (.ref I) { s with heap := h₁, toks := tk }) → wpAny (model prog w) A (pyIter (.str _ t')) Q E { s with heap := h', toks := tk }) q₃ (fun P => wpAny_pyIter_ascii ha (P _ h' _ tk S' _ _ _ _ _ x ⟨Src.strA (hA.hd hot0) h'.objs.size _ t', fun _ _ e => Heap.get?_push_of_some _ e, ⟨_, Heap.get?_push_size _ rfl, rfl, rfl⟩, trivial, fun b hb => hb ▸ fresh_none h', fun b hb l => ?_⟩)) P
  obtain ⟨o, e⟩ := live_has L.inv b l
  exact fresh_not e hb
theorem made_range {A : Around} (hA : A.handled = none) {k : ItK} (hk : Tk k = fun t => isNameT t = true) {a b : Int} {r : Addr} {t u v : Tok} {s : Shared} {h : Heap} {S : Addr → Prop} {μ : List Addr} {σ : Store} (hr : IsRange s.heap r a b 1 t u v) (hg : ∀ b o, h.get? b = some o → s.heap.get? b = some o)
    (hI : ∀ b, Live μ σ b → ∃ o, h.get? b = some o) {Q : Value → Shared → Prop} {E : Value → Shared → Prop}
    (P : ∀ I h₁ fp wr St Mid Ok, Made prog w A μ S σ k (rangeL a b) I h h₁ fp wr St Mid Ok → Q (.ref I) { s with heap := h₁ }) : wpAny (model prog w) A (pyIter (.ref r)) Q E s := by
  have hsz : Builtin.Range.rangeSize a b 1 = (((b - a).toNat : Nat) : Int) := by rw [rangeSize_one]; split <;> omega
  have g : ∀ o' b o, h.get? b = some o → (s.heap.push o').get? b = some o := fun _ _ _ e => Heap.get?_push_of_some _ (hg _ _ e)
  have nh : h.get? s.heap.objs.size = none := by
    cases e : h.get? s.heap.objs.size with
    | none => rfl
    | some o => exact absurd rfl (fresh_not (hg _ _ e))
  have nl : ∀ b, b = s.heap.objs.size → ¬ Live μ σ b := fun b hb l => by
    obtain ⟨o, e⟩ := hI b l
    rw [hb, nh] at e; cases e
  have e1 : a + ((0 : Nat) : Int) * 1 = a := by simp
  have e2 : (((b - a).toNat : Nat) : Int) - ((0 : Nat) : Int) = Builtin.Range.rangeSize a b 1 := by rw [hsz]; simp
  cases hs : Builtin.Range.small a b 1 with
  | true =>
    refine wpAny_pyIter_range hr hs (P _ _ (fun c => c = s.heap.objs.size) (fun c => c = s.heap.objs.size) _ _ _ ⟨by rw [hk]; exact Src.range hA s.heap.objs.size a b, g _, ?_, trivial, fun b hb => hb ▸ nh, nl⟩)
    show IsRangeIter _ _ _ _ _
    rw [e1, e2]
    exact Heap.get?_push_size _ rfl
  | false =>
    refine wpAny_pyIter_longrange hr hs (P _ _ (fun c => c = s.heap.objs.size) (fun c => c = s.heap.objs.size) _ _ _ ⟨by rw [hk]; exact Src.long hA s.heap.objs.size a b, g _, ?_, trivial, fun b hb => hb ▸ nh, nl⟩)
    show IsLongIter _ _ _ _ _
    rw [e1, e2]
    exact Heap.get?_push_size _ rfl
theorem call_fold {g : Expr} {es : List Expr} {ks : List Keyword} {pos : Pos} : ∀ env x, foldedSetIterable (.Call g es ks pos) env x = pure x := fun _ _ => rfl
theorem si_range1 (W : Wd base ec G) {g : Str} {p pos : Pos} {e : Expr} {c : CE} (hg : isGlob sc g = true) (ho : okName g = true) (hr : (g == ("range" : Str)) = true) (hn : noStar e = true) (H : SE prog w base ec G n Φ sc e c) : SI prog w base ec G n Φ sc (.Call (.Name g p) [e] [] pos) .range1 [c] := by
  refine ⟨call_fold, fun A env ρ σ σ₁ vs ds xs S μ s Q E hA hs I F q₁ q₂ q₃ P => ?_⟩
  rw [beq_iff_eq] at hr
  subst hr
  refine wpAny_Call_Name_kw (eval_glob F I.keepB ((hs.gl _).trans hg) ho (W.blt _ (.type "range") (blt_rest (.tail _ (.head _)))) ?_)
  refine callB_ok (.inr ⟨_, rfl⟩) (by simp) (.cons hn H .nil) hA hs I F q₁ fun us h' tk S' x r => ?_
  have rl := r.rtL x.inv q₂
  obtain ⟨d, k1, q₄⟩ := bnd q₃
  obtain ⟨b, k2, q₅⟩ := bnd q₄
  obtain ⟨_, q₆⟩ := gd q₅
  cases one_eq k1
  cases intD_eq k2
  cases q₆
  cases rl with
  | cons ru rl => cases rl with
    | nil =>
      obtain ⟨t, rfl⟩ := ru.intD
      refine call_range_1 ?_
      have L := lock_ev (L := liveOf σ₁ vs) x.inv liveOf_ok
      exact made_range (hA.hd W.cold) rfl (S := S') (μ := μ) (IsRange.new ..) (fun _ _ e => Heap.get?_push_of_some _ e) (live_has L.inv) fun I h₁ fp wr St Mid Ok M => P I h' h₁ _ S' fp wr St Mid Ok x M
end
end Mine
namespace Mine
open PySem PySem.Calls PyProof.Rows
noncomputable def erase (tg : Tgt) (ρ : Rho) : Rho := fun j => if tg.has j then none else ρ j
theorem bindMany_agree : ∀ {is : List Nat} {ds : List PyData} {ρ₁ ρ₂ ρ' : Rho}, (∀ j, j ∉ is → ρ₁ j = ρ₂ j) → bindMany is ds ρ₁ = some ρ' → bindMany is ds ρ₂ = some ρ' := by
  intro is
  induction is with
  | nil =>
    intro ds ρ₁ ρ₂ ρ' h e
    cases ds with
    | nil =>
      have : ρ₁ = ρ₂ := funext fun j => h j (by simp)
      rw [← this]; exact e
    | cons _ _ => cases e
  | cons i is ih =>
    intro ds ρ₁ ρ₂ ρ' h e
    cases ds with
    | nil => cases e
    | cons d ds =>
      refine ih (ρ₁ := ρ₁.set i (.dat d)) (fun j hj => ?_) e
      unfold Rho.set
      split
      · rfl
      · rename_i hne; exact h j (by simp [hne, hj])
theorem bindMany_other : ∀ {is : List Nat} {ds : List PyData} {ρ ρ' : Rho} {j : Nat}, bindMany is ds ρ = some ρ' → j ∉ is → ρ' j = ρ j := by
  intro is
  induction is with
  | nil => intro ds ρ ρ' j h _; cases ds with | nil => cases h; rfl | cons _ _ => cases h
  | cons i is ih =>
    intro ds ρ ρ' j h hj
    cases ds with
    | nil => cases h
    | cons d ds =>
      have := ih (ρ := ρ.set i (.dat d)) h (fun q => hj (.tail _ q))
      rw [this]
      unfold Rho.set
      rw [if_neg (fun q => hj (by rw [q]; exact .head _))]
theorem bindT_erase {tg : Tgt} {d : PyData} {ρ ρ' : Rho} (h : bindT tg d ρ = some ρ') : bindT tg d (erase tg ρ) = some ρ' := by
  cases tg with
  | one i =>
    cases h
    show some _ = some _
    congr 1
    funext j
    unfold Rho.set erase Tgt.has
    by_cases q : j = i
    · simp [q]
    · simp [q, Ne.symm q]
  | many is =>
    cases d <;> first | (cases h; done) | skip
    refine bindMany_agree (fun j hj => ?_) h
    unfold erase Tgt.has
    simp [hj]
theorem bindT_other {tg : Tgt} {d : PyData} {ρ ρ' : Rho} {j : Nat} {av : AV} (h : bindT tg d ρ = some ρ') (e : erase tg ρ j = some av) : ρ' j = some av := by
  unfold erase at e
  split at e
  · cases e
  · rename_i hn
    cases tg with
    | one i =>
      cases h
      unfold Rho.set
      rw [if_neg (fun q => hn (by simp [Tgt.has, q]))]
      exact e
    | many is =>
      cases d <;> first | (cases h; done) | skip
      rw [bindMany_other h (fun q => hn (by simp [Tgt.has, q]))]
      exact e
theorem closure_go (env : Env) : ∀ (names : List (Str × NameKind)) (acc : List (Str × Addr)), (∀ p ∈ names, p.2 = .free → ∃ c, env.cells.lookup p.1 = some c) →
    ∃ cl, (forIn names acc fun (x : Str × NameKind) r => match x with | (name, kind) => if (kind == NameKind.free) = true then do let a ← cellOf env name; pure (ForInStep.yield ((name, a) :: r)) else pure (ForInStep.yield r) : Sem (List (Str × Addr))) = pure cl ∧
      (∀ x c, (x, c) ∈ cl → (x, c) ∈ acc ∨ env.cells.lookup x = some c) ∧ (∀ x, ((x, NameKind.free) ∈ names ∨ ∃ c, (x, c) ∈ acc) → ∃ c, (x, c) ∈ cl) := by
  intro names
  induction names with
  | nil => intro acc _; exact ⟨acc, rfl, fun _ _ h => .inl h, fun x h => h.elim (fun q => nomatch q) id⟩
  | cons p names ih =>
    intro acc h
    obtain ⟨x, k⟩ := p
    rw [List.forIn_cons]
    dsimp only
    by_cases hk : k = .free
    · subst hk
      obtain ⟨c, hc⟩ := h (x, .free) (.head _) rfl
      have e : cellOf env x = pure c := by unfold cellOf; dsimp only at hc; rw [hc]
      rw [if_pos (by rfl), e, pure_bind, pure_bind]
      obtain ⟨cl, e', h1, h2⟩ := ih ((x, c) :: acc) fun p hp => h p (.tail _ hp)
      refine ⟨cl, e', fun y d hy => ?_, fun y hy => ?_⟩
      · rcases h1 y d hy with q | q
        · rcases List.mem_cons.mp q with q | q
          · cases q; exact .inr hc
          · exact .inl q
        · exact .inr q
      · rcases hy with hy | ⟨d, hy⟩
        · rcases List.mem_cons.mp hy with q | q
          · cases q; exact h2 x (.inr ⟨c, .head _⟩)
          · exact h2 y (.inl q)
        · exact h2 y (.inr ⟨d, .tail _ hy⟩)
    · have hb : (k == NameKind.free) = false := by simpa using hk
      rw [if_neg (by rw [hb]; exact Bool.false_ne_true), pure_bind]
      obtain ⟨cl, e', h1, h2⟩ := ih acc fun p hp => h p (.tail _ hp)
      refine ⟨cl, e', h1, fun y hy => ?_⟩
      rcases hy with hy | hy
      · rcases List.mem_cons.mp hy with q | q
        · cases q; exact absurd rfl hk
        · exact h2 y (.inl q)
      · exact h2 y (.inr hy)
theorem lookup_of_mem {α : Type} : ∀ {l : List (Str × α)} {x : Str} {c : α}, (x, c) ∈ l → ∃ d, l.lookup x = some d := by
  intro l
  induction l with
  | nil => intro x c h; cases h
  | cons p l ih =>
    intro x c h
    obtain ⟨y, d⟩ := p
    rw [List.lookup_cons]
    by_cases q : x = y
    · subst q; simp
    · have : (x == y) = false := by simpa using q
      rw [this]
      rcases List.mem_cons.mp h with z | z
      · cases z; exact absurd rfl q
      · exact ih z
theorem closure_ok {scope : Scope} {env : Env} (h : ∀ p ∈ scope.names, p.2 = .free → ∃ c, env.cells.lookup p.1 = some c) : ∃ cl, closureFor scope env = pure cl ∧ (∀ x c, (x, c) ∈ cl → env.cells.lookup x = some c) ∧ (∀ x, (x, NameKind.free) ∈ scope.names → ∃ c, cl.lookup x = some c) := by
  obtain ⟨cl, e, h1, h2⟩ := closure_go env scope.names [] h
  refine ⟨cl, ?_, fun x c hx => (h1 x c hx).elim (fun q => nomatch q) id, fun x hx => ?_⟩
  · show (forIn scope.names [] (fun (x : Str × NameKind) r => match x with | (name, kind) => if (kind == NameKind.free) = true then do let a ← cellOf env name; pure (ForInStep.yield ((name, a) :: r)) else pure (ForInStep.yield r)) >>= fun cs => pure cs : Sem (List (Str × Addr))) = pure cl
    rw [e, pure_bind]
  · obtain ⟨c, hc⟩ := h2 x (.inl hx)
    exact lookup_of_mem hc
theorem relabel_lookup {env : Env} : ∀ (names : List (Str × NameKind)) (x : Str), (names.map fun (n, k) => if (k == NameKind.free && env.scope.kind == .function && env.kindOf n == some .cell) then (n, NameKind.cell) else (n, k)).lookup x = names.lookup x ∨
    (names.lookup x = some .free ∧ (names.map fun (n, k) => if (k == NameKind.free && env.scope.kind == .function && env.kindOf n == some .cell) then (n, NameKind.cell) else (n, k)).lookup x = some .cell)
  | [], _ => .inl rfl
  | (n, k) :: r, x => by
    have ih := @relabel_lookup env r x
    rw [List.map_cons, List.lookup_cons]
    dsimp only
    by_cases hc : (k == NameKind.free && env.scope.kind == .function && env.kindOf n == some .cell) = true
    · rw [if_pos hc, List.lookup_cons]
      cases hx : x == n with
      | true =>
        right
        refine ⟨?_, rfl⟩
        rw [Bool.and_eq_true, Bool.and_eq_true] at hc
        have : k = .free := by simpa using hc.1.1
        rw [this]
      | false => exact ih
    · rw [if_neg hc, List.lookup_cons]
      cases hx : x == n with
      | true => exact .inl rfl
      | false => exact ih
theorem comp_sc {scope : Scope} {cl : List (Str × Addr)} {C : Addr} {env : Env} : ScOk (compEnvC scope cl C env) scope.names := fun x => relabel_lookup scope.names x
theorem kindIs_eq {k : Option NameKind} {j : NameKind} (h : kindIs k j = true) : k = some j := by
  unfold kindIs at h
  split at h <;> first | rfl | cases h
structure Fits (sc : Sc) (scope : Scope) : Prop where
  kind : scope.kind = .function
  cell : ∀ y ∈ scope.names, y.2 ≠ .cell
  loc : ∀ y ∈ scope.names, y.2 = .local → scope.names.lookup y.1 = some .local
  free : ∀ y ∈ scope.names, y.2 = .free → sc.lookup y.1 = some .cell ∨ sc.lookup y.1 = some .free
theorem scopeFits_ok {sc : Sc} {scope : Scope} (h : scopeFits sc scope = true) : Fits sc scope := by
  unfold scopeFits at h
  rw [Bool.and_eq_true] at h
  obtain ⟨h1, h2⟩ := h
  have h2' := List.all_eq_true.mp h2
  refine ⟨?_, fun y hy e => ?_, fun y hy e => ?_, fun y hy e => ?_⟩
  · split at h1
    · rename_i q; exact q
    · cases h1
  · have := h2' y hy
    rw [e] at this; cases this
  · have := h2' y hy
    rw [e] at this; exact kindIs_eq this
  · have := h2' y hy
    rw [e] at this
    rw [Bool.or_eq_true] at this
    exact this.imp kindIs_eq kindIs_eq
section
variable {base : Bs} {ec : ExcCls} {G : Cfg} {S : Addr → Prop} {μ : List Addr} {env : Env} {ρ : Rho} {h : Heap} {sc : Sc} {scope : Scope} {cl : List (Str × Addr)} {C : Addr} {tg : Tgt}
theorem free_kind (hs : ScOk env sc) (ft : Fits sc scope) {x : Str} (hx : (x, NameKind.free) ∈ scope.names) : env.kindOf x = some .cell ∨ env.kindOf x = some .free := by
  rcases ft.free _ hx rfl with q | q
  · rcases hs x with z | ⟨z, _⟩
    · exact .inl (z.trans q)
    · rw [z] at q; cases q
  · rcases hs x with z | ⟨_, z⟩
    · exact .inr (z.trans q)
    · exact .inl z
theorem comp_free (ft : Fits sc scope) {x : Str} (hx : (compEnvC scope cl C env).kindOf x = some .cell ∨ (compEnvC scope cl C env).kindOf x = some .free) : (x, NameKind.free) ∈ scope.names := by
  have k : (compEnvC scope cl C env).kindOf x = (compEnvC scope cl C env).scope.names.lookup x := rfl
  rcases comp_sc (scope := scope) (cl := cl) (C := C) (env := env) x with q | ⟨q, _⟩
  · rw [k, q] at hx
    rcases hx with z | z
    · exact absurd rfl (ft.cell _ (mem_lookup z))
    · exact mem_lookup z
  · exact mem_lookup q
theorem comp_frame (hs : ScOk env sc) (ft : Fits sc scope) (hl : locsIn G scope tg = true) (F : FrOk base ec G.V S μ env ρ h) (hc1 : ∀ x c, (x, c) ∈ cl → env.cells.lookup x = some c) (hc2 : ∀ x, (x, NameKind.free) ∈ scope.names → ∃ c, cl.lookup x = some c)
    {m : Str → Option Value} (hn : h.Ns C m) (hb : base.get? C = none) : FrOk base ec G.V S μ (compEnvC scope cl C env) (erase tg ρ) h where
  kind := by show (relabel scope env).kind = _; exact ft.kind
  glob := F.glob
  blt := F.blt
  ns := ⟨m, hn, fun x i av hx hi hk => by
    have hm : (x, NameKind.local) ∈ scope.names := by
      rcases comp_sc (scope := scope) (cl := cl) (C := C) (env := env) x with q | ⟨_, q⟩
      · exact mem_lookup (q.symm.trans hk)
      · have hk' : (compEnvC scope cl C env).scope.names.lookup x = some .local := hk
        rw [q] at hk'; cases hk'
    have := List.all_eq_true.mp hl _ hm
    dsimp only at this
    rw [hx] at this
    unfold erase at hi
    rw [if_pos this] at hi; cases hi⟩
  cell := fun x c hc => F.cell x c (hc1 x c (mem_of_lookup hc))
  val := fun x c i av h0 hx hi hk => by
    have hm := comp_free ft hk
    have hi' : ρ i = some av := by unfold erase at hi; split at hi; cases hi; exact hi
    exact F.val x c i av (hc1 x c (mem_of_lookup h0)) hx hi' (free_kind hs ft hm)
  has := fun x hk => hc2 x (comp_free ft hk)
  apart := fun x y c hx hy => F.apart x y c (hc1 x c (mem_of_lookup hx)) (hc1 y c (mem_of_lookup hy))
  newL := hb
  newC := fun x c hc => F.newC x c (hc1 x c (mem_of_lookup hc))
end
section
variable {prog : Program} {w : World} {base : Bs} {ec : ExcCls} {G : Cfg} {n : Nat} {Φ : Phi} {sc : Sc}
theorem tests_false {A : Around} {env : Env} {E : Value → Shared → Prop} {Q : Bool → Shared → Prop} {s : Shared} : ∀ (ifs : List Expr), Q false s →
    wpAny (model prog w) A (forIn ifs false fun c r => if r = true then do let ok ← isTrue c env (eval c env); pure (ForInStep.yield ok) else pure (ForInStep.yield r)) Q E s := by
  intro ifs
  induction ifs with
  | nil => intro h; exact wpAny_pure h
  | cons c ifs ih =>
    intro h
    rw [List.forIn_cons]
    simp only [Bool.false_eq_true, if_false]
    rw [pure_bind]
    exact ih h
theorem tests_ok {A : Around} {env : Env} : ∀ {ifs : List Expr} {cs : List CE} (ρ : Rho) (σ σ' : Store) (b : Bool) (S : Addr → Prop) (μ : List Addr) (s : Shared) (Q : Bool → Shared → Prop) (E : Value → Shared → Prop),
    SBs prog w base ec G n Φ sc ifs cs → AOk base n A → ScOk env sc → Inv base S μ σ s.heap → FrOk base ec G.V S μ env ρ s.heap → evB Φ .And cs ρ σ = some (b, σ') → (∀ h' tk S', Ev base μ S S' σ σ' s.heap h' → Q b { s with heap := h', toks := tk }) →
    wpAny (model prog w) A (forIn ifs true fun c r => if r = true then do let ok ← isTrue c env (eval c env); pure (ForInStep.yield ok) else pure (ForInStep.yield r)) Q E s := by
  intro ifs
  induction ifs with
  | nil =>
    intro cs ρ σ σ' b S μ s Q E hS hA hs I F q P
    cases hS
    cases q
    exact wpAny_pure (P s.heap s.toks S (.refl I))
  | cons c ifs ih =>
    intro cs ρ σ σ' b S μ s Q E hS hA hs I F q P
    cases hS with
    | @cons _ _ c' cs' H hS =>
    refine i_bcons q fun b₁ σ₁ q₁ q => ?_
    rw [List.forIn_cons]
    simp only [if_true]
    refine wpAny_bind (wpAny_bind (H.2 A env ρ σ σ₁ _ b₁ S μ s _ E hA hs I F q₁ rfl fun h' tk S' x => wpAny_pure ?_))
    cases b₁ with
    | false =>
      cases q
      exact tests_false ifs (P h' tk S' x)
    | true => exact ih ρ σ₁ σ' b S' μ { s with heap := h', toks := tk } Q E hS hA hs x.inv (F.ev I x) q fun h'' tk' S'' x' => P h'' tk' S'' (x.trans x')
theorem comp_loop (hot0 : base.hot = false) {A : Around} {elt iter target : Expr} {ifs : List Expr} {scope : Scope} {pos : Pos} {I : Addr} {xs : List PyData} {fp wr : Addr → Prop} {St : Nat → Heap → Prop} {Mid : Nat → Value → Heap → Prop} {Ok : (Addr → Prop) → Heap → Prop} {T : Expr → Prop}
    {cenv : Env} {D : Addr} {tg : Tgt} {ρ : Rho} {μ : List Addr} {S₀ : Addr → Prop} {σ₀ : Store} {h₀ : Heap} {ce : CE} {cs : List CE} (Z : Src prog w A I fp wr xs T St Mid Ok) (hA : AOk base n A) (hs : ScOk cenv sc) (hT : T target) (htr : trT G sc target = some tg) (hloc : locE cenv target)
    (I₀ : Inv base S₀ μ σ₀ h₀) (H : SE prog w base ec G n Φ sc elt ce) (hS : SBs prog w base ec G n Φ sc ifs cs) (hC0 : h₀.get? cenv.locals = none) (hD0 : h₀.get? D = none) (hDf : ¬ fp D) :
    ∀ (rest : List PyData) (i : Nat) (acc out : List PyData) (ys : List Value) (m : Nat) (S : Addr → Prop) (σ σ' : Store) (s : Shared) (R : Result → Shared → Prop), xs.drop i = rest → i ≤ xs.length → Lp base (fun _ => False) μ S₀ σ₀ h₀ fp wr St Ok i μ S σ s.heap → FrOk base ec G.V S μ cenv (erase tg ρ) s.heap →
      s.heap.get? D = some (lstO ys m) → RdL s.heap S ys acc → ¬ S D → acc.length + rest.length ≤ lim → compGo (fun ρ' σ' => evE Φ ce ρ' σ') (fun ρ' σ' => evB Φ .And cs ρ' σ') tg ρ rest σ = some (out, σ') →
      (∀ h' tk S' ys' m', Evo base (fun _ => False) μ μ S₀ S' σ₀ σ' h₀ h' → FrOk base ec G.V S' μ cenv (erase tg ρ) h' → h'.get? D = some (lstO ys' m') → RdL h' S' ys' (acc ++ out) → ¬ S' D → R (.ok .next) { s with heap := h', toks := tk }) →
      codeAny (model prog w) A (.compLoop (.ListComp elt [⟨target, iter, ifs, 0⟩] scope pos) 0 (.ref I) (.ref D) cenv) R s := by
  have hDm : D ∉ μ := fun q => by obtain ⟨_, _, e⟩ := I₀.mem q; rw [hD0] at e; cases e
  have hDb : base.get? D = none := by
    cases e : base.get? D with
    | none => rfl
    | some o => rw [I₀.keepB D o e] at hD0; cases hD0
  intro rest
  induction rest with
  | nil =>
    intro i acc out ys m S σ σ' s R hd hi L F hl rl hDS hz q P
    cases q
    have hi' : i = xs.length := by have := List.drop_eq_nil_iff.mp hd; omega
    subst hi'
    refine codeAny_of_tree ?_
    show wpAny _ A ((compTurn (.ListComp elt [⟨target, iter, ifs, 0⟩] scope pos) 0 (.ref I) (.ref D) cenv).onRaise (fun x => do noteFrame x cenv; theTreesLotGoes x)) _ _ s
    refine wpAny_noted ?_
    rw [compTurn_list]
    refine wpAny_bind (wpAny_standAt (wpAny_bind (L.done Z fun h₂ tk mv ev => wpAny_pure ?_)))
    have hwD : ¬ wr D := fun q => hDf (Z.sub D q)
    have hwO : ∀ a, Own cenv a → ¬ wr a := fun a ha q => by
      obtain ⟨o, e, p⟩ := Z.alloc _ _ a L.st (Z.sub a q)
      exact ha.notList F e p
    refine P h₂ tk S ys m ev (F.mv mv (fun a q hs => L.nw a hs q) hwO) (mv.keep D _ hwD hl) ?_ hDS
    rw [List.append_nil]
    exact rl.mono (fun a o hs e => mv.keep a o (L.nw a hs) e) fun _ q => q
  | cons d rest ih =>
    intro i acc out ys m S σ σ' s R hd hi L F hl rl hDS hz q P
    have hlt : i < xs.length := by
      rcases Nat.lt_or_ge i xs.length with q | q
      · exact q
      · rw [List.drop_eq_nil_of_le q] at hd; cases hd
    have hxi : xs[i]? = some d := by
      have := congrArg (fun l => l[0]?) hd
      simpa using this
    have hd' : xs.drop (i + 1) = rest := by
      have := congrArg List.tail hd
      simpa using this
    obtain ⟨ρ', hb, q⟩ := bnd q
    refine codeAny_of_tree ?_
    show wpAny _ A ((compTurn (.ListComp elt [⟨target, iter, ifs, 0⟩] scope pos) 0 (.ref I) (.ref D) cenv).onRaise (fun x => do noteFrame x cenv; theTreesLotGoes x)) _ _ s
    refine wpAny_noted ?_
    rw [compTurn_list]
    refine wpAny_bind (wpAny_standAt (wpAny_bind (L.next Z hxi hT fun v h₂ tk₂ S₂ go => ?_)))
    refine wpAny_bind (go _ _ fun h₃ mv L₃ rv => ?_)
    have hwD : ¬ wr D := fun q => hDf (Z.sub D q)
    have hwO : ∀ a, Own cenv a → ¬ wr a := fun a ha q => by
      obtain ⟨o, e, p⟩ := Z.alloc _ _ a L.st (Z.sub a q)
      exact ha.notList F e p
    have F₃ := F.mv mv (fun a q hs => L.nw a hs q) hwO
    have l₃ := mv.keep D _ hwD hl
    have hDS₃ : ¬ S₂ D := fun q => by
      rcases mv.new D q with z | z
      · exact hDS z
      · rw [z] at hl; cases hl
    have rl₃ : RdL h₃ S₂ ys acc := rl.mono (fun a o hs e => mv.keep a o (L.nw a hs) e) mv.sub
    refine wpAny_bind (bind_ok (lc := true) (s := { s with heap := h₃, toks := tk₂ }) htr (hA.hd hot0) hs (fun _ => hloc) L₃.ev.inv F₃ rv (bindT_erase hb) fun h₄ tk₄ I₄ F₄ k₄ st₄ => ?_)
    have oc : ∀ a, OwnL true cenv a → a = cenv.locals := fun a ha => ha.2 rfl
    have hOC : Own cenv cenv.locals := .inl rfl
    have hCS : ∀ a, OwnL true cenv a → ¬ S₂ a := fun a ha => ha.1.notS L₃.ev.inv F₃
    have hCf : ∀ a, OwnL true cenv a → ¬ fp a := fun a ha q => by
      obtain ⟨o, e, p⟩ := Z.alloc _ _ a L₃.st q
      exact ha.1.notList F₃ e p
    have L₄ : Lp base (fun _ => False) μ S₀ σ₀ h₀ fp wr St Ok (i + 1) μ S₂ σ h₄ := L₃.poke Z (P := OwnL true cenv) k₄ (fun a o ha e => by rw [oc a ha, hC0] at e; cases e) hCS (fun a ha => ha.1.notMu L₃.ev.inv F₃) (fun a ha => ha.1.new F₃) (fun a _ z => (I₄.zs a z).2) hCf fun a o _ e => st₄ a o e
    have nDO : ¬ OwnL true cenv D := fun q => q.1.notList F₃ l₃ (lst_plain _ _)
    have l₄ := k₄ D _ nDO l₃
    have rl₄ : RdL h₄ S₂ ys acc := rl₃.mono (fun a o hs e => k₄ a o (fun q => hCS a q hs) e) fun _ q => q
    have next : ∀ (b : Bool) (σ₁ : Store), evB Φ .And cs ρ' σ = some (b, σ₁) → ∀ h₅ S₅, Ev base μ S₂ S₅ σ σ₁ h₄ h₅ → Lp base (fun _ => False) μ S₀ σ₀ h₀ fp wr St Ok (i + 1) μ S₅ σ₁ h₅ ∧ FrOk base ec G.V S₅ μ cenv ρ' h₅ ∧ h₅.get? D = some (lstO ys m) ∧ RdL h₅ S₅ ys acc ∧ ¬ S₅ D := fun b σ₁ _ h₅ S₅ x => by
      have nDl : ¬ Live μ σ D := fun l => hDm (by obtain ⟨i, _, e, _⟩ := l; exact List.mem_of_getElem? e)
      have hD₅ : ¬ S₅ D := fun q => by
        rcases x.new D q with z | z | z
        · exact hDS₃ z
        · rw [z] at l₄; cases l₄
        · exact nDl z
      exact ⟨L₄.step (Y := fun _ => False) Z (Evo.of x) (fun _ _ q => q.elim) (fun _ q => q.elim) (fun _ q => q.elim), F₄.ev I₄ x, (x.keep D _ nDl l₄).of (lst_plain _ _).1, rl₄.mono (x.keepS I₄) x.sub, hD₅⟩
    obtain ⟨⟨b, σ₁⟩, qt, q⟩ := bnd q
    refine wpAny_bind (tests_ok ρ' σ σ₁ b S₂ μ { s with heap := h₄, toks := tk₄ } _ _ hS hA hs I₄ F₄ qt fun h₅ tk₅ S₅ x₅ => ?_)
    obtain ⟨L₅, F₅, l₅, rl₅, hD₅⟩ := next b σ₁ qt h₅ S₅ x₅
    cases b with
    | false =>
      rw [if_neg Bool.false_ne_true] at q
      refine wpAny_pure ⟨rfl, ?_⟩
      exact ih (i + 1) acc out ys m S₅ σ₁ σ' { s with heap := h₅, toks := tk₅ } R hd' hlt L₅ (F₅.weaken fun j av e => bindT_other hb e) l₅ rl₅ hD₅ (by simp at hz; omega) q P
    | true =>
      rw [if_pos rfl] at q
      obtain ⟨⟨v₁, σ₂⟩, q₁, q⟩ := bnd q
      obtain ⟨⟨x, σ₃⟩, qo, q⟩ := bnd q
      obtain ⟨⟨zs, σ₄⟩, qr, q⟩ := bnd q
      obtain ⟨rfl, rfl⟩ := pr q
      refine wpAny_bind (wpAny_bind (seq1 (s := { s with heap := h₅, toks := tk₅ }) H hA hs L₅.ev.inv F₅ q₁ fun u h₆ tk₆ S₆ x₆ r₆ F₆ => ?_))
      obtain ⟨S₇, x₇, r₇, s₇⟩ := own_step x₆ (settle_notFresh v₁) r₆ qo
      have nDl : ¬ Live μ σ₁ D := fun l => hDm (by obtain ⟨i, _, e, _⟩ := l; exact List.mem_of_getElem? e)
      have L₇ := L₅.step (Y := fun _ => False) Z (Evo.of x₇) (fun _ _ q => q.elim) (fun _ q => q.elim) (fun _ q => q.elim)
      have F₇ := F₅.ev L₅.ev.inv x₇
      have l₇ := (x₇.keep D _ nDl l₅).of (lst_plain _ _).1
      have rl₇ := rl₅.mono (x₇.keepS L₅.ev.inv) x₇.sub
      have hD₇ : ¬ S₇ D := fun q => by
        rcases x₇.new D q with z | z | z
        · exact hD₅ z
        · rw [z] at l₅; cases l₅
        · exact nDl z
      refine wpAny_bind (wpAny_list_append_plain (s := { s with heap := h₆, toks := tk₆ }) (l := D) (items := ys.toArray) ⟨m, l₇⟩ (fun h₈ pl sb => ?_) ?_)
      · obtain ⟨m₈, l₈⟩ := pl
        have k₈ : ∀ b o, ¬ (b = D) → h₆.get? b = some o → h₈.get? b = some o := fun b o hb e => sb.extBut b o hb e
        have hfD : ∀ a, a = D → ¬ fp a := fun a ha => ha ▸ hDf
        have L₈ : Lp base (fun _ => False) μ S₀ σ₀ h₀ fp wr St Ok (i + 1) μ S₇ σ₃ h₈ := L₇.poke Z (P := fun b => b = D) k₈ (fun a o ha e => by rw [ha, hD0] at e; cases e) (fun a ha => ha ▸ hD₇) (fun a ha => ha ▸ hDm) (fun a ha => ha ▸ hDb) (fun a ha z => ((L₇.ev.inv.zs a z).2.plain (ha ▸ l₇) (lst_plain _ _).1).elim) hfD fun a o ha _ => by subst ha; exact ⟨_, l₈⟩
        have mv₈ : Mv (fun b => b = D) S₇ S₇ h₆ h₈ := Mv.same k₈
        have F₈ := F₇.mv mv₈ (fun a ha => ha ▸ hD₇) fun a ha q => ha.notList F₇ (q ▸ l₇) (lst_plain _ _)
        have kS : ∀ a o, S₇ a → h₆.get? a = some o → h₈.get? a = some o := fun a o hs e => k₈ a o (fun q => hD₇ (q ▸ hs)) e
        refine wpAny_pure (wpAny_pure ⟨rfl, ?_⟩)
        refine ih (i + 1) (acc ++ [x]) zs (ys ++ [u]) m₈ S₇ σ₃ _ { s with heap := h₈, toks := tk₆ } R hd' hlt L₈ (F₈.weaken fun j av e => bindT_other hb e) (by rw [l₈]; simp) ((rl₇.append (.one r₇)).mono kS fun _ q => q) hD₇ (by simp at hz ⊢; omega) qr ?_
        intro h' tk S' ys' m' e1 e2 e3 e4 e5
        exact P h' tk S' ys' m' e1 e2 e3 (by simpa using e4) e5
      · have := rl₇.length
        rw [← lim_eq]
        simp at hz ⊢
        omega
end
end Mine
namespace Mine
open PySem PySem.Calls PyProof.Rows
section
variable {prog : Program} {w : World} {base : Bs} {ec : ExcCls} {G : Cfg} {n : Nat} {Φ : Phi} {sc : Sc}
theorem tgt_kind {k : ItK} {tg : Tgt} {sc : Sc} {t : Expr} (h : tgtFits k tg = true) (ht : trT G sc t = some tg) : Tk k t := by
  refine t_inv (P := fun t tg => tgtFits k tg = true → Tk k t) ht (fun x p i _ h => ?_) (fun es j p is _ h => ?_) h
  · cases k <;> first | exact rfl | exact .inl rfl | exact bft h
  · cases k <;> first | exact rfl | exact .inr rfl | exact bft h
theorem local_locE {scope : Scope} {cl : List (Str × Addr)} {C : Addr} {env : Env} {t : Expr} (h : localT scope.names t = true) : locE (compEnvC scope cl C env) t := by
  cases t <;> first | exact trivial | skip
  · exact lookup_relabel_local (kindIs_eq h)
  · rename_i es _ _
    intro x p hm
    have := List.all_eq_true.mp h _ hm
    exact lookup_relabel_local (kindIs_eq this)
theorem Made.lp {A : Around} {μ : List Addr} {S : Addr → Prop} {σ : Store} {k : ItK} {xs : List PyData} {I : Addr} {h₀ h₁ h₂ : Heap} {fp wr : Addr → Prop} {St : Nat → Heap → Prop} {Mid : Nat → Value → Heap → Prop} {Ok : (Addr → Prop) → Heap → Prop} {X : Addr → Prop}
    (M : Made prog w A μ S σ k xs I h₀ h₁ fp wr St Mid Ok) (I₀ : Inv base S μ σ h₀) (hg : ∀ b o, h₁.get? b = some o → h₂.get? b = some o) : Lp base X μ S σ h₀ fp wr St Ok 0 μ S σ h₂ where
  ev := (Evo.refl I₀).poke (wr := fun _ => False) (Mv.same fun b o _ e => hg b o (M.grow b o e)) (fun _ _ q => q.elim) (fun _ q => q.elim) (fun _ q => q.elim) (fun _ q => q.elim) (fun _ q => q.elim) fun _ _ q => q.elim
  st := M.src.frame 0 _ _ M.st fun b o _ e => hg b o e
  ok := M.src.mono _ _ _ _ M.ok (fun _ q => q) fun b o _ e => hg b o e
  nw := fun a hs q => by
    obtain ⟨o, e, _⟩ := I₀.inS a hs
    rw [M.wn a q] at e; cases e
  nl := M.nl
  nm := fun b hb q => by
    obtain ⟨_, _, e⟩ := I₀.mem q
    rw [M.wn b hb] at e; cases e
  wn := M.wn
  wb := fun b hb => by
    cases e : base.get? b with
    | none => rfl
    | some o => have := I₀.keepB b o e; rw [M.wn b hb] at this; cases this
theorem comp_core (hot0 : base.hot = false) {elt iter target : Expr} {ifs : List Expr} {scope : Scope} {pos : Pos} {tg : Tgt} {k : ItK} {its cs : List CE} {ce : CE} (ft : Fits sc scope) (hl : locsIn G scope tg = true) (hk : tgtFits k tg = true) (htr : trT G scope.names target = some tg) (hloc : localT scope.names target = true)
    (HI : SI prog w base ec G n Φ sc iter k its) (H : SE prog w base ec G n Φ scope.names elt ce) (hS : SBs prog w base ec G n Φ scope.names ifs cs) {A : Around} {env : Env} {ρ : Rho} {σ σ' : Store} {av : AV} {S : Addr → Prop} {μ : List Addr} {s : Shared} {E : Value → Shared → Prop}
    (hA : AOk base n A) (hs : ScOk env sc) (I : Inv base S μ σ s.heap) (F : FrOk base ec G.V S μ env ρ s.heap) (ev : evE Φ (.comp ce tg k its cs) ρ σ = some (av, σ')) {RR : Value → Addr → Result → Shared → Prop}
    (P : ∀ D C h' tk S' ds ys m mm, av = .fresh ds → Ev base μ S S' σ σ' s.heap h' → h'.get? D = some (lstO ys m) → RdL h' S' ys ds → ¬ S' D → s.heap.get? D = none → h'.Ns C mm → s.heap.get? C = none → RR (.ref D) C (.ok .next) { s with heap := h', toks := tk }) :
    ∃ cl, closureFor scope env = pure cl ∧ wpAny (model prog w) A (eval iter env) (fun x s₁ => wpAny (model prog w) A (pyIter x) (fun it s₂ => wpAny (model prog w) A (newList []) (fun acc s₃ =>
      wpAny (model prog w) A (newFunctionEnv scope env.globals cl [] env.qual none .none (some env)) (fun cenv s₄ =>
        codeAny (model prog w) A (.compStart (.ListComp elt [⟨target, iter, ifs, 0⟩] scope pos) 0 it acc { cenv with scope := relabel scope env }) (RR acc cenv.locals) s₄) E s₃) E s₂) E s₁) E s := by
  obtain ⟨cl, hcl, hc1, hc2⟩ := closure_ok (scope := scope) (env := env) fun p hp hf => F.has p.1 (free_kind hs ft (by rw [← hf]; exact hp))
  refine ⟨cl, hcl, ?_⟩
  refine i_comp ev fun vs σ₁ ds xs out σ₂ q₁ q₂ q₃ hz q₄ z1 z2 => ?_
  subst z1
  subst z2
  refine HI.2 A env ρ σ σ₁ vs ds xs S μ s _ E hA hs I F q₁ q₂ q₃ fun It h₀ h₁ tk S₀ fp wr St Mid Ok x M => ?_
  have lk := lock_ev (L := liveOf σ₁ vs) x.inv liveOf_ok
  refine wpAny_newObj_type (wpAny_newFunctionEnv ft.cell (by intro y hy; simp at hy) (fun h₃ hns hsb => ?_) ft.kind)
  dsimp only at hns hsb ⊢
  generalize hH2 : h₁.push { cls := .type "list", dict := none, data := .seq ([] : List Value).toArray } = h₂ at hns hsb ⊢
  have hC : h₂.objs.size = h₁.objs.size + 1 := by rw [← hH2, Heap.size_push]
  have hDC : h₁.objs.size ≠ h₂.objs.size := by rw [hC]; exact Nat.ne_of_lt (Nat.lt_succ_self _)
  have g₁ : ∀ b o, h₁.get? b = some o → h₃.get? b = some o := fun b o e => hsb.extBut b o (by have := Heap.lt_size e; rw [hC]; exact Nat.ne_of_lt (Nat.lt_succ_of_lt this)) (Heap.get?_push_of_some _ (hH2 ▸ Heap.get?_push_of_some _ e))
  have up : ∀ a, h₁.objs.size ≤ a → h₀.get? a = none := fun a ha => by
    cases e : h₀.get? a with
    | none => rfl
    | some o => exact absurd (Heap.lt_size (M.grow a o e)) (Nat.not_lt.mpr ha)
  have up' : ∀ a, h₀.get? a = none → s.heap.get? a = none := fun a e => x.gone e
  have lD : h₃.get? h₁.objs.size = some (lstO [] 0) := hsb.extBut _ _ hDC (Heap.get?_push_of_some _ (hH2 ▸ Heap.get?_push_size _ rfl))
  have hD0 : h₀.get? h₁.objs.size = none := up _ (Nat.le_refl _)
  have hC0 : h₀.get? h₂.objs.size = none := up _ (by rw [hC]; exact Nat.le_succ _)
  have L : Lp base (fun _ => False) μ S₀ (flagAll .locked (liveOf σ₁ vs) σ₁) h₀ fp wr St Ok 0 μ S₀ (flagAll .locked (liveOf σ₁ vs) σ₁) h₃ := M.lp lk.inv g₁
  have hb : base.get? h₂.objs.size = none := by
    cases e : base.get? h₂.objs.size with
    | none => rfl
    | some o => have := x.inv.keepB _ o e; rw [hC0] at this; cases this
  have F₀ := F.ev I x
  have F₃ : FrOk base ec G.V S₀ μ env ρ h₃ := F₀.mono (fun a o _ e => .inl (g₁ a o (M.grow a o e))) fun v av r => r.mono (fun a o _ e => g₁ a o (M.grow a o e)) (fun _ q => q) fun _ _ q => q
  have CF := comp_frame hs ft hl F₃ hc1 hc2 hns hb
  have hDf : ¬ fp h₁.objs.size := fun q => by
    obtain ⟨o, e, _⟩ := M.src.alloc 0 _ _ M.st q
    exact fresh_not e rfl
  have hDS : ¬ S₀ h₁.objs.size := fun q => by
    obtain ⟨o, e, _⟩ := x.inv.inS _ q
    rw [hD0] at e; cases e
  have loop : ∀ s₃ : Shared, s₃ = { s with heap := h₃, toks := tk + ([] : List (Str × Value)).length } →
      codeAny (model prog w) A (.compLoop (.ListComp elt [⟨target, iter, ifs, 0⟩] scope pos) 0 (.ref It) (.ref h₁.objs.size) (compEnvC scope cl h₂.objs.size env)) (RR (.ref h₁.objs.size) h₂.objs.size) s₃ := by
    rintro s₃ rfl
    refine comp_loop hot0 M.src hA comp_sc (tgt_kind hk htr) htr (local_locE hloc) lk.inv H hS hC0 hD0 hDf xs 0 [] out [] 0 S₀ _ _ _ _ rfl (Nat.zero_le _) L CF lD .nil hDS (by simpa using hz) q₄ ?_
    intro h' tk' S' ys' m' ev' F' l' r' hD'
    have e1 := (unlock x.inv liveOf_ok ev').toEv x.inv fun _ q => q.elim
    obtain ⟨mm, hn, _⟩ := F'.ns
    exact P _ _ h' tk' S' out ys' m' mm rfl (x.trans e1) l' (by simpa using r') hD' (up' _ hD0) hn (up' _ hC0)
  exact codeAny_compStart_list (loop _ rfl) (M.src.self 0 _ _ _ L.st (loop _ rfl))
theorem ev_letGo {S S' : Addr → Prop} {μ : List Addr} {σ σ' : Store} {h h' h'' : Heap} {C : Addr} {mm : Str → Option Value} (I : Inv base S μ σ h) (x : Ev base μ S S' σ σ' h h') (hn : h'.Ns C mm) (h0 : h.get? C = none) (sb : Heap.SameBut C h' h'') : Ev base μ S S' σ σ' h h'' ∧ ¬ S' C := by
  have hCS : ¬ S' C := fun q => by
    obtain ⟨o, e, p⟩ := x.inv.inS C q
    obtain ⟨o', es, ep, e', d, _⟩ := hn
    rw [e] at e'; cases e'
    exact p.1 es ep d
  have k : ∀ b o, ¬ (b = C) → h'.get? b = some o → h''.get? b = some o := fun b o hb e => sb.extBut b o hb e
  refine ⟨?_, hCS⟩
  have y := (Evo.of (X := fun _ => False) x).poke (wr := fun b => b = C) (Mv.same k) (fun a o ha e => by rw [ha, h0] at e; cases e) (fun a ha => ha ▸ hCS) (fun a ha q => by
    obtain ⟨_, _, e⟩ := I.mem q
    rw [ha, h0] at e; cases e) (fun a ha => by
    subst ha
    cases e : base.get? a with
    | none => rfl
    | some o => have := I.keepB a o e; rw [h0] at this; cases this) (fun a ha z => by obtain ⟨o, _, _, e, _⟩ := (I.zs a z).2; rw [ha, h0] at e; cases e) fun a o ha e => by rw [ha, h0] at e; cases e
  exact y.toEv I fun _ q => q.elim
theorem se_comp (hot0 : base.hot = false) {elt iter target : Expr} {ifs : List Expr} {scope : Scope} {pos : Pos} {tg : Tgt} {k : ItK} {its cs : List CE} {ce : CE} (ft : Fits sc scope) (hl : locsIn G scope tg = true) (hk : tgtFits k tg = true) (htr : trT G scope.names target = some tg) (hloc : localT scope.names target = true)
    (HI : SI prog w base ec G n Φ sc iter k its) (H : SE prog w base ec G n Φ scope.names elt ce) (hS : SBs prog w base ec G n Φ scope.names ifs cs) : SE prog w base ec G n Φ sc (.ListComp elt [⟨target, iter, ifs, 0⟩] scope pos) (.comp ce tg k its cs) := by
  intro A env ρ σ σ' av S μ s Q E hA hs I F q P
  rw [eval_ListComp]
  obtain ⟨cl, hcl, h⟩ := comp_core hot0 (pos := pos) (E := E) (RR := fun acc C => compPost (model prog w) A E none Q acc C) ft hl hk htr hloc HI H hS hA hs I F q (by
    intro D C h' tk S' ds ys m mm hav x l r hD hD0 hn hC0
    subst hav
    refine ⟨mm, hn, fun h'' sb => ?_⟩
    obtain ⟨x', hCS⟩ := ev_letGo I x hn hC0 sb
    have hDC : D ≠ C := fun q => by
      obtain ⟨o, es, ep, e, d, _⟩ := hn
      rw [q, e] at l; cases l; cases d
    exact P _ h'' tk S' x' (.fresh (sb.extBut _ _ hDC l) (r.mono (fun a o hs e => sb.extBut a o (fun q => hCS (q ▸ hs)) e) fun _ q => q) hD hD0))
  exact wpAny_comprehension_free (use := none) rfl (HI.1 env) hcl ft.kind ft.loc h
end
end Mine
namespace Mine
open PySem PySem.Calls PyProof.Rows
noncomputable def nI : Option Nat → Option Int
  | none => none
  | some k => some (k : Int)
theorem adjust_gen (l h : Option Nat) (n : Nat) : Builtin.Slice.sliceAdjust (nI l) (nI h) 1 (n : Int) = (((min (l.getD 0) n : Nat) : Int), ((min (h.getD n) n : Nat) : Int)) := by
  have h1 : ¬ ((1 : Int) < 0) := by omega
  have c : ∀ k : Nat, (if ((k : Nat) : Int) < 0 then max ((k : Int) + (n : Int)) 0 else min (k : Int) (n : Int)) = ((min k n : Nat) : Int) := fun k => by
    rw [if_neg (by omega)]; omega
  unfold Builtin.Slice.sliceAdjust
  cases l <;> cases h <;> simp only [nI, h1, if_false, Option.getD_some, Option.getD_none, c, Nat.zero_min, Nat.min_self, Int.natCast_zero] <;> rfl
theorem places_gen (a b : Nat) : Builtin.Slice.slicePlaces (a : Int) (b : Int) 1 = b - a := by
  unfold Builtin.Slice.slicePlaces
  have h1 : (1 : Int) > 0 := by omega
  simp only [h1, if_true, Int.ediv_one]
  split <;> omega
theorem cut_is (xs : List Value) (l h : Option Nat) : ((xs.drop (min (l.getD 0) xs.length)).take (min (h.getD xs.length) xs.length - min (l.getD 0) xs.length)) = (xs.take (h.getD xs.length)).drop (l.getD 0) := by
  rw [List.drop_take]
  rcases Nat.le_total (l.getD 0) xs.length with q | q
  · rw [Nat.min_eq_left q]
    rcases Nat.le_total (h.getD xs.length) xs.length with r | r
    · rw [Nat.min_eq_left r]
    · rw [Nat.min_eq_right r, List.take_of_length_le (by rw [List.length_drop]; omega), List.take_of_length_le (by rw [List.length_drop]; omega)]
  · rw [Nat.min_eq_right q, List.drop_eq_nil_of_le q, List.drop_eq_nil_of_le (Nat.le_refl _)]
    simp
theorem pick_gen (xs : List Value) (a c : Nat) : ((List.range c).filterMap fun (k : Nat) => xs.toArray[((a : Int) + (k : Int) * 1).toNat]?) = (xs.drop a).take c := by
  have e : (fun (k : Nat) => xs.toArray[((a : Int) + (k : Int) * 1).toNat]?) = fun k => (xs.drop a)[k]? := by
    funext k
    have : ((a : Int) + (k : Int) * 1).toNat = a + k := by omega
    rw [this, List.getElem?_toArray, List.getElem?_drop]
  rw [e]
  generalize xs.drop a = ys
  induction c generalizing ys with
  | zero => rfl
  | succ c ih =>
    rw [List.range_succ_eq_map, List.filterMap_cons, List.filterMap_map]
    cases ys with
    | nil => simp
    | cons y ys =>
      have e : ((fun k => (y :: ys)[k]?) ∘ Nat.succ) = fun k => ys[k]? := by funext k; simp
      rw [e, ih ys]
      rfl
theorem RdL.cut {h : Heap} {S : Addr → Prop} {vs : List Value} {ds : List PyData} (r : RdL h S vs ds) (l u : Option Nat) : RdL h S ((vs.take (u.getD vs.length)).drop (l.getD 0)) (cutL ds l u) := by
  have := r.length
  unfold cutL
  rw [← this]
  exact (r.take _).drop _
section
variable {prog : Program} {w : World} {A : Around} {E : Value → Shared → Prop} {s : Shared}
theorem part_gen {v : Value} {k : Option Nat} {Q : Option Int → Shared → Prop} (p : IsPart v (nI k)) (h : Q (nI k) s) : wpAny (model prog w) A (Builtin.Slice.slicePartIndex v) Q E s := by
  generalize nI k = j at p h
  cases p with
  | none => exact slicePart_none h
  | int i t => exact slicePart_int h
theorem applied_gen {sl : Addr} {n : Nat} {vl vu : Value} {l u : Option Nat} {Q : Int × Int × Nat → Shared → Prop} (hs : s.heap.IsSliceOf sl vl vu .none) (pl : IsPart vl (nI l)) (pu : IsPart vu (nI u))
    (h : Q (((min (l.getD 0) n : Nat) : Int), 1, min (u.getD n) n - min (l.getD 0) n) s) : wpAny (model prog w) A (Builtin.Slice.sliceApplied (.ref sl) (pure (n : Int))) Q E s := by
  obtain ⟨os, hos, hcs, hds⟩ := id hs
  unfold Builtin.Slice.sliceApplied Builtin.Slice.sliceFields
  refine wpAny_bind (wpAny_bind (wpAny_field hos hds (x := vl) rfl (wpAny_bind (wpAny_field hos hds (x := vu) rfl (wpAny_bind (wpAny_field hos hds (x := .none) rfl (wpAny_pure ?_)))))))
  refine wpAny_bind (slicePart_none ?_)
  show wpAny _ _ (if ((1 : Int) == 0) = true then _ else _) _ _ s
  rw [if_neg (by decide)]
  refine wpAny_bind (part_gen pl (wpAny_bind (part_gen pu (wpAny_bind (wpAny_pure ?_)))))
  show wpAny _ _ (match Builtin.Slice.sliceAdjust (nI l) (nI u) 1 (n : Int) with | (lo, hi) => pure (lo, (1 : Int), Builtin.Slice.slicePlaces lo hi 1)) _ _ s
  rw [adjust_gen]
  show wpAny _ _ (pure (((min (l.getD 0) n : Nat) : Int), (1 : Int), Builtin.Slice.slicePlaces ((min (l.getD 0) n : Nat) : Int) ((min (u.getD n) n : Nat) : Int) 1)) _ _ s
  rw [places_gen]
  exact wpAny_pure h
theorem tuple_slice {t sl : Addr} {xs : List Value} {m : Nat} {vl vu : Value} {l u : Option Nat} {Q : Value → Shared → Prop} (e : s.heap.get? t = some (tupO xs m)) (hs : s.heap.IsSliceOf sl vl vu .none) (pl : IsPart vl (nI l)) (pu : IsPart vu (nI u)) (hz : xs.length ≤ lim)
    (h1 : (xs.take (u.getD xs.length)).drop (l.getD 0) = xs → Q (.ref t) s)
    (h2 : Q (.ref s.heap.objs.size) { s with heap := s.heap.push (tupO ((xs.take (u.getD xs.length)).drop (l.getD 0)) 0) }) : wpAny (model prog w) A (getItem (.ref t) (.ref sl)) Q E s := by
  have ht : IsTup s.heap t xs.toArray := ⟨_, e, rfl, m, rfl⟩
  obtain ⟨os, hos, hcs, hds⟩ := id hs
  have hTs : s.TypeIs (.ref sl) "slice" := ⟨os, hos, hcs⟩
  unfold getItem
  try with_reducible refine wpAny_holding ?_
  first | refine wpAny_bind (wpAny_pure ?_) | skip
  refine wpAny_bind (wpAny_sequenceKey ht.typeIs (by decide) ?_)
  refine wpAny_bind (wpAny_callSpecial?_slot (name := Str.ofString "__getitem__") ht.typeIs PySem.F.slot_tuple_getitem
    (wpAny_call_entry PySem.F.slot_tuple_getitem ht.typeIs PySem.F.entry_tuple_getitem ?_ (PySem.F.args_tuple_getitem_2 _ _)))
  show wpAny _ _ (Builtin.Tuple.tupleItemsOf (.ref t) >>= _) _ _ s
  refine wpAny_bind (tupleItemsOf_ ht ?_)
  refine wpAny_bind (wpAny_typeOf hTs ?_)
  rw [if_pos (by decide)]
  refine wpAny_bind (applied_gen (n := xs.toArray.size) hs pl pu ?_)
  have hsz : sizeOk (.seq ((xs.take (u.getD xs.length)).drop (l.getD 0)).toArray) := by
    show ((xs.take (u.getD xs.length)).drop (l.getD 0)).toArray.size ≤ sizeLine
    rw [List.size_toArray, List.length_drop, List.length_take, ← lim_eq]
    omega
  have hp : ((List.range (min (u.getD xs.toArray.size) xs.toArray.size - min (l.getD 0) xs.toArray.size)).filterMap fun (k : Nat) => xs.toArray[(((min (l.getD 0) xs.toArray.size : Nat) : Int) + (k : Int) * 1).toNat]?).toArray = ((xs.take (u.getD xs.length)).drop (l.getD 0)).toArray := by
    rw [pick_gen, List.size_toArray, cut_is]
  show wpAny _ _ (if (((min (l.getD 0) xs.toArray.size : Nat) : Int) == 0 && (1 : Int) == 1 && (min (u.getD xs.toArray.size) xs.toArray.size - min (l.getD 0) xs.toArray.size) == xs.toArray.size) = true then _ else _) _ _ s
  by_cases hc : (((min (l.getD 0) xs.toArray.size : Nat) : Int) == 0 && (1 : Int) == 1 && (min (u.getD xs.toArray.size) xs.toArray.size - min (l.getD 0) xs.toArray.size) == xs.toArray.size) = true
  · rw [if_pos hc]
    have hall : (xs.take (u.getD xs.length)).drop (l.getD 0) = xs := by
      rw [← cut_is]
      rw [List.size_toArray] at hc
      simp only [Bool.and_eq_true, beq_iff_eq] at hc
      have h0 : min (l.getD 0) xs.length = 0 := by omega
      rw [hc.2, h0, List.drop_zero, List.take_length]
    refine wpAny_bind (m := Builtin.Tuple.tupleIsExact _) ?_
    unfold Builtin.Tuple.tupleIsExact
    refine wpAny_bind (wpAny_typeOf ht.typeIs (wpAny_pure ?_))
    rw [if_pos (by decide)]
    refine wpAny_bind (wpAny_rule ?_)
    first
      | exact wpAny_pure ⟨_, rfl, wpAny_pure (h1 hall)⟩
      | exact wpAny_bind (wpAny_pure (wpAny_pure ⟨_, rfl, wpAny_pure (h1 hall)⟩))
      | trace_state
  · rw [if_neg hc, hp]
    first
      | exact wpAny_bind (m := Builtin.Tuple.tupleExact _) (wpAny_newObj_type (wpAny_pure ⟨_, rfl, wpAny_pure h2⟩) hsz)
      | exact wpAny_bind (m := Builtin.Tuple.tupleExact _) (wpAny_newObj_type (wpAny_bind (wpAny_pure (wpAny_pure ⟨_, rfl, wpAny_pure h2⟩))) hsz)
      | exact wpAny_bind (wpAny_bind (m := Builtin.Tuple.tupleExact _) (wpAny_newObj_type (wpAny_pure (wpAny_pure ⟨_, rfl, wpAny_pure h2⟩)) hsz))
      | exact wpAny_bind (wpAny_bind (m := Builtin.Tuple.tupleExact _) (wpAny_newObj_type (wpAny_pure ⟨_, rfl, wpAny_pure h2⟩) hsz))
theorem cnt_is (a b : Nat) : (if (a : Int) < (b : Int) then (b : Int) - (a : Int) + 1 - 1 else 0).toNat = b - a := by split <;> omega
theorem listPick_gen (xs : List Value) (l u : Option Nat) : slicePick xs.toArray (nI l) (nI u) none = ((xs.take (u.getD xs.length)).drop (l.getD 0)).toArray := by
  have h1 : (1 : Int) > 0 := by omega
  have c : ∀ k : Nat, max (0 : Int) (min (if ((k : Nat) : Int) < 0 then (k : Int) + (xs.length : Int) else (k : Int)) (xs.length : Int)) = ((min k xs.length : Nat) : Int) := fun k => by
    rw [if_neg (by omega)]; omega
  have hb : sliceBounds (nI l) (nI u) none xs.toArray.size = (((min (l.getD 0) xs.length : Nat) : Int), ((min (u.getD xs.length) xs.length : Nat) : Int), 1) := by
    unfold sliceBounds
    cases l <;> cases u <;> simp only [nI, Option.getD_none, Option.getD_some, h1, if_true, c, Nat.zero_min, Nat.min_self, Int.natCast_zero, List.size_toArray]
  unfold slicePick
  rw [hb, ← cut_is, ← pick_gen]
  unfold sliceRange
  simp only [h1, if_true, Int.ediv_one]
  rw [List.filterMap_map]
  have hn : (if ((min (l.getD 0) xs.length : Nat) : Int) < ((min (u.getD xs.length) xs.length : Nat) : Int) then ((min (u.getD xs.length) xs.length : Nat) : Int) - ((min (l.getD 0) xs.length : Nat) : Int) + 1 - 1 else 0).toNat = min (u.getD xs.length) xs.length - min (l.getD 0) xs.length := cnt_is _ _
  rw [hn]
  congr 2
  funext k
  show xs.toArray[_]? = xs.toArray[_]?
  congr 1
  dsimp only
  omega
end
section
variable {prog : Program} {w : World} {base : Bs} {ec : ExcCls} {G : Cfg} {n : Nat} {Φ : Phi} {sc : Sc}
theorem partD_eq {d : PyData} {k : Option Nat} (h : partD d = some k) : (d = .none ∧ k = none) ∨ ∃ i : Nat, d = .int i ∧ k = some i := by
  cases d <;> first | (cases h; done) | skip
  · cases h; exact .inl ⟨rfl, rfl⟩
  · rename_i i
    obtain ⟨hb, e⟩ := gd h
    cases e
    exact .inr ⟨i.toNat, by rw [Int.toNat_of_nonneg hb.1], rfl⟩
theorem part_is {h : Heap} {S : Addr → Prop} {v : Value} {d : PyData} {k : Option Nat} (r : Rt h S v d) (e : partD d = some k) : IsPart v (nI k) := by
  rcases partD_eq e with ⟨rfl, rfl⟩ | ⟨i, rfl, rfl⟩
  · obtain rfl := r.noneD; exact .none
  · obtain ⟨t, rfl⟩ := r.intD; exact .int _ t
theorem i_slice {ρ : Rho} {σ σ' : Store} {av : AV} {a l u : CE} {R : Prop} (q : evE Φ (.slice a l u) ρ σ = some (av, σ')) (k : ∀ x σ₁ y σ₂ z dx dl du, evE Φ a ρ σ = some (x, σ₁) → evE Φ l ρ σ₁ = some (y, σ₂) → evE Φ u ρ σ₂ = some (z, σ') → rd σ' x = some dx → rd σ' y = some dl → rd σ' z = some du → sliceD dx dl du = some av → R) : R :=
  ob q fun x h1 q => ob q fun y h2 q => ob q fun z h3 q => ob q fun dx h4 q => ob q fun dl h5 q => ob q fun du h6 q => ob q fun r h7 q => by cases q; exact k x.1 x.2 y.1 y.2 z.1 dx dl du h1 h2 h3 h4 h5 h6 h7
noncomputable def PE (prog : Program) (w : World) (base : Bs) (ec : ExcCls) (G : Cfg) (n : Nat) (Φ : Phi) (sc : Sc) (e : Option Expr) (c : CE) : Prop := (∃ x, e = some x ∧ SE prog w base ec G n Φ sc x c) ∨ (e = none ∧ c = .const .none)
theorem part1 {e : Option Expr} {c : CE} (H : PE prog w base ec G n Φ sc e c) {A : Around} {env : Env} {ρ : Rho} {σ σ₁ : Store} {x : AV} {S : Addr → Prop} {μ : List Addr} {s : Shared} {E : Value → Shared → Prop} {R : Value → Shared → Prop} (hA : AOk base n A) (hs : ScOk env sc) (I : Inv base S μ σ s.heap) (F : FrOk base ec G.V S μ env ρ s.heap) (q : evE Φ c ρ σ = some (x, σ₁))
    (h : ∀ v h' tk S', Ev base μ S S' σ σ₁ s.heap h' → RdA ec h' S' μ v (settle x) → FrOk base ec G.V S' μ env ρ h' → R v { s with heap := h', toks := tk }) : wpAny (model prog w) A (evalPart e env) R E s := by
  rcases H with ⟨y, rfl, H⟩ | ⟨rfl, rfl⟩
  · exact seq1 H hA hs I F q h
  · obtain ⟨rfl, rfl⟩ := pr q
    exact wpAny_pure (h .none s.heap s.toks S (.refl I) (.dat .none) F)
theorem se_slice {v : Expr} {lo hi : Option Expr} {p pos : Pos} {a l u : CE} (H : SE prog w base ec G n Φ sc v a) (Hl : PE prog w base ec G n Φ sc lo l) (Hu : PE prog w base ec G n Φ sc hi u) :
    SE prog w base ec G n Φ sc (.Subscript v (.Slice lo hi none p) pos) (.slice a l u) := by
  intro A env ρ σ σ' av S μ s Q E hA hs I F q P
  refine i_slice q fun x σ₁ y σ₂ z dx dl du q₁ q₂ q₃ e₁ e₂ e₃ e₄ => ?_
  refine Subscript_ (seq1 H hA hs I F q₁ fun o h₁ tk₁ S₁ x₁ r₁ F₁ => ?_)
  refine wpAny_Slice (part1 (s := { s with heap := h₁, toks := tk₁ }) Hl hA hs x₁.inv F₁ q₂ fun vl h₂ tk₂ S₂ x₂ r₂ F₂ => ?_)
  refine part1 (s := { s with heap := h₂, toks := tk₂ }) Hu hA hs x₂.inv F₂ q₃ fun vu h₃ tk₃ S₃ x₃ r₃ F₃ => ?_
  refine wpAny_pure ?_
  have t₁ := rtOf x₃.inv ((r₁.ev x₁.inv x₂).ev x₂.inv x₃) e₁
  have t₂ := rtOf x₃.inv (r₂.ev x₂.inv x₃) e₂
  have t₃ := rtOf x₃.inv r₃ e₃
  obtain ⟨l', k1, e₅⟩ := bnd e₄
  obtain ⟨u', k2, e₆⟩ := bnd e₅
  have p1 := part_is t₂ k1
  have p2 := part_is t₃ k2
  have pp : PPost ec { s with heap := h₃, toks := tk₃ } S₃ μ av Q := post_prim ((x₁.trans x₂).trans x₃) P
  have g : ∀ b o', h₃.get? b = some o' → (h₃.push { cls := .type "slice", data := .fields #[vl, vu, .none] }).get? b = some o' := push_grow h₃ _
  have hn : h₃.get? (h₃.push { cls := .type "slice", data := .fields #[vl, vu, .none] }).objs.size = none := by
    cases e : h₃.get? (h₃.push { cls := .type "slice", data := .fields #[vl, vu, .none] }).objs.size with
    | none => rfl
    | some o => exact absurd (Heap.lt_size (g _ _ e)) (Nat.lt_irrefl _)
  cases dx <;> first | (cases e₆; done) | skip
  case list xs =>
    obtain ⟨hz, e₇⟩ := gd e₆
    cases e₇
    obtain ⟨b, vs, m, rfl, e, rl⟩ := t₁.lstD
    refine tail_any (s := { s with heap := h₃.push { cls := .type "slice", data := .fields #[vl, vu, .none] }, toks := tk₃ }) ⟨_, g _ _ e, rfl⟩ slot_list_getitem.lookup (wpAny_getItem_list_slice (s := { s with heap := h₃.push { cls := .type "slice", data := .fields #[vl, vu, .none] }, toks := tk₃ }) ⟨_, g _ _ e, rfl, m, rfl⟩ (Heap.IsSliceOf.new ..) p1 p2 .none (by simp) ?_ (by rw [← lim_eq]; simpa [rl.length] using hz)) rfl
    rw [listPick_gen]
    exact pp.lst (inSome x₃.inv) (fun b o q => push_grow _ _ b o (g b o q)) hn (Heap.get?_push_size _ rfl) (rl.cut l' u') tk₃
  case tuple xs =>
    obtain ⟨hz, e₇⟩ := gd e₆
    cases e₇
    obtain ⟨b, vs, m, rfl, s1, e, rl⟩ := t₁.tupD
    refine tail_any (s := { s with heap := h₃.push { cls := .type "slice", data := .fields #[vl, vu, .none] }, toks := tk₃ }) ⟨_, g _ _ e, rfl⟩ PySem.F.slot_tuple_getitem.lookup (tuple_slice (s := { s with heap := h₃.push { cls := .type "slice", data := .fields #[vl, vu, .none] }, toks := tk₃ }) (g _ _ e) (Heap.IsSliceOf.new ..) p1 p2 (by rw [rl.length]; exact hz) (fun hall => ?_) ?_) rfl
    · have r' := rl.cut l' u'
      rw [hall] at r'
      exact pp _ _ tk₃ S₃ (.grown g) (.old (.dat (.tuple s1 (g _ _ e) (r'.mono (fun b o _ q => g b o q) fun _ q => q))))
    · exact pp.tup (fun b o q => push_grow _ _ b o (g b o q)) hn (Heap.get?_push_size _ rfl) (rl.cut l' u') tk₃
end
section
variable {prog : Program} {w : World} {base : Bs} {ec : ExcCls} {G : Cfg} {n : Nat} {Φ : Phi} {sc : Sc}
theorem fm_congr {α β : Type} {f g : α → Option β} : ∀ {l : List α}, (∀ a ∈ l, f a = g a) → l.filterMap f = l.filterMap g
  | [], _ => rfl
  | a :: l, h => by rw [List.filterMap_cons, List.filterMap_cons, h a (.head _), fm_congr fun b hb => h b (.tail _ hb)]
theorem rev_pick (xs : List Value) : ((List.range xs.length).filterMap fun (k : Nat) => xs.toArray[(((xs.length : Int) - 1) + (k : Int) * (-1)).toNat]?) = xs.reverse := by
  have h : ∀ k ∈ List.range xs.length, xs.toArray[(((xs.length : Int) - 1) + (k : Int) * (-1)).toNat]? = xs.reverse[k]? := fun k hk => by
    have hk := List.mem_range.mp hk
    rw [List.getElem?_toArray, List.getElem?_reverse hk]
    congr 1
    omega
  rw [fm_congr h]
  have := pick_gen xs.reverse 0 xs.reverse.length
  rw [List.drop_zero, List.take_length, List.length_reverse] at this
  rw [← this]
  refine fm_congr fun k _ => ?_
  rw [List.getElem?_toArray]
  congr 1
  omega
theorem tuple_rev {A : Around} {E : Value → Shared → Prop} {s : Shared} {t sl : Addr} {xs : List Value} {m : Nat} {u : Tok} {Q : Value → Shared → Prop} (e : s.heap.get? t = some (tupO xs m)) (hs : s.heap.IsSliceOf sl .none .none (.int (-1) u)) (hz : xs.length ≤ lim)
    (h2 : Q (.ref s.heap.objs.size) { s with heap := s.heap.push (tupO xs.reverse 0) }) : wpAny (model prog w) A (getItem (.ref t) (.ref sl)) Q E s := by
  have ht : IsTup s.heap t xs.toArray := ⟨_, e, rfl, m, rfl⟩
  obtain ⟨os, hos, hcs, hds⟩ := id hs
  have hTs : s.TypeIs (.ref sl) "slice" := ⟨os, hos, hcs⟩
  unfold getItem
  try with_reducible refine wpAny_holding ?_
  first | refine wpAny_bind (wpAny_pure ?_) | skip
  refine wpAny_bind (wpAny_sequenceKey ht.typeIs (by decide) ?_)
  refine wpAny_bind (wpAny_callSpecial?_slot (name := Str.ofString "__getitem__") ht.typeIs PySem.F.slot_tuple_getitem
    (wpAny_call_entry PySem.F.slot_tuple_getitem ht.typeIs PySem.F.entry_tuple_getitem ?_ (PySem.F.args_tuple_getitem_2 _ _)))
  show wpAny _ _ (Builtin.Tuple.tupleItemsOf (.ref t) >>= _) _ _ s
  refine wpAny_bind (tupleItemsOf_ ht ?_)
  refine wpAny_bind (wpAny_typeOf hTs ?_)
  rw [if_pos (by decide)]
  have ha : Builtin.Slice.sliceAdjust none none (-1) (xs.toArray.size : Int) = ((xs.length : Int) - 1, -1) := rfl
  have hpl : Builtin.Slice.slicePlaces ((xs.length : Int) - 1) (-1) (-1) = xs.length := by
    unfold Builtin.Slice.slicePlaces
    rw [if_neg (by decide)]
    by_cases q : (xs.length : Int) - 1 > -1
    · rw [if_pos q]
      have : -(-1 : Int) = 1 := rfl
      rw [this, Int.ediv_one]
      omega
    · rw [if_neg q]; omega
  have hap : ∀ {R : Int × Int × Nat → Shared → Prop}, R ((xs.length : Int) - 1, -1, xs.length) s → wpAny (model prog w) A.in1 (Builtin.Slice.sliceApplied (.ref sl) (pure (xs.toArray.size : Int))) R E s := fun hR => by
    unfold Builtin.Slice.sliceApplied Builtin.Slice.sliceFields
    refine wpAny_bind (wpAny_bind (wpAny_field hos hds (x := .none) rfl (wpAny_bind (wpAny_field hos hds (x := .none) rfl (wpAny_bind (wpAny_field hos hds (x := .int (-1) u) rfl (wpAny_pure ?_)))))))
    refine wpAny_bind (slicePart_int ?_)
    show wpAny _ _ (if ((-1 : Int) == 0) = true then _ else _) _ _ s
    rw [if_neg (by decide)]
    refine wpAny_bind (slicePart_none (wpAny_bind (slicePart_none (wpAny_bind (wpAny_pure ?_)))))
    show wpAny _ _ (match Builtin.Slice.sliceAdjust none none (-1) (xs.toArray.size : Int) with | (lo, hi) => pure (lo, (-1 : Int), Builtin.Slice.slicePlaces lo hi (-1))) _ _ s
    rw [ha]
    show wpAny _ _ (pure ((xs.length : Int) - 1, (-1 : Int), Builtin.Slice.slicePlaces ((xs.length : Int) - 1) (-1) (-1))) _ _ s
    rw [hpl]
    exact wpAny_pure hR
  refine wpAny_bind (hap ?_)
  have hsz : sizeOk (.seq xs.reverse.toArray) := by
    show xs.reverse.toArray.size ≤ sizeLine
    rw [List.size_toArray, List.length_reverse, ← lim_eq]
    exact hz
  have hp : ((List.range xs.length).filterMap fun (k : Nat) => xs.toArray[(((xs.length : Int) - 1) + (k : Int) * (-1)).toNat]?).toArray = xs.reverse.toArray := by rw [rev_pick]
  show wpAny _ _ (if (((xs.length : Int) - 1) == 0 && (-1 : Int) == 1 && xs.length == xs.toArray.size) = true then _ else _) _ _ s
  rw [if_neg (by simp), hp]
  first
    | exact wpAny_bind (m := Builtin.Tuple.tupleExact _) (wpAny_newObj_type (wpAny_pure ⟨_, rfl, wpAny_pure h2⟩) hsz)
    | exact wpAny_bind (m := Builtin.Tuple.tupleExact _) (wpAny_newObj_type (wpAny_bind (wpAny_pure (wpAny_pure ⟨_, rfl, wpAny_pure h2⟩))) hsz)
    | exact wpAny_bind (wpAny_bind (m := Builtin.Tuple.tupleExact _) (wpAny_newObj_type (wpAny_pure (wpAny_pure ⟨_, rfl, wpAny_pure h2⟩)) hsz))
theorem grown_none {h h' : Heap} (g : ∀ b o, h.get? b = some o → h'.get? b = some o) : h.get? h'.objs.size = none := by
  cases e : h.get? h'.objs.size with
  | none => rfl
  | some o => exact absurd (Heap.lt_size (g _ _ e)) (Nat.lt_irrefl _)
theorem se_rev {v : Expr} {k : Nat} {p p' p'' pos : Pos} {a : CE} (H : SE prog w base ec G n Φ sc v a) : SE prog w base ec G n Φ sc (.Subscript v (.Slice none none (some (.UnaryOp .USub (.Constant (.int 1) k p) p')) p'') pos) (.rev a) := by
  intro A env ρ σ σ' av S μ s Q E hA hs I F q P
  refine ob q fun x q₁ q => ob q fun dx e₁ q => ob q fun r e₂ q => ?_
  obtain rfl := (pr q).1
  obtain rfl := (pr q).2
  refine Subscript_ (seq1 H hA hs I F q₁ fun o h₁ tk₁ S₁ x₁ r₁ F₁ => ?_)
  refine wpAny_Slice (wpAny_pure (wpAny_pure (wpAny_UnaryOp (wpAny_Constant_int (PySem.P.neg_int ?_)))))
  have t₁ := rtOf x₁.inv r₁ e₁
  cases dx <;> first | exact nsm e₂ | skip
  rename_i xs
  refine og e₂ fun hz e₂' => ?_
  obtain rfl := Option.some.inj e₂'
  obtain ⟨b, vs, m, rfl, s1, e, rl⟩ := t₁.tupD
  have g : ∀ o b o', h₁.get? b = some o' → (h₁.push o).get? b = some o' := fun o => push_grow h₁ o
  refine tail_any ⟨_, g _ _ _ e, rfl⟩ PySem.F.slot_tuple_getitem.lookup (tuple_rev (g _ _ _ e) (Heap.IsSliceOf.new ..) (by rw [rl.length]; exact hz) ?_) (ops := [.ref b, _]) rfl
  exact (post_prim x₁ P).tup (s := { s with heap := h₁, toks := tk₁ }) (fun b o q => push_grow _ _ b o (g _ b o q)) (grown_none (g _)) (Heap.get?_push_size _ rfl) rl.reverse _
theorem cell_set {S : Addr → Prop} {μ : List Addr} {σ : Store} {h h' : Heap} {c : Nat} {ds ds' : List PyData} {a : Addr} {vs' : List Value} {m' : Nat} (I : Inv base S μ σ h) (hc : σ[c]? = some (.live, ds)) (ha : μ[c]? = some a) (sb : Heap.SameBut a h h') (e : h'.get? a = some (lstO vs' m')) (r : RdL h S vs' ds') :
    Ev base μ S S σ (σ.set c (.live, ds')) h h' := by
  obtain ⟨vs, m, e0, r0, _, hS⟩ := I.cells c a _ ds ha hc
  have hS : ¬ S a := hS (by intro q; cases q)
  have kS : ∀ b o, S b → h.get? b = some o → h'.get? b = some o := fun b o hb e => sb.extBut b o (fun q => hS (q ▸ hb)) e
  have hL : Live μ σ a := ⟨c, ds, ha, hc⟩
  refine ⟨fun _ q => q, fun _ q => .inl q, ⟨fun b o eb => sb.extBut b o (fun q => ?_) (I.keepB b o eb), by rw [List.length_set]; exact I.len, fun i b f es e1 e2 => ?_, I.nodup, I.new, fun b hb => ?_, fun L z => ⟨(I.zs L z).1, (I.zs L z).2.grow fun o eo => sb.extBut L o (fun q => ?_) eo⟩⟩, fun b o hb e => .inl (sb.extBut b o (fun q => hb (q ▸ hL)) e), fun b l => ?_⟩
  · have := I.new a (List.mem_of_getElem? ha)
    rw [← q, eb] at this; cases this
  · by_cases q : c = i
    · subst q
      rw [set_at hc] at e2; cases e2
      rw [ha] at e1; cases e1
      exact ⟨vs', m', e, r.mono kS fun _ q => q, fun z => (nomatch z), fun _ => hS⟩
    · rw [set_ne q] at e2
      obtain ⟨us, k, k1, k2, k3, k4⟩ := I.cells i b f es e1 e2
      refine ⟨us, k, sb.extBut b _ (fun z => q ?_) k1, k2.mono kS fun _ q => q, k3, k4⟩
      subst z
      exact I.nodup c i _ ha e1
  · obtain ⟨o, eo, p⟩ := I.inS b hb
    exact ⟨o, kS b o hb eo, p⟩
  · exact (I.zs L z).2.plain (q ▸ e0) (lst_plain _ _).1
  · obtain ⟨i, es, e1, e2⟩ := l
    by_cases q : c = i
    · subst q; exact ⟨c, ds, e1, hc⟩
    · rw [set_ne q] at e2; exact ⟨i, es, e1, e2⟩
theorem upd_list {h : Heap} {a : Addr} {vs : List Value} {m : Nat} (e : h.get? a = some (lstO vs m)) (f : Array Value → Array Value) : ∃ m', (h.update a (Obj.mapSeq f)).get? a = some (lstO (f vs.toArray).toList m') := by
  have := IsL.update (h := h) (l := a) (items := vs.toArray) (n := m) e f
  have this' : (h.update a (Obj.mapSeq f)).get? a = some { cls := .type "list", data := .seq (f vs.toArray) (if (f vs.toArray).size == vs.toArray.size then m else m + 1) } := this
  exact ⟨_, by rw [this']⟩
theorem var_cell {A : Around} {env : Env} {ρ : Rho} {σ : Store} {S : Addr → Prop} {μ : List Addr} {s : Shared} {E : Value → Shared → Prop} {Q : Value → Shared → Prop} {x : Str} {p : Pos} {i c : Nat} (hs : ScOk env sc) (I : Inv base S μ σ s.heap) (F : FrOk base ec G.V S μ env ρ s.heap) (hx : varOf G sc x = some i) (hi : ρ i = some (.cell c))
    (h : ∀ a vs m, μ[c]? = some a → s.heap.get? a = some (lstO vs m) → Q (.ref a) s) : wpAny (model prog w) A (eval (.Name x p) env) Q E s := by
  refine var_inv hx fun h1 h2 h3 => eval_var F ((hs.var x).trans h1) h2 h3 hi fun v r => ?_
  cases r with
  | @cell _ a ha => exact (I.mem (List.mem_of_getElem? ha)).elim fun vs q => q.elim fun m e => h a vs m ha e
theorem method_list {A : Around} {E : Value → Shared → Prop} {Q : Value → Shared → Prop} {s : Shared} {name : Str} {id : String} {a : Addr} {vs : List Value} {m : Nat} {pos : Pos} {args : List (Bool × Sem Value)} (slot : Slot "list" name id) (ty : typeOf (.builtin id) = pure (.type "method_descriptor")) (e : s.heap.get? a = some (lstO vs m))
    (h : wpAny (model prog w) A (callWith pos (.builtin id) [.ref a] args []) Q E s) : MethodOnS prog w A E name (.ref a) pos args Q s :=
  ⟨"list", id, PySem.F.plainAttrs_list, slot, ty, ⟨_, e, rfl⟩, fun b q => by cases q; exact ⟨_, e, rfl⟩, h⟩
theorem RdL.last {h : Heap} {S : Addr → Prop} {vs : List Value} {ds : List PyData} {d : PyData} (r : RdL h S vs ds) (e : ds.getLast? = some d) : ∃ v, vs[vs.length - 1]? = some v ∧ Rd h S v d := by
  rw [List.getLast?_eq_getElem?, ← r.length] at e
  exact r.get e
theorem erase_last (vs : List Value) : (vs.toArray.eraseIdxIfInBounds (vs.toArray.size - 1)).toList = vs.dropLast := by
  rw [List.eraseIdxIfInBounds_toArray, List.size_toArray, List.toList_toArray, List.eraseIdx_length_sub_one]
theorem se_pop {x m : Str} {p p' pos : Pos} {i : Nat} (hm : (m == ("pop" : Str)) = true) (hline : (p'.endLine == pos.line) = true) (hx : varOf G sc x = some i) : SE prog w base ec G n Φ sc (.Call (.Attribute (.Name x p) m p') [] [] pos) (.pop i) := by
  intro A env ρ σ σ' av S μ s Q E hA hs I F q P
  refine ob q fun k h1 q => ob q fun ds h2 q => og q fun hz q => ob q fun d h3 q => ?_
  obtain rfl := (pr q).1
  obtain rfl := (pr q).2
  cases eq_of_beq hm
  refine Call_method0 rfl hline (var_cell hs I F hx (cellIn_eq h1) fun a vs j ha e => ?_)
  obtain ⟨vs₂, m₂, e₂, rl, _⟩ := I.cells k a _ ds ha (liveAt_eq h2)
  obtain ⟨v, hv, rv⟩ := rl.last h3
  refine method_list PySem.F.slot_list_pop PySem.F.type_list_pop e₂ (PySem.P.pop_list (items := vs₂.toArray) (n := m₂) e₂ (y := v) (by rw [List.getElem?_toArray, List.size_toArray]; exact hv) ?_ (by rw [List.size_toArray, rl.length, ← lim_eq]; exact hz))
  obtain ⟨m₃, e₃⟩ := upd_list e₂ (fun xs => xs.eraseIdxIfInBounds (vs₂.toArray.size - 1))
  rw [erase_last, List.dropLast_eq_take] at e₃
  have y := cell_set (ds' := ds.dropLast) I (liveAt_eq h2) ha (Heap.SameBut.update ..) e₃ (by rw [List.dropLast_eq_take, ← rl.length]; exact rl.take _)
  exact P v _ s.toks S y (.old (.dat (rv.mono (fun b o hb e => y.keepS I b o hb e) fun _ q => q)))
theorem strsD_ok {h : Heap} {S : Addr → Prop} : ∀ {ds : List PyData} {ss : List Str} {vs : List Value}, strsD ds = some ss → RdL h S vs ds → PyProof.Rows.StrsAre vs ss
  | [], _, _, e, .nil => os (P := fun ss => PyProof.Rows.StrsAre [] ss) e .nil
  | _ :: _, _, _, e, .cons x r => ob e fun b h1 e => ob e fun bs h2 e => os (P := fun ss => PyProof.Rows.StrsAre _ ss) e (by
      cases strD_eq h1
      cases x with
      | str _ t => exact .cons b t (strsD_ok h2 r))
theorem se_join {x m : Str} {p p' pos : Pos} {k : Nat} {e : Expr} {c : CE} (hm : (m == ("join" : Str)) = true) (hline : (p'.endLine == pos.line) = true) (hn : noStar e = true) (H : SE prog w base ec G n Φ sc e c) : SE prog w base ec G n Φ sc (.Call (.Attribute (.Constant (.str x) k p) m p') [e] [] pos) (.prim .join [.const (.str x), c]) := by
  intro A env ρ σ σ' av S μ s Q E hA hs I F q P
  refine i_prim q fun vs ds q₁ q₂ q₃ => i_lcons q₁ fun v σ₁ vs' k1 k2 z1 => i_lcons k2 fun v' σ₂ vs'' k3 k4 z2 => ?_
  subst z1
  subst z2
  obtain ⟨rfl, rfl⟩ := i_lnil k4
  obtain rfl := (pr k1).1
  obtain rfl := (pr k1).2
  refine ob q₂ fun d1 e1 q₂ => ob q₂ fun ds' e2 q₂ => ob e2 fun d2 e3 e2 => ?_
  obtain rfl := Option.some.inj e2
  obtain rfl := Option.some.inj q₂
  obtain rfl := Option.some.inj e1
  refine ob q₃ fun ys h3 q₄ => ob q₄ fun ss h4 q₅ => og q₅ fun hz q₆ => ?_
  cases listD_eq h3
  obtain rfl := Option.some.inj q₆
  cases eq_of_beq hm
  refine Call_method1 rfl (starEach_no hn) hline (PySem.wpAny_Constant_str ⟨"str", _, PySem.F.plainAttrs_str, PySem.F.slot_str_join, PySem.F.type_str_join, typeIs_str _ _ _, (fun _ e => nomatch e), Calls.callWith_builtin rfl (evalArgs_plain (spliced_cons (seq1 (s := { s with toks := s.toks + 1 }) H hA hs I F k3 fun u h' tk S' x r F' => spliced_nil ?_)))⟩)
  have t := r.rt x.inv e3
  obtain ⟨b, us, mb, rfl, eb, rb⟩ := t.lstD
  refine join_list (s := { s with heap := h', toks := tk }) (items := us.toArray) ⟨_, eb, rfl, mb, rfl⟩ (strsD_ok h4 rb) hz fun t' k' => ?_
  exact P _ h' k' S' x (.old (.dat (by
    show Rd h' S' (.str (Builtin.Str.glued _ ss) t') _
    rw [StrLaws.glued_eq_join]
    exact .str _ _)))
end
end Mine
namespace Mine
open PySem PySem.Calls PyProof.Rows
section
variable {prog : Program} {w : World} {base : Bs} {ec : ExcCls} {G : Cfg} {n : Nat} {Φ : Phi}
theorem trL_ses {f : Expr → Option CE} {sc : Sc} (hf : ∀ e c, f e = some c → SE prog w base ec G n Φ sc e c) : ∀ {es : List Expr} {cs : List CE}, trL f es = some cs → es.all noStar = true → SEs prog w base ec G n Φ sc es cs
  | [], _, h, _ => os (P := SEs prog w base ec G n Φ sc []) h .nil
  | _ :: _, _, h, hn => ob h fun c hc h => ob h fun cs hcs h => os (P := SEs prog w base ec G n Φ sc _) h (ba hn fun h1 h2 => .cons h1 (hf _ c hc) (trL_ses hf hcs h2))
theorem trL_sbs {f : Expr → Option CE} {sc : Sc} (hf : ∀ e c, f e = some c → SB prog w base ec G n Φ sc e c) : ∀ {es : List Expr} {cs : List CE}, trL f es = some cs → SBs prog w base ec G n Φ sc es cs
  | [], _, h => os (P := SBs prog w base ec G n Φ sc []) h .nil
  | _ :: _, _, h => ob h fun c hc h => ob h fun cs hcs h => os (P := SBs prog w base ec G n Φ sc _) h (.cons (hf _ c hc) (trL_sbs hf hcs))
theorem isG_inv {sc : Sc} {g h : Str} {P : Prop} (q : isG sc g h = true) (k : isGlob sc g = true → okName g = true → (g == h) = true → P) : P := ba q fun h1 q => ba q fun h2 h3 => k h1 h2 h3
theorem trI1_ok (W : Wd base ec G) {f : Expr → Option CE} {sc : Sc} (hf : ∀ e c, f e = some c → SE prog w base ec G n Φ sc e c) {e : Expr} {r : ItK × List CE} (h : trI1 sc f e = some r) : SI prog w base ec G n Φ sc e r.1 r.2 :=
  og h fun h1 h => ob h fun c h2 h => os (P := fun r => SI prog w base ec G n Φ sc e r.1 r.2) h (si_seq W.cold h1 (hf _ _ h2))
theorem trI_ok (W : Wd base ec G) {f : Expr → Option CE} {sc : Sc} (hf : ∀ e c, f e = some c → SE prog w base ec G n Φ sc e c) {e : Expr} {r : ItK × List CE} (h : trI sc f e = some r) : SI prog w base ec G n Φ sc e r.1 r.2 := by
  unfold trI at h
  cases q : nameCall e with
  | none => rw [q] at h; exact trI1_ok W hf h
  | some p =>
    rw [q] at h
    replace h : (if isG sc p.1 "range" = true then trIr f p.2 else trI1 sc f e) = some r := h
    by_cases h1 : isG sc p.1 "range" = true
    · rw [if_pos h1] at h
      refine e_call (P := fun e => SI prog w base ec G n Φ sc e r.1 r.2) q fun p1 p2 => isG_inv h1 fun g1 g2 g3 => ?_
      unfold trIr at h
      cases q1 : args1 p.2 with
      | some a => rw [q1] at h; exact ob h fun c h2 h => os (P := fun r => SI prog w base ec G n Φ sc _ r.1 r.2) h (a_one (P := fun es => SI prog w base ec G n Φ sc (.Call (.Name p.1 p1) es [] p2) _ _) q1 fun h3 => si_range1 W g1 g2 g3 h3 (hf _ _ h2))
      | none => rw [q1] at h; exact nsm h
    · rw [if_neg h1] at h
      exact trI1_ok W hf h
section
variable {f : Expr → Option CE} {sc : Sc} (hf : ∀ e c, f e = some c → SE prog w base ec G n Φ sc e c)
include hf
theorem trCmp1_ok {l : Expr} {a : CE} (ha : SE prog w base ec G n Φ sc l a) {op : CmpOp} {rs : List Expr} {pos : Pos} {c : CE} (h : trCmp1 f a op rs = some c) : SB prog w base ec G n Φ sc (.Compare l [op] rs pos) c := by
  cases rs with
  | nil => exact nsm h
  | cons r t => exact og h fun h1 h => ob h fun b hb h => og h fun hn h => os (P := SB prog w base ec G n Φ sc _) h (l_one (P := fun t => SB prog w base ec G n Φ sc (.Compare l [op] (r :: t) pos) _) h1 ⟨se_cmp hn ha (hf _ _ hb), st_cmp hn ha (hf _ _ hb)⟩)
theorem trCmp2_ok {l : Expr} {a : CE} (ha : SE prog w base ec G n Φ sc l a) {o1 o2 : CmpOp} {rs : List Expr} {pos : Pos} {c : CE} (h : trCmp2 f a o1 o2 rs = some c) : SB prog w base ec G n Φ sc (.Compare l [o1, o2] rs pos) c := by
  cases rs with
  | nil => exact nsm h
  | cons m t =>
    refine ob h fun b hb h => ?_
    cases t with
    | nil => exact nsm h
    | cons r t => exact og h fun h1 h => ob h fun d hd h => og h fun hn h => os (P := SB prog w base ec G n Φ sc _) h (l_one (P := fun t => SB prog w base ec G n Φ sc (.Compare l [o1, o2] (m :: r :: t) pos) _) h1 ⟨se_cmp2 hn ha (hf _ _ hb) (hf _ _ hd), st_cmp2 hn ha (hf _ _ hb) (hf _ _ hd)⟩)
theorem trCmp_ok {l : Expr} {a : CE} (ha : SE prog w base ec G n Φ sc l a) {ops : List CmpOp} {rs : List Expr} {pos : Pos} {c : CE} (h : trCmp f a ops rs = some c) : SB prog w base ec G n Φ sc (.Compare l ops rs pos) c := by
  cases ops with
  | nil => exact nsm h
  | cons o1 t =>
    cases t with
    | nil => exact trCmp1_ok hf ha h
    | cons o2 t => exact og h fun h1 h => l_one (P := fun t => SB prog w base ec G n Φ sc (.Compare l (o1 :: o2 :: t) rs pos) c) h1 (trCmp2_ok hf ha h)
theorem optE_ok {o : Option Expr} {c : CE} (h : optE f o = some c) : (∃ x, o = some x ∧ SE prog w base ec G n Φ sc x c) ∨ (o = none ∧ c = .const .none) := by
  cases o with
  | none => exact .inr ⟨rfl, (Option.some.inj h).symm⟩
  | some x => exact .inl ⟨x, rfl, hf _ _ h⟩
theorem trSl_ok {v : Expr} {a : CE} (ha : SE prog w base ec G n Φ sc v a) {lo hi st : Option Expr} {pos p' : Pos} {c : CE} (h : trSl f a lo hi st = some c) : SE prog w base ec G n Φ sc (.Subscript v (.Slice lo hi st p') pos) c := by
  cases st with
  | none => exact ob h fun l hl h => ob h fun u hu h => os (P := SE prog w base ec G n Φ sc _) h (se_slice ha (optE_ok hf hl) (optE_ok hf hu))
  | some e =>
    refine og h fun h1 h' => ba h1 fun h1 h2 => ba h2 fun h2 h3 => ?_
    cases lo with
    | some _ => exact bft h1
    | none => cases hi with
      | some _ => exact bft h2
      | none => exact os (P := SE prog w base ec G n Φ sc _) h' (e_rev (P := fun e => SE prog w base ec G n Φ sc (.Subscript v (.Slice none none (some e) p') pos) _) h3 fun j p p' => se_rev ha)
theorem trSub_ok {v i : Expr} {a : CE} (ha : SE prog w base ec G n Φ sc v a) {pos : Pos} {c : CE} (h : trSub f a i = some c) : SE prog w base ec G n Φ sc (.Subscript v i pos) c := by
  cases q : noSlice i with
  | true =>
    have h : (f i).bind (fun b => some (.idx a b)) = some c := by
      cases i <;> first | exact bft q | exact h
    exact ob h fun b hb h => os (P := SE prog w base ec G n Φ sc _) h (se_idx q ha (hf _ _ hb))
  | false => cases i <;> first | exact trSl_ok hf ha h | cases q
theorem trIsi_ok (W : Wd base ec G) {g : Str} {p pos : Pos} {x t : Expr} {a c : CE} (hn : noStar x = true) (hg : isGlob sc g = true) (ho : okName g = true) (hgi : (g == ("isinstance" : Str)) = true) (H : SE prog w base ec G n Φ sc x a) (h : trIsi G sc a t = some c) :
    SE prog w base ec G n Φ sc (.Call (.Name g p) [x, t] [] pos) c :=
  ob h fun y hy h => og h fun h1 h => ob h fun ty ht h => os (P := SE prog w base ec G n Φ sc _) h (ba h1 fun h1 h2 => e_name (P := fun t => SE prog w base ec G n Φ sc (.Call (.Name g p) [x, t] [] pos) _) hy fun p' => se_isin W hn hg ho hgi h1 h2 ht H)
theorem trCallN_ok (W : Wd base ec G) (HP : PhiOk prog w base ec G n Φ) {g : Str} {p pos : Pos} {args : List Expr} {c : CE} (h : trCallN G sc f g args = some c) : SE prog w base ec G n Φ sc (.Call (.Name g p) args [] pos) c := by
  refine og h fun h1 h => ba h1 fun h1 h2 => ba h2 fun h2 h3 => ba h3 fun h3 h4 => ?_
  have hne : args ≠ [] := fun q => by rw [q] at h4; exact bft h4
  cases hk : slotL (G.fns.map (·.1)) 0 g with
  | some k => rw [hk] at h; exact ob h fun cs hc h => os (P := SE prog w base ec G n Φ sc _) h (se_call W HP h1 h2 hk hne (trL_ses hf hc h3))
  | none =>
    rw [hk] at h
    replace h : (if (g == ("isinstance" : Str)) = true then (args2 args).bind fun p => (f p.1).bind fun a => trIsi G sc a p.2 else (primOf g).bind fun p => (trL f args).bind fun cs => some (.prim p cs)) = some c := h
    by_cases hi : (g == ("isinstance" : Str)) = true
    · rw [if_pos hi] at h
      exact ob h fun q hq h => ob h fun a ha h => a_two (P := fun args => SE prog w base ec G n Φ sc (.Call (.Name g p) args [] pos) c) hq fun n1 _ => trIsi_ok hf W n1 h1 h2 hi (hf _ _ ha) h
    · rw [if_neg hi] at h
      exact ob h fun q hq h => ob h fun cs hc h => os (P := SE prog w base ec G n Φ sc _) h (se_prim W h1 h2 hq hne (trL_ses hf hc h3))
theorem trCallA_ok {o : Expr} {m : Str} {p pos : Pos} {args : List Expr} {c : CE} (h : trCallA G sc f o m args (p.endLine == pos.line) = some c) : SE prog w base ec G n Φ sc (.Call (.Attribute o m p) args [] pos) c := by
  refine og h fun hln h => ?_
  replace h : (if (m == ("pop" : Str)) = true then (nameOf o).bind fun x => (varOf G sc x).bind fun i => trPop i args else if (m == ("join" : Str)) = true then (strOf o).bind fun x => trJoin f x args else none) = some c := h
  by_cases hm : (m == ("pop" : Str)) = true
  · rw [if_pos hm] at h
    refine ob h fun x hx h => ob h fun i hi h => e_name (P := fun o => SE prog w base ec G n Φ sc (.Call (.Attribute o m p) args [] pos) c) hx fun p' => ?_
    cases args with
    | nil => exact os (P := SE prog w base ec G n Φ sc _) h (se_pop hm hln hi)
    | cons z r => exact nsm h
  · rw [if_neg hm] at h
    exact og h fun hm h => ob h fun x hx h => ob h fun a ha h => ob h fun d hd h => os (P := SE prog w base ec G n Φ sc _) h (e_str (P := fun o => SE prog w base ec G n Φ sc (.Call (.Attribute o m p) args [] pos) _) hx fun j p' => a_one (P := fun args => SE prog w base ec G n Φ sc (.Call (.Attribute (.Constant (.str x) j p') m p) args [] pos) _) ha fun hn => se_join hm hln hn (hf _ _ hd))
end
theorem comp_eta {P : Comprehension → Prop} : ∀ {g : Comprehension}, (g.is_async == 0) = true → P ⟨g.target, g.iter, g.ifs, 0⟩ → P g
  | ⟨_, _, _, _⟩, h, k => by cases eq_of_beq h; exact k
theorem comp_parts {sc : Sc} {f : Sc → Expr → Option CE} {elt : Expr} {g : Comprehension} {scope : Scope} {c : CE} {P : Comprehension → CE → Prop} (h : trComp G sc f elt g scope = some c)
    (k : ∀ target iter ifs tg r ce cs, scopeFits sc scope = true → localT scope.names target = true → trT G scope.names target = some tg → trI sc (f sc) iter = some r → f scope.names elt = some ce → trL (f scope.names) ifs = some cs → tgtFits r.1 tg = true → locsIn G scope tg = true → P ⟨target, iter, ifs, 0⟩ (.comp ce tg r.1 r.2 cs)) : P g c :=
  og h fun h1 h => ob h fun tg h2 h => ob h fun r h3 h => ob h fun ce h4 h => ob h fun cs h5 h => og h fun h6 h => ba h1 fun h0 h1 => ba h1 fun h7 h8 => ba h6 fun h9 h10 => os (P := P g) h (comp_eta (P := fun g => P g (.comp ce tg r.1 r.2 cs)) h0 (k g.target g.iter g.ifs tg r ce cs h7 h8 h2 h3 h4 h5 h9 h10))
theorem sb_of {sc : Sc} {e : Expr} {c : CE} (he : ∀ env whole, isTrue e env whole = (do let v ← whole; standAt e.pos; holding [v] (truthy v))) (H : SE prog w base ec G n Φ sc e c) : SB prog w base ec G n Φ sc e c := ⟨H, st_of_se he H⟩
theorem trName_ok (W : Wd base ec G) {sc : Sc} {x : Str} {p : Pos} {c : CE} (h : trName G sc x = some c) : SE prog w base ec G n Φ sc (.Name x p) c := by
  replace h : (if isVar sc x = true then (varOf G sc x).bind fun i => some (.var i) else if (isGlob sc x && okName x) = true then (G.consts.lookup x).bind fun d => some (.const d) else none) = some c := h
  by_cases q : isVar sc x = true
  · rw [if_pos q] at h; exact ob h fun i hi h => os (P := SE prog w base ec G n Φ sc _) h (se_var hi)
  · rw [if_neg q] at h; exact og h fun h1 h => ob h fun d hd h => os (P := SE prog w base ec G n Φ sc _) h (ba h1 fun h1 h2 => se_cst W h1 h2 hd)
theorem unE_ok {sc : Sc} {op : UnaryOp} {x : Expr} {a c : CE} {p : Pos} (H : SB prog w base ec G n Φ sc x a) (h : unE op a = some c) : SB prog w base ec G n Φ sc (.UnaryOp op x p) c := by
  cases op <;> first | exact nsm h | skip
  · exact os (P := SB prog w base ec G n Φ sc _) h ⟨se_not H.1, st_not H.2⟩
  · exact os (P := SB prog w base ec G n Φ sc _) h (sb_of (fun _ _ => rfl) (se_neg H.1))
theorem trCall_ok (W : Wd base ec G) (HP : PhiOk prog w base ec G n Φ) {f : Expr → Option CE} {sc : Sc} (hf : ∀ e c, f e = some c → SE prog w base ec G n Φ sc e c) {g : Expr} {pos : Pos} {args : List Expr} {c : CE} (h : trCall G sc f args pos g = some c) : SE prog w base ec G n Φ sc (.Call g args [] pos) c := by
  cases g <;> first | exact nsm h | exact trCallN_ok hf W HP h | exact trCallA_ok hf h
theorem comp1_inv {l : List Comprehension} {g : Comprehension} {P : List Comprehension → Prop} (h : comp1 l = some g) (k : P [g]) : P l := by
  cases l with
  | nil => exact nsm h
  | cons a r => exact og h fun h1 h => l_one (P := fun r => P (a :: r)) h1 (os (P := fun g => P [g] → P [a]) h id k)
theorem trE_ok (W : Wd base ec G) (HP : PhiOk prog w base ec G n Φ) : ∀ (m : Nat) (sc : Sc) (e : Expr) (c : CE), trE G m sc e = some c → SB prog w base ec G n Φ sc e c
  | 0, _, _, _, h => nsm h
  | m + 1, sc, e, c, h => by
    have ih := trE_ok W HP m
    have ihE : ∀ sc e c, trE G m sc e = some c → SE prog w base ec G n Φ sc e c := fun sc e c h => (ih sc e c h).1
    cases e <;> first | exact nsm h | skip
    · exact og h fun h1 h => ob h fun cs hc h => os (P := SB prog w base ec G n Φ sc _) h ⟨se_bop (fun q => by rw [q] at h1; cases h1) (trL_sbs (ih _) hc), st_bop (trL_sbs (ih _) hc)⟩
    · exact sb_of (fun _ _ => rfl) (ob h fun a ha h => ob h fun b hb h => os (P := SE prog w base ec G n Φ sc _) h (se_bin (ihE _ _ _ ha) (ihE _ _ _ hb)))
    · exact ob h fun a ha h => unE_ok (ih _ _ _ ha) h
    · exact ob h fun x hx h => ob h fun y hy h => ob h fun z hz h => os (P := SB prog w base ec G n Φ sc _) h ⟨se_ite (ih _ _ _ hx).2 (ihE _ _ _ hy) (ihE _ _ _ hz), st_ite (ih _ _ _ hx).2 (ih _ _ _ hy).2 (ih _ _ _ hz).2⟩
    · exact sb_of (fun _ _ => rfl) (ob h fun g hg h => comp1_inv (P := fun l => SE prog w base ec G n Φ sc (.ListComp _ l _ _) c) hg (comp_parts (P := fun g c => SE prog w base ec G n Φ sc (.ListComp _ [g] _ _) c) h fun target iter ifs tg r ce cs h1 h2 h3 h4 h5 h6 h7 h8 => se_comp W.cold (scopeFits_ok h1) h8 h7 h3 h2 (trI_ok W (ihE _) h4) (ihE _ _ _ h5) (trL_sbs (ih _) h6)))
    · exact ob h fun a ha h => trCmp_ok (ihE _) (ihE _ _ _ ha) h
    · exact sb_of (fun _ _ => rfl) (og h fun h1 h => l_one (P := fun kws => SE prog w base ec G n Φ sc (.Call _ _ kws _) c) h1 (trCall_ok W HP (ihE _) h))
    · exact sb_of (fun _ _ => rfl) (ob h fun d hd h => os (P := SE prog w base ec G n Φ sc _) h (se_const hd))
    · exact sb_of (fun _ _ => rfl) (ob h fun a ha h => trSub_ok (ihE _) (ihE _ _ _ ha) h)
    · exact sb_of (fun _ _ => rfl) (trName_ok W h)
    · exact sb_of (fun _ _ => rfl) (og h fun h1 h => ob h fun cs hc h => os (P := SE prog w base ec G n Φ sc _) h (ba h1 fun h1 h2 => se_lst (of_decide_eq_true h1) (trL_ses (ihE _) hc h2)))
    · exact sb_of (fun _ _ => rfl) (og h fun h1 h => ob h fun cs hc h => os (P := SE prog w base ec G n Φ sc _) h (ba h1 fun h1 h2 => se_tup (of_decide_eq_true h1) (trL_ses (ihE _) hc h2)))
end
end Mine
namespace Mine
open PySem PySem.Calls PyProof.Rows
noncomputable def FrZ (base : Bs) (h : Heap) (l : List Env) : Prop := ∀ env ∈ l, env.scope.kind ≠ .module ∧ ∃ L o es n, env.frame = some L ∧ base.get? L = none ∧ h.get? L = some o ∧ o.data = .dict es n
theorem FrZ.frames {base : Bs} {h : Heap} : ∀ {l : List Env}, FrZ base h l → h.FunFrames base.hp l
  | [], _ => trivial
  | env :: l, z => by
    obtain ⟨hk, L, o, es, n, h1, h2, h3, h4⟩ := z env (.head _)
    exact ⟨hk, ⟨L, o, h1, h2, h3, fun vs q => by rw [h4] at q; cases q⟩, FrZ.frames fun e he => z e (.tail _ he)⟩
theorem FrZ.keep {base : Bs} {h h' : Heap} {l : List Env} (z : FrZ base h l) (k : ∀ L o es n, base.get? L = none → h.get? L = some o → o.data = .dict es n → Lk o (h'.get? L)) : FrZ base h' l := fun env he => by
  obtain ⟨hk, L, o, es, n, h1, h2, h3, h4⟩ := z env he
  refine ⟨hk, L, ?_⟩
  rcases k L o es n h2 h3 h4 with q | ⟨_, sl, q⟩
  · exact ⟨o, es, n, h1, h2, q, h4⟩
  · exact ⟨_, es, n, h1, h2, q, h4⟩
theorem FrZ.mem {base : Bs} {h : Heap} {l : List Env} (z : FrZ base h l) {b : Addr} (hb : b ∈ l.filterMap (·.frame)) : base.get? b = none ∧ ∃ o es n, h.get? b = some o ∧ o.data = .dict es n := by
  obtain ⟨env, he, hf⟩ := List.mem_filterMap.mp hb
  obtain ⟨_, L, o, es, n, h1, h2, h3, h4⟩ := z env he
  rw [h1] at hf
  cases hf
  exact ⟨h2, o, es, n, h3, h4⟩
structure ExcN (h₀ h : Heap) (S : Addr → Prop) (e : Addr) (cls : Value) (tb : Bool) : Prop where
  new : h₀.get? e = none
  out : ¬ S e
  obj : ∃ oe vs, h.get? e = some oe ∧ (oe.cls = cls ∧ oe.dict = none) ∧ oe.data = .fields vs ∧ ((tb = false ∧ vs[1]? = some .none) ∨ (tb = true ∧ ∃ T oT ts, vs[1]? = some (.ref T) ∧ T ≠ e ∧ h₀.get? T = none ∧ ¬ S T ∧ h.get? T = some oT ∧ oT.data = .fields ts ∧ 3 < ts.size))
theorem dict_mapFields (f : Array Value → Array Value) (o : Obj) : (Obj.mapFields f o).dict = o.dict := by
  unfold Obj.mapFields
  split <;> rfl
structure Noted (h h' : Heap) (e : Addr) (isT : Addr → Prop) (l : List Addr) : Prop where
  rest : ∀ b o, b ≠ e → ¬ isT b → b ∉ l → h.get? b = some o → h'.get? b = some o
  frame : ∀ b o, b ∈ l → h.get? b = some o → ∃ sl, h'.get? b = some { o with slots := sl }
  stay : ∀ b o, h.get? b = some o → ∃ o', h'.get? b = some o'
section
variable {base : Bs} {X : Addr → Prop} {μ μ' : List Addr} {S S' : Addr → Prop} {σ σ' : Store} {h₀ h h' : Heap}
theorem Evo.noted {e : Addr} {isT : Addr → Prop} {l : List Env} (I₀ : Inv base S μ σ h₀) (x : Evo base X μ μ' S S' σ σ' h₀ h) (z : FrZ base h l) (ne : h₀.get? e = none) (oe : ¬ S' e) (fe : ∃ o vs, h.get? e = some o ∧ o.data = .fields vs)
    (nT : ∀ b, isT b → h₀.get? b = none ∧ ¬ S' b ∧ ∃ o vs, h.get? b = some o ∧ o.data = .fields vs) (n : Noted h h' e isT (l.filterMap (·.frame))) : Evo base X μ μ' S S' σ σ' h₀ h' ∧ FrZ base h' l := by
  have hb : ∀ b o, base.get? b = some o → h₀.get? b = some o := I₀.keepB
  have fields : ∀ b o, (b = e ∨ isT b) → h.get? b = some o → ∃ vs, o.data = .fields vs := fun b o q eo => by
    rcases q with rfl | q
    · obtain ⟨o', vs, e1, e2⟩ := fe
      rw [eo] at e1; cases e1
      exact ⟨vs, e2⟩
    · obtain ⟨_, _, o', vs, e1, e2⟩ := nT b q
      rw [eo] at e1; cases e1
      exact ⟨vs, e2⟩
  have frm : ∀ b o, b ∈ l.filterMap (·.frame) → h.get? b = some o → ∃ es n, o.data = .dict es n := fun b o q eo => by
    obtain ⟨_, o', es, n, e1, e2⟩ := z.mem q
    rw [eo] at e1; cases e1
    exact ⟨es, n, e2⟩
  have plain : ∀ b o, h.get? b = some o → (∀ es n, o.data ≠ .dict es n) → (∀ vs, o.data ≠ .fields vs) → h'.get? b = some o := fun b o eo hd hf =>
    n.rest b o (fun q => by obtain ⟨vs, q'⟩ := fields b o (.inl q) eo; exact hf vs q') (fun q => by obtain ⟨vs, q'⟩ := fields b o (.inr q) eo; exact hf vs q') (fun q => by obtain ⟨es, m, q'⟩ := frm b o q eo; exact hd es m q') eo
  have kS : ∀ b o, S' b → h.get? b = some o → h'.get? b = some o := fun b o hs eo => by
    obtain ⟨o', e', p⟩ := x.inv.inS b hs
    rw [eo] at e'; cases e'
    exact n.rest b o (fun q => oe (q ▸ hs)) (fun q => (nT b q).2.1 hs) (fun q => by obtain ⟨es, m, q'⟩ := frm b o q eo; exact p.1 es m q') eo
  refine ⟨⟨x.ext, x.sub, x.new, ⟨fun b o eb => ?_, x.inv.len, fun i a f ds e1 e2 => ?_, x.inv.nodup, x.inv.new, fun a hs => ?_, fun L zz => ⟨(x.inv.zs L zz).1, ?_⟩⟩, fun b o hx hl eb => ?_, x.live, fun b o eb => ?_⟩, z.keep fun L o es m hn eL hd => ?_⟩
  · have e0 := hb b o eb
    refine n.rest b o (fun q => by rw [q, ne] at e0; cases e0) (fun q => by rw [(nT b q).1] at e0; cases e0) (fun q => by rw [(z.mem q).1] at eb; cases eb) (x.inv.keepB b o eb)
  · obtain ⟨vs, m, e, r, q1, q2⟩ := x.inv.cells i a f ds e1 e2
    exact ⟨vs, m, plain a _ e (lst_plain _ _).1 (fun _ q => by cases q), r.mono kS fun _ q => q, q1, q2⟩
  · obtain ⟨o, e', p⟩ := x.inv.inS a hs
    exact ⟨o, kS a o hs e', p⟩
  · obtain ⟨o, es, m, eL, hd⟩ := (x.inv.zs L zz).2
    by_cases q : L ∈ l.filterMap (·.frame)
    · obtain ⟨sl, e'⟩ := n.frame L o q eL
      exact ⟨_, es, m, e', hd⟩
    · refine ⟨o, es, m, n.rest L o (fun q => ?_) (fun q => ?_) q eL, hd⟩
      · obtain ⟨vs, q'⟩ := fields L o (.inl q) eL
        rw [hd] at q'; cases q'
      · obtain ⟨vs, q'⟩ := fields L o (.inr q) eL
        rw [hd] at q'; cases q'
  · have hne : b ≠ e := fun q => by rw [q, ne] at eb; cases eb
    have hnT : ¬ isT b := fun q => by rw [(nT b q).1] at eb; cases eb
    refine (x.keep b o hx hl eb).trans fun o' eo => ?_
    by_cases q : b ∈ l.filterMap (·.frame)
    · obtain ⟨sl, e'⟩ := n.frame b o' q eo
      exact .inr ⟨frm b o' q eo, sl, e'⟩
    · exact .inl (n.rest b o' hne hnT q eo)
  · obtain ⟨o', e'⟩ := x.stay b o eb
    exact n.stay b o' e'
  · by_cases q : L ∈ l.filterMap (·.frame)
    · obtain ⟨sl, e'⟩ := n.frame L o q eL
      exact .inr ⟨⟨es, m, hd⟩, sl, e'⟩
    · refine .inl (n.rest L o (fun q => ?_) (fun q => ?_) q eL)
      · obtain ⟨vs, q'⟩ := fields L o (.inl q) eL
        rw [hd] at q'; cases q'
      · obtain ⟨vs, q'⟩ := fields L o (.inr q) eL
        rw [hd] at q'; cases q'
end
section
variable {M : Model} {A : Around} {E : Value → Shared → Prop} {s : Shared} {base : Bs} {env : Env} {outer : List Env} {L e : Addr} {oe : Obj} {vs : Array Value} {Q : Unit → Shared → Prop}
theorem entry_step {head : Value} {hadNext : Bool} (hfr : A.frames = some (env :: outer)) (hl : s.heap.FunFrames base.hp (env :: outer)) (hf : env.frame = some L) (he : s.heap.get? e = some oe) (hd : oe.data = .fields vs) (hsz : 1 < vs.size)
    (h : ∀ h' T oe' oT ts, Noted s.heap h' e (fun _ => False) ((env :: outer).filterMap (·.frame)) → s.heap.get? T = none → T ≠ e → h'.get? e = some oe' → (oe'.cls = oe.cls ∧ oe'.dict = oe.dict) → oe'.data = .fields (vs.setIfInBounds 1 (.ref T)) → h'.get? T = some oT → oT.data = .fields ts → 3 < ts.size → Q () { s with heap := h' }) :
    wpAny M A (do let a ← frameOf env; let pl ← entryPlaceOf L hadNext; let b ← EntryCells.newEntry head a .none (rawInt L) .none pl; setField (.ref e) 1 b) Q E s := by
  have hene : e ∉ (env :: outer).filterMap (·.frame) := fun hm => by
    obtain ⟨_, o, ho, hnf⟩ := hl.mem hm
    rw [he] at ho; cases ho; exact hnf vs hd
  refine wpAny_bind (wpAny_frameOf_fun hfr hl hf fun h₁ hs₁ => ?_)
  refine wpAny_bind (wpAny_entryPlaceOf fun pl hpl => ?_)
  unfold EntryCells.newEntry newFields
  refine wpAny_bind (wpAny_newObj_type ?_ (hpl.sizeOk5 _ _ _ _ _))
  dsimp only
  generalize hob : ({ cls := .type "traceback", dict := none, data := .fields ([head, .ref L, .none, rawInt L, .none] ++ (if pl.isEmpty then List.replicate 6 Value.none else pl)).toArray } : Obj) = ob
  have hodata : ∃ ts, ob.data = .fields ts ∧ 3 < ts.size := by
    rw [← hob]
    exact ⟨_, rfl, by simp only [List.size_toArray, List.length_append, List.length_cons, List.length_nil] <;> omega⟩
  obtain ⟨ts, hots, hts⟩ := hodata
  have he₁ : h₁.get? e = some oe := (hs₁.2.1 e hene).trans he
  have he₂ := Heap.get?_push_of_some (h := h₁) ob he₁
  refine wpAny_setField he₂ hd hsz ?_
  have hTe : h₁.objs.size ≠ e := Nat.ne_of_gt (Heap.lt_size he₁)
  have hd₃ := Obj.data_mapFields hd (·.setIfInBounds 1 (Value.ref h₁.objs.size))
  have he₃ := Heap.get?_update_self (Obj.mapFields (·.setIfInBounds 1 (Value.ref h₁.objs.size))) he₂ (Obj.isFreed_of_fields hd₃)
  have hT₃ := (Heap.get?_update_other (h₁.push ob) (Obj.mapFields (·.setIfInBounds 1 (Value.ref h₁.objs.size))) (Ne.symm hTe)).trans (Heap.get?_push_size h₁ (Obj.isFreed_of_fields hots))
  have keep : ∀ b o, b ≠ e → h₁.get? b = some o → ((h₁.push ob).update e (Obj.mapFields (·.setIfInBounds 1 (Value.ref h₁.objs.size)))).get? b = some o := fun b o hbe hb => by
    rw [Heap.get?_update_other _ _ (Ne.symm hbe)]
    exact Heap.get?_push_of_some _ hb
  refine h _ h₁.objs.size _ ob ts ⟨fun b o hbe _ hbl eb => keep b o hbe ((hs₁.2.1 b hbl).trans eb), fun b o hbl eb => ?_, fun b o eb => ?_⟩ ?_ hTe he₃ ⟨Obj.cls_mapFields _ _, dict_mapFields _ _⟩ hd₃ hT₃ hots hts
  · obtain ⟨sl, e'⟩ := hs₁.2.2 b o eb
    exact ⟨sl, keep b _ (fun q => hene (q ▸ hbl)) e'⟩
  · obtain ⟨sl, e'⟩ := hs₁.2.2 b o eb
    by_cases q : b = e
    · subst q; exact ⟨_, he₃⟩
    · exact ⟨_, keep b _ q e'⟩
  · rw [hs₁.1]; exact fresh_none s.heap
theorem note_ok {X : Addr → Prop} {μ μ' : List Addr} {S S' : Addr → Prop} {σ σ' : Store} {h₀ : Heap} {cls : Value} {tb : Bool} (hfr : A.frames = some (env :: outer)) (hf : env.frame = some L) (I₀ : Inv base S μ σ h₀) (x : Evo base X μ μ' S S' σ σ' h₀ s.heap) (z : FrZ base s.heap (env :: outer)) (q : ExcN h₀ s.heap S' e cls tb)
    (h : ∀ h', Evo base X μ μ' S S' σ σ' h₀ h' → FrZ base h' (env :: outer) → ExcN h₀ h' S' e cls true → Q () { s with heap := h' }) : wpAny M A (noteFrame (.ref e) env) Q E s := by
  obtain ⟨oe, vs, he, hcls, hd, hv⟩ := q.obj
  have newT : ∀ T, s.heap.get? T = none → h₀.get? T = none ∧ ¬ S' T := fun T hT => ⟨x.gone hT, fun hs => by
    obtain ⟨o, e', _⟩ := x.inv.inS T hs
    rw [hT] at e'; cases e'⟩
  unfold noteFrame
  simp only [hf]
  rcases hv with ⟨_, h1⟩ | ⟨_, T, oT, ts, h1, hTe, nT, oTS, hT, hdT, h3⟩
  · refine wpAny_bind (wpAny_field he hd h1 ?_)
    rw [if_neg (by decide)]
    have hsz : 1 < vs.size := (Array.getElem?_eq_some_iff.mp h1).1
    refine entry_step hfr z.frames hf he hd hsz fun h' T oe' oT ts n hTn hTe k1 k2 k3 k4 k5 k6 => ?_
    obtain ⟨n1, n2⟩ := newT T hTn
    obtain ⟨y1, y2⟩ := x.noted (isT := fun _ => False) I₀ z q.new q.out ⟨oe, vs, he, hd⟩ (fun _ q => q.elim) n
    exact h h' y1 y2 ⟨q.new, q.out, oe', _, k1, ⟨k2.1.trans hcls.1, k2.2.trans hcls.2⟩, k3, .inr ⟨rfl, T, oT, ts, by simp [hsz], hTe, n1, n2, k4, k5, k6⟩⟩
  · refine wpAny_bind (wpAny_field he hd h1 ?_)
    rw [if_pos (show (Value.ref T != Value.none) = true from by simp)]
    have hsz : 1 < vs.size := (Array.getElem?_eq_some_iff.mp h1).1
    have ht3 : ts[3]? = some ts[3] := Array.getElem?_eq_getElem h3
    refine wpAny_bind (wpAny_field hT hdT ht3 ?_)
    by_cases hr : (ts[3] == rawInt L) = true
    · rw [if_pos hr]
      refine wpAny_pure ?_
      have := h s.heap x z ⟨q.new, q.out, oe, vs, he, hcls, hd, .inr ⟨rfl, T, oT, ts, h1, hTe, nT, oTS, hT, hdT, h3⟩⟩
      exact this
    · rw [if_neg hr]
      refine wpAny_bind (wpAny_setField hT hdT h3 ?_)
      have hdT' := Obj.data_mapFields hdT (·.setIfInBounds 3 Value.none)
      have hT' := Heap.get?_update_self (Obj.mapFields (·.setIfInBounds 3 Value.none)) hT (Obj.isFreed_of_fields hdT')
      have other : ∀ b, b ≠ T → (s.heap.update T (Obj.mapFields (·.setIfInBounds 3 Value.none))).get? b = s.heap.get? b := fun b hb => Heap.get?_update_other _ _ (Ne.symm hb)
      have n1 : Noted s.heap (s.heap.update T (Obj.mapFields (·.setIfInBounds 3 Value.none))) e (fun b => b = T) ((env :: outer).filterMap (·.frame)) := ⟨fun b o _ hb _ eb => (other b hb).trans eb, fun b o hl eb => ⟨o.slots, (other b fun q => by
        obtain ⟨_, o', es, m, e1, e2⟩ := z.mem hl
        rw [q, hT] at e1; cases e1
        rw [hdT] at e2; cases e2).trans eb⟩, fun b o eb => by
          by_cases q : b = T
          · subst q; exact ⟨_, hT'⟩
          · exact ⟨o, (other b q).trans eb⟩⟩
      obtain ⟨y1, y2⟩ := x.noted (isT := fun b => b = T) I₀ z q.new q.out ⟨oe, vs, he, hd⟩ (fun b q => q ▸ ⟨nT, oTS, oT, ts, hT, hdT⟩) n1
      refine entry_step (s := { s with heap := s.heap.update T (Obj.mapFields (·.setIfInBounds 3 Value.none)) }) hfr y2.frames hf ((other e (Ne.symm hTe)).trans he) hd hsz fun h' T' oe' oT' ts' n hTn hTe' k1 k2 k3 k4 k5 k6 => ?_
      have n2 : h₀.get? T' = none ∧ ¬ S' T' := ⟨y1.gone hTn, fun hs => by
        obtain ⟨o, e', _⟩ := y1.inv.inS T' hs
        rw [hTn] at e'; cases e'⟩
      obtain ⟨w1, w2⟩ := y1.noted (isT := fun _ => False) I₀ y2 q.new q.out ⟨oe, vs, (other e (Ne.symm hTe)).trans he, hd⟩ (fun _ q => q.elim) n
      exact h h' w1 w2 ⟨q.new, q.out, oe', _, k1, ⟨k2.1.trans hcls.1, k2.2.trans hcls.2⟩, k3, .inr ⟨rfl, T', oT', ts', by simp [hsz], hTe', n2.1, n2.2, k4, k5, k6⟩⟩
theorem flight_ok {X : Addr → Prop} {μ μ' : List Addr} {S S' : Addr → Prop} {σ σ' : Store} {h₀ : Heap} {cls : Value} {l : List Env} {fr : Option Addr} (I₀ : Inv base S μ σ h₀) (x : Evo base X μ μ' S S' σ σ' h₀ s.heap) (z : FrZ base s.heap l) (q : ExcN h₀ s.heap S' e cls true)
    (h : ∀ h', Evo base X μ μ' S S' σ σ' h₀ h' → FrZ base h' l → ExcN h₀ h' S' e cls true → Q () { s with heap := h' }) : wpAny M A (setFlight (.ref e) fr) Q E s := by
  obtain ⟨oe, vs, he, hcls, hd, hv⟩ := q.obj
  rcases hv with ⟨hh, _⟩ | ⟨_, T, oT, ts, h1, hTe, nT, oTS, hT, hdT, h3⟩
  · cases hh
  unfold setFlight
  refine wpAny_bind (wpAny_field he hd h1 ?_)
  rw [if_pos (show (Value.ref T != Value.none) = true from by simp)]
  refine wpAny_setField hT hdT h3 ?_
  have hdT' := Obj.data_mapFields hdT (·.setIfInBounds 3 (fr.elim Value.none fun f => rawInt f))
  have hT' := Heap.get?_update_self (Obj.mapFields (·.setIfInBounds 3 (fr.elim Value.none fun f => rawInt f))) hT (Obj.isFreed_of_fields hdT')
  have other : ∀ b, b ≠ T → (s.heap.update T (Obj.mapFields (·.setIfInBounds 3 (fr.elim Value.none fun f => rawInt f)))).get? b = s.heap.get? b := fun b hb => Heap.get?_update_other _ _ (Ne.symm hb)
  have n1 : Noted s.heap (s.heap.update T (Obj.mapFields (·.setIfInBounds 3 (fr.elim Value.none fun f => rawInt f)))) e (fun b => b = T) (l.filterMap (·.frame)) := ⟨fun b o _ hb _ eb => (other b hb).trans eb, fun b o hl eb => ⟨o.slots, (other b fun q => by
        obtain ⟨_, o', es, m, e1, e2⟩ := z.mem hl
        rw [q, hT] at e1; cases e1
        rw [hdT] at e2; cases e2).trans eb⟩, fun b o eb => by
          by_cases q : b = T
          · subst q; exact ⟨_, hT'⟩
          · exact ⟨o, (other b q).trans eb⟩⟩
  obtain ⟨y1, y2⟩ := x.noted (isT := fun b => b = T) I₀ z q.new q.out ⟨oe, vs, he, hd⟩ (fun b q => q ▸ ⟨nT, oTS, oT, ts, hT, hdT⟩) n1
  exact h _ y1 y2 ⟨q.new, q.out, oe, vs, (other e (Ne.symm hTe)).trans he, hcls, hd, .inr ⟨rfl, T, _, _, h1, hTe, nT, oTS, hT', hdT', by simpa using h3⟩⟩
end
theorem came_ok {M : Model} {A : Around} {E : Value → Shared → Prop} {s : Shared} {base : Bs} {env : Env} {e : Addr} {X : Addr → Prop} {μ μ' : List Addr} {S S' : Addr → Prop} {σ σ' : Store} {h₀ : Heap} {cls : Value} {l : List Env} (I₀ : Inv base S μ σ h₀) (x : Evo base X μ μ' S S' σ σ' h₀ s.heap) (z : FrZ base s.heap l) (q : ExcN h₀ s.heap S' e cls true)
    (h : ∀ h', Evo base X μ μ' S S' σ σ' h₀ h' → FrZ base h' l → ExcN h₀ h' S' e cls true → E (.ref e) { s with heap := h' }) : cameBackBy M A env E (.ref e) s := by
  obtain ⟨oe, vs, he, hcls, hd, hv⟩ := q.obj
  rcases hv with ⟨hh, _⟩ | ⟨_, T, oT, ts, h1, _⟩
  · cases hh
  unfold cameBackBy
  refine wpAny_bind (wpAny_field he hd h1 ?_)
  rw [if_neg (by simp)]
  exact flight_ok I₀ x z q h
theorem frz {base : Bs} {n : Nat} {A : Around} {S : Addr → Prop} {μ : List Addr} {σ : Store} {h : Heap} (hA : AOk base n A) (I : Inv base S μ σ h) : ∃ l, A.frames = some l ∧ FrZ base h l := by
  obtain ⟨l, hl, k⟩ := hA.fr
  refine ⟨l, hl, fun env he => ?_⟩
  obtain ⟨hk, L, hf, z⟩ := k env he
  obtain ⟨hn, o, es, m, e, d⟩ := I.zs L z
  exact ⟨hk, L, o, es, m, hf, hn, e, d⟩
noncomputable def FxOk (prog : Program) (w : World) (base : Bs) (ec : ExcCls) (n : Nat) (a : Addr) (g : List AV → Store → Option (CR × Store)) : Prop :=
  ∀ (A : Around) (S : Addr → Prop) (μ : List Addr) (σ σ' : Store) (s : Shared) (vals : List Value) (args : List AV) (c : Nat) (Q : Value → Shared → Prop) (E : Value → Shared → Prop),
    AOk base n A → Inv base S μ σ s.heap → RdAs ec s.heap S μ vals args → g args σ = some (.exc c, σ') →
    (∀ e h' tk S', Ev base μ S S' σ σ' s.heap h' → ExcN s.heap h' S' e (.ref (ec c)) true → E (.ref e) { s with heap := h', toks := tk }) → wpAny (model prog w) A (call (.ref a) vals) Q E s
noncomputable def PhiX (prog : Program) (w : World) (base : Bs) (ec : ExcCls) (G : Cfg) (n : Nat) (Φ : Phi) : Prop := ∀ (k : Nat) f a, G.fns[k]? = some (f, a) → FxOk prog w base ec n a (Φ k)
noncomputable def Top (A : Around) (env : Env) : Prop := env.frame = some env.locals ∧ ∃ outer, A.frames = some (env :: outer)
section
variable {base : Bs} {X : Addr → Prop} {μ μ' : List Addr} {S S' S'' : Addr → Prop} {σ σ' : Store} {h₀ h h' : Heap}
theorem ExcN.back {e : Addr} {cls : Value} {tb : Bool} (x : Evo base X μ μ' S S' σ σ' h₀ h) (q : ExcN h h' S'' e cls tb) : ExcN h₀ h' S'' e cls tb := by
  obtain ⟨oe, vs, h1, h2, h3, h4⟩ := q.obj
  refine ⟨x.gone q.new, q.out, oe, vs, h1, h2, h3, h4.imp id fun ⟨k, T, oT, ts, t1, t2, t3, t4, t5⟩ => ⟨k, T, oT, ts, t1, t2, x.gone t3, t4, t5⟩⟩
end
end Mine
namespace Mine
open PySem PySem.Calls PyProof.Rows
inductive FlOk (base : Bs) (ec : ExcCls) (V : List Str) (env : Env) (h₀ h : Heap) (S : Addr → Prop) (μ : List Addr) : Fl → Flow → Prop
  | next {ρ : Rho} : FrOk base ec V S μ env ρ h → FlOk base ec V env h₀ h S μ (.next ρ) .next
  | ret {v : Value} {av : AV} : RdR ec h₀ h S μ v av → (∃ m, h.Ns env.locals m) → FlOk base ec V env h₀ h S μ (.ret av) (.ret v)
noncomputable def SPost (ec : ExcCls) (base : Bs) (V : List Str) (env : Env) (μ : List Addr) (S : Addr → Prop) (σ σ' : Store) (s : Shared) (fl : Fl) (Q : Flow → Shared → Prop) : Prop :=
  ∀ f h' tk S' μ', Evo base (Own env) μ μ' S S' σ σ' s.heap h' → FlOk base ec V env s.heap h' S' μ' fl f → Q f { s with heap := h', toks := tk }
noncomputable def XPost (ec : ExcCls) (base : Bs) (A : Around) (env : Env) (μ : List Addr) (S : Addr → Prop) (σ σ' : Store) (s : Shared) (fl : Fl) (E : Value → Shared → Prop) : Prop :=
  Top A env ∧ ∀ c, fl = .exc c → ∀ e h' tk S' μ' tb, Evo base (Own env) μ μ' S S' σ σ' s.heap h' → ExcN s.heap h' S' e (.ref (ec c)) tb → E (.ref e) { s with heap := h', toks := tk }
noncomputable def SS (prog : Program) (w : World) (base : Bs) (ec : ExcCls) (G : Cfg) (n : Nat) (sc : Sc) (m : Env → Sem Flow) (ev : Rho → Store → Option (Fl × Store)) : Prop :=
  ∀ (A : Around) (env : Env) (ρ : Rho) (σ σ' : Store) (fl : Fl) (S : Addr → Prop) (μ : List Addr) (s : Shared) (Q : Flow → Shared → Prop) (E : Value → Shared → Prop),
    AOk base n A → ScOk env sc → Inv base S μ σ s.heap → FrOk base ec G.V S μ env ρ s.heap → ev ρ σ = some (fl, σ') → XPost ec base A env μ S σ σ' s fl E → SPost ec base G.V env μ S σ σ' s fl Q → wpAny (model prog w) A (m env) Q E s
section
variable {base : Bs} {ec : ExcCls} {V : List Str} {env : Env} {μ μ' μ₁ : List Addr} {S S' S₁ : Addr → Prop} {σ σ' σ₁ : Store} {h h' h₁ : Heap} {ρ : Rho} {s : Shared} {fl : Fl}
theorem RdR.backo {X : Addr → Prop} {h'' : Heap} {v : Value} {av : AV} (x : Evo base X μ μ' S S' σ σ' h h') (r : RdR ec h' h'' S₁ μ₁ v av) : RdR ec h h'' S₁ μ₁ v av := by
  cases r with
  | old r => exact .old r
  | fresh e r s n => exact .fresh e r s (x.gone n)
theorem FlOk.back {X : Addr → Prop} {h'' : Heap} {f : Flow} (x : Evo base X μ μ' S S' σ σ' h h') (r : FlOk base ec V env h' h'' S₁ μ₁ fl f) : FlOk base ec V env h h'' S₁ μ₁ fl f := by
  cases r with
  | next F => exact .next F
  | ret r z => exact .ret (r.backo x) z
theorem SPost.past {Q : Flow → Shared → Prop} {tk : Nat} (x : Evo base (Own env) μ μ₁ S S₁ σ σ₁ s.heap h₁) (P : SPost ec base V env μ S σ σ' s fl Q) : SPost ec base V env μ₁ S₁ σ₁ σ' { s with heap := h₁, toks := tk } fl Q :=
  fun f h' tk' S' μ' y r => P f h' tk' S' μ' (x.trans y fun _ _ q _ => q) (r.back x)
theorem XPost.past {A : Around} {E : Value → Shared → Prop} {tk : Nat} (x : Evo base (Own env) μ μ₁ S S₁ σ σ₁ s.heap h₁) (P : XPost ec base A env μ S σ σ' s fl E) : XPost ec base A env μ₁ S₁ σ₁ σ' { s with heap := h₁, toks := tk } fl E :=
  ⟨P.1, fun c e e' h' tk' S' μ' tb y q => P.2 c e e' h' tk' S' μ' tb (x.trans y fun _ _ q _ => q) (q.back x)⟩
theorem XPost.no {A : Around} {E : Value → Shared → Prop} (t : Top A env) (h : ∀ c, fl ≠ .exc c) : XPost ec base A env μ S σ σ' s fl E := ⟨t, fun c e => absurd e (h c)⟩
end
section
variable {prog : Program} {w : World} {base : Bs} {ec : ExcCls} {G : Cfg} {n N : Nat} {Φ : Phi} {sc : Sc}
theorem ss_nil : SS prog w base ec G n sc (execs []) (fun ρ σ => evSs N Φ [] ρ σ) := by
  intro A env ρ σ σ' fl S μ s Q E hA hs I F q hx P
  cases q
  exact wpAny_execs_nil (P .next s.heap s.toks S μ (.refl I) (.next F))
theorem ss_cons {st : Stmt} {rest : List Stmt} {c : CS} {cs : List CS} (H : SS prog w base ec G n sc (exec st) (fun ρ σ => evS N Φ c ρ σ)) (H' : SS prog w base ec G n sc (execs rest) (fun ρ σ => evSs N Φ cs ρ σ)) :
    SS prog w base ec G n sc (execs (st :: rest)) (fun ρ σ => evSs N Φ (c :: cs) ρ σ) := by
  intro A env ρ σ σ' fl S μ s Q E hA hs I F q hx P
  refine wpAny_execs_cons ?_
  refine i_scons q (fun ρ₁ σ₁ q₁ q => ?_) (fun q hn => ?_)
  · refine H A env ρ σ σ₁ _ S μ s _ E hA hs I F q₁ (.no hx.1 fun c e => nomatch e) fun f h' tk S' μ' x r => ?_
    cases r with
    | next F' => exact H' A env ρ₁ σ₁ σ' fl S' μ' { s with heap := h', toks := tk } Q E hA hs x.inv F' q (hx.past x) (P.past x)
  · refine H A env ρ σ σ' fl S μ s _ E hA hs I F q hx fun f h' tk S' μ' x r => ?_
    cases r with
    | next F' => exact (hn _ rfl).elim
    | ret r z => exact P _ h' tk S' μ' x (.ret r z)
theorem ss_ret {e : Expr} {c : CE} {pos : Pos} (H : SE prog w base ec G n Φ sc e c) : SS prog w base ec G n sc (exec (.Return (some e) pos)) (fun ρ σ => evS N Φ (.ret c) ρ σ) := by
  intro A env ρ σ σ' fl S μ s Q E hA hs I F q hx P
  refine i_ret q fun v q₁ z1 => ?_
  subst z1
  exact wpAny_Return_some (H A env ρ σ _ v S μ s _ E hA hs I F q₁ fun u h' tk S' x r => P _ h' tk S' μ (.of x) (.ret r (let ⟨m, hn, _⟩ := (F.ev I x).ns; ⟨m, hn⟩)))
theorem ss_if {t : Expr} {a b : List Stmt} {c : CE} {x y : List CS} {pos : Pos} (H : ST prog w base ec G n Φ sc t c) (Ha : SS prog w base ec G n sc (execs a) (fun ρ σ => evSs N Φ x ρ σ)) (Hb : SS prog w base ec G n sc (execs b) (fun ρ σ => evSs N Φ y ρ σ)) :
    SS prog w base ec G n sc (exec (.If t a b pos)) (fun ρ σ => evS N Φ (.ite c x y) ρ σ) := by
  intro A env ρ σ σ' fl S μ s Q E hA hs I F q hx P
  refine i_site q fun b σ₁ q₁ q => ?_
  refine wpAny_If (H A env ρ σ σ₁ _ b S μ s _ E hA hs I F q₁ rfl fun h' tk S' x => ?_)
  cases b with
  | true => exact Ha A env ρ σ₁ σ' fl S' μ { s with heap := h', toks := tk } Q E hA hs x.inv (F.ev I x) q (hx.past (.of x)) (P.past (.of x))
  | false => exact Hb A env ρ σ₁ σ' fl S' μ { s with heap := h', toks := tk } Q E hA hs x.inv (F.ev I x) q (hx.past (.of x)) (P.past (.of x))
noncomputable def resA (nc : Bool) (i : Nat) (ρ : Rho) (σ : Store) : AV → Rho × Store
  | .fresh ds => if nc then (ρ.set i (.cell σ.length), σ ++ [(.live, ds)]) else (ρ.set i (.dat (.list ds)), σ)
  | v => (ρ.set i v, σ)
theorem live_append {μ : List Addr} {σ : Store} {a b : Addr} {ds : List PyData} (hl : μ.length = σ.length) (l : Live (μ ++ [a]) (σ ++ [(.live, ds)]) b) : Live μ σ b ∨ b = a := by
  obtain ⟨i, es, e1, e2⟩ := l
  rcases Nat.lt_trichotomy i μ.length with q | q | q
  · rw [List.getElem?_append_left q] at e1
    rw [List.getElem?_append_left (hl ▸ q)] at e2
    exact .inl ⟨i, es, e1, e2⟩
  · subst q
    simp at e1
    exact .inr e1.symm
  · rw [List.getElem?_eq_none (by simp; omega)] at e1; cases e1
theorem Inv.addCell {S : Addr → Prop} {μ : List Addr} {σ : Store} {h : Heap} (I : Inv base S μ σ h) {a : Addr} {vs : List Value} {m : Nat} {ds : List PyData} (e : h.get? a = some (lstO vs m)) (r : RdL h S vs ds) (hS : ¬ S a) (hm : a ∉ μ) (hb : base.get? a = none) : Inv base S (μ ++ [a]) (σ ++ [(.live, ds)]) h where
  keepB := I.keepB
  len := by simp [I.len]
  cells := fun i b f es e1 e2 => by
    rcases Nat.lt_trichotomy i μ.length with q | q | q
    · rw [List.getElem?_append_left q] at e1
      rw [List.getElem?_append_left (I.len ▸ q)] at e2
      exact I.cells i b f es e1 e2
    · subst q
      simp at e1
      rw [I.len] at e2
      simp at e2
      obtain ⟨rfl, rfl⟩ := e2
      subst e1
      exact ⟨vs, m, e, r, fun z => (nomatch z), fun _ => hS⟩
    · rw [List.getElem?_eq_none (by simp; omega)] at e1; cases e1
  nodup := fun i j b e1 e2 => by
    have key : ∀ i : Nat, (μ ++ [a])[i]? = some b → (μ[i]? = some b ∧ i < μ.length) ∨ (i = μ.length ∧ b = a) := fun i e => by
      rcases Nat.lt_trichotomy i μ.length with q | q | q
      · rw [List.getElem?_append_left q] at e; exact .inl ⟨e, q⟩
      · subst q; simp at e; exact .inr ⟨rfl, e.symm⟩
      · rw [List.getElem?_eq_none (by simp; omega)] at e; cases e
    rcases key i e1 with ⟨h1, _⟩ | ⟨h1, q1⟩ <;> rcases key j e2 with ⟨h2, _⟩ | ⟨h2, q2⟩
    · exact I.nodup i j b h1 h2
    · subst q2; exact absurd (List.mem_of_getElem? h1) hm
    · subst q1; exact absurd (List.mem_of_getElem? h2) hm
    · rw [h1, h2]
  new := fun b hb' => by
    rcases List.mem_append.mp hb' with q | q
    · exact I.new b q
    · rcases List.mem_singleton.mp q with rfl; exact hb
  inS := I.inS
  zs := I.zs
theorem store_res {A : Around} {env : Env} {ρ : Rho} {σ σ₁ : Store} {S S₁ : Addr → Prop} {μ : List Addr} {h₀ : Heap} {s : Shared} {E : Value → Shared → Prop} {Q : Unit → Shared → Prop} {v : Value} {av : AV} {x : Str} {i : Nat} {p : Pos} (nc : Bool) (hs : ScOk env sc)
    (I : Inv base S μ σ h₀) (ev : Ev base μ S S₁ σ σ₁ h₀ s.heap) (r : RdR ec h₀ s.heap S₁ μ v av) (F : FrOk base ec G.V S₁ μ env ρ s.heap) (hx : ownOf G sc x = some i)
    (P : ∀ h' tk S' μ', Evo base (Own env) μ μ' S S' σ (resA nc i ρ σ₁ av).2 h₀ h' → FrOk base ec G.V S' μ' env (resA nc i ρ σ₁ av).1 h' → (∀ b o, ¬ Own env b → s.heap.get? b = some o → h'.get? b = some o) → Q () { s with heap := h', toks := tk }) :
    wpAny (model prog w) A (assign (.Name x p) env v) Q E s := by
  have fin : ∀ (S' : Addr → Prop) (μ' : List Addr) (σ' : Store) (aw : AV), Evo base (Own env) μ μ' S S' σ σ' h₀ s.heap → FrOk base ec G.V S' μ' env ρ s.heap → RdA ec s.heap S' μ' v aw → (ρ.set i aw, σ') = resA nc i ρ σ₁ av → wpAny (model prog w) A (assign (.Name x p) env v) Q E s := by
    intro S' μ' σ' aw ev' F' r' e
    refine name_ok (lc := false) hs hx (fun z => nomatch z) ev'.inv F' r' fun h' tk I' F'' k st => ?_
    have k' : ∀ b o, ¬ Own env b → s.heap.get? b = some o → h'.get? b = some o := fun b o hb e => k b o (fun q => hb q.1) e
    have ev'' : Evo base (Own env) μ μ' S S' σ σ' h₀ h' := ev'.poke (wr := Own env) (Mv.same k') (fun a o ha _ => ha) (fun a ha => ha.notS ev'.inv F') (fun a ha => ha.notMu ev'.inv F') (fun a ha => ha.new F') (fun a _ z => (I'.zs a z).2) fun a o ha e => let ⟨o', e'⟩ := ev'.stay a o e; st a o' e'
    have e1 := congrArg Prod.fst e
    have e2 := congrArg Prod.snd e
    dsimp only at e1 e2
    exact P h' tk S' μ' (e2 ▸ ev'') (e1 ▸ F'') k'
  cases r with
  | old r =>
    refine fin S₁ μ σ₁ av (.of ev) F r ?_
    cases r <;> rfl
  | @fresh a vs m ds e r hS hn =>
    cases nc with
    | false =>
      have ev' := ev.add I hn e (lst_plain _ _)
      refine fin _ μ σ₁ (.dat (.list ds)) (.of ev') (F.mono (fun _ _ _ q => .inl q) fun _ _ r => r.sub fun _ => .inl) (.dat (.list (.inr rfl) e (r.sub fun _ => .inl))) rfl
    | true =>
      have hm : a ∉ μ := fun q => by obtain ⟨_, _, e'⟩ := I.mem q; rw [hn] at e'; cases e'
      have hb : base.get? a = none := by
        cases e' : base.get? a with
        | none => rfl
        | some o => have := I.keepB a o e'; rw [hn] at this; cases this
      have I' := ev.inv.addCell e r hS hm hb
      have evo : Evo base (Own env) μ (μ ++ [a]) S S₁ σ (σ₁ ++ [(.live, ds)]) h₀ s.heap := ⟨⟨[a], rfl, fun b hb => by rcases List.mem_singleton.mp hb with rfl; exact hn⟩, ev.sub, ev.new, I', fun b o _ hl e => ev.keep b o hl e,
        fun b l => (live_append ev.inv.len l).elim (fun q => .inl (ev.live b q)) fun q => .inr (q ▸ hn), fun b o e => ev.stays e⟩
      have hmu : ∀ (i : Nat) (b : Addr), μ[i]? = some b → (μ ++ [a])[i]? = some b := fun i b e => by rw [List.getElem?_append_left (List.getElem?_eq_some_iff.mp e).1]; exact e
      refine fin S₁ (μ ++ [a]) _ (.cell σ₁.length) evo (F.mono (fun _ _ _ q => .inl q) fun _ _ r => r.mono (fun _ _ _ q => q) (fun _ q => q) hmu) (.cell (by rw [← ev.inv.len]; simp)) rfl
noncomputable def isComp : Expr → Bool
  | .ListComp .. => true
  | .SetComp .. => true
  | .DictComp .. => true
  | _ => false
theorem swaps_no {e : Expr} (h : isComp e = false) (t : Expr) (l : Nat) (env : Env) : swapsWith e (some t) l env = pure false := by
  cases e <;> first | rfl | cases h
noncomputable def asg (nc : Bool) (i : Nat) (c : CE) : CS := if nc then .newcell i c else .assign i c
theorem asg_ev {nc : Bool} {i : Nat} {c : CE} {ρ : Rho} {σ σ' : Store} {fl : Fl} (q : evS N Φ (asg nc i c) ρ σ = some (fl, σ')) : ∃ av σ₁, evE Φ c ρ σ = some (av, σ₁) ∧ fl = .next (resA nc i ρ σ₁ av).1 ∧ σ' = (resA nc i ρ σ₁ av).2 := by
  cases nc with
  | false =>
    refine i_assign q fun v q₁ z1 => ?_
    subst z1
    refine ⟨v, _, q₁, ?_, ?_⟩ <;> cases v <;> rfl
  | true =>
    refine i_newcell q fun v σ₁ q₁ q₂ => ?_
    refine ⟨v, σ₁, q₁, ?_, ?_⟩ <;> cases v <;> cases q₂ <;> rfl
theorem ss_asg {nc : Bool} {x : Str} {p pos : Pos} {e : Expr} {c : CE} {i : Nat} (hx : ownOf G sc x = some i) (hn : isComp e = false) (H : SE prog w base ec G n Φ sc e c) : SS prog w base ec G n sc (exec (.Assign [.Name x p] e pos)) (fun ρ σ => evS N Φ (asg nc i c) ρ σ) := by
  intro A env ρ σ σ' fl S μ s Q E hA hs I F q hxx P
  obtain ⟨av, σ₁, q₁, rfl, rfl⟩ := asg_ev q
  rw [exec_Assign_Name env x p e pos (swaps_no hn _ _ _)]
  refine wpAny_bind (wpAny_standAt (wpAny_bind ?_))
  refine H A env ρ σ σ₁ av S μ s _ E hA hs I F q₁ fun v h' tk S' ev r => ?_
  have := store_res (prog := prog) (w := w) (A := A) (E := E) (p := p) (s := { s with heap := h', toks := tk }) (Q := fun _ s' => Q .next s') nc hs I ev r (F.ev I ev) hx fun h'' tk' S'' μ'' evo F'' _ => P .next h'' tk' S'' μ'' evo (.next F'')
  rw [PySem.assign_Name] at this
  show wpAny _ A (standAt p >>= fun _ => bindName env x v >>= fun _ => pure .next) Q E _
  have e : (standAt p >>= fun _ => bindName env x v >>= fun _ => pure Flow.next) = ((standAt p >>= fun _ => bindName env x v) >>= fun _ => pure Flow.next) := by rw [bind_assoc]
  rw [e]
  exact wpAny_bind (wpAny_mono this (fun _ _ h => wpAny_pure h) fun _ _ h => h)
end
end Mine
namespace Mine
open PySem PySem.Calls PyProof.Rows
section
variable {prog : Program} {w : World} {base : Bs} {ec : ExcCls} {G : Cfg} {n N : Nat} {Φ : Phi} {sc : Sc}
theorem asg_plain {nc : Bool} {x : Str} {p pos : Pos} {e : Expr} {c : CE} {i : Nat} (hx : ownOf G sc x = some i) (H : SE prog w base ec G n Φ sc e c) {A : Around} {env : Env} {ρ : Rho} {σ σ' : Store} {fl : Fl} {S : Addr → Prop} {μ : List Addr} {s : Shared} {Q : Flow → Shared → Prop} {E : Value → Shared → Prop}
    (hn : swapsWith e (some (.Name x p)) pos.line env = pure false) (hA : AOk base n A) (hs : ScOk env sc) (I : Inv base S μ σ s.heap) (F : FrOk base ec G.V S μ env ρ s.heap) (q : evS N Φ (asg nc i c) ρ σ = some (fl, σ')) (P : SPost ec base G.V env μ S σ σ' s fl Q) :
    wpAny (model prog w) A (exec (.Assign [.Name x p] e pos) env) Q E s := by
  obtain ⟨av, σ₁, q₁, rfl, rfl⟩ := asg_ev q
  rw [exec_Assign_Name env x p e pos hn]
  refine wpAny_bind (wpAny_standAt (wpAny_bind ?_))
  refine H A env ρ σ σ₁ av S μ s _ E hA hs I F q₁ fun v h' tk S' ev r => ?_
  have := store_res (prog := prog) (w := w) (A := A) (E := E) (p := p) (s := { s with heap := h', toks := tk }) (Q := fun _ s' => Q .next s') nc hs I ev r (F.ev I ev) hx fun h'' tk' S'' μ'' evo F'' _ => P .next h'' tk' S'' μ'' evo (.next F'')
  rw [PySem.assign_Name] at this
  show wpAny _ A (standAt p >>= fun _ => bindName env x v >>= fun _ => pure .next) Q E _
  have e : (standAt p >>= fun _ => bindName env x v >>= fun _ => pure Flow.next) = ((standAt p >>= fun _ => bindName env x v) >>= fun _ => pure Flow.next) := by rw [bind_assoc]
  rw [e]
  exact wpAny_bind (wpAny_mono this (fun _ _ h => wpAny_pure h) fun _ _ h => h)
theorem ss_asgC (hot0 : base.hot = false) {nc : Bool} {x : Str} {p spos : Pos} {i : Nat} {elt iter target : Expr} {ifs : List Expr} {scope : Scope} {pos : Pos} {tg : Tgt} {k : ItK} {its cs : List CE} {ce : CE} (hx : ownOf G sc x = some i) (ft : Fits sc scope) (hl : locsIn G scope tg = true) (hk : tgtFits k tg = true) (htr : trT G scope.names target = some tg) (hloc : localT scope.names target = true)
    (HI : SI prog w base ec G n Φ sc iter k its) (H : SE prog w base ec G n Φ scope.names elt ce) (hS : SBs prog w base ec G n Φ scope.names ifs cs) :
    SS prog w base ec G n sc (exec (.Assign [.Name x p] (.ListComp elt [⟨target, iter, ifs, 0⟩] scope pos) spos)) (fun ρ σ => evS N Φ (asg nc i (.comp ce tg k its cs)) ρ σ) := by
  intro A env ρ σ σ' fl S μ s Q E hA hs I F q hxx P
  obtain ⟨b, hb⟩ : ∃ b, swapsWith (.ListComp elt [⟨target, iter, ifs, 0⟩] scope pos) (some (.Name x p)) spos.line env = pure b := ⟨_, rfl⟩
  cases b with
  | false => exact asg_plain hx (se_comp hot0 ft hl hk htr hloc HI H hS) hb hA hs I F q P
  | true =>
    obtain ⟨av, σ₁, q₁, rfl, rfl⟩ := asg_ev q
    rw [exec_Assign_Name_used _ _ _ _ hb]
    refine wpAny_bind (wpAny_standAt (wpAny_bind ?_))
    show wpAny _ A (do let _ ← comprehension (.ListComp elt [⟨target, iter, ifs, 0⟩] scope pos) scope env _ (newList []) false (eval iter env) (some (assign (.Name x p) env))) _ _ s
    obtain ⟨cl, hcl, h⟩ := comp_core hot0 (pos := pos) (E := E) (RR := fun acc C => compPost (model prog w) A E (some (assign (.Name x p) env)) (fun _ s' => Q .next s') acc C) ft hl hk htr hloc HI H hS hA hs I F q₁ (by
      intro D C h' tk S' ds ys m mm hav x' l r hD hD0 hn hC0
      show wpAny _ A (assign (.Name x p) env (.ref D)) _ _ _
      subst hav
      refine store_res (s := { s with heap := h', toks := tk }) nc hs I x' (.fresh l r hD hD0) (F.ev I x') hx fun h'' tk' S'' μ'' evo F'' k => ?_
      have hOC : ∀ a, Own env a → a ≠ C := fun a ha q => by
        obtain ⟨o, e⟩ := ha.has F
        rw [q, hC0] at e; cases e
      have hn'' : h''.Ns C mm := hn.at' fun o e => k C o (fun q => hOC C q rfl) e
      have nP : ∀ o, h''.get? C = some o → ¬ Plainly o := fun o e p => by
        obtain ⟨o', es, ep, e', d, _⟩ := hn''
        rw [e] at e'; cases e'
        exact p.1 es ep d
      have hCS : ¬ S'' C := fun q => by
        obtain ⟨o, e, p⟩ := evo.inv.inS C q
        exact nP o e p
      have hCm : C ∉ μ'' := fun q => by
        obtain ⟨vs, j, e⟩ := evo.inv.mem q
        exact nP _ e (lst_plain _ _)
      have hCb : base.get? C = none := by
        cases e : base.get? C with
        | none => rfl
        | some o => have := I.keepB C o e; rw [hC0] at this; cases this
      refine ⟨mm, hn'', fun h₃ sb => ?_⟩
      have k₃ : ∀ b o, ¬ (b = C) → h''.get? b = some o → h₃.get? b = some o := fun b o hb e => sb.extBut b o hb e
      refine P .next h₃ tk' S'' μ'' (evo.poke (wr := fun b => b = C) (Mv.same k₃) (fun a o ha e => by rw [ha, hC0] at e; cases e) (fun a ha => ha ▸ hCS) (fun a ha => ha ▸ hCm) (fun a ha => ha ▸ hCb) (fun a ha z => by obtain ⟨o, _, _, e, _⟩ := (I.zs a z).2; rw [ha, hC0] at e; cases e) fun a o ha e => by rw [ha, hC0] at e; cases e) (.next ?_)
      exact F''.mv (Mv.same k₃) (fun a ha => ha ▸ hCS) hOC)
    exact wpAny_bind (wpAny_mono (wpAny_comprehension_free (use := some (assign (.Name x p) env)) (Q := fun _ s' => Q .next s') rfl (HI.1 env) hcl ft.kind ft.loc h) (fun _ s' hq => wpAny_pure (wpAny_pure hq)) fun _ _ e => e)
theorem ss_unpack (hot0 : base.hot = false) {es : List Expr} {k : Nat} {p pos : Pos} {e : Expr} {c : CE} {is : List Nat} (hi : ownsOf G sc es = some is) (hc : isComp e = false) (ht : isTupT e = false) (H : SE prog w base ec G n Φ sc e c) : SS prog w base ec G n sc (exec (.Assign [.Tuple es k p] e pos)) (fun ρ σ => evS N Φ (.unpack is c) ρ σ) := by
  intro A env ρ σ σ' fl S μ s Q E hA hs I F q hx P
  refine i_unpack q fun ds ρ' q₁ hb z1 => ?_
  subst z1
  refine wpAny_Assign_stores (H A env ρ σ _ _ S μ s _ E hA hs I F q₁ fun v h' tk S' x r => ?_) (by unfold swapsWithSole; exact swaps_no hc _ _ _) (by cases e <;> first | rfl | cases ht)
  cases r with
  | old r => cases r with
    | dat r =>
      show wpAny _ A (assign (.Tuple es k p) env v) _ _ _
      have F' := F.ev I x
      refine bind_ok (lc := false) (s := { s with heap := h', toks := tk }) (tg := .many is) (d := .tuple ds) (by show (ownsOf G sc es).bind _ = _; rw [hi]; rfl) (hA.hd hot0) hs (fun z => nomatch z) x.inv F' r hb fun h'' tk' I'' F'' k st => ?_
      refine P .next h'' tk' S' μ ((Evo.of x).poke (wr := Own env) (Mv.same fun b o hb e => k b o (fun q => hb q.1) e) (fun a o ha _ => ha) (fun a ha => ha.notS x.inv F') (fun a ha => ha.notMu x.inv F') (fun a ha => ha.new F') (fun a _ z => (I''.zs a z).2) fun a o ha e => ?_) (.next F'')
      obtain ⟨o', e'⟩ := x.stays e
      exact st a o' e'
noncomputable def LX (ec : ExcCls) (base : Bs) (A : Around) (env : Env) (μ : List Addr) (S₀ : Addr → Prop) (σ₀ σ' : Store) (h₀ : Heap) (fl : Fl) (s : Shared) (R : Result → Shared → Prop) : Prop :=
  Top A env ∧ ∀ c, fl = .exc c → Inv base S₀ μ σ₀ h₀ ∧ ∀ e h' tk S' μ'', Evo base (Own env) μ μ'' S₀ S' σ₀ σ' h₀ h' → ExcN h₀ h' S' e (.ref (ec c)) true → R (.error (.ref e)) { s with heap := h', toks := tk }
theorem frt {A : Around} {env : Env} {S : Addr → Prop} {μ : List Addr} {σ : Store} {h : Heap} (hA : AOk base n A) (t : Top A env) (I : Inv base S μ σ h) : ∃ outer, A.frames = some (env :: outer) ∧ FrZ base h (env :: outer) := by
  obtain ⟨l, hl, z⟩ := frz hA I
  obtain ⟨_, o, ho⟩ := t
  rw [hl] at ho
  cases ho
  exact ⟨o, hl, z⟩
theorem LX.body {A : Around} {env : Env} {μ μ₁ : List Addr} {S₀ S₁ : Addr → Prop} {σ₀ σ₁ σ' : Store} {h₀ h₁ : Heap} {fl : Fl} {s : Shared} {R : Result → Shared → Prop} {tk : Nat} {M : Model} (hA : AOk base n A) (hx : LX ec base A env μ S₀ σ₀ σ' h₀ fl s R) (x : Evo base (Own env) μ μ₁ S₀ S₁ σ₀ σ₁ h₀ h₁) :
    XPost ec base A env μ₁ S₁ σ₁ σ' { s with heap := h₁, toks := tk } fl (notedBy M A env fun e s' => R (.error e) s') := ⟨hx.1, fun c e e' h' tk' S' μ' tb y q => by
  obtain ⟨I₀, k⟩ := hx.2 c e
  obtain ⟨l, z2, z3⟩ := frt hA hx.1 y.inv
  exact note_ok (s := { s with heap := h', toks := tk' }) z2 hx.1.1 I₀ (x.trans y fun _ _ q _ => q) z3 (q.back x) fun h'' w1 _ w3 => k e' h'' tk' S' μ' w1 w3⟩
theorem LX.out {A : Around} {env : Env} {μ : List Addr} {S : Addr → Prop} {σ σ' : Store} {fl : Fl} {s : Shared} {E : Value → Shared → Prop} {M : Model} (hA : AOk base n A) (I : Inv base S μ σ s.heap) (hx : XPost ec base A env μ S σ σ' s fl E) {e : Addr} {c : Nat} (hc : fl = .exc c)
    {h' : Heap} {tk : Nat} {S' : Addr → Prop} {μ' : List Addr} (x : Evo base (Own env) μ μ' S S' σ σ' s.heap h') (q : ExcN s.heap h' S' e (.ref (ec c)) true) : cameBackBy M A env E (.ref e) { s with heap := h', toks := tk } := by
  obtain ⟨l, z2, z3⟩ := frt hA hx.1 x.inv
  exact came_ok (s := { s with heap := h', toks := tk }) I x z3 q fun h'' w1 _ w3 => hx.2 c hc e h'' tk S' μ' true w1 w3
theorem for_loop (hot0 : base.hot = false) {A : Around} {target : Expr} {body : List Stmt} {I : Addr} {xs : List PyData} {fp wr : Addr → Prop} {St : Nat → Heap → Prop} {Mid : Nat → Value → Heap → Prop} {Ok : (Addr → Prop) → Heap → Prop} {T : Expr → Prop} {env : Env} {tg : Tgt} {μ : List Addr} {S₀ : Addr → Prop} {σ₀ : Store} {h₀ : Heap} {cs : List CS}
    (Z : Src prog w A I fp wr xs T St Mid Ok) (hA : AOk base n A) (hs : ScOk env sc) (hT : T target) (htr : trT G sc target = some tg) (H : SS prog w base ec G n sc (execs body) (fun ρ σ => evSs N Φ cs ρ σ)) :
    ∀ (rest : List PyData) (i : Nat) (S : Addr → Prop) (μ' : List Addr) (ρ : Rho) (σ σ' : Store) (fl : Fl) (s : Shared) (R : Result → Shared → Prop), xs.drop i = rest → i ≤ xs.length → Lp base (Own env) μ S₀ σ₀ h₀ fp wr St Ok i μ' S σ s.heap → FrOk base ec G.V S μ' env ρ s.heap →
      forGo tg (fun ρ' σ' => evSs N Φ cs ρ' σ') rest ρ σ = some (fl, σ') → LX ec base A env μ S₀ σ₀ σ' h₀ fl s R →
      (∀ f h' tk S' μ'', Evo base (Own env) μ μ'' S₀ S' σ₀ σ' h₀ h' → FlOk base ec G.V env h₀ h' S' μ'' fl f → R (.ok f) { s with heap := h', toks := tk }) →
      codeAny (model prog w) A (.forLoop target (.ref I) body [] env) R s := by
  intro rest
  induction rest with
  | nil =>
    intro i S μ' ρ σ σ' fl s R hd hi L F q hx P
    cases q
    have hi' : i = xs.length := by have := List.drop_eq_nil_iff.mp hd; omega
    subst hi'
    refine codeAny_of_tree ?_
    show wpAny _ A ((forTurn target (.ref I) body [] env).onRaise (fun x => do noteFrame x env; theTreesLotGoes x)) _ _ s
    refine wpAny_noted ?_
    simp only [forTurn]
    refine wpAny_bind (wpAny_standAt (wpAny_bind (wpAny_onRaise (L.done Z fun h₂ tk mv ev => ?_))))
    have hwO : ∀ a, Own env a → ¬ wr a := fun a ha q => by
      obtain ⟨o, e, p⟩ := Z.alloc _ _ a L.st (Z.sub a q)
      exact ha.notList F e p
    exact wpAny_pure ⟨rfl, codeAny_block (wpAny_execs_nil (P .next h₂ tk S μ' ev (.next (F.mv mv (fun a q hs => L.nw a hs q) hwO))))⟩
  | cons d rest ih =>
    intro i S μ' ρ σ σ' fl s R hd hi L F q hx P
    have hlt : i < xs.length := by
      rcases Nat.lt_or_ge i xs.length with q | q
      · exact q
      · rw [List.drop_eq_nil_of_le q] at hd; cases hd
    have hxi : xs[i]? = some d := by
      have := congrArg (fun l => l[0]?) hd
      simpa using this
    have hd' : xs.drop (i + 1) = rest := by
      have := congrArg List.tail hd
      simpa using this
    refine ob q fun ρ₁ hb q => ?_
    refine codeAny_of_tree ?_
    show wpAny _ A ((forTurn target (.ref I) body [] env).onRaise (fun x => do noteFrame x env; theTreesLotGoes x)) _ _ s
    refine wpAny_noted ?_
    simp only [forTurn]
    refine wpAny_bind (wpAny_standAt (wpAny_bind (wpAny_onRaise (L.next Z hxi hT fun v h₂ tk₂ S₂ go => ?_))))
    refine wpAny_bind (go _ _ fun h₃ mv L₃ rv => ?_)
    have hwO : ∀ a, Own env a → ¬ wr a := fun a ha q => by
      obtain ⟨o, e, p⟩ := Z.alloc _ _ a L.st (Z.sub a q)
      exact ha.notList F e p
    have F₃ := F.mv mv (fun a q hs => L.nw a hs q) hwO
    refine wpAny_bind (bind_ok (lc := false) (s := { s with heap := h₃, toks := tk₂ }) htr (hA.hd hot0) hs (fun z => nomatch z) L₃.ev.inv F₃ rv hb fun h₄ tk₄ I₄ F₄ k₄ st₄ => ?_)
    have hOS : ∀ a, Own env a → ¬ S₂ a := fun a ha => ha.notS L₃.ev.inv F₃
    have hOf : ∀ a, Own env a → ¬ fp a := fun a ha q => by
      obtain ⟨o, e, p⟩ := Z.alloc _ _ a L₃.st q
      exact ha.notList F₃ e p
    have L₄ : Lp base (Own env) μ S₀ σ₀ h₀ fp wr St Ok (i + 1) μ' S₂ σ h₄ := L₃.poke Z (P := Own env) (fun b o hb e => k₄ b o (fun q => hb q.1) e) (fun a o ha _ => ha) hOS (fun a ha => ha.notMu L₃.ev.inv F₃) (fun a ha => ha.new F₃) (fun a _ z => (I₄.zs a z).2) hOf fun a o _ e => st₄ a o e
    refine ob q fun p hp q => fl_on q (fun ρ₂ e q => ?_) (fun e hn => ?_)
    · refine wpAny_bind (H A env ρ₁ σ p.2 (.next ρ₂) S₂ μ' { s with heap := h₄, toks := tk₄ } _ _ hA hs I₄ F₄ (nx hp e) (.no hx.1 fun c e => nomatch e) fun f h₅ tk₅ S₅ μ₅ x₅ r₅ => ?_)
      cases r₅ with
      | next F₅ =>
        have L₅ := L₄.step Z x₅ (fun a o ha _ => ha) hOf (fun a ha => ha.notS I₄ F₄)
        refine wpAny_pure ⟨rfl, ?_⟩
        exact ih (i + 1) S₅ μ₅ ρ₂ p.2 σ' fl { s with heap := h₅, toks := tk₅ } R hd' hlt L₅ F₅ q hx P
    · refine wpAny_bind (H A env ρ₁ σ σ' fl S₂ μ' { s with heap := h₄, toks := tk₄ } _ _ hA hs I₄ F₄ (hp.trans (congrArg some e)) (hx.body hA L₄.ev) fun f h₅ tk₅ S₅ μ₅ x₅ r₅ => ?_)
      have L₅ := L₄.step Z x₅ (fun a o ha _ => ha) hOf (fun a ha => ha.notS I₄ F₄)
      cases r₅ with
      | next F₅ => exact (hn _ rfl).elim
      | ret r₅ z₅ => exact wpAny_pure (P (.ret _) h₅ tk₅ S₅ μ₅ L₅.ev (.ret (r₅.backo L₄.ev) z₅))
theorem ss_for (hot0 : base.hot = false) {target iter : Expr} {body : List Stmt} {pos : Pos} {tg : Tgt} {k : ItK} {its : List CE} {cs : List CS} (hk : tgtFits k tg = true) (htr : trT G sc target = some tg) (HI : SI prog w base ec G n Φ sc iter k its) (H : SS prog w base ec G n sc (execs body) (fun ρ σ => evSs N Φ cs ρ σ)) :
    SS prog w base ec G n sc (exec (.For target iter body [] pos)) (fun ρ σ => evS N Φ (.forr tg k its cs) ρ σ) := by
  intro A env ρ σ σ' fl S μ s Q E hA hs I F q hx P
  refine i_forr q fun vs σ₁ ds xs σ₂ q₁ q₂ q₃ q₄ z1 => ?_
  subst z1
  refine wpAny_For (HI.2 A env ρ σ σ₁ vs ds xs S μ s _ E hA hs I F q₁ q₂ q₃ fun It h₀ h₁ tk S₀ fp wr St Mid Ok x M => ?_) (HI.1 env)
  have lk := lock_ev (L := liveOf σ₁ vs) x.inv liveOf_ok
  have F₀ := F.ev I x
  have F₁ : FrOk base ec G.V S₀ μ env ρ h₁ := F₀.mono (fun a o _ e => .inl (M.grow a o e)) fun v av r => r.mono (fun a o _ e => M.grow a o e) (fun _ q => q) fun _ _ q => q
  refine for_loop hot0 M.src hA hs (tgt_kind hk htr) htr H xs 0 S₀ μ ρ _ σ₂ fl { s with heap := h₁, toks := tk } _ rfl (Nat.zero_le _) (M.lp lk.inv fun _ _ e => e) F₁ q₄ ⟨hx.1, fun c e => ?_⟩ ?_
  · refine ⟨lk.inv, fun e' h' tk' S' μ' ev' q => ?_⟩
    have e1 := unlock x.inv liveOf_ok ev'
    exact LX.out (tk := tk') hA I hx e ((Evo.of x).trans e1 fun _ _ q _ => q) (q.back (Evo.of (X := fun _ => False) x))
  intro f' h' tk' S' μ' ev' r'
  have e1 := unlock x.inv liveOf_ok ev'
  exact P f' h' tk' S' μ' ((Evo.of x).trans e1 fun _ _ q _ => q) (r'.back (Evo.of (X := fun _ => False) x))
theorem while_loop {A : Around} {test : Expr} {body : List Stmt} {env : Env} {c : CE} {cs : List CS} (hA : AOk base n A) (hs : ScOk env sc) (HT : ST prog w base ec G n Φ sc test c) (H : SS prog w base ec G n sc (execs body) (fun ρ σ => evSs N Φ cs ρ σ)) {μ : List Addr} {S₀ : Addr → Prop} {σ₀ : Store} {h₀ : Heap} :
    ∀ (k : Nat) (S : Addr → Prop) (μ' : List Addr) (ρ : Rho) (σ σ' : Store) (fl : Fl) (s : Shared) (R : Result → Shared → Prop), Evo base (Own env) μ μ' S₀ S σ₀ σ h₀ s.heap → FrOk base ec G.V S μ' env ρ s.heap →
      whileGo (fun ρ' σ' => evE Φ c ρ' σ') (fun ρ' σ' => evSs N Φ cs ρ' σ') k ρ σ = some (fl, σ') → LX ec base A env μ S₀ σ₀ σ' h₀ fl s R →
      (∀ f h' tk S' μ'', Evo base (Own env) μ μ'' S₀ S' σ₀ σ' h₀ h' → FlOk base ec G.V env h₀ h' S' μ'' fl f → R (.ok f) { s with heap := h', toks := tk }) →
      codeAny (model prog w) A (.whileLoop test body [] env) R s := by
  intro k
  induction k with
  | zero => intro S μ' ρ σ σ' fl s R x F q; cases q
  | succ k ih =>
    intro S μ' ρ σ σ' fl s R x F q hx P
    refine ob q fun p₀ q₁ q => ob q fun b qb q => ?_
    refine codeAny_of_tree ?_
    show wpAny _ A ((whileTurn test body [] env).onRaise (fun x => do noteFrame x env; theTreesLotGoes x)) _ _ s
    refine wpAny_noted ?_
    simp only [whileTurn]
    refine wpAny_bind (HT A env ρ σ p₀.2 p₀.1 b S μ' s _ _ hA hs x.inv F q₁ qb fun h₁ tk₁ S₁ x₁ => ?_)
    cases b with
    | false =>
      refine wpAny_bind (wpAny_execs_nil (wpAny_pure ?_))
      obtain rfl := (pr q).1
      obtain rfl := (pr q).2
      exact P .next h₁ tk₁ S₁ μ' (x.trans (Evo.of (X := fun _ => False) x₁) fun _ _ q => q.elim) (.next (F.ev x.inv x₁))
    | true =>
      have x' := x.trans (Evo.of (X := fun _ => False) x₁) fun _ _ q => q.elim
      have F₁ := F.ev x.inv x₁
      refine ob q fun p hp q => fl_on q (fun ρ₂ e q => ?_) (fun e hn => ?_)
      · refine wpAny_bind (H A env ρ p₀.2 p.2 (.next ρ₂) S₁ μ' { s with heap := h₁, toks := tk₁ } _ _ hA hs x₁.inv F₁ (nx hp e) (.no hx.1 fun c e => nomatch e) fun f h₅ tk₅ S₅ μ₅ x₅ r₅ => ?_)
        cases r₅ with
        | next F₅ =>
          refine wpAny_pure ⟨rfl, ?_⟩
          exact ih S₅ μ₅ ρ₂ p.2 σ' fl { s with heap := h₅, toks := tk₅ } R (x'.trans x₅ fun _ _ q _ => q) F₅ q hx P
      · refine wpAny_bind (H A env ρ p₀.2 σ' fl S₁ μ' { s with heap := h₁, toks := tk₁ } _ _ hA hs x₁.inv F₁ (hp.trans (congrArg some e)) (hx.body hA x') fun f h₅ tk₅ S₅ μ₅ x₅ r₅ => ?_)
        cases r₅ with
        | next F₅ => exact (hn _ rfl).elim
        | ret r₅ z₅ => exact wpAny_pure (P (.ret _) h₅ tk₅ S₅ μ₅ (x'.trans x₅ fun _ _ q _ => q) (.ret (r₅.backo x') z₅))
theorem ss_while {test : Expr} {body : List Stmt} {pos : Pos} {c : CE} {cs : List CS} (HT : ST prog w base ec G n Φ sc test c) (H : SS prog w base ec G n sc (execs body) (fun ρ σ => evSs N Φ cs ρ σ)) :
    SS prog w base ec G n sc (exec (.While test body [] pos)) (fun ρ σ => evS N Φ (.whil c cs) ρ σ) := by
  intro A env ρ σ σ' fl S μ s Q E hA hs I F q hx P
  refine wpAny_While (while_loop hA hs HT H N S μ ρ σ σ' fl s _ (.refl I) F q ⟨hx.1, fun c e => ⟨I, fun e' h' tk' S' μ' ev' q => LX.out (tk := tk') hA I hx e ev' q⟩⟩ ?_)
  intro f h' tk S' μ' x r
  exact P f h' tk S' μ' x r
end
end Mine
namespace Mine
open PySem PySem.Calls PyProof.Rows
section
variable {prog : Program} {w : World} {base : Bs} {ec : ExcCls} {G : Cfg} {n N : Nat} {Φ : Phi} {sc : Sc}
theorem no_inter {env : Env} (h : env.scope.kind = .function) : interactive env = false := by
  unfold interactive
  rw [h]
  rfl
theorem set_list {A : Around} {E : Value → Shared → Prop} {s : Shared} {l : Addr} {xs : List Value} {m : Nat} {k : Int} {t : Tok} {v : Value} {Q : Unit → Shared → Prop} (e : s.heap.get? l = some (lstO xs m)) (h0 : 0 ≤ k) (hfit : k < 2 ^ 63) (hk : k.toNat < xs.length)
    (hQ : Q () { s with heap := s.heap.update l (Obj.mapSeq fun ys => ys.setIfInBounds k.toNat v) }) : wpAny (model prog w) A (setItem (.ref l) (.int k t) v) Q E s := by
  have hT : s.TypeIs (.ref l) "list" := ⟨_, e, rfl⟩
  unfold setItem
  try with_reducible refine wpAny_holding ?_
  first | refine wpAny_bind (wpAny_pure ?_) | skip
  refine wpAny_bind (wpAny_sequenceKey hT (by decide) ?_)
  refine wpAny_bind (wpAny_callSpecial?_slot (name := Str.ofString "__setitem__") hT slot_list_setitem (wpAny_call_entry slot_list_setitem hT entry_list_setitem ?_ (args_list_setitem _ _ _)))
  show wpAny _ _ (Builtin.List.listSubscript? (.int k t) >>= _) _ _ s
  refine wpAny_bind (wpAny_listSubscript_int (fitsIndex_of h0 hfit) ?_)
  clear hfit
  obtain ⟨j, rfl⟩ := Int.eq_ofNat_of_zero_le h0
  have hj : j < xs.length := hk
  show wpAny _ _ ((seqItemAt l j >>= fun r => pure (r.map (j, ·))) >>= _) _ _ s
  refine wpAny_bind (wpAny_bind (wpAny_seqItemAt e rfl (wpAny_pure ?_)))
  rw [List.getElem?_toArray, List.getElem?_eq_getElem hj]
  show wpAny _ _ (setSeqItemAt l j v >>= _) _ _ s
  refine wpAny_bind (wpAny_setSeqItemAt e rfl ?_)
  first
    | exact wpAny_bind (wpAny_pure (wpAny_pure ⟨.none, rfl, wpAny_pure hQ⟩))
    | exact wpAny_pure ⟨.none, rfl, wpAny_pure hQ⟩
theorem ss_setItem {x : Str} {p p' pos : Pos} {ie e : Expr} {ci c : CE} {i : Nat} (hc : isComp e = false) (hx : varOf G sc x = some i) (Hi : SE prog w base ec G n Φ sc ie ci) (H : SE prog w base ec G n Φ sc e c) :
    SS prog w base ec G n sc (exec (.Assign [.Subscript (.Name x p) ie p'] e pos)) (fun ρ σ => evS N Φ (.setItem i ci c) ρ σ) := by
  intro A env ρ σ σ' fl S μ s Q E hA hs I F q _ P
  refine i_setItem q fun k v σ₁ d σ₂ j σ₃ ds hk q₁ q₂ q₃ q₄ hz z1 z2 => ?_
  subst z1
  subst z2
  refine wpAny_Assign_Subscript (seq1 H hA hs I F q₁ fun u h₁ tk₁ S₁ x₁ r₁ F₁ => ?_) (swaps_no hc _ _ _)
  obtain ⟨S₂, x₂, r₂, F₂⟩ := own_step x₁ (settle_notFresh v) r₁ q₂
  have F₂ := F.ev I x₂
  refine var_cell (s := { s with heap := h₁, toks := tk₁ }) hs x₂.inv F₂ hx hk fun a vs m ha e => ?_
  refine seq1 (s := { s with heap := h₁, toks := tk₁ }) Hi hA hs x₂.inv F₂ q₃ fun u' h₃ tk₃ S₃ x₃ r₃ F₃ => ?_
  obtain ⟨t, rfl⟩ := (rtOf (d := .int j) x₃.inv r₃ rfl).intD
  obtain ⟨vs₃, m₃, e₃, rl, _⟩ := x₃.inv.cells k a _ ds ha q₄
  refine set_list (s := { s with heap := h₃, toks := tk₃ }) e₃ hz.1 (by have : lim = 16777216 := rfl; omega) (by rw [rl.length]; exact hz.2.1) ?_
  obtain ⟨m₄, e₄⟩ := upd_list e₃ (fun ys => ys.setIfInBounds j.toNat u)
  have y := cell_set (ds' := ds.set j.toNat d) x₃.inv q₄ ha (Heap.SameBut.update ..) e₄ (by rw [List.setIfInBounds_toArray]; exact rl.set (r₂.mono (fun b o hb e => x₃.keepS x₂.inv b o hb e) x₃.sub) j.toNat)
  have z := (x₂.trans x₃).trans y
  exact P .next _ tk₃ S₃ μ (.of z) (.next (F.ev I z))
theorem ss_append {x : Str} {m : Str} {p ap pos spos : Pos} {e : Expr} {c : CE} {i : Nat} (hm : (m == ("append" : Str)) = true) (hl : (ap.endLine == pos.line) = true) (hx : varOf G sc x = some i) (hn : noStar e = true) (H : SE prog w base ec G n Φ sc e c) :
    SS prog w base ec G n sc (exec (.Expr (.Call (.Attribute (.Name x p) m ap) [e] [] pos) spos)) (fun ρ σ => evS N Φ (.append i c) ρ σ) := by
  intro A env ρ σ σ' fl S μ s Q E hA hs I F q _ P
  refine i_append q fun k v σ₁ d σ₂ ds hk q₁ q₂ q₃ hz z1 z2 => ?_
  subst z1
  subst z2
  rw [beq_iff_eq] at hm
  subst hm
  refine wpAny_Expr_any ?_ (no_inter F.kind) rfl
  refine Call_method1 rfl (starEach_no hn) hl (var_cell hs I F hx hk fun a vs j ha e => ?_)
  refine method_list PySem.F.slot_list_append type_list_append e (PySem.P.append_list ?_)
  refine seq1 H hA hs I F q₁ fun u h' tk S' x r F' => ?_
  obtain ⟨S₂, x₂, r₂, _⟩ := own_step x (settle_notFresh v) r q₂
  obtain ⟨vs₂, m₂, e₂, rl, _⟩ := x₂.inv.cells k a _ ds ha q₃
  refine ⟨vs₂.toArray, m₂, ?_, e₂, ?_⟩
  · have := rl.length
    rw [← lim_eq]; simp; omega
  · obtain ⟨m₃, e₃⟩ := upd_list e₂ (fun xs => xs.push u)
    have y := cell_set (ds' := ds ++ [d]) x₂.inv q₃ ha (Heap.SameBut.update ..) e₃ (by simpa using rl.append (.one r₂))
    have z := x₂.trans y
    exact P .next _ tk S₂ μ (.of z) (.next (F.ev I z))
theorem ss_extend {x : Str} {m : Str} {p ap pos spos : Pos} {e : Expr} {c : CE} {i : Nat} (hm : (m == ("extend" : Str)) = true) (hl : (ap.endLine == pos.line) = true) (hx : varOf G sc x = some i) (hn : noStar e = true) (H : SE prog w base ec G n Φ sc e c) :
    SS prog w base ec G n sc (exec (.Expr (.Call (.Attribute (.Name x p) m ap) [e] [] pos) spos)) (fun ρ σ => evS N Φ (.extend i c) ρ σ) := by
  intro A env ρ σ σ' fl S μ s Q E hA hs I F q _ P
  refine i_extend q fun k v σ₁ es ds hk q₁ q₂ q₃ hz z1 z2 => ?_
  subst z1
  subst z2
  rw [beq_iff_eq] at hm
  subst hm
  refine wpAny_Expr_any ?_ (no_inter F.kind) rfl
  refine Call_method1 rfl (starEach_no hn) hl (var_cell hs I F hx hk fun a vs j ha e => ?_)
  refine method_list PySem.F.slot_list_extend PySem.F.type_list_extend e (PySem.P.extend_list ?_)
  refine seq1 H hA hs I F q₁ fun u h' tk S' x r F' => ?_
  obtain ⟨b, us, mb, rfl, eb, rb⟩ := (r.rt x.inv q₂).lstD
  obtain ⟨vs₂, m₂, e₂, rl, _⟩ := x.inv.cells k a _ ds ha q₃
  have l1 := rl.length
  have l2 := rb.length
  refine ⟨b, vs₂.toArray, us.toArray, m₂, mb, ?_, ?_, ?_, rfl, e₂, eb, ?_⟩
  · rw [← lim_eq]; simp; omega
  · rw [← lim_eq]; simp; omega
  · unfold Builtin.List.listTooLong
    rw [← lim_eq]
    simp
    intro _
    omega
  · obtain ⟨m₃, e₃⟩ := upd_list e₂ (fun xs => xs ++ us.toArray)
    have y := cell_set (ds' := ds ++ es) x.inv q₃ ha (Heap.SameBut.update ..) e₃ (by simpa using rl.append rb)
    have z := x.trans y
    exact P .next _ tk S' μ (.of z) (.next (F.ev I z))
end
end Mine
namespace Mine
open PySem PySem.Calls PyProof.Rows
noncomputable def vMro : List Value := [.type "ValueError", .type "Exception", .type "BaseException", .type "object"]
noncomputable def ExcIn (base : Bs) (ec : ExcCls) (G : Cfg) : Prop := ∀ x c, G.excs.lookup x = some c → ∃ mg, base.hp.Ns mainGlobals mg ∧ OwnCls x (ec c) vMro "ValueError.__new__" mg base.hp
section
variable {prog : Program} {w : World} {base : Bs} {ec : ExcCls} {G : Cfg} {n N : Nat} {Φ : Phi} {sc : Sc}
theorem ss_raise (hot0 : base.hot = false) (WX : ExcIn base ec G) {x str : Str} {np cpos pos p' : Pos} {k c : Nat} (hg : isGlob sc x = true) (ho : okName x = true) (hx : G.excs.lookup x = some c) :
    SS prog w base ec G n sc (exec (.Raise (some (.Call (.Name x np) [.Constant (.str str) k p'] [] cpos)) none pos)) (fun ρ σ => evS N Φ (.raise c) ρ σ) := by
  intro A env ρ σ σ' fl S μ s Q E hA hs I F q hX P
  obtain ⟨rfl, rfl⟩ := pr q
  obtain ⟨mg, hmg, O⟩ := WX x c hx
  obtain ⟨tl, N', nm, q', bs, hdct, sn, sub, ab, col, dd, k0, k1, k2, k3, k5, mN, hC, hN, hni, T⟩ := O.obj
  refine wpAny_Raise_call_subU (C := ec c) (nm := nm) (q := q') (N := N') (bs := bs) (bm := tl) (hdct := hdct) (sn := sn) (sub := sub) (ab := ab) (col := col) (dd := dd) (k0 := k0) (k1 := k1) (k2 := k2) (k3 := k3) (k5 := k5)
    PySem.F.excBase_ValueError (by decide) PySem.F.excBase_ValueError (mN := mN) (T.hasType PySem.F.excBase_ValueError.hasBase) (hA.hd hot0) rfl hni ?_
  refine eval_glob F I.keepB ((hs.gl x).trans hg) ho ⟨mg, hmg, .inl O.bound⟩ ⟨rfl, ?_⟩
  refine Calls.evalArgs_plain (spliced_more (PySem.wpAny_Constant_str (spliced_none ?_)))
  refine ⟨rfl, Nat.le_trans (Nat.le_refl 1) (by decide), I.keepB _ _ hC, hN.keeps I.keepB, T.keeps I.keepB, fun h' e m => ?_⟩
  have st : Step S S s.heap h' := .grown m.keeps
  have y : Evo base (Own env) μ μ S S σ σ s.heap h' := .of (st.ev I)
  refine hX.2 c rfl e h' _ S μ false y ⟨m.new, fun hs' => ?_, ?_⟩
  · obtain ⟨o, eo, _⟩ := I.inS e hs'
    rw [m.new] at eo; cases eo
  · obtain ⟨t, he, _⟩ := m.there
    exact ⟨_, _, he, ⟨rfl, rfl⟩, rfl, .inl ⟨rfl, rfl⟩⟩
end
end Mine
namespace Mine
open PySem PySem.Spec PySem.Calls PySem.W PyProof.Rows
section
variable {prog : Program} {w : World} {A : Around} {E : Value → Shared → Prop} {s : Shared} {K : Frag} {x D : Addr} {ox : Obj}
theorem kx_entry {tk : Tok} {R : Result → Shared → Prop} (X : K.In s.heap) (I : InstAt s.heap x ox D none) (hf : findObj K D none "__class__" = some (.bind (.builtin "getset_descriptor.__get__") (.builtin "object.__class__"))) (hm : mroIn K D (.type "object") = some true) (hb : mroIn K D (.type "BaseException") = some true)
    (h : R (.ok (.ret (.ref D))) s) : codeAny (model prog w) A (.call (.builtin "BaseException.__getattribute__") ⟨[.ref x, .str "__class__" tk], []⟩) R s := by
  have L0 := I.type (M := model prog w)
  have L1 := looks_find (M := model prog w) X I hf
  have L2 := looks_mroIn (M := model prog w) X hb
  have hk : builtinKind "BaseException.__getattribute__" = some .slot := by decide +kernel
  have hsplit : splitId "BaseException.__getattribute__" = some ("BaseException", "__getattribute__") := by decide +kernel
  have ha := PySem.F.args_bexc_ga (.ref x) (.str "__class__" tk)
  refine codeAny_call_builtin PySem.F.attrBase_ValueError.ga.plain PySem.F.entry_bexc_ga ?_
  obtain ⟨hh, g, dr, t, os⟩ := s
  simp only [checkBuiltinCall, hk, hsplit]
  unfold isInstance
  repeat (first | with_reducible refine wpAny_call (class_get X I hm ?_) | lk)
  exact h
theorem kx_class {Q : Option Value → Shared → Prop} (X : K.In s.heap) (I : InstAt s.heap x ox D none) (hga : findIn K (.ref D) "__getattribute__" = some (some (.builtin "BaseException.__getattribute__"))) (hgt : findIn K (.ref D) "__getattr__" = some none)
    (hf : findObj K D none "__class__" = some (.bind (.builtin "getset_descriptor.__get__") (.builtin "object.__class__"))) (hm : mroIn K D (.type "object") = some true) (hb : mroIn K D (.type "BaseException") = some true) (h : Q (some (.ref D)) { s with toks := s.toks + 1 }) :
    wpAny (model prog w) A (getAttr? (.ref x) "__class__") Q E s := by
  obtain ⟨hh, g, dr, t, os⟩ := s
  have L0 := I.type (M := model prog w)
  have L1 := looks_findIn (M := model prog w) X hga
  have L2 := looks_findIn (M := model prog w) X hgt
  have f3 := PySem.F.attrBase_ValueError.ga.bind (.ref x)
  have hx2 : (Value.builtin "BaseException.__getattribute__" == Value.builtin "object.__getattribute__") = false := by decide +kernel
  have hx1 : (onTheHeap (Value.ref D) && Value.builtin "BaseException.__getattribute__" == Value.builtin "object.__getattribute__") = false := by rw [hx2]; rfl
  unfold getAttr? getAttrBy? getAttrBy
  refine wpAny_bind (wpAny_mkText (wpAny_bind (wpAny_attempt (wpAny_holding (wpAny_bind (L0.at (wpAny_bind (L1.at ?_))))))))
  show wpAny _ _ (if (onTheHeap (Value.ref D) && Value.builtin "BaseException.__getattribute__" == Value.builtin "object.__getattribute__") = true then _ else _) _ _ _
  rw [if_neg (by rw [hx1]; exact Bool.false_ne_true)]
  unfold getAttrByItsOwn hookBefore
  refine wpAny_bind ?_
  rw [if_pos (show onTheHeap (Value.ref D) = true from rfl)]
  refine L2.at ?_
  refine wpAny_bind (wpAny_attempt (wpAny_holding ?_))
  unfold callGetattribute
  rw [if_neg (by simp)]
  unfold boundAndCalled
  refine wpAny_bind (wpAny_of_eq f3 ?_)
  refine wpAny_call (kx_entry (s := ⟨hh, g, dr, t + 1, os⟩) X I hf hm hb ?_)
  exact handed_on rfl (wpAny_pure h)
structure KX (K : Frag) (D : Addr) : Prop where
  ga : findIn K (.ref D) "__getattribute__" = some (some (.builtin "BaseException.__getattribute__"))
  gt : findIn K (.ref D) "__getattr__" = some none
  cl : findObj K D none "__class__" = some (.bind (.builtin "getset_descriptor.__get__") (.builtin "object.__class__"))
  ob : mroIn K D (.type "object") = some true
  be : mroIn K D (.type "BaseException") = some true
  cls : (clsIn K D).isSome = true
  ty : typeIn K (.ref D) = some (.type "type")
theorem looks_isType {M : Model} {h : Heap} {C : Addr} (X : K.In h) (e : (clsIn K C).isSome = true) : Looks M h (isType (.ref C)) true := by
  unfold clsIn at e
  split at e
  · rename_i c' d' cd' sl' ho
    intro A' Q' E' s' k q
    unfold isType loadHead
    exact wpAny_bind (wpAny_loadPart (k _ _ (X _ _ ho)) (wpAny_pure q))
  · cases e
theorem kitx_exc (kD : KX K D) : KitX K (.ref x) (.ref D) (fun h => ∃ ox, InstAt h x ox D none) where
  ty := fun _ _ _ ⟨_, I⟩ => I.type
  it := fun _ _ X _ => looks_isType X kD.cls
  ne := fun h tp dd its n sl X e => Bool.eq_false_iff.mpr fun q => by
    have hD := beq_iff_eq.mp q
    cases hD
    have hc := kD.cls
    unfold clsIn at hc
    split at hc
    · rename_i c' d' cd' sl' ho
      have := X _ _ ho
      rw [e] at this
      cases this
    · cases hc
  ca := fun X ⟨_, I⟩ h => kx_class X I kD.ga kD.gt kD.cl kD.ob kD.be h
theorem kx_match {C : Addr} {Q : Bool → Shared → Prop} (X : K.In s.heap) (I : InstAt s.heap x ox D none) (kD : KX K D) (kC : KX K C) (hs : subIn K (.ref D) (.ref C) = some true) (h : Q true s) : wpAny (model prog w) A (excMatches (.ref x) (.ref C)) Q E s := by
  obtain ⟨hh, g, dr, t, os⟩ := s
  have L0 := I.type (M := model prog w)
  have L1 := looks_subIn (M := model prog w) X hs
  have L2 := looks_typeIn (M := model prog w) X kC.ty
  have L3 := looks_isType (M := model prog w) X kC.cls
  have L4 := looks_mroIn (M := model prog w) X kC.be
  have f := tc_notTuple
  unfold excMatches
  repeat (first | lk | wp_step)
  exact h
theorem handle_as {env : Env} {C : Addr} {t : Expr} {n : Str} {b₀ : Stmt} {suite : List Stmt} {pos : Pos} {Q : Flow → Shared → Prop} {e : Addr}
    (h : wpAny (model prog w) (A.mark (some (.ref e))) (eval t env) (fun c s₁ => c = .ref C ∧ (K.In s₁.heap ∧ (∃ oe, InstAt s₁.heap e oe D none) ∧ KX K D ∧ KX K C ∧ subIn K (.ref D) (.ref C) = some true) ∧
      wpAny (model prog w) (A.mark (some (.ref e))) (setFlight (.ref e) none) (fun _ s₂ =>
          wpAny (model prog w) (A.mark (some (.ref e))) (storeName env n (.ref e)) (fun _ s₃ =>
            wpAny (model prog w) (A.mark (some (.ref e))) (execs (b₀ :: suite) env)
              (fun f s₄ => wpAny (model prog w) A (do bindName env n .none; unbindBehindTheSuite env n pos) (fun _ s₅ => Q f s₅) E s₄)
              (fun _ _ => False) s₃) (fun _ _ => False) s₂) (fun _ _ => False) s₁) (fun _ _ => False) s) :
    wpAny (model prog w) A (handleBy (.ref e) env [.ExceptHandler (some t) (some n) (b₀ :: suite) pos]) Q E s := by
  refine wpAny_handleBy_cons (codeAny_handlers_test (wpAny_mono h (fun c s₁ h₁ => ?_) fun _ _ y => y.elim)) (by intro q; cases q)
  obtain ⟨rfl, ⟨X, ⟨oe, I⟩, kD, kC, hs⟩, hk⟩ := h₁
  refine kx_match X I kD kC hs (codeAny_handlers_suite_as ?_)
  exact wpAny_mono hk (fun _ s₂ h₂ => wpAny_mono h₂ (fun _ s₃ h₃ => wpAny_mono h₃ (fun _ _ h₄ => h₄) fun _ _ y => y.elim) fun _ _ y => y.elim) fun _ _ y => y.elim
end
end Mine
namespace Mine
open PySem PySem.Spec PySem.Calls PySem.W PyProof.Rows
noncomputable def Bs.heat (b : Bs) : Bs := ⟨b.hp, b.Z, true⟩
section
variable {base : Bs} {ec : ExcCls} {V : List Str} {env : Env} {X : Addr → Prop} {μ μ' : List Addr} {S S' : Addr → Prop} {σ σ' : Store} {h h' : Heap} {ρ : Rho}
theorem Inv.heat (I : Inv base S μ σ h) : Inv base.heat S μ σ h := ⟨I.keepB, I.len, I.cells, I.nodup, I.new, I.inS, I.zs⟩
theorem Inv.cool (I : Inv base.heat S μ σ h) : Inv base S μ σ h := ⟨I.keepB, I.len, I.cells, I.nodup, I.new, I.inS, I.zs⟩
theorem FrOk.heat (F : FrOk base ec V S μ env ρ h) : FrOk base.heat ec V S μ env ρ h := ⟨F.kind, F.glob, F.blt, F.ns, F.cell, F.val, F.has, F.apart, F.newL, F.newC⟩
theorem Evo.cool (x : Evo base.heat X μ μ' S S' σ σ' h h') : Evo base X μ μ' S S' σ σ' h h' := ⟨x.ext, x.sub, x.new, x.inv.cool, x.keep, x.live, x.stay⟩
end
structure XK (K : Frag) (base : Bs) (ec : ExcCls) : Prop where
  inn : K.In base.hp
  kx : ∀ c, c < 5 → KX K (ec c)
  sub : ∀ c, c < 5 → subIn K (.ref (ec c)) (.ref (ec 0)) = some true
  one : ∀ c d, c < 5 → d < 5 → kitOne K (.ref (ec c)) (.ref (ec d)) = some (excSub c d)
  val : ∀ c, c < 5 → kitOne K (.ref (ec c)) (.type "ValueError") = some true
noncomputable def excN (G : Cfg) (y : Str) : Option Nat := if (y == ("ValueError" : Str)) = true then some 99 else (G.excs.lookup y).bind fun c => if c < 5 then some c else none
noncomputable def excOf (G : Cfg) (sc : Sc) (e : Expr) : Option Nat := (nameOf e).bind fun y => if (isGlob sc y && okName y) = true then excN G y else none
noncomputable def excsOf (G : Cfg) (sc : Sc) : List Expr → Option (List Nat)
  | [] => some []
  | t :: ts => (excOf G sc t).bind fun c => (excsOf G sc ts).bind fun cs => some (c :: cs)
noncomputable def excV (ec : ExcCls) (c : Nat) : Value := if c = 99 then .type "ValueError" else .ref (ec c)
theorem i_isexc {Φ : Phi} {ρ : Rho} {σ σ' : Store} {av : AV} {e : CE} {cs : List Nat} {R : Prop} (q : evE Φ (.isexc e cs) ρ σ = some (av, σ')) (k : ∀ c, evE Φ e ρ σ = some (.exc c, σ') → c < 5 → av = .dat (.bool (cs.any (excSub c))) → R) : R :=
  ob q fun x h1 q => ob q fun c h2 q => og q fun h3 q => k c (h1.trans (congrArg some (Prod.ext (excA_eq h2) (pr q).2))) h3 (pr q).1.symm
section
variable {prog : Program} {w : World} {base : Bs} {ec : ExcCls} {G : Cfg} {n N : Nat} {Φ : Phi} {sc : Sc} {K : Frag}
theorem excN_inv {y : Str} {c : Nat} {R : Prop} (h : excN G y = some c) (k1 : (y == ("ValueError" : Str)) = true → c = 99 → R) (k2 : c < 5 → G.excs.lookup y = some c → R) : R := by
  replace h : (if (y == ("ValueError" : Str)) = true then some 99 else (G.excs.lookup y).bind fun c => if c < 5 then some c else none) = some c := h
  by_cases q : (y == ("ValueError" : Str)) = true
  · rw [if_pos q] at h; exact k1 q (Option.some.inj h).symm
  · rw [if_neg q] at h; exact ob h fun d h1 h => og h fun h5 h => os (P := fun c => (c < 5 → G.excs.lookup y = some c → R) → R) h (fun k => k h5 h1) k2
theorem exc_inv {e : Expr} {c : Nat} {P : Expr → Prop} (h : excOf G sc e = some c) (k : ∀ y p, isGlob sc y = true → okName y = true → excN G y = some c → P (.Name y p)) : P e :=
  ob h fun y h1 h => og h fun h2 h => e_name h1 fun p => ba h2 fun h3 h4 => k y p h3 h4 h
theorem excOf_lt {e : Expr} {c : Nat} (h : excOf G sc e = some c) : c = 99 ∨ c < 5 := exc_inv (P := fun _ => c = 99 ∨ c < 5) h fun _ _ _ _ h => excN_inv h (fun _ => .inl) fun h _ => .inr h
theorem excV_lt {c : Nat} (h : c < 5) : excV ec c = .ref (ec c) := if_neg (Nat.ne_of_lt (Nat.lt_trans h (by decide)))
theorem eval_exc (W : Wd base ec G) {A : Around} {env : Env} {ρ : Rho} {S : Addr → Prop} {μ : List Addr} {s : Shared} {Q : Value → Shared → Prop} {E : Value → Shared → Prop} {e : Expr} {c : Nat} (hs : ScOk env sc) (kb : ∀ b o, base.get? b = some o → s.heap.get? b = some o) (F : FrOk base.heat ec G.V S μ env ρ s.heap) (h : excOf G sc e = some c) (hQ : Q (excV ec c) s) :
    wpAny (model prog w) A (eval e env) Q E s :=
  exc_inv (P := fun e => wpAny (model prog w) A (eval e env) Q E s) h fun y p h1 h2 h => eval_glob (v := excV ec c) F kb ((hs.gl _).trans h1) h2 (excN_inv h (fun h3 h4 => by
    rw [h4, eq_of_beq h3]
    exact W.blt _ _ (blt_rest (.tail _ (.tail _ (.tail _ (.head _)))))) fun h3 h4 => by rw [excV_lt h3]; exact W.exc _ _ h4) hQ
theorem excs_ok (W : Wd base ec G) {A : Around} {env : Env} {ρ : Rho} {S : Addr → Prop} {μ : List Addr} {s : Shared} {E : Value → Shared → Prop} {pos : Pos} (hs : ScOk env sc) (kb : ∀ b o, base.get? b = some o → s.heap.get? b = some o) (F : FrOk base.heat ec G.V S μ env ρ s.heap) : ∀ {ts : List Expr} {cs : List Nat} {R : List Value → Shared → Prop}, excsOf G sc ts = some cs → R (cs.map (excV ec)) s →
    wpAny (model prog w) A (spliced (backTo pos (starEach ts env))) R E s := by
  intro ts
  induction ts with
  | nil => intro cs R h hR; exact os (P := fun cs => R (cs.map (excV ec)) s → wpAny (model prog w) A (spliced (backTo pos (starEach [] env))) R E s) h wpAny_items_nil hR
  | cons t ts ih =>
    intro cs R h hR
    exact ob h fun c h1 h => ob h fun cs' h2 h => os (P := fun cs => R (cs.map (excV ec)) s → wpAny (model prog w) A (spliced (backTo pos (starEach (t :: ts) env))) R E s) h (fun hR => wpAny_items_cons (eval_exc W hs kb F h1 (ih h2 hR)) (starEach_no (exc_inv (P := fun t => noStar t = true) h1 fun _ _ _ _ _ => rfl))) hR
theorem excsOf_len : ∀ {ts : List Expr} {cs : List Nat}, excsOf G sc ts = some cs → cs.length = ts.length ∧ ∀ c ∈ cs, c = 99 ∨ c < 5
  | [], _, h => os (P := fun cs => cs.length = 0 ∧ ∀ c ∈ cs, c = 99 ∨ c < 5) h ⟨rfl, fun _ h => nomatch h⟩
  | _ :: ts, _, h => ob h fun c h1 h => ob h fun cs' h2 h => os (P := fun cs => cs.length = ts.length + 1 ∧ ∀ c ∈ cs, c = 99 ∨ c < 5) h ⟨congrArg Nat.succ (excsOf_len h2).1, fun d hd => (List.mem_cons.mp hd).elim (fun e => e ▸ excOf_lt h1) fun hd => (excsOf_len h2).2 d hd⟩
theorem XK.kit (X : XK K base ec) {c d : Nat} (hc : c < 5) (hd : d = 99 ∨ d < 5) : kitOne K (.ref (ec c)) (excV ec d) = some (excSub c d) := by
  rcases hd with rfl | hd
  · exact (X.val c hc).trans (congrArg some (by unfold excSub; simp))
  · rw [excV_lt hd]
    exact X.one c d hc hd
theorem XK.any (X : XK K base ec) {c : Nat} (hc : c < 5) : ∀ {cs : List Nat}, (∀ d ∈ cs, d = 99 ∨ d < 5) → kitAny K (.ref (ec c)) (cs.map (excV ec)) = some (cs.any (excSub c)) := by
  intro cs
  induction cs with
  | nil => intro _; rfl
  | cons d cs ih =>
    intro h
    have h1 := X.kit hc (h d (.head _))
    have h2 := ih fun e he => h e (.tail _ he)
    show kitAny K _ (excV ec d :: _) = _
    unfold kitAny
    rw [h1, List.any_cons]
    cases excSub c d with
    | true => rfl
    | false => rw [h2, Bool.false_or]
theorem inst_of {h : Heap} {S : Addr → Prop} {μ : List Addr} {v : Value} {c : Nat} (r : RdA ec h S μ v (.exc c)) : ∃ a ox, v = .ref a ∧ InstAt h a ox (ec c) none := by
  cases r with
  | exc _ e q =>
    obtain ⟨q1, q2, vs, q3⟩ := q
    refine ⟨_, _, rfl, e, q1, ?_, ?_⟩
    · unfold notCls; rw [q3]
    · rw [q2]; trivial
theorem se_isexc (W : Wd base ec G) (X : XK K base ec) {g : Str} {p pos : Pos} {x t : Expr} {a : CE} {c : Nat} (hn : noStar x = true) (hg : isGlob sc g = true) (ho : okName g = true) (hgi : (g == ("isinstance" : Str)) = true) (ht : excOf G sc t = some c) (H : SE prog w base.heat ec G n Φ sc x a) :
    SE prog w base.heat ec G n Φ sc (.Call (.Name g p) [x, t] [] pos) (.isexc a [c]) := by
  intro A env ρ σ σ' av S μ s Q E hA hs I F ev P
  refine i_isexc ev fun d q₁ h5 z => ?_
  subst z
  cases eq_of_beq hgi
  refine wpAny_Call_Name_kw (eval_glob F I.keepB ((hs.gl _).trans hg) ho (W.blt _ (.builtin "isinstance") (blt_rest (.head _))) ?_)
  have hnt := exc_inv (P := fun t => noStar t = true) ht fun _ _ _ _ _ => rfl
  refine PyProof.Rows.callWith_builtin1 ?_ (starEach_no hn) (by rw [starEach_no hnt]; rfl)
  refine wpAny_items_cons (seq1 H hA hs I F q₁ fun v h' tk S' x r F' => ?_) (starEach_no hn)
  refine wpAny_items_cons (eval_exc (s := { s with heap := h', toks := tk }) W hs x.inv.keepB F' ht ?_) (starEach_no hnt)
  refine wpAny_items_nil ?_
  obtain ⟨b, ox, rfl, inst⟩ := inst_of r
  refine kia_one (s := { s with heap := h', toks := tk }) (kitx_exc (X.kx d h5)) (fun b o e => x.inv.keepB b o (X.inn b o e)) ⟨ox, inst⟩ (X.kit h5 (excOf_lt ht)) (by intro q; cases q) fun tk' => ?_
  have : [c].any (excSub d) = excSub d c := by simp
  rw [← this]
  exact P _ h' tk' S' x (.old (.dat (.bool _)))
theorem se_isexcs (W : Wd base ec G) (X : XK K base ec) {g : Str} {p p' pos : Pos} {k : Nat} {x : Expr} {ts : List Expr} {a : CE} {cs : List Nat} (hn : noStar x = true) (hg : isGlob sc g = true) (ho : okName g = true) (hgi : (g == ("isinstance" : Str)) = true) (hl : ts.length ≤ 1000) (ht : excsOf G sc ts = some cs) (H : SE prog w base.heat ec G n Φ sc x a) :
    SE prog w base.heat ec G n Φ sc (.Call (.Name g p) [x, .Tuple ts k p'] [] pos) (.isexc a cs) := by
  intro A env ρ σ σ' av S μ s Q E hA hs I F ev P
  refine i_isexc ev fun d q₁ h5 z => ?_
  subst z
  cases eq_of_beq hgi
  have hlen := (excsOf_len ht).1
  have hall := (excsOf_len ht).2
  refine wpAny_Call_Name_kw (eval_glob F I.keepB ((hs.gl _).trans hg) ho (W.blt _ (.builtin "isinstance") (blt_rest (.head _))) ?_)
  refine PyProof.Rows.callWith_builtin1 ?_ (starEach_no hn) rfl
  refine wpAny_items_cons (seq1 H hA hs I F q₁ fun v h' tk S' x r F' => ?_) (starEach_no hn)
  refine wpAny_items_cons (wpAny_Tuple (excs_ok (s := { s with heap := h', toks := tk }) W hs x.inv.keepB F' ht ⟨by rw [List.length_map, hlen, ← lim_eq]; unfold lim; omega, ?_⟩)) rfl
  refine wpAny_items_nil ?_
  obtain ⟨b, ox, rfl, inst⟩ := inst_of r
  have inst' : InstAt (h'.push (tupO (cs.map (excV ec)) 0)) b ox (ec d) none := ⟨Heap.get?_push_of_some _ inst.at_, inst.cls, inst.no, by have := inst.dict; revert this; cases ox.dict <;> exact id⟩
  refine kia_tup (s := { s with heap := h'.push (tupO (cs.map (excV ec)) 0), toks := tk }) (dd := none) (sl := #[]) (kitx_exc (X.kx d h5)) (fun b o e => Heap.get?_push_of_some _ (x.inv.keepB b o (X.inn b o e))) ⟨ox, inst'⟩ (Heap.get?_push_size h' (o := tupO (cs.map (excV ec)) 0) rfl) (X.any h5 hall) (by intro q; cases q) fun tk' => ?_
  have st : Step S' S' h' (h'.push (tupO (cs.map (excV ec)) 0)) := .grown fun b o e => Heap.get?_push_of_some _ e
  exact P _ _ tk' S' (x.trans (st.ev x.inv)) (.old (.dat (.bool _)))
end
end Mine
namespace Mine
open PySem PySem.Spec PySem.Calls PySem.W PyProof.Rows
noncomputable def trLS (f : Stmt → Option CS) : List Stmt → Option (List CS)
  | [] => some []
  | e :: es => (f e).bind fun c => (trLS f es).bind fun cs => some (c :: cs)
noncomputable def tupOf : Expr → Option (List Expr)
  | .Tuple es _ _ => some es
  | _ => none
noncomputable def trHI (G : Cfg) (sc : Sc) (a : CE) (e : Expr) : Option CE := match tupOf e with
  | some ts => if ts.length ≤ 1000 then (excsOf G sc ts).bind fun cs => some (.isexc a cs) else none
  | none => (excOf G sc e).bind fun c => some (.isexc a [c])
noncomputable def trHC (G : Cfg) (sc : Sc) (f : Expr → Option CE) (g : Str) (args : List Expr) : Option CE :=
  if (g == ("isinstance" : Str)) = true then (args2 args).bind fun p => (f p.1).bind fun a => trHI G sc a p.2
  else if (g == ("int" : Str)) = true then (args1 args).bind fun x => (f x).bind fun a => some (.prim .int [a]) else none
noncomputable def unH : UnaryOp → CE → Option CE
  | .Not, a => some (.nott a)
  | _, _ => none
noncomputable def trH (G : Cfg) : Nat → Sc → Expr → Option CE
  | 0, _, _ => none
  | n + 1, sc, e => match e with
    | .Constant c _ _ => (constD c).bind fun d => some (.const d)
    | .Name x _ => (varOf G sc x).bind fun i => some (.var i)
    | .BinOp l op r _ => (trH G n sc l).bind fun a => (trH G n sc r).bind fun b => some (.bin op a b)
    | .UnaryOp op x _ => (trH G n sc x).bind fun a => unH op a
    | .BoolOp op vs _ => if vs.isEmpty = false then (trL (trH G n sc) vs).bind fun cs => some (.bop op cs) else none
    | .Call g args kws _ => if kws.isEmpty = true then (nameOf g).bind fun x => if (isGlob sc x && okName x) = true then trHC G sc (trH G n sc) x args else none else none
    | _ => none
noncomputable def one1 : List Expr → Option Expr
  | [] => none
  | a :: r => if r.isEmpty = true then some a else none
noncomputable def trH1 (G : Cfg) (sc : Sc) : Stmt → Option CS
  | .Assign ts e _ => (one1 ts).bind fun t => (nameOf t).bind fun x => if isComp e = false then (ownOf G sc x).bind fun i => (trH G 20 sc e).bind fun c => some (asg false i c) else none
  | .Return e _ => e.bind fun e => (trH G 20 sc e).bind fun c => some (.ret c)
  | _ => none
theorem o_one {es : List Expr} {a : Expr} {P : List Expr → Prop} (h : one1 es = some a) (k : P [a]) : P es := by
  cases es with
  | nil => exact nsm h
  | cons b r => exact og h fun h1 h => l_one (P := fun r => P (b :: r)) h1 (os (P := fun a => P [a] → P [b]) h id k)
theorem e_tup {e : Expr} {es : List Expr} {P : Expr → Prop} (h : tupOf e = some es) (k : ∀ j p, P (.Tuple es j p)) : P e := by
  cases e <;> first | exact nsm h | (cases h; exact k _ _)
section
variable {prog : Program} {w : World} {base : Bs} {ec : ExcCls} {G : Cfg} {n N : Nat} {Φ : Phi} {sc : Sc} {K : Frag}
theorem trLS_ok {f : Stmt → Option CS} (hf : ∀ st c, f st = some c → SS prog w base ec G n sc (exec st) (fun ρ σ => evS N Φ c ρ σ)) : ∀ {b : List Stmt} {cs : List CS}, trLS f b = some cs → SS prog w base ec G n sc (execs b) (fun ρ σ => evSs N Φ cs ρ σ) := by
  intro b
  induction b with
  | nil => intro cs h; exact os (P := fun cs => SS prog w base ec G n sc (execs []) (fun ρ σ => evSs N Φ cs ρ σ)) h ss_nil
  | cons st b ih => intro cs h; exact ob h fun c hc h => ob h fun cs' hc' h => os (P := fun cs => SS prog w base ec G n sc (execs (st :: b)) (fun ρ σ => evSs N Φ cs ρ σ)) h (ss_cons (hf st c hc) (ih hc'))
theorem se_int (W : Wd base ec G) {g : Str} {p pos : Pos} {x : Expr} {a : CE} (hn : noStar x = true) (hg : isGlob sc g = true) (ho : okName g = true) (hgi : (g == ("int" : Str)) = true) (H : SE prog w base.heat ec G n Φ sc x a) :
    SE prog w base.heat ec G n Φ sc (.Call (.Name g p) [x] [] pos) (.prim .int [a]) := by
  intro A env ρ σ σ' av S μ s Q E hA hs I F ev P
  refine i_prim ev fun avs ds q₁ q₂ q₃ => ?_
  rw [beq_iff_eq] at hgi
  subst hgi
  refine i_lcons q₁ fun v σ₁ vs k1 k2 z1 => ?_
  subst z1
  obtain ⟨rfl, rfl⟩ := i_lnil k2
  obtain ⟨d, q, e₁⟩ := bnd q₂
  obtain ⟨ds', q', e₂⟩ := bnd e₁
  cases q'
  cases e₂
  obtain ⟨b, h2, e₂⟩ := bnd q₃
  cases boolD_eq h2
  cases e₂
  refine wpAny_Call_Name_kw (eval_glob F I.keepB ((hs.gl _).trans hg) ho (W.blt _ (.type "int") (blt_ty (y := .int) rfl)) ?_)
  refine PyProof.Rows.callWith_type1 ?_ (starEach_no hn) rfl
  refine wpAny_items_cons (seq1 H hA hs I F k1 fun v h' tk S' x r F' => ?_) (starEach_no hn)
  refine wpAny_items_nil ?_
  obtain rfl := (r.rt x.inv q).boolD
  exact call_int_bool (P _ h' _ S' x (.old (.dat (.int _ _))))
theorem call_x (W : Wd base ec G) (HX : PhiX prog w base ec G n Φ) {g : Str} {p pos : Pos} {es : List Expr} {cs : List CE} {k c : Nat} {vs : List AV} (hg : isGlob sc g = true) (ho : okName g = true) (hk : slotL (G.fns.map (·.1)) 0 g = some k) (hne : es ≠ []) (hS : SEs prog w base ec G n Φ sc es cs)
    {A : Around} {env : Env} {ρ : Rho} {σ σ₁ σ' : Store} {S : Addr → Prop} {μ : List Addr} {s : Shared} {Q : Value → Shared → Prop} {E : Value → Shared → Prop} (hA : AOk base n A) (hs : ScOk env sc) (I : Inv base S μ σ s.heap) (F : FrOk base ec G.V S μ env ρ s.heap) (q₁ : evEs Φ cs ρ σ = some (vs, σ₁)) (q₂ : Φ k vs σ₁ = some (.exc c, σ'))
    (px : ∀ e h' tk S', Ev base μ S S' σ σ' s.heap h' → ExcN s.heap h' S' e (.ref (ec c)) true → E (.ref e) { s with heap := h', toks := tk }) : wpAny (model prog w) A (eval (.Call (.Name g p) es [] pos) env) Q E s := by
  have e := slotL_lt hk
  rw [List.getElem?_map] at e
  cases qf : G.fns[k]? with
  | none => rw [qf] at e; cases e
  | some fa =>
    obtain ⟨f, a⟩ := fa
    rw [qf] at e
    obtain rfl : f = g := Option.some.inj e
    obtain ⟨hgl, o, fd, ho', hd⟩ := W.fn k f a qf
    refine wpAny_Call_Name_kw (eval_glob F I.keepB ((hs.gl f).trans hg) ho hgl ?_)
    cases hS with
    | nil => exact absurd rfl hne
    | @cons e es' c' cs' hn H hS =>
      have full := SEs.cons hn H hS
      refine PyProof.Rows.callWith_def hd (es_ok full hA hs I F q₁ fun vs' h' tk S' x r F' hf hl => ⟨x.inv.keepB _ _ ho', ?_⟩) (starEach_no hn)
      refine HX k f a qf A S' μ σ₁ _ { s with heap := h', toks := tk } vs' _ c _ _ hA x.inv r q₂ fun e' h'' tk' S'' x' qe => ?_
      exact px e' h'' tk' S'' (x.trans x') (qe.back (Evo.of (X := fun _ => False) x))
section
variable (W : Wd base ec G) (X : XK K base ec)
include W X
theorem trHI_ok {g : Str} {p pos : Pos} {x t : Expr} {a c : CE} (hn : noStar x = true) (hg : isGlob sc g = true) (ho : okName g = true) (hgi : (g == ("isinstance" : Str)) = true) (H : SE prog w base.heat ec G n Φ sc x a) (h : trHI G sc a t = some c) : SE prog w base.heat ec G n Φ sc (.Call (.Name g p) [x, t] [] pos) c := by
  unfold trHI at h
  cases q : tupOf t with
  | none => rw [q] at h; exact ob h fun d hd h => os (P := SE prog w base.heat ec G n Φ sc _) h (se_isexc W X hn hg ho hgi hd H)
  | some ts => rw [q] at h; exact og h fun hl h => ob h fun cs hc h => os (P := SE prog w base.heat ec G n Φ sc _) h (e_tup (P := fun t => SE prog w base.heat ec G n Φ sc (.Call (.Name g p) [x, t] [] pos) _) q fun j p' => se_isexcs W X hn hg ho hgi hl hc H)
theorem trHC_ok {f : Expr → Option CE} (hf : ∀ e c, f e = some c → SE prog w base.heat ec G n Φ sc e c) {g : Str} {p pos : Pos} {args : List Expr} {c : CE} (hg : isGlob sc g = true) (ho : okName g = true) (h : trHC G sc f g args = some c) : SE prog w base.heat ec G n Φ sc (.Call (.Name g p) args [] pos) c := by
  replace h : (if (g == ("isinstance" : Str)) = true then (args2 args).bind fun p => (f p.1).bind fun a => trHI G sc a p.2 else if (g == ("int" : Str)) = true then (args1 args).bind fun x => (f x).bind fun a => some (.prim .int [a]) else none) = some c := h
  by_cases hi : (g == ("isinstance" : Str)) = true
  · rw [if_pos hi] at h
    exact ob h fun q hq h => ob h fun a ha h => a_two (P := fun args => SE prog w base.heat ec G n Φ sc (.Call (.Name g p) args [] pos) c) hq fun n1 _ => trHI_ok W X n1 hg ho hi (hf _ _ ha) h
  · rw [if_neg hi] at h
    exact og h fun hi h => ob h fun x hx h => ob h fun a ha h => os (P := SE prog w base.heat ec G n Φ sc _) h (a_one (P := fun args => SE prog w base.heat ec G n Φ sc (.Call (.Name g p) args [] pos) _) hx fun n1 => se_int W n1 hg ho hi (hf _ _ ha))
theorem trH_ok : ∀ (m : Nat) (e : Expr) (c : CE), trH G m sc e = some c → SB prog w base.heat ec G n Φ sc e c
  | 0, _, _, h => nsm h
  | m + 1, e, c, h => by
    have ih := trH_ok m
    cases e <;> first | exact nsm h | skip
    · exact og h fun h1 h => ob h fun cs hc h => os (P := SB prog w base.heat ec G n Φ sc _) h ⟨se_bop (fun q => by rw [q] at h1; cases h1) (trL_sbs ih hc), st_bop (trL_sbs ih hc)⟩
    · exact sb_of (fun _ _ => rfl) (ob h fun a ha h => ob h fun b hb h => os (P := SE prog w base.heat ec G n Φ sc _) h (se_bin (ih _ _ ha).1 (ih _ _ hb).1))
    · rename_i op x pos
      refine ob h fun a ha h => ?_
      cases op <;> first | exact nsm h | exact os (P := SB prog w base.heat ec G n Φ sc _) h ⟨se_not (ih _ _ ha).1, st_not (ih _ _ ha).2⟩
    · exact sb_of (fun _ _ => rfl) (og h fun h1 h => l_one (P := fun kws => SE prog w base.heat ec G n Φ sc (.Call _ _ kws _) c) h1 (ob h fun x hx h => og h fun hg h => e_name (P := fun g => SE prog w base.heat ec G n Φ sc (.Call g _ [] _) c) hx fun p => ba hg fun h1 h2 => trHC_ok W X (fun e c h => (ih e c h).1) h1 h2 h))
    · exact sb_of (fun _ _ => rfl) (ob h fun d hd h => os (P := SE prog w base.heat ec G n Φ sc _) h (se_const hd))
    · exact sb_of (fun _ _ => rfl) (ob h fun i hi h => os (P := SE prog w base.heat ec G n Φ sc _) h (se_var hi))
theorem trH1_ok {st : Stmt} {c : CS} (h : trH1 G sc st = some c) : SS prog w base.heat ec G n sc (exec st) (fun ρ σ => evS N Φ c ρ σ) := by
  cases st <;> first | exact nsm h | skip
  · exact ob h fun e he h => os (P := fun e => SS prog w base.heat ec G n sc (exec (.Return e _)) (fun ρ σ => evS N Φ c ρ σ)) (congrArg some he.symm) (ob h fun a ha h => os (P := fun c => SS prog w base.heat ec G n sc (exec (.Return (some e) _)) (fun ρ σ => evS N Φ c ρ σ)) h (ss_ret (trH_ok W X 20 _ _ ha).1))
  · exact ob h fun t ht h => ob h fun x hx h => og h fun hc h => ob h fun i hi h => ob h fun a ha h => os (P := fun c => SS prog w base.heat ec G n sc (exec (.Assign _ _ _)) (fun ρ σ => evS N Φ c ρ σ)) h (o_one (P := fun ts => SS prog w base.heat ec G n sc (exec (.Assign ts _ _)) (fun ρ σ => evS N Φ (asg false i a) ρ σ)) ht (e_name (P := fun t => SS prog w base.heat ec G n sc (exec (.Assign [t] _ _)) (fun ρ σ => evS N Φ (asg false i a) ρ σ)) hx fun p => ss_asg hi hc (trH_ok W X 20 _ _ ha).1))
end
theorem caught (W : Wd base ec G) (X : XK K base ec) {C x : Str} {pC hpos : Pos} {b₀ : Stmt} {suite : List Stmt} {i c : Nat} {cs : List CS} {v : AV} (hgC : isGlob sc C = true) (hoC : okName C = true) (hC : G.excs.lookup C = some 0) (hx : ownOf G sc x = some i) (hl : sc.lookup x = some .local) (h5 : c < 5)
    (Hh : SS prog w base.heat ec G n sc (execs (b₀ :: suite)) (fun ρ σ => evSs N Φ cs ρ σ)) {A : Around} {env : Env} {ρ : Rho} {σ σ₁ σ' : Store} {S S' : Addr → Prop} {μ : List Addr} {s : Shared} {h' : Heap} {tk : Nat} {e : Addr} {Q : Flow → Shared → Prop} {E : Value → Shared → Prop}
    (hA : AOk base n A) (ht : Top A env) (hs : ScOk env sc) (I : Inv base S μ σ s.heap) (F : FrOk base ec G.V S μ env ρ s.heap) (ev : Ev base μ S S' σ σ₁ s.heap h') (qe : ExcN s.heap h' S' e (.ref (ec c)) true) (q : evSs N Φ cs (ρ.set i (.exc c)) σ₁ = some (.ret v, σ'))
    (P : SPost ec base G.V env μ S σ σ' s (.ret v) Q) :
    wpAny (model prog w) A (noteFrame (.ref e) env) (fun _ s₂ => wpAny (model prog w) A (setFlight (.ref e) none) (fun _ s₃ => wpAny (model prog w) A (handleBy (.ref e) env [.ExceptHandler (some (.Name C pC)) (some x) (b₀ :: suite) hpos]) Q E s₃) E s₂) E { s with heap := h', toks := tk } := by
  obtain ⟨l, z2, z3⟩ := frt hA ht ev.inv
  refine note_ok (base := base) (s := { s with heap := h', toks := tk }) z2 ht.1 I (Evo.of (X := fun _ => False) ev) z3 qe fun h₂ w1 w2 w3 => ?_
  refine flight_ok (base := base) (s := { s with heap := h₂, toks := tk }) I w1 w2 w3 fun h₃ v1 v2 v3 => ?_
  have ev3 := v1.toEv I fun _ q => q.elim
  have F3 := F.ev I ev3
  have kin : ∀ {h : Heap}, (∀ b o, base.get? b = some o → h.get? b = some o) → K.In h := fun kb b o e => kb b o (X.inn b o e)
  refine handle_as (K := K) (D := ec c) (C := ec 0) (s := { s with heap := h₃, toks := tk }) ?_
  refine eval_glob (s := { s with heap := h₃, toks := tk }) F3 ev3.inv.keepB ((hs.gl C).trans hgC) hoC (W.exc C 0 hC) ?_
  refine ⟨rfl, ⟨kin ev3.inv.keepB, ?_, X.kx c h5, X.kx 0 (by omega), X.sub c h5⟩, ?_⟩
  · obtain ⟨oe, vs, he, ⟨hcls, hdct⟩, hd, _⟩ := v3.obj
    exact ⟨oe, he, hcls, by unfold notCls; rw [hd], by rw [hdct]; trivial⟩
  refine flight_ok (base := base) (s := { s with heap := h₃, toks := tk }) I v1 v2 v3 fun h₄ u1 u2 u3 => ?_
  have ev4 := u1.toEv I fun _ q => q.elim
  obtain ⟨oe, vs, he, ⟨hcls, hdct⟩, hd, _⟩ := u3.obj
  have ev5 := ev4.add I u3.new he ⟨fun _ _ q => (by rw [hd] at q; cases q), fun _ q => (by rw [hd] at q; cases q)⟩
  have F5 := F.ev I ev5
  refine own_kind hs hx fun hsl hki => ?_
  refine store_name (s := { s with heap := h₄, toks := tk }) ev5.inv F5 hsl hki (.exc (.inr rfl) he ⟨hcls, hdct, _, hd⟩) fun h₆ tk₆ cc hcc hcl I₆ F₆ hk st => ?_
  have x6 : Evo base (Own env) μ μ S (fun b => S' b ∨ b = e) σ σ₁ s.heap h₆ := (Evo.of (X := Own env) ev5).poke (wr := Own env) (Mv.same fun b o hb e => hk b o (fun q => hb (q ▸ hcc)) e) (fun a o ha _ => ha) (fun a ha => ha.notS ev5.inv F5) (fun a ha => ha.notMu ev5.inv F5) (fun a ha => ha.new F5) (fun a _ z => (I₆.zs a z).2) fun a o ha e => let ⟨o', e'⟩ := ev5.stays e; st a o' e'
  have hA' : AOk base.heat n (A.mark (some (.ref e))) := ⟨hA.fr, (fun q => by cases q), hA.dp, hA.un⟩
  refine Hh _ env (ρ.set i (.exc c)) σ₁ σ' (.ret v) _ μ { s with heap := h₆, toks := tk₆ } _ _ hA' hs I₆.heat F₆.heat q (.no ⟨ht.1, ht.2⟩ fun c e => nomatch e) fun f h₇ tk₇ S₇ μ₇ y r => ?_
  have x7 := x6.trans y.cool fun _ _ q _ => q
  cases r with
  | ret r hns =>
    obtain ⟨m, hn⟩ := hns
    have hkl : env.kindOf x = some .local := by
      rcases hs x with q | ⟨q, _⟩
      · exact q.trans hl
      · rw [hl] at q; cases q
    refine wpAny_nameGoes (s := { s with heap := h₇, toks := tk₇ }) hkl hn (by rw [F.kind]; rfl) fun h₈ m₈ hn₈ sb => ?_
    obtain ⟨o, es, ep, e0, d0, _⟩ := hn
    have hnS : ¬ S₇ env.locals := fun z => by
      obtain ⟨o', e', p⟩ := x7.inv.inS _ z
      rw [e0] at e'; cases e'
      exact p.1 _ _ d0
    have x8 : Evo base (Own env) μ μ₇ S S₇ σ σ' s.heap h₈ := x7.poke (wr := fun b => b = env.locals) (Mv.same fun b o hb e => sb.extBut b o hb e) (fun a o ha _ => .inl ha) (fun a ha => ha ▸ hnS) (fun a ha z => by
      obtain ⟨_, _, e'⟩ := x7.inv.mem z
      rw [ha, e0] at e'; cases e'; cases d0) (fun a ha => ha ▸ F.newL) (fun a ha z => by obtain ⟨o', es', ep', e', d', _⟩ := hn₈; exact ⟨o', es', ep', ha ▸ e', d'⟩) (fun a o ha e => by obtain ⟨o', es', ep', e', d', _⟩ := hn₈; exact ⟨o', ha ▸ e'⟩)
    have kS : ∀ a o, S₇ a → h₇.get? a = some o → h₈.get? a = some o := fun a o hs e => sb.extBut a o (fun q => hnS (q ▸ hs)) e
    refine P _ h₈ _ S₇ μ₇ x8 (.ret ?_ ⟨m₈, hn₈⟩)
    have r' := r.backo x6
    cases r' with
    | old r => exact .old (r.mono kS (fun _ q => q) fun _ _ q => q)
    | fresh e1 r1 s1 n1 => exact .fresh (sb.extBut _ _ (fun q => by rw [q, e0] at e1; cases e1; cases d0) e1) (r1.mono kS fun _ q => q) s1 n1
theorem i_tryy {wr : Bool} {f : Nat} {es : List CE} {x : Nat} {hd : List CS} {ρ : Rho} {σ σ' : Store} {fl : Fl} {R : Prop} (q : evS N Φ (.tryy wr f es x hd) ρ σ = some (fl, σ')) (k : ∀ vs σ₁ r σ₂, evEs Φ es ρ σ = some (vs, σ₁) → Φ f vs σ₁ = some (r, σ₂) → tryC wr ρ (fun c σ₂ => evSs N Φ hd (ρ.set x (.exc c)) σ₂) (r, σ₂) = some (fl, σ') → R) : R :=
  ob q fun x h1 q => ob q fun y h2 q => k x.1 x.2 y.1 y.2 h1 h2 q
theorem retF_eq {v : Fl} {b : AV} (h : retF v = some b) : v = .ret b := by cases v <;> cases h; rfl
theorem i_tryx {wr : Bool} {c : Nat} {ρ : Rho} {σ σ' : Store} {fl : Fl} {f : Nat → Store → Option (Fl × Store)} {R : Prop} (q : tryC wr ρ f (.exc c, σ) = some (fl, σ')) (k : c < 5 → ∀ v, f c σ = some (.ret v, σ') → fl = .ret v → R) : R :=
  og q fun h5 q => ob q fun x h1 q => ob q fun v h2 q => k h5 v (h1.trans (congrArg some (Prod.ext (retF_eq h2) (pr q).2))) (pr q).1.symm
theorem ss_tryR (W : Wd base ec G) (X : XK K base ec) (HP : PhiOk prog w base ec G n Φ) (HX : PhiX prog w base ec G n Φ) {g : Str} {p pos lpos spos tpos : Pos} {es : List Expr} {cs : List CE} {k : Nat} (hg : isGlob sc g = true) (ho : okName g = true) (hk : slotL (G.fns.map (·.1)) 0 g = some k) (hne : es ≠ []) (hS : SEs prog w base ec G n Φ sc es cs)
    {C x : Str} {pC hpos : Pos} {b₀ : Stmt} {suite : List Stmt} {i : Nat} {hd : List CS} (hgC : isGlob sc C = true) (hoC : okName C = true) (hC : G.excs.lookup C = some 0) (hx : ownOf G sc x = some i) (hl : sc.lookup x = some .local)
    (Hh : SS prog w base.heat ec G n sc (execs (b₀ :: suite)) (fun ρ σ => evSs N Φ hd ρ σ)) :
    SS prog w base ec G n sc (exec (.Try [.Return (some (.List [.Call (.Name g p) es [] pos] lpos)) spos] [.ExceptHandler (some (.Name C pC)) (some x) (b₀ :: suite) hpos] [] [] tpos)) (fun ρ σ => evS N Φ (.tryy true k cs i hd) ρ σ) := by
  intro A env ρ σ σ' fl S μ s Q E hA hs I F q hxx P
  refine i_tryy q fun vs σ₁ r σ₂ q₁ q₂ q₃ => ?_
  refine wpAny_Try_except (wpAny_execs_cons ?_)
  cases r with
  | ret v =>
    obtain ⟨⟨d, σ₃⟩, q₄, q₅⟩ := bnd (show ((own σ₂ (settle v)).bind fun q => some (Fl.ret (.fresh [q.1]), q.2)) = some (fl, σ') from q₃)
    obtain ⟨rfl, rfl⟩ := pr q₅
    have ev : evE Φ (.lst [.call k cs]) ρ σ = some (.fresh [d], σ₃) := by
      rw [ev_lst, el_cons, ev_call, q₁, Option.bind_some, q₂]
      show ((own σ₂ (settle v)).bind fun p => (ownAll [] p.2).bind fun q => some (p.1 :: q.1, q.2)).bind (fun q => some (AV.fresh q.1, q.2)) = _
      rw [q₄]
      rfl
    have H := se_lst (pos := lpos) (by show 1 ≤ 1000; omega) (SEs.cons (e := .Call (.Name g p) es [] pos) rfl (se_call (pos := pos) (p := p) W HP hg ho hk hne hS) .nil)
    exact wpAny_Return_some (H A env ρ σ σ₃ _ S μ s _ _ hA hs I F ev fun u h' tk S' x r => P _ h' tk S' μ (.of x) (.ret r (let ⟨m, hn, _⟩ := (F.ev I x).ns; ⟨m, hn⟩)))
  | exc c =>
    refine i_tryx q₃ fun h5 v q₄ z1 => ?_
    subst z1
    exact wpAny_Return_some (wpAny_List (wpAny_items_cons (call_x W HX hg ho hk hne hS hA hs I F q₁ q₂ fun e h' tk S' x qe => caught W X hgC hoC hC hx hl h5 Hh hA hxx.1 hs I F x qe q₄ P) rfl))
end
end Mine
namespace Mine
open PySem PySem.Spec PySem.Calls PySem.W PyProof.Rows
noncomputable def xkB (K : Frag) (ec : ExcCls) : Bool := (List.range 5).all fun c => findIn K (.ref (ec c)) "__getattribute__" == some (some (.builtin "BaseException.__getattribute__")) && findIn K (.ref (ec c)) "__getattr__" == some none && mroIn K (ec c) (.type "object") == some true && mroIn K (ec c) (.type "BaseException") == some true && (clsIn K (ec c)).isSome && typeIn K (.ref (ec c)) == some (.type "type") &&
  (subIn K (.ref (ec c)) (.ref (ec 0)) == some true && kitOne K (.ref (ec c)) (.type "ValueError") == some true && (List.range 5).all fun d => kitOne K (.ref (ec c)) (.ref (ec d)) == some (excSub c d))
theorem xk_of {K : Frag} {base : Bs} {ec : ExcCls} (X : K.In base.hp) (h : xkB K ec = true) (hc : ∀ c, c < 5 → findObj K (ec c) none "__class__" = some (.bind (.builtin "getset_descriptor.__get__") (.builtin "object.__class__"))) : XK K base ec := by
  have H : ∀ c, c < 5 → _ := fun c h5 => List.all_eq_true.mp h c (List.mem_range.mpr h5)
  simp only [Bool.and_eq_true, beq_iff_eq] at H
  exact ⟨X, fun c h5 => let ⟨⟨⟨⟨⟨⟨a1, a2⟩, a3⟩, a4⟩, a5⟩, a6⟩, _⟩ := H c h5; ⟨a1, a2, hc c h5, a3, a4, a5, a6⟩, fun c h5 => (H c h5).2.1.1, fun c d h5 hd => beq_iff_eq.mp (List.all_eq_true.mp (H c h5).2.2 d (List.mem_range.mpr hd)), fun c h5 => (H c h5).2.1.2⟩
end Mine
namespace Mine
open PySem PySem.Spec PySem.Calls PySem.W PyProof.Rows
noncomputable def trAsgN (G : Cfg) (sc : Sc) (e : Expr) (x : Str) : Option CS := (ownOf G sc x).bind fun i => (trE G 40 sc e).bind fun c => some (asg (G.cells.contains x) i c)
noncomputable def trAsgT (G : Cfg) (sc : Sc) (e t : Expr) : Option CS := (tupOf t).bind fun es => (ownsOf G sc es).bind fun is => (trE G 40 sc e).bind fun c => if (!isComp e && !isTupT e) = true then some (.unpack is c) else none
noncomputable def subOf : Expr → Option (Expr × Expr)
  | .Subscript v i _ => some (v, i)
  | _ => none
noncomputable def trAsgI (G : Cfg) (sc : Sc) (e : Expr) (v i : Expr) : Option CS := (nameOf v).bind fun x => (varOf G sc x).bind fun k => (trE G 40 sc i).bind fun ci => (trE G 40 sc e).bind fun c => if isComp e = false then some (.setItem k ci c) else none
noncomputable def trAsg2 (G : Cfg) (sc : Sc) (e t : Expr) : Option CS := match subOf t with
  | some p => trAsgI G sc e p.1 p.2
  | none => trAsgT G sc e t
noncomputable def trAsg (G : Cfg) (sc : Sc) (e : Expr) (ts : List Expr) : Option CS := (one1 ts).bind fun t => match nameOf t with
  | some x => trAsgN G sc e x
  | none => trAsg2 G sc e t
noncomputable def trMth1 (G : Cfg) (sc : Sc) (x : Str) (args : List Expr) (f : Nat → CE → CS) : Option CS := (args1 args).bind fun a => (varOf G sc x).bind fun i => (trE G 40 sc a).bind fun c => some (f i c)
noncomputable def trMth (G : Cfg) (sc : Sc) (x m : Str) (args : List Expr) : Option CS :=
  if (m == ("append" : Str)) = true then trMth1 G sc x args .append else if (m == ("extend" : Str)) = true then trMth1 G sc x args .extend else none
noncomputable def okCall (sc : Sc) (g : Str) (args : List Expr) : Bool := isGlob sc g && (okName g && (args.all noStar && !args.isEmpty))
noncomputable def trCallS (G : Cfg) (sc : Sc) (pos : Pos) (args : List Expr) : Expr → Option CS
  | .Attribute o m ap => if (ap.endLine == pos.line) = true then (nameOf o).bind fun x => trMth G sc x m args else none
  | _ => none
noncomputable def trExpS (G : Cfg) (sc : Sc) : Expr → Option CS
  | .Call g args kws pos => if kws.isEmpty = true then trCallS G sc pos args g else none
  | _ => none
noncomputable def trRaise (G : Cfg) (sc : Sc) (e f : Option Expr) : Option CS := if f.isNone = true then e.bind fun e => (nameCall e).bind fun p => (one1 p.2).bind fun a => (strOf a).bind fun _ => if (isGlob sc p.1 && okName p.1) = true then (G.excs.lookup p.1).bind fun c => some (.raise c) else none else none
noncomputable def isLoc (sc : Sc) (x : Str) : Bool := match sc.lookup x with
  | some .local => true
  | _ => false
noncomputable def hd1 : List ExceptHandler → Option ExceptHandler
  | [] => none
  | h :: r => if r.isEmpty = true then some h else none
noncomputable def trTryH (G : Cfg) (sc : Sc) (hs : List ExceptHandler) : Option (Nat × List CS) := (hd1 hs).bind fun h => match h with
  | .ExceptHandler t n b _ => t.bind fun t => (nameOf t).bind fun C => n.bind fun x => if (isGlob sc C && (okName C && ((G.excs.lookup C == some 0) && (isLoc sc x && !b.isEmpty)))) = true then (ownOf G sc x).bind fun i => (trLS (trH1 G sc) b).bind fun cs => some (i, cs) else none
noncomputable def trTryC (G : Cfg) (sc : Sc) (wr : Bool) (hs : List ExceptHandler) (g : Str) (args : List Expr) : Option CS :=
  if okCall sc g args = true then
    (slotL (G.fns.map (·.1)) 0 g).bind fun k => (trL (trE G 40 sc) args).bind fun cs => (trTryH G sc hs).bind fun h => some (.tryy wr k cs h.1 h.2)
  else none
noncomputable def lst1 : Expr → Option Expr
  | .List es _ => one1 es
  | _ => none
noncomputable def trTry1 (G : Cfg) (sc : Sc) (hs : List ExceptHandler) : Stmt → Option CS
  | .Return e _ => e.bind fun e => (lst1 e).bind fun e => (nameCall e).bind fun p => trTryC G sc true hs p.1 p.2
  | _ => none
noncomputable def st1 : List Stmt → Option Stmt
  | [] => none
  | h :: r => if r.isEmpty = true then some h else none
noncomputable def trS (G : Cfg) : Nat → Sc → Stmt → Option CS
  | 0, _, _ => none
  | m + 1, sc, st => match st with
    | .Assign ts e _ => trAsg G sc e ts
    | .Expr e _ => trExpS G sc e
    | .If t a b _ => (trE G 40 sc t).bind fun c => (trLS (trS G m sc) a).bind fun x => (trLS (trS G m sc) b).bind fun y => some (.ite c x y)
    | .While t b o _ => if o.isEmpty = true then (trE G 40 sc t).bind fun c => (trLS (trS G m sc) b).bind fun x => some (.whil c x) else none
    | .For t it b o _ => if o.isEmpty = true then (trT G sc t).bind fun tg => (trI sc (trE G 40 sc) it).bind fun r => (trLS (trS G m sc) b).bind fun x => if tgtFits r.1 tg = true then some (.forr tg r.1 r.2 x) else none else none
    | .Return e _ => (match e with
      | some e => (trE G 40 sc e).bind fun c => some (.ret c)
      | none => some (.ret (.const .none)))
    | .Raise e f _ => trRaise G sc e f
    | .Try b hs o f _ => if (o.isEmpty && f.isEmpty) = true then (st1 b).bind fun s => trTry1 G sc hs s else none
    | _ => none
theorem s_one {es : List Stmt} {a : Stmt} {P : List Stmt → Prop} (h : st1 es = some a) (k : P [a]) : P es := by
  cases es with
  | nil => exact nsm h
  | cons b r => exact og h fun h1 h => l_one (P := fun r => P (b :: r)) h1 (os (P := fun a => P [a] → P [b]) h id k)
theorem h_one {es : List ExceptHandler} {a : ExceptHandler} {P : List ExceptHandler → Prop} (h : hd1 es = some a) (k : P [a]) : P es := by
  cases es with
  | nil => exact nsm h
  | cons b r => exact og h fun h1 h => l_one (P := fun r => P (b :: r)) h1 (os (P := fun a => P [a] → P [b]) h id k)
theorem e_lst1 {e a : Expr} {P : Expr → Prop} (h : lst1 e = some a) (k : ∀ p, P (.List [a] p)) : P e := by
  cases e <;> first | exact nsm h | skip
  exact o_one (P := fun es => P (.List es _)) h (k _)
theorem e_sub {e : Expr} {p : Expr × Expr} {P : Expr → Prop} (h : subOf e = some p) (k : ∀ q, P (.Subscript p.1 p.2 q)) : P e := by
  cases e <;> first | exact nsm h | (cases h; exact k _)
theorem isLoc_eq {sc : Sc} {x : Str} (h : isLoc sc x = true) : sc.lookup x = some .local := by
  unfold isLoc at h
  split at h
  · rename_i q; exact q
  · exact bft h
section
variable {prog : Program} {w : World} {base : Bs} {ec : ExcCls} {G : Cfg} {n N : Nat} {Φ : Phi} {sc : Sc} {K : Frag}
theorem ss_ret0 {pos : Pos} : SS prog w base ec G n sc (exec (.Return none pos)) (fun ρ σ => evS N Φ (.ret (.const .none)) ρ σ) := by
  intro A env ρ σ σ' fl S μ s Q E hA hs I F q hx P
  cases q
  exact wpAny_Return_none (P _ s.heap s.toks S μ (.refl I) (.ret (.old (.dat .none)) (let ⟨m, hn, _⟩ := F.ns; ⟨m, hn⟩)))
abbrev SSt (prog : Program) (w : World) (base : Bs) (ec : ExcCls) (G : Cfg) (n N : Nat) (Φ : Phi) (sc : Sc) (st : Stmt) (c : CS) : Prop := SS prog w base ec G n sc (exec st) (fun ρ σ => evS N Φ c ρ σ)
theorem comp_asg (W : Wd base ec G) (HP : PhiOk prog w base ec G n Φ) {nc : Bool} {e : Expr} {c : CE} {x : Str} {p pos : Pos} {i : Nat} : ∀ (m : Nat), trE G m sc e = some c → isComp e = true → ownOf G sc x = some i → SSt prog w base ec G n N Φ sc (.Assign [.Name x p] e pos) (asg nc i c)
  | 0, h, _, _ => nsm h
  | m + 1, h, hc, hi => by
    have HE : ∀ (sc : Sc) (e : Expr) (c : CE), trE G m sc e = some c → SB prog w base ec G n Φ sc e c := fun sc e c h => trE_ok W HP m sc e c h
    cases e <;> first | exact bft hc | exact nsm h | skip
    exact ob h fun g hg h => comp1_inv (P := fun l => SSt prog w base ec G n N Φ sc (.Assign [.Name x p] (.ListComp _ l _ _) pos) (asg nc i c)) hg (comp_parts (P := fun g c => SSt prog w base ec G n N Φ sc (.Assign [.Name x p] (.ListComp _ [g] _ _) pos) (asg nc i c)) h fun target iter ifs tg r ce cs h1 h2 h3 h4 h5 h6 h7 h8 => ss_asgC W.cold hi (scopeFits_ok h1) h8 h7 h3 h2 (trI_ok W (fun e c h => (HE _ e c h).1) h4) (HE _ _ _ h5).1 (trL_sbs (HE _) h6))
theorem trAsgN_ok (W : Wd base ec G) (HP : PhiOk prog w base ec G n Φ) {e : Expr} {x : Str} {p pos : Pos} {c : CS} (h : trAsgN G sc e x = some c) : SSt prog w base ec G n N Φ sc (.Assign [.Name x p] e pos) c := by
  refine ob h fun i hi h => ob h fun d hd h => os (P := SSt prog w base ec G n N Φ sc _) h ?_
  cases hc : isComp e with
  | false => exact ss_asg hi hc (trE_ok W HP 40 _ _ _ hd).1
  | true => exact comp_asg W HP 40 hd hc hi
theorem trAsg_ok (W : Wd base ec G) (HP : PhiOk prog w base ec G n Φ) {e : Expr} {ts : List Expr} {pos : Pos} {c : CS} (h : trAsg G sc e ts = some c) : SSt prog w base ec G n N Φ sc (.Assign ts e pos) c := by
  refine ob h fun t ht h => o_one (P := fun ts => SSt prog w base ec G n N Φ sc (.Assign ts e pos) c) ht ?_
  cases q : nameOf t with
  | some x => rw [q] at h; exact e_name (P := fun t => SSt prog w base ec G n N Φ sc (.Assign [t] e pos) c) q fun p => trAsgN_ok W HP h
  | none =>
    rw [q] at h
    unfold trAsg2 at h
    cases q2 : subOf t with
    | some p => rw [q2] at h; exact ob h fun x hx h => ob h fun k hk h => ob h fun ci hci h => ob h fun d hd h => og h fun hc h => os (P := SSt prog w base ec G n N Φ sc _) h (e_sub (P := fun t => SSt prog w base ec G n N Φ sc (.Assign [t] e pos) _) q2 fun p1 => e_name (P := fun v => SSt prog w base ec G n N Φ sc (.Assign [.Subscript v p.2 p1] e pos) _) hx fun p2 => ss_setItem hc hk (trE_ok W HP 40 _ _ _ hci).1 (trE_ok W HP 40 _ _ _ hd).1)
    | none =>
    rw [q2] at h
    exact ob h fun es hes h => ob h fun is hi h => ob h fun d hd h => og h fun hn h => os (P := SSt prog w base ec G n N Φ sc _) h (ba hn fun h1 h2 => e_tup (P := fun t => SSt prog w base ec G n N Φ sc (.Assign [t] e pos) _) hes fun j p => ss_unpack W.cold hi ((Bool.not_eq_true' _).mp h1) ((Bool.not_eq_true' _).mp h2) (trE_ok W HP 40 _ _ _ hd).1)
section
variable (W : Wd base ec G) (HP : PhiOk prog w base ec G n Φ)
include W HP
theorem trMth1_ok {x m : Str} {p ap pos spos : Pos} {args : List Expr} {f : Nat → CE → CS} {c : CS} (hf : ∀ a c i, noStar a = true → varOf G sc x = some i → SE prog w base ec G n Φ sc a c → SSt prog w base ec G n N Φ sc (.Expr (.Call (.Attribute (.Name x p) m ap) [a] [] pos) spos) (f i c)) (h : trMth1 G sc x args f = some c) : SSt prog w base ec G n N Φ sc (.Expr (.Call (.Attribute (.Name x p) m ap) args [] pos) spos) c :=
  ob h fun a ha h => ob h fun i hi h => ob h fun d hd h => os (P := SSt prog w base ec G n N Φ sc _) h (a_one (P := fun args => SSt prog w base ec G n N Φ sc (.Expr (.Call (.Attribute (.Name x p) m ap) args [] pos) spos) _) ha fun hn => hf a d i hn hi (trE_ok W HP 40 _ _ _ hd).1)
theorem trMth_ok {x m : Str} {p ap pos spos : Pos} {args : List Expr} {c : CS} (hl : (ap.endLine == pos.line) = true) (h : trMth G sc x m args = some c) : SSt prog w base ec G n N Φ sc (.Expr (.Call (.Attribute (.Name x p) m ap) args [] pos) spos) c := by
  replace h : (if (m == ("append" : Str)) = true then trMth1 G sc x args .append else if (m == ("extend" : Str)) = true then trMth1 G sc x args .extend else none) = some c := h
  by_cases h1 : (m == ("append" : Str)) = true
  · rw [if_pos h1] at h; exact trMth1_ok W HP (fun a d i hn hi H => ss_append h1 hl hi hn H) h
  · rw [if_neg h1] at h
    by_cases h2 : (m == ("extend" : Str)) = true
    · rw [if_pos h2] at h; exact trMth1_ok W HP (fun a d i hn hi H => ss_extend h2 hl hi hn H) h
    · rw [if_neg h2] at h
      exact nsm h
theorem okCall_inv {g : Str} {args : List Expr} {cs : List CE} {R : Prop} (h : okCall sc g args = true) (hc : trL (trE G 40 sc) args = some cs) (k : isGlob sc g = true → okName g = true → args ≠ [] → SEs prog w base ec G n Φ sc args cs → R) : R :=
  ba h fun h1 h => ba h fun h2 h => ba h fun h3 h4 => k h1 h2 (fun q => by rw [q] at h4; exact bft h4) (trL_ses (fun e c h => (trE_ok W HP 40 sc e c h).1) hc h3)
theorem trExpS_ok (HX : PhiX prog w base ec G n Φ) {e : Expr} {spos : Pos} {c : CS} (h : trExpS G sc e = some c) : SSt prog w base ec G n N Φ sc (.Expr e spos) c := by
  cases e <;> first | exact nsm h | skip
  rename_i g args kws pos
  refine og h fun h1 h => l_one (P := fun kws => SSt prog w base ec G n N Φ sc (.Expr (.Call g args kws pos) spos) c) h1 ?_
  cases g <;> first | exact nsm h | skip
  · exact og h fun hl h => ob h fun x hx h => e_name (P := fun o => SSt prog w base ec G n N Φ sc (.Expr (.Call (.Attribute o _ _) args [] pos) spos) c) hx fun p => trMth_ok W HP hl h
theorem trTry_ok (X : XK K base ec) (HX : PhiX prog w base ec G n Φ) {s : Stmt} {hs : List ExceptHandler} {pos : Pos} {c : CS} (h : trTry1 G sc hs s = some c) : SSt prog w base ec G n N Φ sc (.Try [s] hs [] [] pos) c := by
  have key : ∀ {wr : Bool} {g : Str} {es : List Expr} {R : List ExceptHandler → CS → Prop}, trTryC G sc wr hs g es = some c → (∀ k cs C x b₀ suite pC hpos i hd, isGlob sc g = true → okName g = true → slotL (G.fns.map (·.1)) 0 g = some k → es ≠ [] → SEs prog w base ec G n Φ sc es cs →
      isGlob sc C = true → okName C = true → G.excs.lookup C = some 0 → ownOf G sc x = some i → sc.lookup x = some .local → SS prog w base.heat ec G n sc (execs (b₀ :: suite)) (fun ρ σ => evSs N Φ hd ρ σ) → R [.ExceptHandler (some (.Name C pC)) (some x) (b₀ :: suite) hpos] (.tryy wr k cs i hd)) → R hs c := by
    intro wr g es R h kk
    refine og h fun h1 h => ob h fun k hk h => ob h fun cs hc h => ob h fun q hh h => os (P := R hs) h (okCall_inv W HP h1 hc fun h1 h2 h3 h4 => ob hh fun H hH hh => h_one (P := fun hs => R hs (.tryy wr k cs q.1 q.2)) hH ?_)
    cases H with
    | ExceptHandler t nm b hpos =>
      refine ob hh fun t' ht hh => ob hh fun C hC hh => ob hh fun x hx hh => og hh fun hq hh => ob hh fun i hi hh => ob hh fun ds hds hz => ?_
      cases ht
      cases hx
      refine ba hq fun k1 hq => ba hq fun k2 hq => ba hq fun k3 hq => ba hq fun k4 k5 => e_name (P := fun t => R [.ExceptHandler (some t) (some x) b hpos] (.tryy wr k cs q.1 q.2)) hC fun pC => ?_
      cases b with
      | nil => exact bft k5
      | cons b₀ suite => exact os (P := fun q => R _ (.tryy wr k cs q.1 q.2)) hz (kk k cs C x b₀ suite pC hpos i ds h1 h2 hk h3 h4 k1 k2 (eq_of_beq k3) hi (isLoc_eq k4) (trLS_ok (fun st c h => trH1_ok W X h) hds))
  cases s <;> first | exact nsm h | skip
  · refine ob h fun e he h => ?_
    cases he
    exact ob h fun a ha h => ob h fun p hp h => e_lst1 (P := fun e => SSt prog w base ec G n N Φ sc (.Try [.Return (some e) _] hs [] [] pos) c) ha fun p1 => e_call (P := fun a => SSt prog w base ec G n N Φ sc (.Try [.Return (some (.List [a] p1)) _] hs [] [] pos) c) hp fun p2 p3 =>
      key (R := fun hs c => SSt prog w base ec G n N Φ sc (.Try [.Return (some (.List [.Call (.Name p.1 p2) p.2 [] p3] p1)) _] hs [] [] pos) c) h fun k cs C x b₀ suite pC hpos i hd h1 h2 h3 h4 h5 h6 h7 h8 h9 h10 h11 => ss_tryR W X HP HX h1 h2 h3 h4 h5 h6 h7 h8 h9 h10 h11
end
theorem trRaise_ok (W : Wd base ec G) (WX : ExcIn base ec G) {e f : Option Expr} {pos : Pos} {c : CS} (h : trRaise G sc e f = some c) : SSt prog w base ec G n N Φ sc (.Raise e f pos) c := by
  refine og h fun h1 h => ob h fun e' he h => ob h fun p hp h => ob h fun a ha h => ob h fun x hx h => og h fun h2 h => ob h fun d hd h => os (P := SSt prog w base ec G n N Φ sc _) h ?_
  cases he
  cases f with
  | some _ => exact bft h1
  | none => exact e_call (P := fun e => SSt prog w base ec G n N Φ sc (.Raise (some e) none pos) _) hp fun p1 p2 => o_one (P := fun l => SSt prog w base ec G n N Φ sc (.Raise (some (.Call (.Name p.1 p1) l [] p2)) none pos) _) ha (e_str (P := fun a => SSt prog w base ec G n N Φ sc (.Raise (some (.Call (.Name p.1 p1) [a] [] p2)) none pos) _) hx fun j p3 => ba h2 fun g1 g2 => ss_raise W.cold WX g1 g2 hd)
theorem trS_ok (W : Wd base ec G) (X : XK K base ec) (WX : ExcIn base ec G) (HP : PhiOk prog w base ec G n Φ) (HX : PhiX prog w base ec G n Φ) : ∀ (m : Nat) (st : Stmt) (c : CS), trS G m sc st = some c → SSt prog w base ec G n N Φ sc st c
  | 0, _, _, h => nsm h
  | m + 1, st, c, h => by
    have ih := trS_ok W X WX HP HX m
    have HE : ∀ (e : Expr) (c : CE), trE G 40 sc e = some c → SB prog w base ec G n Φ sc e c := trE_ok W HP 40 sc
    cases st <;> first | exact nsm h | skip
    · rename_i eo pos
      cases eo with
      | none => exact os (P := SSt prog w base ec G n N Φ sc _) h ss_ret0
      | some e => exact ob h fun d hd h => os (P := SSt prog w base ec G n N Φ sc _) h (ss_ret (HE _ _ hd).1)
    · exact trAsg_ok W HP h
    · exact og h fun ho h => ob h fun tg ht h => ob h fun r hr h => ob h fun x hx h => og h fun hk h => os (P := SSt prog w base ec G n N Φ sc _) h (l_one (P := fun o => SSt prog w base ec G n N Φ sc (.For _ _ _ o _) _) ho (ss_for W.cold hk ht (trI_ok W (fun e c h => (HE e c h).1) hr) (trLS_ok ih hx)))
    · exact og h fun ho h => ob h fun d hd h => ob h fun x hx h => os (P := SSt prog w base ec G n N Φ sc _) h (l_one (P := fun o => SSt prog w base ec G n N Φ sc (.While _ _ o _) _) ho (ss_while (HE _ _ hd).2 (trLS_ok ih hx)))
    · exact ob h fun d hd h => ob h fun x hx h => ob h fun y hy h => os (P := SSt prog w base ec G n N Φ sc _) h (ss_if (HE _ _ hd).2 (trLS_ok ih hx) (trLS_ok ih hy))
    · exact trRaise_ok W WX h
    · exact og h fun ho h => ob h fun s hs h => ba ho fun h1 h2 => l_one (P := fun o => SSt prog w base ec G n N Φ sc (.Try _ _ o _ _) c) h1 (l_one (P := fun o => SSt prog w base ec G n N Φ sc (.Try _ _ [] o _) c) h2 (s_one (P := fun b => SSt prog w base ec G n N Φ sc (.Try b _ [] [] _) c) hs (trTry_ok W HP X HX h)))
    · exact trExpS_ok W HP HX h
end
end Mine
namespace Mine
open PySem PySem.Calls PyProof.Rows
theorem cellsFrom_has : ∀ (names : List (Str × NameKind)) (k : Nat) (acc : List (Str × Addr)) (x : Str), ((x, NameKind.cell) ∈ names ∨ ∃ c, acc.lookup x = some c) → ∃ c, (cellsFrom k names acc).lookup x = some c := by
  intro names
  induction names with
  | nil => intro k acc x h; exact h.elim (fun q => nomatch q) id
  | cons p names ih =>
    intro k acc x h
    obtain ⟨y, kd⟩ := p
    unfold cellsFrom
    split
    · refine ih _ _ x ?_
      rcases h with h | ⟨c, h⟩
      · rcases List.mem_cons.mp h with q | q
        · cases q
          exact .inr ⟨k, by rw [List.lookup_cons]; simp⟩
        · exact .inl q
      · right
        rw [List.lookup_cons]
        cases q : x == y with
        | true => exact ⟨k, rfl⟩
        | false => exact ⟨c, h⟩
    · rename_i hk
      refine ih _ _ x ?_
      rcases h with h | h
      · rcases List.mem_cons.mp h with q | q
        · cases q; exact absurd rfl hk
        · exact .inl q
      · exact .inr h
section
variable {prog : Program} {w : World} {base : Bs} {ec : ExcCls} {G : Cfg} {n N : Nat} {Φ : Phi}
structure PRel (ec : ExcCls) (V : List Str) (kindOf : Str → Option NameKind) (h : Heap) (S : Addr → Prop) (μ : List Addr) (m cm : Str → Option Value) (ρ : Rho) : Prop where
  loc : ∀ x i av, slotL V 0 x = some i → ρ i = some av → kindOf x = some .local → ∃ v, m x = some v ∧ RdA ec h S μ v av
  cel : ∀ x i av, slotL V 0 x = some i → ρ i = some av → kindOf x = some .cell → ∃ v, cm x = some v ∧ RdA ec h S μ v av
noncomputable def slots (V : List Str) : List Str → Option (List Nat)
  | [] => some []
  | x :: xs => match slotL V 0 x with
    | none => none
    | some i => match slots V xs with
      | none => none
      | some is => some (i :: is)
theorem params_ok {V : List Str} {kindOf : Str → Option NameKind} {h : Heap} {S : Addr → Prop} {μ : List Addr} : ∀ {ps : List Str} {is : List Nat} {vals : List Value} {args : List AV} {m cm : Str → Option Value} {ρ ρ' : Rho}, slots V ps = some is → (∀ x ∈ ps, kindOf x = some .local ∨ kindOf x = some .cell) →
    RdAs ec h S μ vals args → bindArgsR is args ρ = some ρ' → PRel ec V kindOf h S μ m cm ρ → PRel ec V kindOf h S μ (bindL kindOf (ps.zip vals) m) (bindC kindOf (ps.zip vals) cm) ρ' ∧ vals.length = ps.length := by
  intro ps
  induction ps with
  | nil =>
    intro is vals args m cm ρ ρ' hs hk r hb R
    cases hs
    cases r with
    | nil => cases hb; exact ⟨R, rfl⟩
    | cons _ _ => cases hb
  | cons x ps ih =>
    intro is vals args m cm ρ ρ' hs hk r hb R
    simp only [slots] at hs
    split at hs
    · cases hs
    · rename_i i hi
      split at hs
      · cases hs
      · rename_i is' hs'
        cases hs
        cases r with
        | nil => cases hb
        | @cons v vs av avs rv r =>
          have key := ih (m := if kindOf x = some .local then fun y => if y = x then some v else m y else m) (cm := if kindOf x = some .local then cm else fun y => if y = x then some v else cm y) (ρ := ρ.set i av) hs' (fun y hy => hk y (.tail _ hy)) r hb ?_
          · exact ⟨key.1, by simp [key.2]⟩
          · have other : ∀ y j aw, slotL V 0 y = some j → (ρ.set i av) j = some aw → (y = x ∧ aw = av) ∨ (y ≠ x ∧ ρ j = some aw) := fun y j aw hy hj => by
              unfold Rho.set at hj
              split at hj
              · rename_i q; subst q; exact .inl ⟨slot_inj hy hi, (Option.some.inj hj).symm⟩
              · rename_i q
                refine .inr ⟨fun z => q ?_, hj⟩
                subst z
                rw [hi] at hy; cases hy; rfl
            constructor
            · intro y j aw hy hj hky
              rcases other y j aw hy hj with ⟨rfl, rfl⟩ | ⟨hne, hj'⟩
              · rw [if_pos hky]; exact ⟨v, by simp, rv⟩
              · obtain ⟨u, e, ru⟩ := R.loc y j aw hy hj' hky
                refine ⟨u, ?_, ru⟩
                split
                · simp [hne, e]
                · exact e
            · intro y j aw hy hj hky
              rcases other y j aw hy hj with ⟨rfl, rfl⟩ | ⟨hne, hj'⟩
              · rw [if_neg (by rw [hky]; intro q; cases q)]; exact ⟨v, by simp, rv⟩
              · obtain ⟨u, e, ru⟩ := R.cel y j aw hy hj' hky
                refine ⟨u, ?_, ru⟩
                split
                · exact e
                · simp [hne, e]
structure DefOk (base : Bs) (V : List Str) (a : Addr) (fd : FuncData) (ps : List Str) (is : List Nat) (body : List Stmt) : Prop where
  rec_ : ∃ o, base.get? a = some o ∧ o.data = .func fd
  code : base.hp.CodeRec fd.code fd.qualname
  stmts : fd.body = .stmts body
  clo : fd.closure = []
  glob : fd.globals = mainGlobals
  blt : fd.builtins = builtinsNs
  kind : fd.scope.kind = .function
  gen : fd.scope.isGenerator = false
  cor : fd.scope.isCoroutine = false
  bind : ∀ vals, vals.length = ps.length → bindArgs fd ⟨vals, []⟩ = pure (ps.zip vals)
  slot : slots V ps = some is
  own : ∀ x ∈ ps, fd.scope.names.lookup x = some .local ∨ fd.scope.names.lookup x = some .cell
  free : ∀ p ∈ fd.scope.names, p.2 ≠ .free
theorem leave_ok {S S' : Addr → Prop} {μ μ' : List Addr} {σ σ' : Store} {h h' : Heap} {X : Addr → Prop} (I : Inv base S μ σ h) (x : Evo base X μ μ' S S' σ σ' h h') (hX : ∀ a, X a → h.get? a = none) : Ev base μ S S' σ (σ'.take σ.length) h h' := by
  obtain ⟨ν, rfl, hν⟩ := x.ext
  have len : (μ ++ ν).length = σ'.length := x.inv.len
  have hl : μ.length = σ.length := I.len
  have low : ∀ (i : Nat) (p : Flag × List PyData), (σ'.take σ.length)[i]? = some p → i < σ.length ∧ σ'[i]? = some p := fun i p e => by
    rw [List.getElem?_take] at e
    split at e
    · rename_i q; exact ⟨q, e⟩
    · cases e
  have up : ∀ (i : Nat) (a : Addr), μ[i]? = some a → (μ ++ ν)[i]? = some a := x.mu
  refine ⟨x.sub, x.new, ⟨x.inv.keepB, ?_, fun i a f ds e1 e2 => ?_, fun i j a e1 e2 => x.inv.nodup i j a (up i a e1) (up j a e2), fun a ha => x.inv.new a (List.mem_append_left _ ha), x.inv.inS, x.inv.zs⟩, fun b o hl' e => x.keep b o (fun q => by rw [hX b q] at e; cases e) hl' e, fun a l => ?_⟩
  · rw [List.length_take]
    simp at len
    omega
  · obtain ⟨_, e2'⟩ := low i _ e2
    exact x.inv.cells i a f ds (up i a e1) e2'
  · obtain ⟨i, ds, e1, e2⟩ := l
    obtain ⟨_, e2'⟩ := low i _ e2
    rcases x.live a ⟨i, ds, up i a e1, e2'⟩ with q | q
    · exact q
    · obtain ⟨_, _, e⟩ := I.mem (List.mem_of_getElem? e1)
      rw [q] at e; cases e
theorem leave_res {S S' : Addr → Prop} {μ μ' : List Addr} {σ σ' : Store} {h h₁ h' : Heap} {X : Addr → Prop} (I : Inv base S μ σ h) (x : Evo base X μ μ' S S' σ σ' h h') (hg : ∀ a, h₁.get? a = none → h.get? a = none) {v : Value} {av r : AV} (rr : RdR ec h₁ h' S' μ' v av) (e : leave σ.length σ' av = some r) : RdR ec h h' S' μ v r := by
  cases rr with
  | fresh e' r' s n =>
    cases e
    exact .fresh e' r' s (hg _ n)
  | old ra =>
    cases ra with
    | dat rd => cases e; exact .old (.dat rd)
    | exc _ _ _ => cases e
    | @cell i a ha =>
      obtain ⟨ν, rfl, hν⟩ := x.ext
      by_cases hi : i < σ.length
      · have e' : (if i < σ.length then some (AV.cell i) else σ'[i]?.bind leaveC) = some r := e
        rw [if_pos hi] at e'
        cases e'
        rw [List.getElem?_append_left (by rw [I.len]; exact hi)] at ha
        exact .old (.cell ha)
      · have e' : (if i < σ.length then some (AV.cell i) else σ'[i]?.bind leaveC) = some r := e
        rw [if_neg hi] at e'
        have hn : h.get? a = none := by
          rw [List.getElem?_append_right (by rw [I.len]; omega)] at ha
          exact hν a (List.mem_of_getElem? ha)
        obtain ⟨⟨f, ds⟩, q, e''⟩ := bnd e'
        cases f with
        | locked => cases e''
        | live =>
          cases e''
          obtain ⟨vs, m, k1, k2, _, k4⟩ := x.inv.cells i a _ ds ha q
          exact .fresh k1 k2 (k4 (by intro z; cases z)) hn
        | frozen =>
          cases e''
          obtain ⟨vs, m, k1, k2, k3, _⟩ := x.inv.cells i a _ ds ha q
          exact .old (.dat (.list (k3 rfl) k1 k2))
noncomputable def Bs.add (b : Bs) (L : Addr) : Bs := ⟨b.hp, fun a => b.Z a ∨ a = L, b.hot⟩
theorem Inv.narrow {L : Addr} {S : Addr → Prop} {μ : List Addr} {σ : Store} {h : Heap} (I : Inv (base.add L) S μ σ h) : Inv base S μ σ h := ⟨I.keepB, I.len, I.cells, I.nodup, I.new, I.inS, fun L z => I.zs L (.inl z)⟩
theorem Evo.narrow {L : Addr} {X : Addr → Prop} {S S' : Addr → Prop} {μ μ' : List Addr} {σ σ' : Store} {h h' : Heap} (x : Evo (base.add L) X μ μ' S S' σ σ' h h') : Evo base X μ μ' S S' σ σ' h h' := ⟨x.ext, x.sub, x.new, x.inv.narrow, x.keep, x.live, x.stay⟩
theorem enter {a : Addr} {fd : FuncData} {ps : List Str} {is : List Nat} {body : List Stmt} {ρ : Rho} (hlim : base.hp.NoLimit) (D : DefOk base G.V a fd ps is body) {A : Around} {S : Addr → Prop} {μ : List Addr} {σ : Store} {s : Shared} {vals : List Value} {args : List AV} {Q : Value → Shared → Prop} {E : Value → Shared → Prop}
    (hA : AOk base (n + 1) A) (I : Inv base S μ σ s.heap) (ra : RdAs ec s.heap S μ vals args) (hρ : bindArgsR is args (fun _ => none) = some ρ)
    (k : ∀ env h₁ tk₁, Top (A.deeper env) env → (∀ b, Own env b → s.heap.get? b = none) → ScOk env fd.scope.names → AOk (base.add env.locals) n (A.deeper env) → Inv (base.add env.locals) S μ σ h₁ → FrOk (base.add env.locals) ec G.V S μ env ρ h₁ → Evo base (fun _ => False) μ μ S S σ σ s.heap h₁ →
      wpAny (model prog w) (A.deeper env) (execs body env) (fun f s' => Q (match f with | .ret v => v | _ => .none) s') (fun e s' => wpAny (model prog w) (A.deeper env) (leaving env e) (fun _ s'' => E e s'') (fun e' s'' => E e' s'') s') { s with heap := h₁, toks := tk₁ }) :
    wpAny (model prog w) A (call (.ref a) vals) Q E s := by
  obtain ⟨o, ho, hd⟩ := D.rec_
  have R0 := params_ok (ec := ec) (V := G.V) (kindOf := (callEnvC fd s.heap.objs.size a).kindOf) (h := s.heap) (S := S) (μ := μ) (m := fun _ => none) (cm := fun _ => none) D.slot D.own ra hρ ⟨(fun _ _ _ _ e => nomatch e), (fun _ _ _ _ e => nomatch e)⟩
  refine wpAny_call (codeAny_call_cells (by have := hA.dp; omega) (I.keepB _ _ ho) hd (hlim.keeps I.keepB) (D.code.keeps I.keepB) D.stmts (D.bind vals R0.2) D.clo ?_ ?_ D.cor D.gen D.kind)
  · intro p hp
    have hm : p.1 ∈ ps := (List.of_mem_zip (a := p.1) (b := p.2) hp).1
    rcases D.own p.1 hm with z | z
    · exact .inl z
    · refine .inr ⟨z, ?_⟩
      obtain ⟨c, hc⟩ := cellsFrom_has fd.scope.names (s.heap.objs.size + 1) [] p.1 (.inl (mem_lookup z))
      rw [hc]; rfl
  · intro s₁ x
    obtain ⟨h₁, tk₁, rfl⟩ := x.toInCall.same
    have keep := x.toInCall.keep
    have R1 := R0.1
    generalize henv : callEnvC fd s.heap.objs.size a = env at x R1 ⊢
    have none_ : ∀ c, s.heap.objs.size ≤ c → s.heap.get? c = none := fun c hc => by
      cases e : s.heap.get? c with
      | none => rfl
      | some o => exact absurd (Heap.lt_size e) (Nat.not_lt.mpr hc)
    have hL : env.locals = s.heap.objs.size := by rw [← henv]; rfl
    have nb : ∀ c, s.heap.get? c = none → base.get? c = none := fun c hc => by
      cases e : base.get? c with
      | none => rfl
      | some o => rw [I.keepB c o e] at hc; cases hc
    have hnL : s.heap.get? env.locals = none := none_ _ (by rw [hL]; exact Nat.le_refl _)
    have hnC : ∀ y c, env.cells.lookup y = some c → s.heap.get? c = none := fun y c hc => none_ c (by
      have : env.locals < c := x.above y c (mem_of_lookup hc)
      rw [hL] at this
      exact Nat.le_of_lt this)
    have hnO : ∀ b, Own env b → s.heap.get? b = none := fun b hb => by
      rcases hb with rfl | ⟨y, hy⟩
      · exact hnL
      · exact hnC y b hy
    have kin : ∀ y, env.kindOf y = fd.scope.names.lookup y := fun y => by rw [← henv]; rfl
    have mv : Mv (fun _ => False) S S s.heap h₁ := Mv.same fun b o _ e => keep b o e
    have I₁ : Inv base S μ σ h₁ := I.mv mv (fun _ q => q.elim) (fun _ q => q.elim) (fun _ q => q.elim) fun _ q => q.elim
    have up : ∀ v av, RdA ec s.heap S μ v av → RdA ec h₁ S μ v av := fun v av r => r.mono (fun b o _ e => keep b o e) (fun _ q => q) fun _ _ q => q
    have F : FrOk (base.add env.locals) ec G.V S μ env ρ h₁ := {
      kind := by rw [← henv]; exact D.kind
      glob := by rw [← henv]; exact D.glob
      blt := by rw [← henv]; exact D.blt
      ns := ⟨_, x.toInCall.ns, fun y i av hy hi hk => let ⟨v, e, r⟩ := R1.loc y i av hy hi hk; ⟨v, e, up v av r⟩⟩
      cell := fun y c hc => ⟨_, x.cell y c hc⟩
      val := fun y c i av h0 hy hi hk => by
        rcases hk with hk | hk
        · obtain ⟨v, e, r⟩ := R1.cel y i av hy hi hk
          exact ⟨v, e ▸ x.cell y c h0, up v av r⟩
        · rw [kin] at hk
          exact absurd rfl (D.free _ (mem_lookup hk))
      has := fun y hk => by
        rcases hk with hk | hk
        · rw [kin] at hk
          obtain ⟨c, hc⟩ := cellsFrom_has fd.scope.names (s.heap.objs.size + 1) [] y (.inl (mem_lookup hk))
          exact ⟨c, by rw [← henv]; exact hc⟩
        · rw [kin] at hk
          exact absurd rfl (D.free _ (mem_lookup hk))
      apart := fun y z c hy hz => name_of_addr x.apart (mem_of_lookup hy) (mem_of_lookup hz)
      newL := nb _ hnL
      newC := fun y c hc => nb _ (hnC y c hc) }
    have hsc : ScOk env fd.scope.names := fun y => .inl (kin y)
    have hfr : env.frame = some env.locals := by rw [← henv]; rfl
    have hkm : env.scope.kind ≠ .module := by rw [F.kind]; intro z; cases z
    obtain ⟨l, hl, hlz⟩ := hA.fr
    have hl' : (A.deeper env).frames = some (env :: l) := by
      show (A.frames.map fun fs => env :: fs) = _
      rw [hl]; rfl
    have hA' : AOk (base.add env.locals) n (A.deeper env) := ⟨⟨env :: l, hl', fun e he => by
      rcases List.mem_cons.mp he with rfl | he
      · exact ⟨hkm, e.locals, hfr, .inr rfl⟩
      · obtain ⟨h1, L, h2, h3⟩ := hlz e he
        exact ⟨h1, L, h2, .inl h3⟩⟩, hA.hd, by have := hA.dp; show A.depth + 1 + n < _; omega, by have := hA.un; show A.units + 3 + _ + _ < _; omega⟩
    have x₀ : Evo base (fun _ => False) μ μ S S σ σ s.heap h₁ := (Evo.refl I).poke (wr := fun _ => False) mv (fun _ _ q => q.elim) (fun _ q => q.elim) (fun _ q => q.elim) (fun _ q => q.elim) (fun _ q => q.elim) fun _ _ q => q.elim
    have I₂ : Inv (base.add env.locals) S μ σ h₁ := ⟨I₁.keepB, I₁.len, I₁.cells, I₁.nodup, I₁.new, I₁.inS, fun L z => by
      rcases z with z | rfl
      · exact I₁.zs L z
      · obtain ⟨m, ⟨o, es, ep, e, d, _⟩, _⟩ := F.ns
        exact ⟨F.newL, o, es, ep, e, d⟩⟩
    exact k env h₁ tk₁ ⟨hfr, l, hl'⟩ hnO hsc hA' I₂ F x₀
theorem fn_ok {a : Addr} {fd : FuncData} {ps : List Str} {is : List Nat} {body : List Stmt} {cs : List CS} (hlim : base.hp.NoLimit) (D : DefOk base G.V a fd ps is body) (H : ∀ Z, SS prog w ⟨base.hp, Z, base.hot⟩ ec G n fd.scope.names (execs body) (fun ρ σ => evSs N Φ cs ρ σ)) :
    FnOk prog w base ec (n + 1) a (runF N Φ is cs) := by
  intro A S μ σ σ' s vals args r Q E hA I ra q P
  obtain ⟨ρ, hρ, q⟩ := bnd q
  obtain ⟨⟨fl, σ₁⟩, q₁, q⟩ := bnd q
  refine enter hlim D hA I ra hρ fun env h₁ tk₁ ht hnO hsc hA' I₁ F x₀ => ?_
  cases fl with
  | next ρ₂ =>
    cases q
    refine H _ _ env ρ σ σ₁ _ S μ _ _ _ hA' hsc I₁ F q₁ (.no ht fun c e => nomatch e) fun f h' tk S' μ' ev rr => ?_
    have ev' := (x₀.wide (Y := Own env) fun _ _ q => q.elim).trans (Evo.narrow (L := env.locals) ev) fun _ _ q _ => q
    cases rr with
    | next F' => exact P _ h' tk S' (leave_ok I ev' hnO) (.old (.dat .none))
  | ret v =>
    obtain ⟨r', hr, q⟩ := bnd q
    cases q
    refine H _ _ env ρ σ σ₁ _ S μ _ _ _ hA' hsc I₁ F q₁ (.no ht fun c e => nomatch e) fun f h' tk S' μ' ev rr => ?_
    have ev' := (x₀.wide (Y := Own env) fun _ _ q => q.elim).trans (Evo.narrow (L := env.locals) ev) fun _ _ q _ => q
    cases rr with
    | ret rr _ => exact P _ h' tk S' (leave_ok I ev' hnO) (leave_res I ev' (fun a e => x₀.gone e) rr hr)
  | exc c => cases q
theorem fx_ok {a : Addr} {fd : FuncData} {ps : List Str} {is : List Nat} {body : List Stmt} {cs : List CS} (hlim : base.hp.NoLimit) (D : DefOk base G.V a fd ps is body) (H : ∀ Z, SS prog w ⟨base.hp, Z, base.hot⟩ ec G n fd.scope.names (execs body) (fun ρ σ => evSs N Φ cs ρ σ)) :
    FxOk prog w base ec (n + 1) a (runF N Φ is cs) := by
  intro A S μ σ σ' s vals args c Q E hA I ra q P
  obtain ⟨ρ, hρ, q⟩ := bnd q
  obtain ⟨⟨fl, σ₁⟩, q₁, q⟩ := bnd q
  cases fl with
  | next ρ₂ => cases q
  | ret v => obtain ⟨r', hr, q⟩ := bnd q; cases q
  | exc c' =>
    cases q
    refine enter hlim D hA I ra hρ fun env h₁ tk₁ ht hnO hsc hA' I₁ F x₀ => ?_
    refine H _ _ env ρ σ σ₁ _ S μ _ _ _ hA' hsc I₁ F q₁ ⟨ht, fun c'' e e' h' tk' S' μ' tb y qe => ?_⟩ fun f h' tk S' μ' ev rr => nomatch rr
    cases e
    obtain ⟨l, z2, z3⟩ := frt hA' ht y.inv
    have ev' := (x₀.wide (Y := Own env) fun _ _ q => q.elim).trans (Evo.narrow (L := env.locals) y) fun _ _ q _ => q
    unfold leaving
    refine wpAny_bind (note_ok (base := base) (s := { s with heap := h', toks := tk' }) z2 ht.1 I ev' z3 (qe.back x₀) fun h₂ w1 w2 w3 => ?_)
    refine flight_ok (base := base) (s := { s with heap := h₂, toks := tk' }) I w1 w2 w3 fun h₃ v1 v2 v3 => ?_
    exact P e' h₃ tk' S' (leave_ok I v1 hnO) v3
end
end Mine
namespace Mine
open PySem PySem.Calls PySem.W PyProof.Rows
structure FnIn (K : Frag) (G : Cfg) (name : Str) (a : Addr) (is : List Nat) (cs : List CS) : Prop where
  glob : nsIn K mainGlobals name = some (some (.ref a))
  body : ∃ o fd c co ovs t body ps, K.lookup a = some o ∧ o.data = .func fd ∧ fd.code = .ref c ∧ K.lookup c = some co ∧ co.data = .fields ovs ∧ ovs[1]? = some (.str fd.qualname t) ∧ fd.body = .stmts body ∧ fd.closure = [] ∧ fd.globals = mainGlobals ∧ fd.builtins = builtinsNs ∧
    fd.scope.kind = .function ∧ fd.scope.isGenerator = false ∧ fd.scope.isCoroutine = false ∧ (∀ vals : List Value, vals.length = ps.length → bindArgs fd ⟨vals, []⟩ = pure (ps.zip vals)) ∧ slots G.V ps = some is ∧
    (ps.all fun x => isOwnN fd.scope.names x) = true ∧ (fd.scope.names.all fun p => match p.2 with | .free => false | _ => true) = true ∧ trLS (trS G 20 fd.scope.names) body = some cs
structure TabIn (K : Frag) (G : Cfg) (tab : List (List Nat × List CS)) : Prop where
  fn : ∀ (k : Nat) f a, G.fns[k]? = some (f, a) → ∃ is cs, tab[k]? = some (is, cs) ∧ FnIn K G f a is cs
  blt : ∀ f v, (f, v) ∈ bltL → nsIn K mainGlobals f = some none ∧ bootBuiltins f = some v ∧ f ≠ "__name__"
  cst : ∀ x d, G.consts.lookup x = some d → ∃ v, nsIn K mainGlobals x = some (some v) ∧ ∀ h S, Rd h S v d
section
variable {prog : Program} {w : World} {G : Cfg} {K : Frag} {tab : List (List Nat × List CS)} {ec : ExcCls} {N : Nat}
theorem wd_of {s : Shared} {mg mb : Str → Option Value} (KX : K.In s.heap) (hg : s.heap.Ns mainGlobals mg) (hb : s.heap.Ns builtinsNs mb) (hbb : ∀ x : Str, x ≠ "__name__" → mb x = bootBuiltins x) (T : TabIn K G tab) (hx : ∀ x c, G.excs.lookup x = some c → nsIn K mainGlobals x = some (some (.ref (ec c)))) (Z : Addr → Prop) : Wd ⟨s.heap, Z, false⟩ ec G where
  cold := rfl
  fn := fun k f a e => by
    obtain ⟨is, cs, _, F⟩ := T.fn k f a e
    obtain ⟨o, fd, c, co, ovs, t, body, ps, h1, h2, _⟩ := F.body
    exact ⟨⟨mg, hg, .inl (mg_of KX hg F.glob)⟩, o, fd, KX _ _ h1, h2⟩
  blt := fun f v h => by
    obtain ⟨h1, h2, h3⟩ := T.blt f v h
    exact ⟨mg, hg, .inr ⟨mg_none_of KX hg h1, mb, hb, (hbb f h3).trans h2⟩⟩
  cst := fun x d e => by
    obtain ⟨v, h1, h2⟩ := T.cst x d e
    exact ⟨v, ⟨mg, hg, .inl (mg_of KX hg h1)⟩, h2⟩
  exc := fun x c e => ⟨mg, hg, .inl (mg_of KX hg (hx x c e))⟩
theorem isOwnN_eq {sc : Sc} {x : Str} (h : isOwnN sc x = true) : sc.lookup x = some .local ∨ sc.lookup x = some .cell := by
  unfold isOwnN at h
  split at h
  · rename_i q; exact .inl q
  · rename_i q; exact .inr q
  · cases h
theorem XK.at {h : Heap} {Y : Addr → Prop} (X : XK K ⟨h, Y, false⟩ ec) (Z : Addr → Prop) : XK K ⟨h, Z, false⟩ ec := ⟨X.inn, X.kx, X.sub, X.one, X.val⟩
theorem ExcIn.at {h : Heap} {Y : Addr → Prop} (X : ExcIn ⟨h, Y, false⟩ ec G) (Z : Addr → Prop) : ExcIn ⟨h, Z, false⟩ ec G := X
theorem phi_ok {s : Shared} (KX : K.In s.heap) (nl : s.heap.NoLimit) (T : TabIn K G tab) (W : ∀ Z, Wd ⟨s.heap, Z, false⟩ ec G) (X : XK K ⟨s.heap, fun _ => False, false⟩ ec) (WX : ExcIn ⟨s.heap, fun _ => False, false⟩ ec G) : ∀ k Z, PhiOk prog w ⟨s.heap, Z, false⟩ ec G k (tabAt tab N k) ∧ PhiX prog w ⟨s.heap, Z, false⟩ ec G k (tabAt tab N k) := by
  intro k
  induction k with
  | zero =>
    intro Z
    refine ⟨(fun j f a e A S μ σ σ' s' vals args r Q E hA I ra q P => by cases q), (fun j f a e A S μ σ σ' s' vals args r Q E hA I ra q P => by cases q)⟩
  | succ k ih =>
    intro Z
    suffices hh : ∀ j f a, G.fns[j]? = some (f, a) → FnOk prog w ⟨s.heap, Z, false⟩ ec (k + 1) a (tabAt tab N (k + 1) j) ∧ FxOk prog w ⟨s.heap, Z, false⟩ ec (k + 1) a (tabAt tab N (k + 1) j) from ⟨fun j f a e => (hh j f a e).1, fun j f a e => (hh j f a e).2⟩
    intro j f a e
    obtain ⟨is, cs, ht, F⟩ := T.fn j f a e
    obtain ⟨o, fd, c, co, ovs, t, body, ps, h1, h2, h3, h4, h5, h6, h7, h8, h9, h10, h11, h12, h13, h14, h15, h16, h17, h18⟩ := F.body
    have D : DefOk ⟨s.heap, Z, false⟩ G.V a fd ps is body := {
      rec_ := ⟨o, KX _ _ h1, h2⟩
      code := ⟨c, co, ovs, t, h3, KX _ _ h4, h5, h6⟩
      stmts := h7
      clo := h8
      glob := h9
      blt := h10
      kind := h11
      gen := h12
      cor := h13
      bind := h14
      slot := h15
      own := fun x hx => isOwnN_eq (List.all_eq_true.mp h16 x hx)
      free := fun p hp e => by
        have := List.all_eq_true.mp h17 p hp
        rw [e] at this; cases this }
    have H := fun Z' => trLS_ok (prog := prog) (w := w) (base := ⟨s.heap, Z', false⟩) (ec := ec) (n := k) (N := N) (fun st c h => trS_ok (W Z') (X.at Z') (WX.at Z') (ih Z').1 (ih Z').2 20 st c h) h18
    have := And.intro (fn_ok (prog := prog) (w := w) (N := N) nl D H) (fx_ok (prog := prog) (w := w) (N := N) nl D H)
    have e : tabAt tab N (k + 1) j = runF N (tabAt tab N k) is cs := by
      funext args σ
      show (tab[j]?.bind _) = _
      rw [ht]
      rfl
    rw [e]
    exact this
theorem run_law {s : Shared} {mg mb : Str → Option Value} (KX : K.In s.heap) (hg : s.heap.Ns mainGlobals mg) (hb : s.heap.Ns builtinsNs mb) (hbb : ∀ x : Str, x ≠ "__name__" → mb x = bootBuiltins x) (nl : s.heap.NoLimit) (T : TabIn K G tab)
    (hx : ∀ x c, G.excs.lookup x = some c → nsIn K mainGlobals x = some (some (.ref (ec c)))) (X : XK K ⟨s.heap, fun _ => False, false⟩ ec) (WX : ExcIn ⟨s.heap, fun _ => False, false⟩ ec G) {k f : Nat} (hk : k ≤ 600) {name : Str} {fa l : Addr} (hf : G.fns[f]? = some (name, fa)) {vs : List Value} {xs : List PyData} (hl : s.heap.get? l = some (lstO vs 0)) (hv : RdL s.heap (fun b => b = l) vs xs)
    {σ' : Store} (hrun : tabAt tab N k f [.dat (.list xs)] [] = some (.ret (.dat (.bool true)), σ')) {Q : Value → Shared → Prop} {E : Value → Shared → Prop}
    (hQ : ∀ h' tk, (∀ b o, s.heap.get? b = some o → h'.get? b = some o) → Q (.bool true) { s with heap := h', toks := tk }) : wpAny (model prog w) callerA (call (.ref fa) [.ref l]) Q E s := by
  have W : ∀ Z, Wd ⟨s.heap, Z, false⟩ ec G := wd_of KX hg hb hbb T hx
  have H := phi_ok (prog := prog) (w := w) (N := N) KX nl T W X WX k (fun _ => False) |>.1 f name fa hf
  have I : Inv ⟨s.heap, fun _ => False, false⟩ (fun b => b = l) [] [] s.heap := ⟨fun _ _ e => e, rfl, fun i a f ds e1 e2 => by simp at e1, fun i j a e1 e2 => by simp at e1, (fun a h => nomatch h), (fun a h => ⟨_, h ▸ hl, lst_plain vs 0⟩), fun _ h => h.elim⟩
  refine H callerA (fun b => b = l) [] [] σ' s [.ref l] [.dat (.list xs)] (.dat (.bool true)) Q E ⟨⟨[], rfl, fun _ h => nomatch h⟩, fun _ => rfl, ?_, ?_⟩ I (.cons (.dat (.list rfl hl hv)) .nil) hrun fun v h' tk S' x r => ?_
  · rw [depth_caller]; unfold recursionLimit; omega
  · show 4 + 8 * k + 400 < cLine
    unfold cLine; omega
  · cases r with
    | old r => cases r with
      | dat r => cases r; exact hQ h' tk x.inv.keepB
end
end Mine
namespace Mine
open PySem
section
variable {Φ : Phi} {ρ : Rho} {σ : Store}
theorem r_next {N : Nat} {Φ : Phi} {ρ ρ₁ : Rho} {σ σ₁ : Store} {c : CS} {cs : List CS} (h : evS N Φ c ρ σ = some (.next ρ₁, σ₁)) : evSs N Φ (c :: cs) ρ σ = evSs N Φ cs ρ₁ σ₁ := by rw [es_cons, h]; rfl
theorem r_stop {N : Nat} {Φ : Phi} {ρ : Rho} {σ σ₁ : Store} {c : CS} {cs : List CS} {v : AV} (h : evS N Φ c ρ σ = some (.ret v, σ₁)) : evSs N Φ (c :: cs) ρ σ = some (.ret v, σ₁) := by rw [es_cons, h]; rfl
theorem r_true {N : Nat} {Φ : Phi} {ρ : Rho} {σ σ₁ : Store} {c : CE} {a b : List CS} (h : evE Φ c ρ σ = some (.dat (.bool true), σ₁)) : evS N Φ (.ite c a b) ρ σ = evSs N Φ a ρ σ₁ := by rw [es_ite, h]; rfl
theorem r_false {N : Nat} {Φ : Phi} {ρ : Rho} {σ σ₁ : Store} {c : CE} {a b : List CS} (h : evE Φ c ρ σ = some (.dat (.bool false), σ₁)) : evS N Φ (.ite c a b) ρ σ = evSs N Φ b ρ σ₁ := by rw [es_ite, h]; rfl
theorem r_skip {N : Nat} {Φ : Phi} {ρ : Rho} {σ σ₁ : Store} {c : CE} {a : List CS} {cs : List CS} (h : evE Φ c ρ σ = some (.dat (.bool false), σ₁)) : evSs N Φ (.ite c a [] :: cs) ρ σ = evSs N Φ cs ρ σ₁ := by
  rw [es_cons, r_false h, es_nil]; rfl
theorem r_ret {N : Nat} {Φ : Phi} {ρ : Rho} {σ σ₁ : Store} {e : CE} {cs : List CS} {v : AV} (h : evE Φ e ρ σ = some (v, σ₁)) : evSs N Φ (.ret e :: cs) ρ σ = some (.ret v, σ₁) := by rw [es_cons, es_ret, h]; rfl
theorem r_taken {N : Nat} {Φ : Phi} {ρ : Rho} {σ σ₁ σ₂ : Store} {c : CE} {a b : List CS} {cs : List CS} {v : AV} (h : evE Φ c ρ σ = some (.dat (.bool true), σ₁)) (h' : evSs N Φ a ρ σ₁ = some (.ret v, σ₂)) : evSs N Φ (.ite c a b :: cs) ρ σ = some (.ret v, σ₂) := by
  rw [es_cons, r_true h, h']; rfl
theorem r_assign {N : Nat} {Φ : Phi} {ρ : Rho} {σ σ₁ : Store} {i : Nat} {e : CE} {cs : List CS} {v : AV} (h : evE Φ e ρ σ = some (v, σ₁)) : evSs N Φ (.assign i e :: cs) ρ σ = evSs N Φ cs (ρ.set i (settle v)) σ₁ := by rw [es_cons, es_assign, h]; rfl
theorem r_run {N : Nat} {Φ : Phi} {is : List Nat} {cs : List CS} {args : List AV} {σ : Store} {ρ : Rho} {v : AV} {r : AV} (h : bindArgsR is args (fun _ => none) = some ρ) (h' : evSs N Φ cs ρ σ = some (.ret v, σ)) (h'' : leave σ.length σ v = some r) : runF N Φ is cs args σ = some (.ret r, σ) := by
  simp only [runF, h, h', Option.bind_some, endF, h'', List.take_length]
theorem r_runD {N : Nat} {Φ : Phi} {is : List Nat} {cs : List CS} {args : List AV} {σ : Store} {ρ : Rho} {d : PyData} (h : bindArgsR is args (fun _ => none) = some ρ) (h' : evSs N Φ cs ρ σ = some (.ret (.dat d), σ)) : runF N Φ is cs args σ = some (.ret (.dat d), σ) := r_run h h' rfl
theorem r_runL {N : Nat} {Φ : Phi} {is : List Nat} {cs : List CS} {args : List AV} {σ : Store} {ρ : Rho} {d : List PyData} (h : bindArgsR is args (fun _ => none) = some ρ) (h' : evSs N Φ cs ρ σ = some (.ret (.fresh d), σ)) : runF N Φ is cs args σ = some (.ret (.fresh d), σ) := r_run h h' rfl
theorem compGo_on {α : Type} {elt : Rho → Store → Option (AV × Store)} {tests : Rho → Store → Option (Bool × Store)} {t : Tgt} (g f : α → PyData) (p : α → Bool) : ∀ (l : List α), (∀ x ∈ l, ∃ ρ', bindT t (g x) ρ = some ρ' ∧ tests ρ' σ = some (p x, σ) ∧ (p x = true → elt ρ' σ = some (.dat (f x), σ))) →
    compGo elt tests t ρ (l.map g) σ = some ((l.filter p).map f, σ) := by
  intro l
  induction l with
  | nil => intro _; rfl
  | cons x l ih =>
    intro h
    obtain ⟨ρ', h1, h2, h3⟩ := h x (.head _)
    have ih' := ih fun y hy => h y (.tail _ hy)
    show (bindT t (g x) ρ).bind _ = _
    rw [h1]
    show (tests ρ' σ).bind _ = _
    rw [h2]
    show (if p x = true then _ else _) = _
    cases hp : p x with
    | false => rw [if_neg Bool.false_ne_true, ih', List.filter_cons_of_neg (by rw [hp]; exact Bool.false_ne_true)]
    | true =>
      rw [if_pos rfl, h3 hp]
      show (compGo elt tests t ρ (l.map g) σ).bind _ = _
      rw [ih', List.filter_cons_of_pos hp]
      rfl
theorem ev_compF {α : Type} {ce : CE} {t : Tgt} {k : ItK} {its ifs : List CE} {vs : List AV} {ds : List PyData} (l : List α) (g f : α → PyData) (p : α → Bool) (h1 : evEs Φ its ρ σ = some (vs, σ)) (h2 : liveOf σ vs = []) (h3 : rdAll σ vs = some ds) (h4 : itemsD k ds = some (l.map g)) (hl : l.length ≤ lim)
    (h : ∀ x ∈ l, ∃ ρ', bindT t (g x) ρ = some ρ' ∧ evB Φ .And ifs ρ' σ = some (p x, σ) ∧ (p x = true → evE Φ ce ρ' σ = some (.dat (f x), σ))) : evE Φ (.comp ce t k its ifs) ρ σ = some (.fresh ((l.filter p).map f), σ) := by
  have := compGo_on (elt := fun ρ' σ' => evE Φ ce ρ' σ') (tests := fun ρ' σ' => evB Φ .And ifs ρ' σ') g f p l h
  simp only [ev_comp, h1, h2, h3, h4, Option.bind_some, flagAll, List.length_map, hl, if_true, this]
theorem ev_compA {α : Type} {ce : CE} {t : Tgt} {k : ItK} {its : List CE} {vs : List AV} {ds : List PyData} (l : List α) (g f : α → PyData) (h1 : evEs Φ its ρ σ = some (vs, σ)) (h2 : liveOf σ vs = []) (h3 : rdAll σ vs = some ds) (h4 : itemsD k ds = some (l.map g)) (hl : l.length ≤ lim)
    (h : ∀ x ∈ l, ∃ ρ', bindT t (g x) ρ = some ρ' ∧ evE Φ ce ρ' σ = some (.dat (f x), σ)) : evE Φ (.comp ce t k its []) ρ σ = some (.fresh (l.map f), σ) := by
  have := ev_compF (Φ := Φ) (ρ := ρ) (ce := ce) (t := t) (ifs := []) l g f (fun _ => true) h1 h2 h3 h4 hl fun x hx => by
    obtain ⟨ρ', a, b⟩ := h x hx
    exact ⟨ρ', a, rfl, fun _ => b⟩
  rw [this, List.filter_eq_self.mpr (fun _ _ => rfl)]
end
theorem tab_step {tab : List (List Nat × List CS)} {N k f : Nat} {is : List Nat} {cs : List CS} {args : List AV} {σ : Store} (h : tab[f]? = some (is, cs)) : tabAt tab N (k + 1) f args σ = runF N (tabAt tab N k) is cs args σ := by
  show (tab[f]?.bind _) = _
  rw [h]
  rfl
theorem mulOk_r {a b : Int} (h : b.natAbs < 2 ^ 64) : mulOk a b = true := by unfold mulOk; simp [h]
theorem mulOk_l {a b : Int} (h : a.natAbs < 2 ^ 64) : mulOk a b = true := by unfold mulOk; simp [h]
theorem boolsD_map (bs : List Bool) : boolsD (bs.map .bool) = some bs := by
  induction bs with
  | nil => rfl
  | cons b bs ih => show (boolsD (bs.map .bool)).bind _ = _; rw [ih]; rfl
theorem rangeL_nat (n : Nat) : rangeL 0 n = (List.range n).map fun k => PyData.int (k : Nat) := by
  unfold rangeL
  simp
section
theorem bi_add (a b : Int) : binD .Add (.int a) (.int b) = some (.dat (.int (a + b))) := rfl
theorem bi_sub (a b : Int) : binD .Sub (.int a) (.int b) = some (.dat (.int (a - b))) := rfl
theorem bi_mul {a b : Int} (h : mulOk a b = true) : binD .Mult (.int a) (.int b) = some (.dat (.int (a * b))) := by
  show (if mulOk a b = true then _ else _) = _; exact if_pos h
theorem bi_mod {a b : Int} (h : b ≠ 0) : binD .Mod (.int a) (.int b) = some (.dat (.int (a.fmod b))) := by
  show (if b ≠ 0 then _ else _) = _; exact if_pos h
theorem bi_fdiv {a b : Int} (h : b ≠ 0) (h' : b.natAbs < 1073741824) : binD .FloorDiv (.int a) (.int b) = some (.dat (.int (a.fdiv b))) := by
  show (if b ≠ 0 ∧ b.natAbs < 1073741824 then _ else _) = _; exact if_pos ⟨h, h'⟩
theorem bi_pow {a b : Int} (h : 0 ≤ b) (h1 : b ≤ 1000000) (h2 : a.natAbs < 2 ^ 64) : binD .Pow (.int a) (.int b) = some (.dat (.int (a ^ b.toNat))) := by
  show (if 0 ≤ b ∧ b ≤ 1000000 ∧ a.natAbs < 2 ^ 64 then _ else _) = _; exact if_pos ⟨h, h1, h2⟩
theorem bi_addT {xs ys : List PyData} (h : xs.length + ys.length ≤ lim) : binD .Add (.tuple xs) (.tuple ys) = some (.dat (.tuple (xs ++ ys))) := by
  show (if xs.length + ys.length ≤ lim then _ else _) = _; exact if_pos h
theorem bi_addL {xs ys : List PyData} (h : xs.length + ys.length ≤ lim) : binD .Add (.list xs) (.list ys) = some (.fresh (xs ++ ys)) := by
  show (if xs.length + ys.length ≤ lim then _ else _) = _; exact if_pos h
theorem cm_lt (a b : Int) : cmpD .Lt (.int a) (.int b) = some (decide (a < b)) := rfl
theorem cm_le (a b : Int) : cmpD .LtE (.int a) (.int b) = some (decide (a ≤ b)) := rfl
theorem cm_gt (a b : Int) : cmpD .Gt (.int a) (.int b) = some (decide (b < a)) := rfl
theorem cm_ge (a b : Int) : cmpD .GtE (.int a) (.int b) = some (decide (b ≤ a)) := rfl
theorem cm_eqi (a b : Int) : cmpD .Eq (.int a) (.int b) = some (a == b) := rfl
theorem cm_nei (a b : Int) : cmpD .NotEq (.int a) (.int b) = some (!(a == b)) := rfl
theorem cm_eqb (a b : Bool) : cmpD .Eq (.bool a) (.bool b) = some (a == b) := rfl
theorem cm_neb (a b : Bool) : cmpD .NotEq (.bool a) (.bool b) = some (!(a == b)) := rfl
theorem pl_list {xs : List PyData} (h : xs.length ≤ lim) : primD .len [.list xs] = some (.dat (.int xs.length)) := by
  show (if xs.length ≤ lim then _ else _) = _; exact if_pos h
theorem pl_tuple {xs : List PyData} (h : xs.length ≤ lim) : primD .len [.tuple xs] = some (.dat (.int xs.length)) := by
  show (if xs.length ≤ lim then _ else _) = _; exact if_pos h
theorem pt_list {xs : List PyData} (h : xs.length ≤ lim) : primD .tuple [.list xs] = some (.dat (.tuple xs)) := by
  show (if xs.length ≤ lim then _ else _) = _; exact if_pos h
theorem pk_tuple {xs : List PyData} (h : xs.length ≤ lim) : primD .list [.tuple xs] = some (.fresh xs) := by
  show (if xs.length ≤ lim then _ else _) = _; exact if_pos h
theorem pa_all (bs : List Bool) : primD .all [.list (bs.map .bool)] = some (.dat (.bool (bs.all id))) := by
  show (boolsD (bs.map .bool)).bind _ = _
  rw [boolsD_map]; rfl
theorem pi_bool (b : Bool) : primD .int [.bool b] = some (.dat (.int (if b then 1 else 0))) := rfl
theorem ix_t0 (a : PyData) (r : List PyData) : idxD (.tuple (a :: r)) (.int 0) = some a := rfl
theorem ix_t1 (a b : PyData) (r : List PyData) : idxD (.tuple (a :: b :: r)) (.int 1) = some b := rfl
theorem ix_t2 (a b c : PyData) (r : List PyData) : idxD (.tuple (a :: b :: c :: r)) (.int 2) = some c := rfl
theorem ix_l0 (a : PyData) (r : List PyData) : idxD (.list (a :: r)) (.int 0) = some a := rfl
theorem ix_l1 (a b : PyData) (r : List PyData) : idxD (.list (a :: b :: r)) (.int 1) = some b := rfl
theorem ix_l2 (a b c : PyData) (r : List PyData) : idxD (.list (a :: b :: c :: r)) (.int 2) = some c := rfl
theorem ix_list {xs : List PyData} {j : Nat} {d : PyData} (hj : j < 1048576) (h : xs[j]? = some d) : idxD (.list xs) (.int j) = some d := by
  show (if 0 ≤ (j : Int) ∧ (j : Int).toNat < 4611686018427387904 then _ else none) = _
  rw [if_pos ⟨Int.natCast_nonneg _, Nat.lt_trans hj (by decide)⟩]
  exact h
theorem bo_or : (BoolOp.Or == BoolOp.And) = false := rfl
theorem bo_and : (BoolOp.And == BoolOp.And) = true := rfl
theorem ev_idxR {Φ : Phi} {ρ : Rho} {σ : Store} {a i : CE} {x y : AV} {dx dy r : PyData} (h1 : evE Φ a ρ σ = some (x, σ)) (h2 : evE Φ i ρ σ = some (y, σ)) (h3 : rd σ x = some dx) (h4 : rd σ y = some dy) (h5 : idxD dx dy = some r) : evE Φ (.idx a i) ρ σ = some (.dat r, σ) := by
  rw [ev_idx, h1, Option.bind_some, h2, Option.bind_some, h3, Option.bind_some, h4, Option.bind_some, h5]; rfl
theorem le_lim {n m : Nat} (h : n ≤ m) (hm : m ≤ 1000000) : n ≤ lim := by unfold lim; omega
end
theorem x_ba0 (ρ : Rho) : bindArgsR [] [] ρ = some ρ := rfl
theorem x_ba1 (i : Nat) (is : List Nat) (v : AV) (vs : List AV) (ρ : Rho) : bindArgsR (i :: is) (v :: vs) ρ = bindArgsR is vs (ρ.set i v) := rfl
theorem x_set (ρ : Rho) (i j : Nat) (v : AV) : Rho.set ρ i v j = if j = i then some v else ρ j := rfl
theorem x_rdD (σ : Store) (d : PyData) : rd σ (.dat d) = some d := rfl
theorem x_rdF (σ : Store) (d : List PyData) : rd σ (.fresh d) = some (.list d) := rfl
theorem x_rdC (σ : Store) (i : Nat) : rd σ (.cell i) = σ[i]?.bind fun p => some (.list p.2) := rfl
theorem x_ra0 (σ : Store) : rdAll σ [] = some [] := rfl
theorem x_ra1 (σ : Store) (v : AV) (vs : List AV) : rdAll σ (v :: vs) = (rd σ v).bind fun d => (rdAll σ vs).bind fun ds => some (d :: ds) := rfl
theorem x_oa0 (σ : Store) : ownAll [] σ = some ([], σ) := rfl
theorem x_oa1 (σ : Store) (v : AV) (vs : List AV) : ownAll (v :: vs) σ = (own σ v).bind fun p => (ownAll vs p.2).bind fun q => some (p.1 :: q.1, q.2) := rfl
theorem x_owD (σ : Store) (d : PyData) : own σ (.dat d) = some (d, σ) := rfl
theorem x_owF (σ : Store) (d : List PyData) : own σ (.fresh d) = some (.list d, σ) := rfl
theorem x_stD (d : PyData) : settle (.dat d) = .dat d := rfl
theorem x_stF (d : List PyData) : settle (.fresh d) = .dat (.list d) := rfl
theorem x_stC (i : Nat) : settle (.cell i) = .cell i := rfl
theorem x_bA (b : Bool) : boolA (.dat (.bool b)) = some b := rfl
theorem x_iA (b : Int) : intA (.dat (.int b)) = some b := rfl
theorem x_tA (b : List PyData) : tupA (.dat (.tuple b)) = some b := rfl
theorem x_rC (v : AV) : retC (.ret v) = some v := rfl
theorem x_on (k : Rho → Store → Option (Fl × Store)) (ρ : Rho) (σ : Store) : Fl.on k (.next ρ, σ) = k ρ σ := rfl
theorem x_onR (k : Rho → Store → Option (Fl × Store)) (v : AV) (σ : Store) : Fl.on k (.ret v, σ) = some (.ret v, σ) := rfl
theorem x_run (N : Nat) (Φ : Phi) (is : List Nat) (cs : List CS) (vs : List AV) (σ : Store) : runF N Φ is cs vs σ = (bindArgsR is vs (fun _ => none)).bind fun ρ => (evSs N Φ cs ρ σ).bind (endF σ.length) := rfl
theorem x_end (n : Nat) (v : AV) (σ : Store) : endF n (.ret v, σ) = (leave n σ v).bind fun r => some (.ret r, σ.take n) := rfl
theorem x_lvD (n : Nat) (σ : Store) (d : PyData) : leave n σ (.dat d) = some (.dat d) := rfl
theorem x_lvF (n : Nat) (σ : Store) (d : List PyData) : leave n σ (.fresh d) = some (.fresh d) := rfl
theorem x_for1 (t : Tgt) (body : Rho → Store → Option (Fl × Store)) (d : PyData) (ds : List PyData) (ρ : Rho) (σ : Store) : forGo t body (d :: ds) ρ σ = (bindT t d ρ).bind fun ρ₁ => (body ρ₁ σ).bind (Fl.on fun ρ₂ σ₂ => forGo t body ds ρ₂ σ₂) := rfl
end Mine
namespace Mine
open PySem PySem.Calls PySem.W PyProof.Rows
theorem has_int {d : WData} (h : WShape.has [] d .int = true) : ∃ i, d = .int i := by
  cases d <;> first | exact ⟨_, rfl⟩ | (cases h; done)
theorem has_ints : ∀ {xs : List WData}, WShape.hasItems [] xs .int = true → ∃ is : List Int, xs = is.map .int := by
  intro xs
  induction xs with
  | nil => intro _; exact ⟨[], rfl⟩
  | cons x xs ih =>
    intro h
    rw [WShape.hasItems, Bool.and_eq_true] at h
    obtain ⟨i, rfl⟩ := has_int h.1
    obtain ⟨is, rfl⟩ := ih h.2
    exact ⟨i :: is, rfl⟩
theorem has_list {d : WData} (h : WShape.has [] d (.list .int) = true) : ∃ is : List Int, d = .list (is.map .int) := by
  cases d <;> first | (cases h; done) | skip
  rename_i xs
  have h' : (WShape.hasItems [] xs .int || false) = true := h
  rw [Bool.or_false] at h'
  obtain ⟨is, rfl⟩ := has_ints h'
  exact ⟨is, rfl⟩
theorem pre_law (is : List Int) (b : Bool) (hb : decide ((63 : Int) < ((is.map WData.int).length : Nat)) = b) : WTm.value [] (.and (.not (.lt (.lit (.int 63)) (.len (.arg 0)))) (.lit (.bool true))) { args := [.list (is.map .int)] } = some (.bool (!b)) := by
  have e : WTm.value [] (.and (.not (.lt (.lit (.int 63)) (.len (.arg 0)))) (.lit (.bool true))) { args := [.list (is.map .int)] } = WTm.value [] (.and (.not (.lit (.bool (decide ((63 : Int) < ((is.map WData.int).length : Nat)))))) (.lit (.bool true))) { args := [.list (is.map .int)] } := rfl
  rw [e, hb]
  cases b <;> rfl
theorem law_args {l : OpenLaw} (hm : l.most = some 63) (hb : l.bound = none) {args : List WData} (h : l.row.claim.pre args = true) : ∃ is : List Int, args = [.list (is.map .int)] ∧ is.length ≤ 63 := by
  obtain ⟨h1, h2⟩ := pre_splitW h
  have h1' : WShape.hasAll [] args [.list .int] = true := h1
  have h2' : l.pre.holds [] { args := args } = true := h2
  cases args with
  | nil => cases h1'
  | cons d r =>
    have h1'' : (WShape.has [] d (.list .int) && WShape.hasAll [] r []) = true := h1'
    rw [Bool.and_eq_true] at h1''
    obtain ⟨is, rfl⟩ := has_list h1''.1
    cases r with
    | cons _ _ => cases h1''.2
    | nil =>
      refine ⟨is, rfl, ?_⟩
      have hp : l.pre = .and (.not (.lt (.lit (.int 63)) (.len (.arg 0)))) (.lit (.bool true)) := by
        unfold OpenLaw.pre; rw [hm, hb]; rfl
      rw [hp] at h2'
      unfold WTm.holds at h2'
      rw [pre_law is _ rfl] at h2'
      rcases Nat.lt_or_ge 63 is.length with q | q
      · rw [decide_eq_true (by rw [List.length_map]; omega)] at h2'
        cases h2'
      · exact q
theorem well_list {P : Params} {h : Heap} {vals : List Value} {is : List Int} (W : WellAll P h vals [.list (is.map .int)]) : ∃ l vs, vals = [.ref l] ∧ h.get? l = some (lstO vs 0) ∧ RdL h (fun b => b = l) vs (is.map .int) := by
  cases W with
  | cons w r =>
    cases r
    cases w with
    | @list l vs _ e ws =>
      refine ⟨l, vs, rfl, e, ?_⟩
      clear e
      induction is generalizing vs with
      | nil => cases ws; exact .nil
      | cons i is ih =>
        cases ws with
        | cons w ws =>
          cases w with
          | int _ t => exact .cons (.int i t) (ih ws)
theorem law_good {l : OpenLaw} {cl : Str → Option Addr} {mean : ExcName → Option Value} {args : List WData} {s₁ : Shared} (hg : s₁.gens = #[]) {h' : Heap} {tk : Nat} (hk : ∀ b o, s₁.heap.get? b = some o → h'.get? b = some o) :
    GoodWG l.row.claim cl mean args s₁ (.ok (.ret (.bool true))) { s₁ with heap := h', toks := tk } := by
  refine ⟨.inl ⟨.bool true, .bool true, [], rfl, fun _ => rfl, .bool true, ?_, fun _ => ⟨List.nodup_nil, fun a h => nomatch h⟩⟩, .of_keep hk, rfl, .of_eq hg⟩
  show (WShape.has [] (.bool true) .bool && (WTm.eq .res (.lit (.bool true))).holds [] { args := args, res := some (.bool true), after := args }) = true
  have e : WTm.value [] (.eq .res (.lit (.bool true))) { args := args, res := some (.bool true), after := args } = some (.bool (same (.bool true) (.bool true))) := rfl
  have e' : same (.bool true) (.bool true) = true := by decide +kernel
  unfold WTm.holds
  rw [e, e']
  rfl
end Mine
namespace Mine
open PySem
noncomputable def c_is_whole : List CS := [.ret (.bop .And [(.isin (.var 0) .int), (.nott (.isin (.var 0) .bool))])]
noncomputable def c_is_among : List CS := [.ret (.bop .And [(.call 0 [(.var 0)]), (.cmp2 .LtE .LtE (.var 1) (.var 0) (.var 2))])]
noncomputable def c_are_wholes : List CS := [.ret (.bop .And [(.isin (.var 0) .tuple), (.cmp .Eq (.prim .len [(.var 0)]) (.var 3)), (.prim .all [(.comp (.call 0 [(.var 4)]) (.one 4) .seq [(.var 0)] [])])])]
noncomputable def c_is_range : List CS := [.ite (.nott (.call 2 [(.var 0), (.const (.int (2)))])) [.ret (.const (.bool false))] [],
  .ret (.cmp2 .LtE .LtE (.idx (.var 0) (.const (.int (0)))) (.idx (.var 0) (.const (.int (1)))) (.bin .Add (.idx (.var 0) (.const (.int (0)))) (.const (.int (20)))))]
noncomputable def c_is_expression : List CS := [.ite (.bop .Or [(.nott (.isin (.var 0) .tuple)), (.cmp .NotEq (.prim .len [(.var 0)]) (.const (.int (3)))), (.nott (.call 0 [(.idx (.var 0) (.const (.int (0))))]))]) [.ret (.const (.bool false))] [],
  .ret (.bop .And [(.call 2 [(.idx (.var 0) (.const (.int (1)))), (.var 5)]), (.call 2 [(.idx (.var 0) (.const (.int (2)))), (.var 6)])])]
noncomputable def c_is_word : List CS := [.ite (.bop .Or [(.nott (.isin (.var 0) .str)), (.nott (.cmp2 .LtE .LtE (.const (.int (1))) (.prim .len [(.var 0)]) (.const (.int (8)))))]) [.ret (.const (.bool false))] [],
  .ret (.prim .all [(.comp (.cmp .In (.var 7) (.const (.str (Str.ofString "abcdefghijklmnopqrstuvwxyz")))) (.one 7) .seq [(.var 0)] [])])]
noncomputable def c_is_statement : List CS := [.ite (.bop .Or [(.nott (.isin (.var 0) .tuple)), (.cmp .Lt (.prim .len [(.var 0)]) (.const (.int (2)))), (.nott (.isin (.idx (.var 0) (.const (.int (0)))) .str))]) [.ret (.const (.bool false))] [],
  .assign 8 (.idx (.var 0) (.const (.int (0)))),
  .ite (.cmp .Eq (.var 8) (.const (.str (Str.ofString "put")))) [.ret (.bop .And [(.cmp .Eq (.prim .len [(.var 0)]) (.const (.int (3)))), (.call 1 [(.idx (.var 0) (.const (.int (1)))), (.const (.int (0))), (.bin .Sub (.var 6) (.const (.int (1))))]), (.call 4 [(.idx (.var 0) (.const (.int (2)))), (.var 5), (.var 6)])])] [],
  .ite (.cmp .Eq (.var 8) (.const (.str (Str.ofString "ask")))) [.ret (.bop .And [(.cmp .Eq (.prim .len [(.var 0)]) (.const (.int (4)))), (.call 4 [(.idx (.var 0) (.const (.int (1)))), (.var 5), (.var 6)])])] [],
  .ite (.cmp .Eq (.var 8) (.const (.str (Str.ofString "times")))) [.ret (.bop .And [(.cmp .Eq (.prim .len [(.var 0)]) (.const (.int (3)))), (.call 1 [(.idx (.var 0) (.const (.int (1)))), (.const (.int (0))), (.const (.int (8)))])])] [],
  .ite (.cmp .Eq (.var 8) (.const (.str (Str.ofString "tell")))) [.ret (.bop .And [(.cmp .Eq (.prim .len [(.var 0)]) (.const (.int (2)))), (.call 4 [(.idx (.var 0) (.const (.int (1)))), (.var 5), (.var 6)])])] [],
  .ret (.bop .And [(.cmp .Eq (.var 8) (.const (.str (Str.ofString "stop")))), (.cmp .Eq (.prim .len [(.var 0)]) (.const (.int (2)))), (.call 5 [(.idx (.var 0) (.const (.int (1))))])])]
noncomputable def c_inner_rows : List CS := [.ite (.cmp .Eq (.idx (.var 9) (.const (.int (0)))) (.const (.str (Str.ofString "ask")))) [.ret (.lst [(.idx (.var 9) (.const (.int (2)))), (.idx (.var 9) (.const (.int (3))))])] [],
  .ite (.cmp .Eq (.idx (.var 9) (.const (.int (0)))) (.const (.str (Str.ofString "times")))) [.ret (.lst [(.idx (.var 9) (.const (.int (2))))])] [],
  .ret (.lst [])]
noncomputable def c_are_rows : List CS := [.newcell 10 (.lst [(.var 0)]),
  .whil (.cmp .Gt (.prim .len [(.var 10)]) (.const (.int (0)))) [.assign 11 (.pop 10), .ite (.nott (.isin (.var 11) .tuple)) [.ret (.const (.bool false))] [], .forr (.one 9) .seq [(.var 11)] [.ite (.nott (.call 6 [(.var 9), (.var 5), (.var 6)])) [.ret (.const (.bool false))] [], .extend 10 (.call 7 [(.var 9)])]],
  .ret (.const (.bool true))]
noncomputable def c_is_program : List CS := [.ite (.bop .Or [(.nott (.isin (.var 0) .tuple)), (.cmp .NotEq (.prim .len [(.var 0)]) (.const (.int (3)))), (.nott (.isin (.idx (.var 0) (.const (.int (0)))) .tuple))]) [.ret (.const (.bool false))] [],
  .ite (.bop .Or [(.cmp .Gt (.prim .len [(.idx (.var 0) (.const (.int (0))))]) (.const (.int (3)))), (.nott (.prim .all [(.comp (.call 3 [(.var 4)]) (.one 4) .seq [(.idx (.var 0) (.const (.int (0))))] [])]))]) [.ret (.const (.bool false))] [],
  .ite (.nott (.call 1 [(.idx (.var 0) (.const (.int (1)))), (.const (.int (1))), (.const (.int (6)))])) [.ret (.const (.bool false))] [],
  .ret (.call 8 [(.idx (.var 0) (.const (.int (2)))), (.prim .len [(.idx (.var 0) (.const (.int (0))))]), (.idx (.var 0) (.const (.int (1))))])]
noncomputable def c_depth : List CS := [.assign 3 (.const (.int (0))),
  .newcell 12 (.lst [(.var 11)]),
  .whil (.cmp .Gt (.prim .len [(.var 12)]) (.const (.int (0)))) [.assign 3 (.bin .Add (.var 3) (.const (.int (1)))), .newcell 13 (.lst []), .forr (.one 14) .seq [(.var 12)] [.forr (.one 9) .seq [(.var 14)] [.extend 13 (.call 7 [(.var 9)])]], .newcell 12 (.var 13)],
  .ret (.var 3)]
noncomputable def c_weight : List CS := [.assign 15 (.const (.int (0))),
  .forr (.one 9) .seq [(.var 11)] [.assign 15 (.bin .Add (.var 15) (.const (.int (1)))), .ite (.cmp .Eq (.idx (.var 9) (.const (.int (0)))) (.const (.str (Str.ofString "ask")))) [.assign 15 (.bin .Add (.bin .Add (.var 15) (.call 11 [(.idx (.var 9) (.const (.int (2))))])) (.call 11 [(.idx (.var 9) (.const (.int (3))))]))] [.ite (.cmp .Eq (.idx (.var 9) (.const (.int (0)))) (.const (.str (Str.ofString "times")))) [.assign 15 (.bin .Add (.var 15) (.bin .Mult (.idx (.var 9) (.const (.int (1)))) (.call 11 [(.idx (.var 9) (.const (.int (2))))])))] []]],
  .ret (.var 15)]
noncomputable def c_need_program : List CS := [.ite (.nott (.call 9 [(.var 0)])) [.raise 1] [],
  .ite (.bop .Or [(.cmp .Gt (.call 10 [(.idx (.var 0) (.const (.int (2))))]) (.const (.int (6)))), (.cmp .Gt (.call 11 [(.idx (.var 0) (.const (.int (2))))]) (.const (.int (200))))]) [.raise 2] []]
noncomputable def c__law_cell_at : List CS := [.ite (.cmp .Lt (.var 17) (.prim .len [(.var 16)])) [.ret (.bin .Add (.idx (.var 16) (.var 17)) (.bin .Mult (.bin .Mod (.idx (.var 16) (.var 17)) (.const (.int (251)))) (.const (.int (381840)))))] [],
  .ret (.const (.int (0)))]
noncomputable def c__law_mixed : List CS := [.ret (.bin .Mod (.bin .Add (.bin .Add (.bin .Mult (.var 18) (.bin .Add (.bin .Add (.const (.int (48271))) (.bin .Mult (.bin .Mult (.const (.int (7919))) (.var 17)) (.var 17))) (.bin .Mult (.const (.int (104729))) (.var 17)))) (.bin .Mult (.const (.int (7919))) (.var 17))) (.const (.int (12345)))) (.const (.int (2147483647))))]
noncomputable def c__law_whole : List CS := [.ret (.bop .And [(.isin (.var 19) .int), (.nott (.isin (.var 19) .bool))])]
noncomputable def c__law_ranges : List CS := [.assign 20 (.idx (.lst [(.const (.int (1))), (.const (.int (2))), (.const (.int (1))), (.const (.int (2))), (.const (.int (0))), (.const (.int (3))), (.const (.int (1)))]) (.bin .Mod (.var 18) (.const (.int (7))))),
  .newcell 21 (.lst []),
  .forr (.one 17) .range1 [(.var 20)] [.assign 22 (.call 14 [(.bin .FloorDiv (.var 18) (.const (.int (7)))), (.var 17)]), .assign 23 (.idx (.lst [(.bin .Sub (.bin .Mod (.var 22) (.const (.int (11)))) (.const (.int (5)))), (.bin .Sub (.bin .Mod (.var 22) (.const (.int (11)))) (.const (.int (5)))), (.bin .Add (.bin .Pow (.const (.int (10))) (.const (.int (20)))) (.bin .Mod (.var 22) (.const (.int (7))))), (.bin .Sub (.const (.int (0))) (.bin .Pow (.const (.int (10))) (.const (.int (20)))))]) (.bin .Mod (.bin .FloorDiv (.var 22) (.const (.int (11)))) (.const (.int (4))))), .assign 24 (.bin .Mod (.bin .FloorDiv (.var 22) (.const (.int (44)))) (.idx (.lst [(.const (.int (1))), (.const (.int (9))), (.const (.int (5))), (.const (.int (3)))]) (.var 20))), .ite (.bop .And [(.cmp .Eq (.var 20) (.const (.int (1)))), (.cmp .Eq (.bin .Mod (.bin .FloorDiv (.var 22) (.const (.int (396)))) (.const (.int (8)))) (.const (.int (1))))]) [.assign 24 (.bin .Sub (.const (.int (20))) (.bin .Mod (.bin .FloorDiv (.var 22) (.const (.int (3168)))) (.const (.int (2)))))] [], .append 21 (.tup [(.var 23), (.bin .Add (.var 23) (.var 24))])],
  .ret (.prim .tuple [(.var 21)])]
noncomputable def c__law_expression : List CS := [.assign 26 (.comp (.idx (.lst [(.const (.int (0))), (.const (.int (1))), (.neg (.const (.int (1)))), (.const (.int (2))), (.neg (.const (.int (3)))), (.const (.int (1))), (.const (.int (0)))]) (.bin .Mod (.call 14 [(.var 18), (.var 17)]) (.const (.int (7))))) (.one 17) .range1 [(.idx (.var 25) (.const (.int (0))))] []),
  .assign 27 (.comp (.idx (.lst [(.const (.int (0))), (.const (.int (1))), (.const (.int (0))), (.neg (.const (.int (1)))), (.const (.int (2))), (.const (.int (0)))]) (.bin .Mod (.bin .FloorDiv (.call 14 [(.var 18), (.bin .Add (.const (.int (7))) (.var 17))]) (.const (.int (5)))) (.const (.int (6))))) (.one 17) .range1 [(.idx (.var 25) (.const (.int (1))))] []),
  .assign 28 (.bin .Sub (.bin .Mod (.var 18) (.const (.int (13)))) (.const (.int (6)))),
  .ite (.bop .And [(.cmp .Eq (.bin .Mod (.bin .FloorDiv (.var 18) (.const (.int (13)))) (.const (.int (3)))) (.const (.int (1)))), (.cmp .Gt (.idx (.var 25) (.const (.int (0)))) (.const (.int (0))))]) [.assign 28 (.bin .Sub (.var 28) (.bin .Mult (.idx (.var 26) (.const (.int (0)))) (.idx (.idx (.var 21) (.const (.int (0)))) (.const (.int (0))))))] [],
  .ite (.cmp .Eq (.bin .Mod (.bin .FloorDiv (.var 18) (.const (.int (39)))) (.const (.int (9)))) (.const (.int (1)))) [.assign 28 (.bin .Mult (.var 28) (.bin .Pow (.const (.int (10))) (.const (.int (18)))))] [],
  .ret (.tup [(.var 28), (.prim .tuple [(.var 26)]), (.prim .tuple [(.var 27)])])]
noncomputable def c__law_word_by : List CS := [.assign 29 (.const (.str (Str.ofString "abcdefghijklmnopqrstuvwxyz"))),
  .ret (.prim .join [(.const (.str (Str.ofString ""))), (.comp (.idx (.var 29) (.bin .Mod (.bin .FloorDiv (.call 14 [(.bin .FloorDiv (.var 18) (.const (.int (8)))), (.var 17)]) (.const (.int (3)))) (.const (.int (26))))) (.one 17) .range1 [(.bin .Add (.const (.int (1))) (.bin .Mod (.var 18) (.const (.int (8)))))] [])])]
noncomputable def c__law_statement : List CS := [.setItem 30 (.const (.int (0))) (.bin .Add (.idx (.var 30) (.const (.int (0)))) (.const (.int (1)))),
  .assign 18 (.call 14 [(.call 13 [(.var 16), (.bin .Mod (.idx (.var 30) (.const (.int (0)))) (.const (.int (40))))]), (.idx (.var 30) (.const (.int (0))))]),
  .assign 32 (.bin .Mod (.var 18) (.const (.int (9)))),
  .assign 33 (.call 17 [(.bin .FloorDiv (.var 18) (.const (.int (9)))), (.var 25), (.var 21)]),
  .ite (.bop .Or [(.cmp .Lt (.var 32) (.const (.int (3)))), (.bop .And [(.cmp .Eq (.var 31) (.const (.int (0)))), (.cmp .Lt (.var 32) (.const (.int (6))))])]) [.ret (.tup [(.const (.str (Str.ofString "put"))), (.bin .Mod (.bin .FloorDiv (.var 18) (.const (.int (9)))) (.idx (.var 25) (.const (.int (1))))), (.var 33)])] [],
  .ite (.cmp .Lt (.var 32) (.const (.int (6)))) [.assign 34 (.call 20 [(.var 16), (.var 30), (.bin .Sub (.var 31) (.const (.int (1)))), (.var 25), (.var 21)]), .ret (.tup [(.const (.str (Str.ofString "ask"))), (.var 33), (.var 34), (.call 20 [(.var 16), (.var 30), (.bin .Sub (.var 31) (.const (.int (1)))), (.var 25), (.var 21)])])] [],
  .ite (.bop .And [(.cmp .Eq (.var 32) (.const (.int (6)))), (.cmp .Gt (.var 31) (.const (.int (0))))]) [.ret (.tup [(.const (.str (Str.ofString "times"))), (.bin .Mod (.bin .FloorDiv (.var 18) (.const (.int (9)))) (.const (.int (3)))), (.call 20 [(.var 16), (.var 30), (.bin .Sub (.var 31) (.const (.int (1)))), (.var 25), (.var 21)])])] [],
  .ite (.bop .And [(.cmp .Eq (.var 32) (.const (.int (7)))), (.cmp .Eq (.bin .Mod (.bin .FloorDiv (.var 18) (.const (.int (9)))) (.const (.int (3)))) (.const (.int (1))))]) [.ret (.tup [(.const (.str (Str.ofString "stop"))), (.call 18 [(.bin .FloorDiv (.var 18) (.const (.int (27))))])])] [],
  .ite (.bop .And [(.cmp .Eq (.var 32) (.const (.int (8)))), (.cmp .Gt (.bin .Mod (.bin .FloorDiv (.var 18) (.const (.int (9)))) (.const (.int (3)))) (.const (.int (0))))]) [.ret (.tup [(.const (.str (Str.ofString "tell"))), (.var 33)])] [],
  .ret (.tup [(.const (.str (Str.ofString "put"))), (.bin .Mod (.bin .FloorDiv (.var 18) (.const (.int (9)))) (.idx (.var 25) (.const (.int (1))))), (.tup [(.idx (.var 33) (.const (.int (0)))), (.bin .Mult (.tup [(.const (.int (0)))]) (.idx (.var 25) (.const (.int (0))))), (.idx (.var 33) (.const (.int (2))))])])]
noncomputable def c__law_rows : List CS := [.setItem 30 (.const (.int (0))) (.bin .Add (.idx (.var 30) (.const (.int (0)))) (.const (.int (1)))),
  .assign 18 (.call 14 [(.call 13 [(.var 16), (.bin .Mod (.idx (.var 30) (.const (.int (0)))) (.const (.int (40))))]), (.idx (.var 30) (.const (.int (0))))]),
  .assign 20 (.bin .Add (.const (.int (1))) (.bin .Mod (.var 18) (.const (.int (2))))),
  .ite (.cmp .Gt (.idx (.var 30) (.const (.int (0)))) (.const (.int (30)))) [.assign 20 (.const (.int (0)))] [],
  .ret (.prim .tuple [(.comp (.call 19 [(.var 16), (.var 30), (.var 31), (.var 25), (.var 21)]) (.one 17) .range1 [(.var 20)] [])])]
noncomputable def c__law_program : List CS := [.newcell 21 (.call 16 [(.call 13 [(.var 16), (.var 35)])]),
  .assign 25 (.tup [(.prim .len [(.var 21)]), (.idx (.lst [(.const (.int (1))), (.const (.int (2))), (.const (.int (3))), (.const (.int (2))), (.const (.int (6)))]) (.bin .Mod (.call 13 [(.var 16), (.bin .Add (.var 35) (.const (.int (1))))]) (.const (.int (5)))))]),
  .newcell 30 (.lst [(.bin .Add (.var 35) (.const (.int (1))))]),
  .assign 22 (.bin .FloorDiv (.call 13 [(.var 16), (.bin .Add (.var 35) (.const (.int (1))))]) (.const (.int (10)))),
  .assign 36 (.tup []),
  .ite (.cmp .Eq (.bin .Mod (.var 22) (.const (.int (3)))) (.const (.int (1)))) [.assign 33 (.tup [(.const (.int (1))), (.bin .Mult (.tup [(.const (.int (1)))]) (.idx (.var 25) (.const (.int (0))))), (.bin .Add (.tup [(.bin .Add (.const (.int (1))) (.bin .Mod (.bin .FloorDiv (.var 22) (.const (.int (3)))) (.const (.int (2)))))]) (.bin .Mult (.tup [(.const (.int (0)))]) (.bin .Sub (.idx (.var 25) (.const (.int (1)))) (.const (.int (1))))))]), .assign 36 (.tup [(.tup [(.const (.str (Str.ofString "times"))), (.bin .Mod (.bin .FloorDiv (.var 22) (.const (.int (6)))) (.const (.int (9)))), (.tup [(.tup [(.const (.str (Str.ofString "put"))), (.const (.int (0))), (.var 33)])])])])] [],
  .ite (.bop .And [(.cmp .Eq (.bin .Mod (.var 22) (.const (.int (3)))) (.const (.int (2)))), (.cmp .Gt (.idx (.var 25) (.const (.int (1)))) (.const (.int (1))))]) [.assign 27 (.bin .Add (.tup [(.const (.int (1)))]) (.bin .Mult (.tup [(.const (.int (0)))]) (.bin .Sub (.idx (.var 25) (.const (.int (1)))) (.const (.int (1)))))), .assign 37 (.bin .Mult (.tup [(.const (.int (0)))]) (.idx (.var 25) (.const (.int (0))))), .assign 38 (.tup [(.const (.str (Str.ofString "put"))), (.bin .Sub (.idx (.var 25) (.const (.int (1)))) (.const (.int (1)))), (.tup [(.const (.int (2))), (.bin .Mult (.tup [(.const (.int (1)))]) (.idx (.var 25) (.const (.int (0))))), (.rev (.var 27))])]), .assign 34 (.idx (.lst [(.tup [(.var 38)]), (.tup [(.tup [(.const (.str (Str.ofString "stop"))), (.const (.str (Str.ofString "later")))])])]) (.prim .int [(.cmp .Eq (.bin .Mod (.bin .FloorDiv (.var 22) (.const (.int (54)))) (.const (.int (4)))) (.const (.int (1))))])), .assign 39 (.tup [(.const (.str (Str.ofString "ask"))), (.tup [(.neg (.const (.int (3)))), (.var 37), (.var 27)]), (.var 34), (.tup [])]), .assign 36 (.tup [(.tup [(.const (.str (Str.ofString "times"))), (.bin .Mod (.bin .FloorDiv (.var 22) (.const (.int (6)))) (.const (.int (9)))), (.tup [(.tup [(.const (.str (Str.ofString "put"))), (.const (.int (0))), (.tup [(.const (.int (1))), (.var 37), (.var 27)])]), (.var 39)])])])] [],
  .forr (.one 17) .range1 [(.bin .Add (.const (.int (1))) (.bin .Mod (.bin .FloorDiv (.call 13 [(.var 16), (.bin .Add (.var 35) (.const (.int (1))))]) (.const (.int (5)))) (.const (.int (2)))))] [.assign 36 (.bin .Add (.var 36) (.tup [(.call 19 [(.var 16), (.var 30), (.const (.int (2))), (.var 25), (.var 21)])]))],
  .assign 33 (.call 17 [(.bin .FloorDiv (.call 13 [(.var 16), (.bin .Add (.var 35) (.const (.int (1))))]) (.const (.int (9)))), (.var 25), (.var 21)]),
  .ret (.tup [(.var 21), (.idx (.var 25) (.const (.int (1)))), (.bin .Add (.var 36) (.tup [(.tup [(.const (.str (Str.ofString "tell"))), (.var 33)])]))])]
noncomputable def c__law_weight : List CS := [.assign 40 (.const (.int (0))),
  .forr (.one 41) .seq [(.var 36)] [.assign 40 (.bin .Add (.var 40) (.const (.int (1)))), .ite (.cmp .Eq (.idx (.var 41) (.const (.int (0)))) (.const (.str (Str.ofString "ask")))) [.assign 40 (.bin .Add (.bin .Add (.var 40) (.call 22 [(.idx (.var 41) (.const (.int (2))))])) (.call 22 [(.idx (.var 41) (.const (.int (3))))]))] [], .ite (.cmp .Eq (.idx (.var 41) (.const (.int (0)))) (.const (.str (Str.ofString "times")))) [.assign 40 (.bin .Add (.var 40) (.bin .Mult (.idx (.var 41) (.const (.int (1)))) (.call 22 [(.idx (.var 41) (.const (.int (2))))])))] []],
  .ret (.var 40)]
noncomputable def c__law_depth : List CS := [.assign 42 (.const (.int (0))),
  .forr (.one 41) .seq [(.var 36)] [.forr (.one 43) .seq [(.slice (.var 41) (.const (.int (2))) (.const .none))] [.ite (.cmp .In (.idx (.var 41) (.const (.int (0)))) (.tup [(.const (.str (Str.ofString "ask"))), (.const (.str (Str.ofString "times")))])) [.assign 42 (.prim .max [(.var 42), (.call 23 [(.var 43)])])] []]],
  .ret (.bin .Add (.var 42) (.const (.int (1))))]
noncomputable def c__law_told : List CS := [.tryy true 12 [(.var 44)] 33 [.assign 45 (.bin .Add (.bin .Mult (.const (.str (Str.ofString "bad"))) (.prim .int [(.isexc (.var 33) [1])])) (.bin .Mult (.const (.str (Str.ofString "great"))) (.prim .int [(.isexc (.var 33) [2])]))), .assign 45 (.bin .Add (.bin .Add (.var 45) (.bin .Mult (.const (.str (Str.ofString "inputs"))) (.prim .int [(.isexc (.var 33) [3])]))) (.bin .Mult (.const (.str (Str.ofString "many"))) (.prim .int [(.isexc (.var 33) [4])]))), .ret (.bin .Mult (.var 45) (.prim .int [(.isexc (.var 33) [99])]))]]
noncomputable def c__law_no_expression : List CS := [.assign 20 (.prim .len [(.idx (.var 46) (.const (.int (0))))]),
  .assign 47 (.tup [(.const (.int (1))), (.bin .Mult (.tup [(.const (.int (0)))]) (.var 20)), (.bin .Mult (.tup [(.const (.int (0)))]) (.idx (.var 46) (.const (.int (1)))))]),
  .assign 44 (.idx (.lst [(.const (.bool true)), (.const .none), (.const (.str (Str.ofString "1"))), (.lst [(.const (.int (0)))]), (.tup [(.const (.int (0)))])]) (.bin .Mod (.bin .FloorDiv (.var 18) (.const (.int (15)))) (.const (.int (5))))),
  .newcell 30 (.bin .Mod (.bin .FloorDiv (.var 18) (.const (.int (75)))) (.bin .Add (.var 20) (.idx (.var 46) (.const (.int (1)))))),
  .assign 48 (.bin .Add (.bin .Add (.bin .Mult (.tup [(.const (.int (0)))]) (.var 30)) (.tup [(.var 44)])) (.bin .Mult (.tup [(.const (.int (0)))]) (.bin .Sub (.bin .Sub (.bin .Add (.var 20) (.idx (.var 46) (.const (.int (1))))) (.const (.int (1)))) (.var 30)))),
  .assign 49 (.tup [(.const (.int (1))), (.slice (.var 48) (.const .none) (.var 20)), (.slice (.var 48) (.var 20) (.const .none))]),
  .newcell 50 (.lst [(.prim .list [(.var 47)]), (.slice (.var 47) (.const .none) (.const (.int (2)))), (.var 49), (.bin .Add (.tup [(.var 44)]) (.slice (.var 47) (.const (.int (1))) (.const .none))), (.var 49), (.var 49)]),
  .newcell 50 (.bin .Add (.var 50) (.lst [(.tup [(.const (.int (1))), (.bin .Mult (.tup [(.const (.int (0)))]) (.bin .Add (.var 20) (.const (.int (1))))), (.idx (.var 47) (.const (.int (2))))]), (.tup [(.const (.int (1))), (.bin .Mult (.lst [(.const (.int (0)))]) (.var 20)), (.idx (.var 47) (.const (.int (2))))]), (.tup [(.const (.int (1))), (.idx (.var 47) (.const (.int (1)))), (.bin .Add (.idx (.var 47) (.const (.int (2)))) (.tup [(.const (.int (0)))]))])])),
  .append 50 (.tup [(.const (.int (1))), (.idx (.var 47) (.const (.int (1)))), (.slice (.idx (.var 47) (.const (.int (2)))) (.const (.int (1))) (.const .none))]),
  .ret (.idx (.bin .Add (.var 50) (.lst [(.var 49), (.const .none), (.tup [(.const (.int (1))), (.idx (.var 47) (.const (.int (1)))), (.bin .Mult (.lst [(.const (.int (0)))]) (.idx (.var 46) (.const (.int (1)))))]), (.bin .Add (.var 47) (.tup [(.const (.int (1)))])), (.const (.int (5)))])) (.bin .Mod (.var 18) (.const (.int (15)))))]
noncomputable def c__law_no_statement : List CS := [.assign 47 (.tup [(.const (.int (1))), (.bin .Mult (.tup [(.const (.int (0)))]) (.prim .len [(.idx (.var 46) (.const (.int (0))))])), (.bin .Mult (.tup [(.const (.int (0)))]) (.idx (.var 46) (.const (.int (1)))))]),
  .assign 49 (.call 25 [(.var 46), (.bin .FloorDiv (.var 18) (.const (.int (50))))]),
  .assign 36 (.tup [(.tup [(.const (.str (Str.ofString "put"))), (.const (.int (0))), (.var 47)])]),
  .newcell 50 (.lst [(.tup [(.const (.str (Str.ofString "put"))), (.idx (.var 46) (.const (.int (1)))), (.var 47)]), (.tup [(.const (.str (Str.ofString "put"))), (.neg (.const (.int (1)))), (.var 47)]), (.tup [(.const (.str (Str.ofString "put"))), (.const (.bool true)), (.var 47)]), (.tup [(.const (.str (Str.ofString "put"))), (.const (.int (0))), (.var 49)]), (.tup [(.const (.str (Str.ofString "put"))), (.const (.int (0)))])]),
  .newcell 50 (.bin .Add (.var 50) (.lst [(.tup [(.const (.str (Str.ofString "ask"))), (.var 47), (.var 36)]), (.tup [(.const (.str (Str.ofString "ask"))), (.var 49), (.var 36), (.var 36)]), (.tup [(.const (.str (Str.ofString "ask"))), (.var 47), (.prim .list [(.var 36)]), (.var 36)]), (.tup [(.const (.str (Str.ofString "tell"))), (.var 49)])])),
  .newcell 50 (.bin .Add (.var 50) (.lst [(.tup [(.const (.str (Str.ofString "ask"))), (.var 47), (.var 36), (.bin .Add (.var 36) (.tup [(.var 49)]))]), (.tup [(.const (.str (Str.ofString "times"))), (.const (.int (9))), (.var 36)]), (.tup [(.const (.str (Str.ofString "times"))), (.neg (.const (.int (1)))), (.var 36)]), (.tup [(.const (.str (Str.ofString "times"))), (.const (.bool true)), (.var 36)])])),
  .newcell 50 (.bin .Add (.var 50) (.lst [(.tup [(.const (.str (Str.ofString "times"))), (.const (.int (2))), (.bin .Add (.var 36) (.tup [(.const (.int (5)))]))]), (.tup [(.const (.str (Str.ofString "stop"))), (.const (.str (Str.ofString "")))]), (.tup [(.const (.str (Str.ofString "stop"))), (.const (.str (Str.ofString "abcdefghi")))]), (.tup [(.const (.str (Str.ofString "stop"))), (.const (.str (Str.ofString "aB")))]), (.tup [(.const (.str (Str.ofString "stop"))), (.const (.int (5)))])])),
  .assign 51 (.idx (.const (.str (Str.ofString "abcdefghijklmnopqrstuvwxyz"))) (.bin .Mod (.bin .FloorDiv (.var 18) (.const (.int (7)))) (.const (.int (26))))),
  .newcell 50 (.bin .Add (.var 50) (.lst [(.tup [(.const (.str (Str.ofString "say"))), (.var 47)]), (.lst [(.const (.str (Str.ofString "tell"))), (.var 47)]), (.tup [(.const (.str (Str.ofString "stop"))), (.bin .Add (.var 51) (.const (.str (Str.ofString "1"))))]), (.tup [(.const (.str (Str.ofString "stop"))), (.bin .Add (.const (.str (Str.ofString " "))) (.var 51))])])),
  .newcell 50 (.bin .Add (.var 50) (.lst [(.tup [(.const (.str (Str.ofString "stop"))), (.bin .Add (.bin .Add (.var 51) (.const (.str (Str.ofString "-")))) (.var 51))]), (.tup [(.const (.str (Str.ofString "stop"))), (.bin .Mult (.var 51) (.const (.int (9))))]), (.tup [(.const (.str (Str.ofString "stop"))), (.var 51), (.var 51)])])),
  .newcell 50 (.bin .Add (.var 50) (.lst [(.tup [(.const (.str (Str.ofString "put"))), (.const (.int (0))), (.var 47), (.var 47)]), (.tup [(.const (.str (Str.ofString "ask"))), (.var 47), (.var 36), (.var 36), (.var 36)]), (.tup [(.const (.str (Str.ofString "times"))), (.const (.int (2))), (.var 36), (.var 36)])])),
  .newcell 50 (.bin .Add (.var 50) (.lst [(.tup [(.const (.str (Str.ofString "tell"))), (.var 47), (.var 47)]), (.tup [(.const (.str (Str.ofString "times"))), (.const (.int (2))), (.prim .list [(.var 36)])]), (.tup [(.const (.str (Str.ofString "ask"))), (.var 47), (.var 36), (.prim .list [(.var 36)])])])),
  .newcell 50 (.bin .Add (.var 50) (.lst [(.tup [(.const (.str (Str.ofString "times"))), (.const .none), (.var 36)]), (.tup [(.const (.str (Str.ofString "put"))), (.const .none), (.var 47)]), (.tup [(.const (.str (Str.ofString "ask"))), (.var 47), (.const .none), (.var 36)]), (.tup [(.const (.str (Str.ofString "times"))), (.const (.int (2))), (.const .none)])])),
  .newcell 50 (.bin .Add (.var 50) (.lst [(.tup [(.const (.str (Str.ofString "tell")))]), (.tup [(.const (.str (Str.ofString "stop")))]), (.tup [(.const (.str (Str.ofString "times"))), (.const (.int (2)))]), (.tup [(.const (.str (Str.ofString "times")))]), (.tup [(.const (.str (Str.ofString "put")))]), (.tup [(.const (.str (Str.ofString "ask")))]), (.tup [(.const (.str (Str.ofString "ask"))), (.var 47)])])),
  .newcell 50 (.bin .Add (.var 50) (.lst [(.tup [(.const (.str (Str.ofString "stop"))), (.lst [(.var 51)])]), (.tup [(.const (.str (Str.ofString "stop"))), (.tup [(.var 51), (.var 51)])]), (.tup [(.const (.str (Str.ofString "stop"))), (.const .none)])])),
  .ret (.idx (.bin .Add (.var 50) (.lst [(.tup [(.lst [(.const (.str (Str.ofString "tell")))]), (.var 47)]), (.tup [(.const .none), (.var 47)]), (.tup []), (.const (.str (Str.ofString "tell"))), (.const (.int (5)))])) (.bin .Mod (.var 18) (.const (.int (50)))))]
noncomputable def c__law_spoilt : List CS := [.unpack [21, 52, 36] (.var 46),
  .assign 22 (.bin .FloorDiv (.var 18) (.const (.int (4)))),
  .ite (.cmp .Eq (.bin .Mod (.var 18) (.const (.int (8)))) (.const (.int (0)))) [.assign 53 (.idx (.lst [(.tup [(.const (.str (Str.ofString "tell")))]), (.tup [(.const (.str (Str.ofString "put"))), (.const (.int (0)))])]) (.bin .Mod (.bin .FloorDiv (.var 22) (.const (.int (2)))) (.const (.int (2))))), .ret (.tup [(.var 21), (.var 52), (.bin .Add (.bin .Add (.slice (.var 36) (.const .none) (.const (.int (1)))) (.tup [(.bin .Add (.var 53) (.tup [(.call 25 [(.var 46), (.bin .FloorDiv (.var 22) (.const (.int (4))))])]))])) (.slice (.var 36) (.const (.int (1))) (.const .none)))])] [],
  .ite (.cmp .Eq (.bin .Mod (.var 18) (.const (.int (4)))) (.const (.int (0)))) [.assign 22 (.bin .FloorDiv (.var 22) (.const (.int (2)))), .assign 49 (.lst [(.tup [(.const (.int (1))), (.const (.int (0)))]), (.tup [(.const (.int (0))), (.const (.int (21)))]), (.tup [(.bin .Mod (.bin .FloorDiv (.var 22) (.const (.int (36)))) (.const (.int (5)))), (.neg (.const (.int (1))))]), (.lst [(.const (.int (0))), (.const (.int (1)))]), (.tup [(.const (.int (0))), (.const (.bool true))]), (.tup [(.const (.int (0))), (.const .none)]), (.tup [(.const (.int (0))), (.const (.int (1))), (.const (.int (2)))]), (.tup [(.bin .Pow (.const (.int (10))) (.const (.int (20)))), (.const (.int (0)))])]), .assign 49 (.idx (.bin .Add (.var 49) (.lst [(.tup [(.const (.bool true)), (.const (.int (3)))]), (.tup [(.const .none), (.const (.int (3)))]), (.tup [(.const (.int (0)))]), (.tup [(.lst [(.const (.int (0)))]), (.const (.int (3)))]), (.const .none), (.const (.int (5))), (.const (.str (Str.ofString "01")))])) (.bin .Mod (.var 22) (.const (.int (15))))), .newcell 30 (.bin .Mod (.bin .FloorDiv (.var 22) (.const (.int (15)))) (.prim .max [(.const (.int (1))), (.prim .len [(.var 21)])])), .ret (.tup [(.bin .Add (.bin .Add (.slice (.var 21) (.const .none) (.var 30)) (.tup [(.var 49)])) (.slice (.var 21) (.bin .Add (.var 30) (.const (.int (1)))) (.const .none))), (.var 52), (.var 36)])] [],
  .ite (.cmp .Eq (.bin .Mod (.var 18) (.const (.int (4)))) (.const (.int (1)))) [.newcell 50 (.lst [(.tup [(.var 21), (.const (.int (0))), (.var 36)]), (.tup [(.var 21), (.const (.int (7))), (.var 36)]), (.tup [(.var 21), (.const (.bool true)), (.var 36)]), (.tup [(.prim .list [(.var 21)]), (.var 52), (.var 36)])]), .newcell 50 (.bin .Add (.var 50) (.lst [(.tup [(.var 21), (.var 52)]), (.tup [(.tup []), (.const .none), (.var 36)]), (.lst [(.var 21), (.var 52), (.var 36)]), (.tup [(.var 21), (.var 52), (.prim .list [(.var 36)])])])), .assign 54 (.tup [(.const (.str (Str.ofString "tell"))), (.tup [(.const (.int (0))), (.bin .Mult (.tup [(.const (.int (1)))]) (.const (.int (4)))), (.tup [(.const (.int (0)))])])]), .newcell 50 (.bin .Add (.var 50) (.lst [(.const .none), (.tup [(.var 21), (.var 52), (.const .none)]), (.tup [(.bin .Mult (.tup [(.tup [(.const (.int (0))), (.const (.int (1)))])]) (.const (.int (4)))), (.const (.int (1))), (.tup [(.var 54)])]), (.tup [(.tup []), (.const (.int (0))), (.tup [])])])), .newcell 50 (.bin .Add (.var 50) (.lst [(.tup [(.tup []), (.const (.int (7))), (.tup [(.tup [(.const (.str (Str.ofString "tell"))), (.tup [(.const (.int (0))), (.tup []), (.bin .Mult (.tup [(.const (.int (0)))]) (.const (.int (7))))])])])]), (.tup [(.bin .Mult (.tup [(.tup [(.const (.int (0))), (.const (.int (1)))])]) (.const (.int (4)))), (.const (.int (1))), (.tup [])]), (.tup [(.var 21), (.var 52), (.var 36), (.const (.int (1)))])])), .ret (.idx (.bin .Add (.var 50) (.lst [(.tup []), (.tup [(.var 21), (.const (.str (Str.ofString "1"))), (.var 36)]), (.tup [(.const .none), (.var 52), (.var 36)]), (.const (.int (5)))])) (.bin .Mod (.var 22) (.const (.int (19)))))] [],
  .newcell 30 (.bin .Mod (.var 22) (.bin .Add (.prim .len [(.var 36)]) (.const (.int (1))))),
  .assign 49 (.call 26 [(.var 46), (.bin .FloorDiv (.var 22) (.const (.int (5))))]),
  .ite (.cmp .Eq (.bin .Mod (.var 18) (.const (.int (4)))) (.const (.int (2)))) [.ret (.tup [(.var 21), (.var 52), (.bin .Add (.bin .Add (.slice (.var 36) (.const .none) (.var 30)) (.tup [(.var 49)])) (.slice (.var 36) (.var 30) (.const .none)))])] [],
  .assign 55 (.tup [(.const (.int (0))), (.bin .Mult (.tup [(.const (.int (0)))]) (.prim .len [(.var 21)])), (.bin .Mult (.tup [(.const (.int (0)))]) (.var 52))]),
  .ret (.tup [(.var 21), (.var 52), (.bin .Add (.bin .Add (.slice (.var 36) (.const .none) (.var 30)) (.tup [(.tup [(.const (.str (Str.ofString "ask"))), (.var 55), (.tup [(.tup [(.const (.str (Str.ofString "times"))), (.const (.int (0))), (.tup [(.var 49)])])]), (.tup [])])])) (.slice (.var 36) (.var 30) (.const .none)))])]
noncomputable def c_law : List CS := [.assign 46 (.call 21 [(.var 16), (.const (.int (0)))]),
  .assign 36 (.idx (.var 46) (.const (.int (2)))),
  .ite (.cmp .Eq (.bin .Mod (.call 13 [(.var 16), (.const (.int (41)))]) (.const (.int (4)))) (.const (.int (1)))) [.assign 55 (.tup [(.const (.int (0))), (.bin .Mult (.tup [(.const (.int (0)))]) (.prim .len [(.idx (.var 46) (.const (.int (0))))])), (.bin .Mult (.tup [(.const (.int (0)))]) (.idx (.var 46) (.const (.int (1)))))]), .forr (.one 17) .range1 [(.bin .Mod (.bin .FloorDiv (.call 13 [(.var 16), (.const (.int (41)))]) (.const (.int (4)))) (.const (.int (9))))] [.assign 20 (.bin .Mod (.bin .FloorDiv (.call 14 [(.bin .FloorDiv (.call 13 [(.var 16), (.const (.int (41)))]) (.const (.int (36)))), (.var 17)]) (.const (.int (5)))) (.const (.int (5)))), .assign 36 (.idx (.lst [(.tup [(.tup [(.const (.str (Str.ofString "times"))), (.var 20), (.var 36)])]), (.tup [(.tup [(.const (.str (Str.ofString "ask"))), (.var 55), (.tup []), (.var 36)])]), (.tup [(.tup [(.const (.str (Str.ofString "ask"))), (.var 55), (.var 36), (.slice (.var 36) (.const .none) (.const (.int (1))))])])]) (.bin .Mod (.var 20) (.const (.int (3)))))]] [],
  .ite (.cmp .Eq (.bin .Mod (.call 13 [(.var 16), (.const (.int (41)))]) (.const (.int (16)))) (.const (.int (3)))) [.assign 38 (.tup [(.const (.str (Str.ofString "put"))), (.const (.int (0))), (.tup [(.const (.int (1))), (.bin .Mult (.tup [(.const (.int (0)))]) (.prim .len [(.idx (.var 46) (.const (.int (0))))])), (.bin .Mult (.tup [(.const (.int (0)))]) (.idx (.var 46) (.const (.int (1)))))])]), .assign 36 (.bin .Add (.tup [(.tup [(.const (.str (Str.ofString "times"))), (.const (.int (8))), (.bin .Mult (.tup [(.var 38)]) (.const (.int (24))))])]) (.bin .Mult (.tup [(.var 38)]) (.bin .Add (.const (.int (6))) (.bin .Mod (.bin .FloorDiv (.call 13 [(.var 16), (.const (.int (41)))]) (.const (.int (16)))) (.const (.int (4)))))))] [],
  .assign 47 (.tup [(.idx (.var 46) (.const (.int (0)))), (.idx (.var 46) (.const (.int (1)))), (.var 36)]),
  .ite (.bop .Or [(.nott (.call 15 [(.call 11 [(.var 36)])])), (.cmp .NotEq (.call 11 [(.var 36)]) (.call 22 [(.var 36)]))]) [.ret (.const (.bool false))] [],
  .ite (.bop .Or [(.nott (.call 15 [(.call 10 [(.var 36)])])), (.cmp .NotEq (.call 10 [(.var 36)]) (.call 23 [(.var 36)]))]) [.ret (.const (.bool false))] [],
  .assign 56 (.lst [(.const .none)]),
  .ite (.bop .Or [(.cmp .Gt (.call 22 [(.var 36)]) (.const (.int (200)))), (.cmp .Gt (.call 23 [(.var 36)]) (.const (.int (6))))]) [.assign 56 (.const (.str (Str.ofString "great")))] [],
  .ite (.bop .Or [(.cmp .NotEq (.call 24 [(.var 47)]) (.var 56)), (.cmp .NotEq (.call 11 [(.tup [])]) (.const (.int (0)))), (.cmp .NotEq (.call 10 [(.tup [])]) (.const (.int (1))))]) [.ret (.const (.bool false))] [],
  .forr (.one 17) .range1 [(.const (.int (8)))] [.ite (.cmp .NotEq (.call 24 [(.call 27 [(.var 47), (.call 14 [(.call 13 [(.var 16), (.const (.int (42)))]), (.var 17)])])]) (.const (.str (Str.ofString "bad")))) [.ret (.const (.bool false))] []],
  .ret (.const (.bool true))]
noncomputable def tab2 : List (List Nat × List CS) := [([0], c_is_whole), ([0, 1, 2], c_is_among), ([0, 3], c_are_wholes), ([0], c_is_range), ([0, 5, 6], c_is_expression), ([0], c_is_word), ([0, 5, 6], c_is_statement), ([9], c_inner_rows), ([0, 5, 6], c_are_rows), ([0], c_is_program), ([11], c_depth), ([11], c_weight), ([0], c_need_program), ([16, 17], c__law_cell_at), ([18, 17], c__law_mixed), ([19], c__law_whole), ([18], c__law_ranges), ([18, 25, 21], c__law_expression), ([18], c__law_word_by), ([16, 30, 31, 25, 21], c__law_statement), ([16, 30, 31, 25, 21], c__law_rows), ([16, 35], c__law_program), ([36], c__law_weight), ([36], c__law_depth), ([44], c__law_told), ([46, 18], c__law_no_expression), ([46, 18], c__law_no_statement), ([46, 18], c__law_spoilt), ([16], c_law)]
theorem forGo_cnt {t : Tgt} {body : Rho → Store → Option (Fl × Store)} (P : Nat → Rho → Store → Prop) : ∀ (ds : List PyData) (i : Nat) (ρ : Rho) (σ : Store), (∀ j d, ds[j]? = some d → ∀ ρ σ, P (i + j) ρ σ → ∃ ρ₁ ρ₂ σ₂, bindT t d ρ = some ρ₁ ∧ body ρ₁ σ = some (.next ρ₂, σ₂) ∧ P (i + j + 1) ρ₂ σ₂) → P i ρ σ → ∃ ρ' σ', forGo t body ds ρ σ = some (.next ρ', σ') ∧ P (i + ds.length) ρ' σ' := by
  intro ds
  induction ds with
  | nil => intro i ρ σ _ h; exact ⟨ρ, σ, rfl, h⟩
  | cons d ds ih =>
    intro i ρ σ h hp
    obtain ⟨ρ₁, ρ₂, σ₂, h1, h2, h3⟩ := h 0 d rfl ρ σ hp
    obtain ⟨ρ', σ', h4, h5⟩ := ih (i + 1) ρ₂ σ₂ (fun j e he ρ σ hP => by
      have := h (j + 1) e (by simpa using he) ρ σ (by rw [show i + (j + 1) = i + 1 + j by omega]; exact hP)
      rw [show i + (j + 1) + 1 = i + 1 + j + 1 by omega] at this
      exact this) h3
    exact ⟨ρ', σ', by rw [x_for1, h1, Option.bind_some, h2]; exact h4, by rw [List.length_cons, show i + (ds.length + 1) = i + 1 + ds.length by omega]; exact h5⟩
theorem r_forS {N : Nat} {Φ : Phi} {ρ ρ' : Rho} {σ σ' : Store} {t : Tgt} {k : ItK} {its : List CE} {body cs : List CS} {vs : List AV} {ds xs : List PyData} (h1 : evEs Φ its ρ σ = some (vs, σ)) (h2 : liveOf σ vs = []) (h3 : rdAll σ vs = some ds) (h4 : itemsD k ds = some xs)
    (h5 : forGo t (fun ρ' σ' => evSs N Φ body ρ' σ') xs ρ σ = some (.next ρ', σ')) : evSs N Φ (.forr t k its body :: cs) ρ σ = evSs N Φ cs ρ' σ' := by
  refine r_next ?_
  simp only [es_forr, h1, h2, h3, h4, Option.bind_some, flagAll, h5]
theorem r_newcell {N : Nat} {Φ : Phi} {ρ : Rho} {σ σ₁ : Store} {i : Nat} {e : CE} {cs : List CS} {ds : List PyData} (h : evE Φ e ρ σ = some (.fresh ds, σ₁)) : evSs N Φ (.newcell i e :: cs) ρ σ = evSs N Φ cs (ρ.set i (.cell σ₁.length)) (σ₁ ++ [(.live, ds)]) := by rw [es_cons, es_newcell, h]; rfl
theorem r_newdat {N : Nat} {Φ : Phi} {ρ : Rho} {σ σ₁ : Store} {i : Nat} {e : CE} {cs : List CS} {d : PyData} (h : evE Φ e ρ σ = some (.dat d, σ₁)) : evSs N Φ (.newcell i e :: cs) ρ σ = evSs N Φ cs (ρ.set i (.dat d)) σ₁ := by rw [es_cons, es_newcell, h]; rfl
theorem r_append {N : Nat} {Φ : Phi} {ρ : Rho} {σ : Store} {x c : Nat} {e : CE} {cs : List CS} {d : PyData} {ds : List PyData} (hx : ρ x = some (.cell c)) (h : evE Φ e ρ σ = some (.dat d, σ)) (hc : σ[c]? = some (.live, ds)) (hl : ds.length < lim) : evSs N Φ (.append x e :: cs) ρ σ = evSs N Φ cs ρ (σ.set c (.live, ds ++ [d])) := by
  rw [es_cons, es_append, show cellIn ρ x = some c by rw [cellIn, hx]; rfl, Option.bind_some, h]
  show ((liveAt σ c).bind _).bind _ = _
  rw [show liveAt σ c = some ds by rw [liveAt, hc], Option.bind_some, if_pos hl]
  rfl
theorem r_extend {N : Nat} {Φ : Phi} {ρ : Rho} {σ : Store} {x c : Nat} {e : CE} {cs : List CS} {es ds : List PyData} (hx : ρ x = some (.cell c)) (h : evE Φ e ρ σ = some (.fresh es, σ)) (hc : σ[c]? = some (.live, ds)) (hl : ds.length + es.length ≤ lim) : evSs N Φ (.extend x e :: cs) ρ σ = evSs N Φ cs ρ (σ.set c (.live, ds ++ es)) := by
  rw [es_cons, es_extend, show cellIn ρ x = some c by rw [cellIn, hx]; rfl, Option.bind_some, h]
  show ((liveAt σ c).bind _).bind _ = _
  rw [show liveAt σ c = some ds by rw [liveAt, hc], Option.bind_some, if_pos hl]
  rfl
theorem range_it {n : Nat} (hn : n < 1000) : itemsD .range1 [.int n] = some ((List.range n).map fun k => PyData.int (k : Nat)) := by
  show (if (n : Int).toNat < 1048576 then some (rangeL 0 n) else none) = _
  rw [if_pos (by omega), rangeL_nat]
theorem fmod_range (a : Int) {b : Int} (h : 0 < b) : 0 ≤ a.fmod b ∧ a.fmod b < b := ⟨Int.fmod_nonneg_of_pos a h, Int.fmod_lt_of_pos a h⟩
theorem fmod_nat (a : Int) {b : Nat} (h : 0 < b) : ∃ n : Nat, n < b ∧ a.fmod b = n := by
  obtain ⟨h0, h1⟩ := fmod_range a (b := b) (by omega)
  exact ⟨(a.fmod b).toNat, by omega, by omega⟩
noncomputable def mixed (c j : Int) : Int := (c * (48271 + 7919 * j * j + 104729 * j) + 7919 * j + 12345).fmod 2147483647
theorem s_mixed (N k : Nat) (c : Int) (j : Nat) (hj : j < 1000) (σ : Store) : tabAt tab2 N (k + 1) 14 [.dat (.int c), .dat (.int j)] σ = some (.ret (.dat (.int (mixed c j))), σ) := by
  have h1 : mulOk 7919 (j : Int) = true := mulOk_l (by decide)
  have h2 : mulOk (7919 * (j : Int)) j = true := mulOk_r (by omega)
  have h3 : mulOk 104729 (j : Int) = true := mulOk_l (by decide)
  have h5 : 7919 * (j : Int) * j ≤ 7919 * 1000 * 1000 := by
    have := Int.mul_le_mul (a := 7919 * (j : Int)) (b := j) (c := 7919 * 1000) (d := 1000) (by omega) (by omega) (by omega) (by omega)
    omega
  have h6 : 0 ≤ 7919 * (j : Int) * j := Int.mul_nonneg (by omega) (by omega)
  have h4 : mulOk c (48271 + 7919 * (j : Int) * j + 104729 * j) = true := mulOk_r (by omega)
  rw [tab_step (by rfl : tab2[14]? = some ([18, 17], c__law_mixed))]
  simp [es_nil, es_cons, es_assign, es_newcell, es_unpack, es_append, es_extend, es_insert, es_ite, es_ret, el_nil, el_cons, eb_nil, eb_cons, ev_const, ev_var, ev_bin, ev_neg, ev_nott, ev_bop, ev_cmp, ev_ite, ev_idx, ev_tup, ev_lst, ev_call, ev_prim, ev_isin, x_run, x_ba0, x_ba1, x_set, x_rdD, x_rdF, x_rdC, x_ra0, x_ra1, x_oa0, x_oa1, x_owD, x_owF, x_stD, x_stF, x_stC, x_bA, x_iA, x_tA, x_rC, x_on, x_onR, x_end, x_lvD, x_lvF, bi_add, bi_sub, bi_mod, bi_fdiv, cm_lt, cm_le, cm_gt, cm_ge, cm_eqi, cm_nei, cm_eqb, cm_neb, pi_bool, ix_t0, ix_t1, ix_t2, ix_l0, ix_l1, ix_l2, bo_or, bo_and, c__law_mixed, bi_mul h1, bi_mul h2, bi_mul h3, bi_mul h4, mixed]
noncomputable def wholeB : PyData → Bool
  | .int _ => true
  | _ => false
theorem s_whole (N k : Nat) (d : PyData) (σ : Store) : tabAt tab2 N (k + 1) 15 [.dat d] σ = some (.ret (.dat (.bool (wholeB d))), σ) := by
  rw [tab_step (by rfl : tab2[15]? = some ([19], c__law_whole))]
  refine r_runD rfl ?_
  cases d <;> rfl
noncomputable def cellAt (xs : List Int) (k : Nat) : Int := match xs[k]? with
  | some x => x + x.fmod 251 * 381840
  | none => 0
theorem s_cell_at (N k : Nat) (xs : List Int) (hx : xs.length ≤ 63) (j : Nat) (hj : j < 1000) (σ : Store) : tabAt tab2 N (k + 1) 13 [.dat (.list (xs.map .int)), .dat (.int j)] σ = some (.ret (.dat (.int (cellAt xs j))), σ) := by
  rw [tab_step (by rfl : tab2[13]? = some ([16, 17], c__law_cell_at))]
  have hp := pl_list (xs := xs.map PyData.int) (le_lim (m := 63) (by simpa using hx) (by decide))
  rw [List.length_map] at hp
  refine r_runD rfl ?_
  by_cases h : j < xs.length
  · have h1 : xs[j]? = some xs[j] := List.getElem?_eq_getElem h
    have h2 : mulOk (xs[j].fmod 251) 381840 = true := mulOk_r (by decide)
    have h3 : idxD (.list (xs.map .int)) (.int j) = some (.int xs[j]) := ix_list (by omega) (by simp [h1])
    refine r_taken (σ₁ := σ) (by simp [es_nil, es_cons, es_assign, es_newcell, es_unpack, es_append, es_extend, es_insert, es_ite, es_ret, el_nil, el_cons, eb_nil, eb_cons, ev_const, ev_var, ev_bin, ev_neg, ev_nott, ev_bop, ev_cmp, ev_ite, ev_idx, ev_tup, ev_lst, ev_call, ev_prim, ev_isin, x_run, x_ba0, x_ba1, x_set, x_rdD, x_rdF, x_rdC, x_ra0, x_ra1, x_oa0, x_oa1, x_owD, x_owF, x_stD, x_stF, x_stC, x_bA, x_iA, x_tA, x_rC, x_on, x_onR, x_end, x_lvD, x_lvF, bi_add, bi_sub, bi_mod, bi_fdiv, cm_lt, cm_le, cm_gt, cm_ge, cm_eqi, cm_nei, cm_eqb, cm_neb, pi_bool, ix_t0, ix_t1, ix_t2, ix_l0, ix_l1, ix_l2, bo_or, bo_and, hp, h]) (r_ret ?_)
    simp [es_nil, es_cons, es_assign, es_newcell, es_unpack, es_append, es_extend, es_insert, es_ite, es_ret, el_nil, el_cons, eb_nil, eb_cons, ev_const, ev_var, ev_bin, ev_neg, ev_nott, ev_bop, ev_cmp, ev_ite, ev_idx, ev_tup, ev_lst, ev_call, ev_prim, ev_isin, x_run, x_ba0, x_ba1, x_set, x_rdD, x_rdF, x_rdC, x_ra0, x_ra1, x_oa0, x_oa1, x_owD, x_owF, x_stD, x_stF, x_stC, x_bA, x_iA, x_tA, x_rC, x_on, x_onR, x_end, x_lvD, x_lvF, bi_add, bi_sub, bi_mod, bi_fdiv, cm_lt, cm_le, cm_gt, cm_ge, cm_eqi, cm_nei, cm_eqb, cm_neb, pi_bool, ix_t0, ix_t1, ix_t2, ix_l0, ix_l1, ix_l2, bo_or, bo_and, bi_mul h2, h3, cellAt, h1]
  · have h1 : xs[j]? = none := List.getElem?_eq_none (by omega)
    refine (r_skip (σ₁ := σ) (by simp [es_nil, es_cons, es_assign, es_newcell, es_unpack, es_append, es_extend, es_insert, es_ite, es_ret, el_nil, el_cons, eb_nil, eb_cons, ev_const, ev_var, ev_bin, ev_neg, ev_nott, ev_bop, ev_cmp, ev_ite, ev_idx, ev_tup, ev_lst, ev_call, ev_prim, ev_isin, x_run, x_ba0, x_ba1, x_set, x_rdD, x_rdF, x_rdC, x_ra0, x_ra1, x_oa0, x_oa1, x_owD, x_owF, x_stD, x_stF, x_stC, x_bA, x_iA, x_tA, x_rC, x_on, x_onR, x_end, x_lvD, x_lvF, bi_add, bi_sub, bi_mod, bi_fdiv, cm_lt, cm_le, cm_gt, cm_ge, cm_eqi, cm_nei, cm_eqb, cm_neb, pi_bool, ix_t0, ix_t1, ix_t2, ix_l0, ix_l1, ix_l2, bo_or, bo_and, hp, h])).trans (r_ret ?_)
    simp [es_nil, es_cons, es_assign, es_newcell, es_unpack, es_append, es_extend, es_insert, es_ite, es_ret, el_nil, el_cons, eb_nil, eb_cons, ev_const, ev_var, ev_bin, ev_neg, ev_nott, ev_bop, ev_cmp, ev_ite, ev_idx, ev_tup, ev_lst, ev_call, ev_prim, ev_isin, x_run, x_ba0, x_ba1, x_set, x_rdD, x_rdF, x_rdC, x_ra0, x_ra1, x_oa0, x_oa1, x_owD, x_owF, x_stD, x_stF, x_stC, x_bA, x_iA, x_tA, x_rC, x_on, x_onR, x_end, x_lvD, x_lvF, bi_add, bi_sub, bi_mod, bi_fdiv, cm_lt, cm_le, cm_gt, cm_ge, cm_eqi, cm_nei, cm_eqb, cm_neb, pi_bool, ix_t0, ix_t1, ix_t2, ix_l0, ix_l1, ix_l2, bo_or, bo_and, cellAt, h1]
noncomputable def pairD (r : Int × Int) : PyData := .tuple [.int r.1, .int r.2]
noncomputable def okR (r : Int × Int) : Prop := (r.2 - r.1 + 1).toNat ≤ 21 ∧ r.1 ≤ r.2
theorem ev_and2 {Φ : Phi} {ρ : Rho} {σ : Store} {a b : CE} {p q : Bool} (h1 : evE Φ a ρ σ = some (.dat (.bool p), σ)) (h2 : p = true → evE Φ b ρ σ = some (.dat (.bool q), σ)) : evE Φ (.bop .And [a, b]) ρ σ = some (.dat (.bool (p && q)), σ) := by
  cases p
  · simp [es_nil, es_cons, es_assign, es_newcell, es_unpack, es_append, es_extend, es_insert, es_ite, es_ret, el_nil, el_cons, eb_nil, eb_cons, ev_const, ev_var, ev_bin, ev_neg, ev_nott, ev_bop, ev_cmp, ev_ite, ev_idx, ev_tup, ev_lst, ev_call, ev_prim, ev_isin, x_run, x_ba0, x_ba1, x_set, x_rdD, x_rdF, x_rdC, x_ra0, x_ra1, x_oa0, x_oa1, x_owD, x_owF, x_stD, x_stF, x_stC, x_bA, x_iA, x_tA, x_rC, x_on, x_onR, x_end, x_lvD, x_lvF, bi_add, bi_sub, bi_mod, bi_fdiv, cm_lt, cm_le, cm_gt, cm_ge, cm_eqi, cm_nei, cm_eqb, cm_neb, pi_bool, ix_t0, ix_t1, ix_t2, ix_l0, ix_l1, ix_l2, bo_or, bo_and, h1]
  · cases q <;> simp [es_nil, es_cons, es_assign, es_newcell, es_unpack, es_append, es_extend, es_insert, es_ite, es_ret, el_nil, el_cons, eb_nil, eb_cons, ev_const, ev_var, ev_bin, ev_neg, ev_nott, ev_bop, ev_cmp, ev_ite, ev_idx, ev_tup, ev_lst, ev_call, ev_prim, ev_isin, x_run, x_ba0, x_ba1, x_set, x_rdD, x_rdF, x_rdC, x_ra0, x_ra1, x_oa0, x_oa1, x_owD, x_owF, x_stD, x_stF, x_stC, x_bA, x_iA, x_tA, x_rC, x_on, x_onR, x_end, x_lvD, x_lvF, bi_add, bi_sub, bi_mod, bi_fdiv, cm_lt, cm_le, cm_gt, cm_ge, cm_eqi, cm_nei, cm_eqb, cm_neb, pi_bool, ix_t0, ix_t1, ix_t2, ix_l0, ix_l1, ix_l2, bo_or, bo_and, h1, h2 rfl]
theorem ev_or2 {Φ : Phi} {ρ : Rho} {σ : Store} {a b : CE} {p q : Bool} (h1 : evE Φ a ρ σ = some (.dat (.bool p), σ)) (h2 : p = false → evE Φ b ρ σ = some (.dat (.bool q), σ)) : evE Φ (.bop .Or [a, b]) ρ σ = some (.dat (.bool (p || q)), σ) := by
  cases p
  · cases q <;> simp [es_nil, es_cons, es_assign, es_newcell, es_unpack, es_append, es_extend, es_insert, es_ite, es_ret, el_nil, el_cons, eb_nil, eb_cons, ev_const, ev_var, ev_bin, ev_neg, ev_nott, ev_bop, ev_cmp, ev_ite, ev_idx, ev_tup, ev_lst, ev_call, ev_prim, ev_isin, x_run, x_ba0, x_ba1, x_set, x_rdD, x_rdF, x_rdC, x_ra0, x_ra1, x_oa0, x_oa1, x_owD, x_owF, x_stD, x_stF, x_stC, x_bA, x_iA, x_tA, x_rC, x_on, x_onR, x_end, x_lvD, x_lvF, bi_add, bi_sub, bi_mod, bi_fdiv, cm_lt, cm_le, cm_gt, cm_ge, cm_eqi, cm_nei, cm_eqb, cm_neb, pi_bool, ix_t0, ix_t1, ix_t2, ix_l0, ix_l1, ix_l2, bo_or, bo_and, h1, h2 rfl]
  · simp [es_nil, es_cons, es_assign, es_newcell, es_unpack, es_append, es_extend, es_insert, es_ite, es_ret, el_nil, el_cons, eb_nil, eb_cons, ev_const, ev_var, ev_bin, ev_neg, ev_nott, ev_bop, ev_cmp, ev_ite, ev_idx, ev_tup, ev_lst, ev_call, ev_prim, ev_isin, x_run, x_ba0, x_ba1, x_set, x_rdD, x_rdF, x_rdC, x_ra0, x_ra1, x_oa0, x_oa1, x_owD, x_owF, x_stD, x_stF, x_stC, x_bA, x_iA, x_tA, x_rC, x_on, x_onR, x_end, x_lvD, x_lvF, bi_add, bi_sub, bi_mod, bi_fdiv, cm_lt, cm_le, cm_gt, cm_ge, cm_eqi, cm_nei, cm_eqb, cm_neb, pi_bool, ix_t0, ix_t1, ix_t2, ix_l0, ix_l1, ix_l2, bo_or, bo_and, h1]
theorem s_is_whole (N k : Nat) (d : PyData) (σ : Store) : tabAt tab2 N (k + 1) 0 [.dat d] σ = some (.ret (.dat (.bool (wholeB d))), σ) := by
  rw [tab_step (by rfl : tab2[0]? = some ([0], c_is_whole))]
  refine r_runD rfl ?_
  cases d <;> rfl
noncomputable def amongB (d : PyData) (r : Int × Int) : Bool := match d with
  | .int x => decide (r.1 ≤ x) && decide (x ≤ r.2)
  | _ => false
theorem s_is_among (N k : Nat) (d : PyData) (r : Int × Int) (σ : Store) : tabAt tab2 N (k + 2) 1 [.dat d, .dat (.int r.1), .dat (.int r.2)] σ = some (.ret (.dat (.bool (amongB d r))), σ) := by
  rw [tab_step (by rfl : tab2[1]? = some ([0, 1, 2], c_is_among))]
  refine r_runD rfl (r_ret ?_)
  have h0 := s_is_whole N k d σ
  have hcall : evE (tabAt tab2 N (k + 1)) (.call 0 [(.var 0)]) (Rho.set (Rho.set (Rho.set (fun _ => none) 0 (.dat d)) 1 (.dat (.int r.1))) 2 (.dat (.int r.2))) σ = some (.dat (.bool (wholeB d)), σ) := by simp [es_nil, es_cons, es_assign, es_newcell, es_unpack, es_append, es_extend, es_insert, es_ite, es_ret, el_nil, el_cons, eb_nil, eb_cons, ev_const, ev_var, ev_bin, ev_neg, ev_nott, ev_bop, ev_cmp, ev_ite, ev_idx, ev_tup, ev_lst, ev_call, ev_prim, ev_isin, x_run, x_ba0, x_ba1, x_set, x_rdD, x_rdF, x_rdC, x_ra0, x_ra1, x_oa0, x_oa1, x_owD, x_owF, x_stD, x_stF, x_stC, x_bA, x_iA, x_tA, x_rC, x_on, x_onR, x_end, x_lvD, x_lvF, bi_add, bi_sub, bi_mod, bi_fdiv, cm_lt, cm_le, cm_gt, cm_ge, cm_eqi, cm_nei, cm_eqb, cm_neb, pi_bool, ix_t0, ix_t1, ix_t2, ix_l0, ix_l1, ix_l2, bo_or, bo_and, h0]
  cases d with
  | int x =>
    have := ev_and2 (q := amongB (.int x) r) (b := (.cmp2 .LtE .LtE (.var 1) (.var 0) (.var 2))) hcall (fun _ => by
      by_cases h1 : r.1 ≤ x <;> simp [es_nil, es_cons, es_assign, es_newcell, es_unpack, es_append, es_extend, es_insert, es_ite, es_ret, el_nil, el_cons, eb_nil, eb_cons, ev_const, ev_var, ev_bin, ev_neg, ev_nott, ev_bop, ev_cmp, ev_ite, ev_idx, ev_tup, ev_lst, ev_call, ev_prim, ev_isin, x_run, x_ba0, x_ba1, x_set, x_rdD, x_rdF, x_rdC, x_ra0, x_ra1, x_oa0, x_oa1, x_owD, x_owF, x_stD, x_stF, x_stC, x_bA, x_iA, x_tA, x_rC, x_on, x_onR, x_end, x_lvD, x_lvF, bi_add, bi_sub, bi_mod, bi_fdiv, cm_lt, cm_le, cm_gt, cm_ge, cm_eqi, cm_nei, cm_eqb, cm_neb, pi_bool, ix_t0, ix_t1, ix_t2, ix_l0, ix_l1, ix_l2, bo_or, bo_and, ev_cmp2, amongB, h1])
    exact this
  | _ => exact ev_and2 (q := true) (p := false) hcall (fun h => nomatch h)
theorem cutA (ds : List PyData) (m : Nat) : cutL ds none (some m) = ds.take m := by simp [cutL]
theorem cutB (ds : List PyData) (m : Nat) : cutL ds (some m) none = ds.drop m := by simp [cutL]
theorem sl_tB {ds : List PyData} {m : Nat} (h : ds.length ≤ 1000) (hm : m ≤ 1000) : sliceD (.tuple ds) (.int m) .none = some (.dat (.tuple (ds.drop m))) := by
  show ((if 0 ≤ (m : Int) ∧ (m : Int).toNat < 4611686018427387904 then some (some (m : Int).toNat) else none).bind fun l => if ds.length ≤ lim then some (AV.dat (.tuple (cutL ds l none))) else none) = _
  rw [if_pos (by omega), Option.bind_some, if_pos (le_lim (m := 1000) h (by decide)), Int.toNat_natCast, cutB]
theorem ev_binR {Φ : Phi} {ρ : Rho} {σ : Store} {op : Operator} {a b : CE} {x y r : AV} {dx dy : PyData} (h1 : evE Φ a ρ σ = some (x, σ)) (h2 : evE Φ b ρ σ = some (y, σ)) (h3 : rd σ x = some dx) (h4 : rd σ y = some dy) (h5 : binD op dx dy = some r) : evE Φ (.bin op a b) ρ σ = some (r, σ) := by
  rw [ev_bin, h1, Option.bind_some, h2, Option.bind_some, h3, Option.bind_some, h4, Option.bind_some, h5, Option.bind_some]
theorem flat_rep {α : Type} (n : Nat) (x : α) : (List.replicate n [x]).flatten = List.replicate n x := by
  induction n with
  | zero => rfl
  | succ n ih => rw [List.replicate_succ, List.flatten_cons, ih]; rfl
theorem bi_reps {n : Nat} (i : Int) (h : n ≤ 1000) : binD .Mult (.tuple [.int i]) (.int n) = some (.dat (.tuple ((List.replicate n i).map .int))) := by
  show (if (n : Int).natAbs * 1 ≤ 65536 ∧ (n : Int).natAbs ≤ 65536 then some (AV.dat (.tuple ((List.replicate (n : Int).toNat [PyData.int i]).flatten))) else none) = _
  rw [if_pos (by omega), Int.toNat_natCast, flat_rep, List.map_replicate]
theorem ix_getD {l : List Int} {j : Nat} (h : j < l.length) (hl : l.length < 1000) : idxD (.list (l.map .int)) (.int j) = some (.int (l.getD j 0)) :=
  ix_list (by omega) (by simp [List.getD, List.getElem?_eq_getElem h])
theorem all_abs {l : List Int} {x : Int} {m : Nat} (h : x ∈ l) (c : (l.all fun x => decide (x.natAbs ≤ m)) = true) : x.natAbs ≤ m := of_decide_eq_true (List.all_eq_true.mp c x h)
theorem pick_nat {l : List Int} {x : Int} (h : x ∈ l) (lo hi : Nat) (c : (l.all fun x => decide (x = (x.toNat : Int)) && (decide (lo ≤ x.toNat) && decide (x.toNat ≤ hi))) = true) : ∃ m : Nat, x = m ∧ lo ≤ m ∧ m ≤ hi :=
  have a := Bool.and_eq_true_iff.mp (List.all_eq_true.mp c x h)
  have b := Bool.and_eq_true_iff.mp a.2
  ⟨x.toNat, of_decide_eq_true a.1, of_decide_eq_true b.1, of_decide_eq_true b.2⟩
theorem getD_mem {l : List Int} {j : Nat} (h : j < l.length) : l.getD j 0 ∈ l := by
  simp [List.getD, List.getElem?_eq_getElem h]
theorem ev_pick {Φ : Phi} {ρ : Rho} {σ : Store} {es : CE} {i : CE} (l : List Int) (j : Nat) (h1 : evE Φ es ρ σ = some (.fresh (l.map .int), σ)) (h2 : evE Φ i ρ σ = some (.dat (.int j), σ)) (h : j < l.length) (hl : l.length < 1000) : evE Φ (.idx es i) ρ σ = some (.dat (.int (l.getD j 0)), σ) :=
  ev_idxR h1 h2 rfl rfl (ix_getD h hl)
noncomputable def rBody : List CS := [.assign 22 (.call 14 [(.bin .FloorDiv (.var 18) (.const (.int (7)))), (.var 17)]), .assign 23 (.idx (.lst [(.bin .Sub (.bin .Mod (.var 22) (.const (.int (11)))) (.const (.int (5)))), (.bin .Sub (.bin .Mod (.var 22) (.const (.int (11)))) (.const (.int (5)))), (.bin .Add (.bin .Pow (.const (.int (10))) (.const (.int (20)))) (.bin .Mod (.var 22) (.const (.int (7))))), (.bin .Sub (.const (.int (0))) (.bin .Pow (.const (.int (10))) (.const (.int (20)))))]) (.bin .Mod (.bin .FloorDiv (.var 22) (.const (.int (11)))) (.const (.int (4))))), .assign 24 (.bin .Mod (.bin .FloorDiv (.var 22) (.const (.int (44)))) (.idx (.lst [(.const (.int (1))), (.const (.int (9))), (.const (.int (5))), (.const (.int (3)))]) (.var 20))), .ite (.bop .And [(.cmp .Eq (.var 20) (.const (.int (1)))), (.cmp .Eq (.bin .Mod (.bin .FloorDiv (.var 22) (.const (.int (396)))) (.const (.int (8)))) (.const (.int (1))))]) [.assign 24 (.bin .Sub (.const (.int (20))) (.bin .Mod (.bin .FloorDiv (.var 22) (.const (.int (3168)))) (.const (.int (2)))))] [], .append 21 (.tup [(.var 23), (.bin .Add (.var 23) (.var 24))])]
theorem r_pow {b : Nat} (h : b ≤ 1000) : binD .Pow (.int 10) (.int b) = some (.dat (.int (10 ^ b))) := bi_pow (a := 10) (b := (b : Int)) (by omega) (by omega) (by decide)
noncomputable def farR (r : Int × Int) : Prop := -(10 ^ 21) ≤ r.1 ∧ r.1 ≤ 10 ^ 21
theorem r_body (N k : Nat) (c : Int) (m j : Nat) (hm : m ≤ 3) (hj : j < 1000) (σ : Store) (ds : List PyData) (hd : ds.length < 1000) (ρ : Rho) (h15 : ρ 18 = some (.dat (.int c))) (h17 : ρ 20 = some (.dat (.int m))) (h14 : ρ 17 = some (.dat (.int j))) (h18 : ρ 21 = some (.cell σ.length)) :
    ∃ ρ₂ r, evSs N (tabAt tab2 N (k + 1)) rBody ρ (σ ++ [(.live, ds)]) = some (.next ρ₂, σ ++ [(.live, ds ++ [pairD r])]) ∧ (okR r ∧ farR r) ∧ ρ₂ 18 = ρ 18 ∧ ρ₂ 20 = ρ 20 ∧ ρ₂ 21 = ρ 21 := by
  generalize hσ : σ ++ [(Flag.live, ds)] = σ'
  have hget : σ'[σ.length]? = some (.live, ds) := by rw [← hσ]; simp
  have hset : ∀ es, σ'.set σ.length (.live, es) = σ ++ [(.live, es)] := fun es => by rw [← hσ]; simp
  have h7 := s_mixed N k (c.fdiv 7) j hj σ'
  generalize mixed (c.fdiv 7) j = x at h7
  obtain ⟨i4, hi4, e4⟩ := fmod_nat (x.fdiv 11) (b := 4) (by decide)
  have hp20 : binD .Pow (.int 10) (.int 20) = some (.dat (.int (10 ^ 20))) := r_pow (b := 20) (by decide)
  have e4' : (x.fdiv 11).fmod 4 = (i4 : Int) := e4
  have hlow : ∀ ρ : Rho, ρ 22 = some (.dat (.int x)) → evE (tabAt tab2 N (k + 1)) (.idx (.lst [(.bin .Sub (.bin .Mod (.var 22) (.const (.int (11)))) (.const (.int (5)))), (.bin .Sub (.bin .Mod (.var 22) (.const (.int (11)))) (.const (.int (5)))), (.bin .Add (.bin .Pow (.const (.int (10))) (.const (.int (20)))) (.bin .Mod (.var 22) (.const (.int (7))))), (.bin .Sub (.const (.int (0))) (.bin .Pow (.const (.int (10))) (.const (.int (20)))))]) (.bin .Mod (.bin .FloorDiv (.var 22) (.const (.int (11)))) (.const (.int (4))))) ρ σ' = some (.dat (.int (([x.fmod 11 - 5, x.fmod 11 - 5, 10 ^ 20 + x.fmod 7, 0 - 10 ^ 20] : List Int).getD i4 0)), σ') := fun ρ h =>
    ev_pick [x.fmod 11 - 5, x.fmod 11 - 5, 10 ^ 20 + x.fmod 7, 0 - 10 ^ 20] i4 (by simp [es_nil, es_cons, es_assign, es_newcell, es_unpack, es_append, es_extend, es_insert, es_ite, es_ret, el_nil, el_cons, eb_nil, eb_cons, ev_const, ev_var, ev_bin, ev_neg, ev_nott, ev_bop, ev_cmp, ev_ite, ev_idx, ev_tup, ev_lst, ev_call, ev_prim, ev_isin, x_run, x_ba0, x_ba1, x_set, x_rdD, x_rdF, x_rdC, x_ra0, x_ra1, x_oa0, x_oa1, x_owD, x_owF, x_stD, x_stF, x_stC, x_bA, x_iA, x_tA, x_rC, x_on, x_onR, x_end, x_lvD, x_lvF, bi_add, bi_sub, bi_mod, bi_fdiv, cm_lt, cm_le, cm_gt, cm_ge, cm_eqi, cm_nei, cm_eqb, cm_neb, pi_bool, ix_t0, ix_t1, ix_t2, ix_l0, ix_l1, ix_l2, bo_or, bo_and, h, hp20]) (by simp [es_nil, es_cons, es_assign, es_newcell, es_unpack, es_append, es_extend, es_insert, es_ite, es_ret, el_nil, el_cons, eb_nil, eb_cons, ev_const, ev_var, ev_bin, ev_neg, ev_nott, ev_bop, ev_cmp, ev_ite, ev_idx, ev_tup, ev_lst, ev_call, ev_prim, ev_isin, x_run, x_ba0, x_ba1, x_set, x_rdD, x_rdF, x_rdC, x_ra0, x_ra1, x_oa0, x_oa1, x_owD, x_owF, x_stD, x_stF, x_stC, x_bA, x_iA, x_tA, x_rC, x_on, x_onR, x_end, x_lvD, x_lvF, bi_add, bi_sub, bi_mod, bi_fdiv, cm_lt, cm_le, cm_gt, cm_ge, cm_eqi, cm_nei, cm_eqb, cm_neb, pi_bool, ix_t0, ix_t1, ix_t2, ix_l0, ix_l1, ix_l2, bo_or, bo_and, h, e4']) hi4 (by simp)
  have hlm := getD_mem (l := [x.fmod 11 - 5, x.fmod 11 - 5, 10 ^ 20 + x.fmod 7, 0 - 10 ^ 20]) (j := i4) hi4
  generalize ([x.fmod 11 - 5, x.fmod 11 - 5, 10 ^ 20 + x.fmod 7, 0 - 10 ^ 20] : List Int).getD i4 0 = low at hlow hlm
  have hfar : ∀ w : Int, farR (low, w) := fun w => by
    obtain ⟨f0, f1⟩ := fmod_range x (b := 11) (by decide)
    obtain ⟨f2, f3⟩ := fmod_range x (b := 7) (by decide)
    simp only [List.mem_cons, List.not_mem_nil, or_false] at hlm
    show -(10 ^ 21) ≤ low ∧ low ≤ 10 ^ 21
    omega
  have hw : ∃ wd : Int, (∀ ρ : Rho, ρ 22 = some (.dat (.int x)) → ρ 20 = some (.dat (.int m)) → evE (tabAt tab2 N (k + 1)) (.bin .Mod (.bin .FloorDiv (.var 22) (.const (.int (44)))) (.idx (.lst [(.const (.int (1))), (.const (.int (9))), (.const (.int (5))), (.const (.int (3)))]) (.var 20))) ρ σ' = some (.dat (.int wd), σ')) ∧ 0 ≤ wd ∧ wd ≤ 20 := by
    have hmem := getD_mem (l := [1, 9, 5, 3]) (j := m) (by simp; omega)
    have hpk := fun (ρ : Rho) (h : ρ 20 = some (.dat (.int m))) => ev_pick (Φ := tabAt tab2 N (k + 1)) (ρ := ρ) (σ := σ') (es := (.lst [(.const (.int (1))), (.const (.int (9))), (.const (.int (5))), (.const (.int (3)))])) (i := .var 20) [1, 9, 5, 3] m (by first | with_reducible_and_instances rfl | rfl | simp [es_nil, es_cons, es_assign, es_newcell, es_unpack, es_append, es_extend, es_insert, es_ite, es_ret, el_nil, el_cons, eb_nil, eb_cons, ev_const, ev_var, ev_bin, ev_neg, ev_nott, ev_bop, ev_cmp, ev_ite, ev_idx, ev_tup, ev_lst, ev_call, ev_prim, ev_isin, x_run, x_ba0, x_ba1, x_set, x_rdD, x_rdF, x_rdC, x_ra0, x_ra1, x_oa0, x_oa1, x_owD, x_owF, x_stD, x_stF, x_stC, x_bA, x_iA, x_tA, x_rC, x_on, x_onR, x_end, x_lvD, x_lvF, bi_add, bi_sub, bi_mod, bi_fdiv, cm_lt, cm_le, cm_gt, cm_ge, cm_eqi, cm_nei, cm_eqb, cm_neb, pi_bool, ix_t0, ix_t1, ix_t2, ix_l0, ix_l1, ix_l2, bo_or, bo_and]) (by simp [es_nil, es_cons, es_assign, es_newcell, es_unpack, es_append, es_extend, es_insert, es_ite, es_ret, el_nil, el_cons, eb_nil, eb_cons, ev_const, ev_var, ev_bin, ev_neg, ev_nott, ev_bop, ev_cmp, ev_ite, ev_idx, ev_tup, ev_lst, ev_call, ev_prim, ev_isin, x_run, x_ba0, x_ba1, x_set, x_rdD, x_rdF, x_rdC, x_ra0, x_ra1, x_oa0, x_oa1, x_owD, x_owF, x_stD, x_stF, x_stC, x_bA, x_iA, x_tA, x_rC, x_on, x_onR, x_end, x_lvD, x_lvF, bi_add, bi_sub, bi_mod, bi_fdiv, cm_lt, cm_le, cm_gt, cm_ge, cm_eqi, cm_nei, cm_eqb, cm_neb, pi_bool, ix_t0, ix_t1, ix_t2, ix_l0, ix_l1, ix_l2, bo_or, bo_and, h]) (by simp; omega) (by simp)
    generalize ([1, 9, 5, 3] : List Int).getD m 0 = w at hmem hpk
    obtain ⟨w, rfl, hw0⟩ := pick_nat hmem 1 9 rfl
    obtain ⟨f0, f1⟩ := fmod_range (x.fdiv 44) (b := (w : Int)) (Int.ofNat_lt.mpr hw0.1)
    refine ⟨(x.fdiv 44).fmod w, fun ρ h19 h17 => ?_, f0, by omega⟩
    have hpk' := hpk ρ h17
    have hmod : binD .Mod (.int (x.fdiv 44)) (.int w) = _ := bi_mod (show (w : Int) ≠ 0 by omega)
    exact ev_binR (x := .dat (.int (x.fdiv 44))) (by simp [es_nil, es_cons, es_assign, es_newcell, es_unpack, es_append, es_extend, es_insert, es_ite, es_ret, el_nil, el_cons, eb_nil, eb_cons, ev_const, ev_var, ev_bin, ev_neg, ev_nott, ev_bop, ev_cmp, ev_ite, ev_idx, ev_tup, ev_lst, ev_call, ev_prim, ev_isin, x_run, x_ba0, x_ba1, x_set, x_rdD, x_rdF, x_rdC, x_ra0, x_ra1, x_oa0, x_oa1, x_owD, x_owF, x_stD, x_stF, x_stC, x_bA, x_iA, x_tA, x_rC, x_on, x_onR, x_end, x_lvD, x_lvF, bi_add, bi_sub, bi_mod, bi_fdiv, cm_lt, cm_le, cm_gt, cm_ge, cm_eqi, cm_nei, cm_eqb, cm_neb, pi_bool, ix_t0, ix_t1, ix_t2, ix_l0, ix_l1, ix_l2, bo_or, bo_and, h19]) hpk' rfl rfl hmod
  obtain ⟨wd, hwd, hw0, hw1⟩ := hw
  have hcond := fun (ρ : Rho) (h19 : ρ 22 = some (.dat (.int x))) (h17 : ρ 20 = some (.dat (.int m))) => ev_and2 (Φ := tabAt tab2 N (k + 1)) (ρ := ρ) (σ := σ') (a := (.cmp .Eq (.var 20) (.const (.int (1))))) (b := (.cmp .Eq (.bin .Mod (.bin .FloorDiv (.var 22) (.const (.int (396)))) (.const (.int (8)))) (.const (.int (1))))) (p := (m : Int) == 1) (q := (x.fdiv 396).fmod 8 == 1) (by simp [es_nil, es_cons, es_assign, es_newcell, es_unpack, es_append, es_extend, es_insert, es_ite, es_ret, el_nil, el_cons, eb_nil, eb_cons, ev_const, ev_var, ev_bin, ev_neg, ev_nott, ev_bop, ev_cmp, ev_ite, ev_idx, ev_tup, ev_lst, ev_call, ev_prim, ev_isin, x_run, x_ba0, x_ba1, x_set, x_rdD, x_rdF, x_rdC, x_ra0, x_ra1, x_oa0, x_oa1, x_owD, x_owF, x_stD, x_stF, x_stC, x_bA, x_iA, x_tA, x_rC, x_on, x_onR, x_end, x_lvD, x_lvF, bi_add, bi_sub, bi_mod, bi_fdiv, cm_lt, cm_le, cm_gt, cm_ge, cm_eqi, cm_nei, cm_eqb, cm_neb, pi_bool, ix_t0, ix_t1, ix_t2, ix_l0, ix_l1, ix_l2, bo_or, bo_and, h17]) (fun _ => by simp [es_nil, es_cons, es_assign, es_newcell, es_unpack, es_append, es_extend, es_insert, es_ite, es_ret, el_nil, el_cons, eb_nil, eb_cons, ev_const, ev_var, ev_bin, ev_neg, ev_nott, ev_bop, ev_cmp, ev_ite, ev_idx, ev_tup, ev_lst, ev_call, ev_prim, ev_isin, x_run, x_ba0, x_ba1, x_set, x_rdD, x_rdF, x_rdC, x_ra0, x_ra1, x_oa0, x_oa1, x_owD, x_owF, x_stD, x_stF, x_stC, x_bA, x_iA, x_tA, x_rC, x_on, x_onR, x_end, x_lvD, x_lvF, bi_add, bi_sub, bi_mod, bi_fdiv, cm_lt, cm_le, cm_gt, cm_ge, cm_eqi, cm_nei, cm_eqb, cm_neb, pi_bool, ix_t0, ix_t1, ix_t2, ix_l0, ix_l1, ix_l2, bo_or, bo_and, h19])
  generalize ((m : Int) == 1 && (x.fdiv 396).fmod 8 == 1) = cb at hcond
  have hfin : ∀ (ρ : Rho) (wd : Int), ρ 23 = some (.dat (.int low)) → ρ 24 = some (.dat (.int wd)) → ρ 21 = some (.cell σ.length) → evSs N (tabAt tab2 N (k + 1)) [.append 21 (.tup [(.var 23), (.bin .Add (.var 23) (.var 24))])] ρ σ' = some (.next ρ, σ ++ [(.live, ds ++ [pairD (low, low + wd)])]) := fun ρ wd h20 h21 h18 => by
    refine (r_append (c := σ.length) (d := pairD (low, low + wd)) (ds := ds) h18 (by simp [es_nil, es_cons, es_assign, es_newcell, es_unpack, es_append, es_extend, es_insert, es_ite, es_ret, el_nil, el_cons, eb_nil, eb_cons, ev_const, ev_var, ev_bin, ev_neg, ev_nott, ev_bop, ev_cmp, ev_ite, ev_idx, ev_tup, ev_lst, ev_call, ev_prim, ev_isin, x_run, x_ba0, x_ba1, x_set, x_rdD, x_rdF, x_rdC, x_ra0, x_ra1, x_oa0, x_oa1, x_owD, x_owF, x_stD, x_stF, x_stC, x_bA, x_iA, x_tA, x_rC, x_on, x_onR, x_end, x_lvD, x_lvF, bi_add, bi_sub, bi_mod, bi_fdiv, cm_lt, cm_le, cm_gt, cm_ge, cm_eqi, cm_nei, cm_eqb, cm_neb, pi_bool, ix_t0, ix_t1, ix_t2, ix_l0, ix_l1, ix_l2, bo_or, bo_and, h20, h21, pairD]) hget (Nat.lt_of_lt_of_le hd (by decide))).trans ?_
    rw [es_nil, hset]
  have ha : evE (tabAt tab2 N (k + 1)) (.call 14 [(.bin .FloorDiv (.var 18) (.const (.int (7)))), (.var 17)]) ρ σ' = some (.dat (.int x), σ') := by simp [es_nil, es_cons, es_assign, es_newcell, es_unpack, es_append, es_extend, es_insert, es_ite, es_ret, el_nil, el_cons, eb_nil, eb_cons, ev_const, ev_var, ev_bin, ev_neg, ev_nott, ev_bop, ev_cmp, ev_ite, ev_idx, ev_tup, ev_lst, ev_call, ev_prim, ev_isin, x_run, x_ba0, x_ba1, x_set, x_rdD, x_rdF, x_rdC, x_ra0, x_ra1, x_oa0, x_oa1, x_owD, x_owF, x_stD, x_stF, x_stC, x_bA, x_iA, x_tA, x_rC, x_on, x_onR, x_end, x_lvD, x_lvF, bi_add, bi_sub, bi_mod, bi_fdiv, cm_lt, cm_le, cm_gt, cm_ge, cm_eqi, cm_nei, cm_eqb, cm_neb, pi_bool, ix_t0, ix_t1, ix_t2, ix_l0, ix_l1, ix_l2, bo_or, bo_and, h15, h14, h7]
  cases cb with
  | false =>
    refine ⟨((ρ.set 22 (.dat (.int x))).set 23 (.dat (.int low))).set 24 (.dat (.int wd)), (low, low + wd), ?_, ?_, rfl, rfl, rfl⟩
    · refine (r_assign ha).trans ?_
      refine (r_assign (hlow _ rfl)).trans ?_
      refine Eq.trans (r_assign (hwd _ (by rfl) (by exact h17))) ?_
      refine Eq.trans (r_skip (hcond _ (by rfl) (by exact h17))) ?_
      exact hfin _ wd (by rfl) (by rfl) (by exact h18)
    · exact ⟨⟨by show (low + wd - low + 1).toNat ≤ 21; omega, by show low ≤ low + wd; omega⟩, hfar _⟩
  | true =>
    obtain ⟨f0, f1⟩ := fmod_range (x.fdiv 3168) (b := 2) (by decide)
    refine ⟨(((ρ.set 22 (.dat (.int x))).set 23 (.dat (.int low))).set 24 (.dat (.int wd))).set 24 (.dat (.int (20 - (x.fdiv 3168).fmod 2))), (low, low + (20 - (x.fdiv 3168).fmod 2)), ?_, ?_, rfl, rfl, rfl⟩
    · refine (r_assign ha).trans ?_
      refine (r_assign (hlow _ rfl)).trans ?_
      refine Eq.trans (r_assign (hwd _ (by rfl) (by exact h17))) ?_
      refine Eq.trans (r_next (Eq.trans (r_true (hcond _ (by rfl) (by exact h17))) ((r_assign (v := .dat (.int (20 - (x.fdiv 3168).fmod 2))) (σ₁ := σ') (by first | with_reducible_and_instances rfl | rfl | simp [es_nil, es_cons, es_assign, es_newcell, es_unpack, es_append, es_extend, es_insert, es_ite, es_ret, el_nil, el_cons, eb_nil, eb_cons, ev_const, ev_var, ev_bin, ev_neg, ev_nott, ev_bop, ev_cmp, ev_ite, ev_idx, ev_tup, ev_lst, ev_call, ev_prim, ev_isin, x_run, x_ba0, x_ba1, x_set, x_rdD, x_rdF, x_rdC, x_ra0, x_ra1, x_oa0, x_oa1, x_owD, x_owF, x_stD, x_stF, x_stC, x_bA, x_iA, x_tA, x_rC, x_on, x_onR, x_end, x_lvD, x_lvF, bi_add, bi_sub, bi_mod, bi_fdiv, cm_lt, cm_le, cm_gt, cm_ge, cm_eqi, cm_nei, cm_eqb, cm_neb, pi_bool, ix_t0, ix_t1, ix_t2, ix_l0, ix_l1, ix_l2, bo_or, bo_and])).trans es_nil))) ?_
      exact hfin _ _ (by rfl) (by rfl) (by exact h18)
    · exact ⟨⟨by show (low + (20 - (x.fdiv 3168).fmod 2) - low + 1).toNat ≤ 21; omega, by show low ≤ low + (20 - (x.fdiv 3168).fmod 2); omega⟩, hfar _⟩
theorem s_ranges (N k : Nat) (c : Int) (σ : Store) : ∃ rs : List (Int × Int), rs.length ≤ 3 ∧ (∀ r ∈ rs, okR r ∧ farR r) ∧ tabAt tab2 N (k + 2) 16 [.dat (.int c)] σ = some (.ret (.dat (.tuple (rs.map pairD))), σ) := by
  rw [tab_step (by rfl : tab2[16]? = some ([18], c__law_ranges))]
  obtain ⟨i7, hi7, e7⟩ := fmod_nat c (b := 7) (by decide)
  have e7' : c.fmod 7 = (i7 : Int) := e7
  have hmem := getD_mem (l := [1, 2, 1, 2, 0, 3, 1]) (j := i7) hi7
  have hpk := fun (ρ : Rho) (h : ρ 18 = some (.dat (.int c))) => ev_pick (Φ := tabAt tab2 N (k + 1)) (ρ := ρ) (σ := σ) (es := (.lst [(.const (.int (1))), (.const (.int (2))), (.const (.int (1))), (.const (.int (2))), (.const (.int (0))), (.const (.int (3))), (.const (.int (1)))])) (i := .bin .Mod (.var 18) (.const (.int (7)))) [1, 2, 1, 2, 0, 3, 1] i7 (by first | with_reducible_and_instances rfl | rfl | simp [es_nil, es_cons, es_assign, es_newcell, es_unpack, es_append, es_extend, es_insert, es_ite, es_ret, el_nil, el_cons, eb_nil, eb_cons, ev_const, ev_var, ev_bin, ev_neg, ev_nott, ev_bop, ev_cmp, ev_ite, ev_idx, ev_tup, ev_lst, ev_call, ev_prim, ev_isin, x_run, x_ba0, x_ba1, x_set, x_rdD, x_rdF, x_rdC, x_ra0, x_ra1, x_oa0, x_oa1, x_owD, x_owF, x_stD, x_stF, x_stC, x_bA, x_iA, x_tA, x_rC, x_on, x_onR, x_end, x_lvD, x_lvF, bi_add, bi_sub, bi_mod, bi_fdiv, cm_lt, cm_le, cm_gt, cm_ge, cm_eqi, cm_nei, cm_eqb, cm_neb, pi_bool, ix_t0, ix_t1, ix_t2, ix_l0, ix_l1, ix_l2, bo_or, bo_and]) (by simp [es_nil, es_cons, es_assign, es_newcell, es_unpack, es_append, es_extend, es_insert, es_ite, es_ret, el_nil, el_cons, eb_nil, eb_cons, ev_const, ev_var, ev_bin, ev_neg, ev_nott, ev_bop, ev_cmp, ev_ite, ev_idx, ev_tup, ev_lst, ev_call, ev_prim, ev_isin, x_run, x_ba0, x_ba1, x_set, x_rdD, x_rdF, x_rdC, x_ra0, x_ra1, x_oa0, x_oa1, x_owD, x_owF, x_stD, x_stF, x_stC, x_bA, x_iA, x_tA, x_rC, x_on, x_onR, x_end, x_lvD, x_lvF, bi_add, bi_sub, bi_mod, bi_fdiv, cm_lt, cm_le, cm_gt, cm_ge, cm_eqi, cm_nei, cm_eqb, cm_neb, pi_bool, ix_t0, ix_t1, ix_t2, ix_l0, ix_l1, ix_l2, bo_or, bo_and, h, e7']) hi7 (by simp)
  generalize ([1, 2, 1, 2, 0, 3, 1] : List Int).getD i7 0 = mi at hmem hpk
  obtain ⟨m, rfl, _, hm⟩ := pick_nat hmem 0 3 rfl
  obtain ⟨ρ', σ', h1, h2, rs, h3, h4, h5⟩ := forGo_cnt (t := .one 17) (body := fun ρ' σ' => evSs N (tabAt tab2 N (k + 1)) rBody ρ' σ') (fun i ρ σ' => (ρ 18 = some (.dat (.int c)) ∧ ρ 20 = some (.dat (.int m)) ∧ ρ 21 = some (.cell σ.length)) ∧ ∃ rs : List (Int × Int), rs.length = i ∧ (∀ r ∈ rs, okR r ∧ farR r) ∧ σ' = σ ++ [(.live, rs.map pairD)])
    ((List.range m).map fun k => PyData.int (k : Nat)) 0 (Rho.set (Rho.set (Rho.set (fun _ => none) 18 (.dat (.int c))) 20 (.dat (.int m))) 21 (.cell σ.length)) (σ ++ [(.live, [])]) (fun j d hd ρ σ' hP => by
      obtain ⟨⟨p1, p2, p3⟩, rs, p4, p5, rfl⟩ := hP
      have hj : j < m := by
        have := (List.getElem?_eq_some_iff.mp hd).1
        simpa using this
      have hd' : d = .int j := by
        rw [List.getElem?_map, List.getElem?_range hj] at hd
        simpa using hd.symm
      subst hd'
      obtain ⟨ρ₂, r, q1, q2, q3, q4, q5⟩ := r_body N k c m j hm (by omega) σ (rs.map pairD) (by rw [List.length_map]; omega) (Rho.set ρ 17 (.dat (.int j))) p1 p2 rfl p3
      refine ⟨_, ρ₂, _, rfl, q1, ⟨q3.trans p1, q4.trans p2, q5.trans p3⟩, rs ++ [r], by simp [p4], fun x hx => ?_, by simp⟩
      rcases List.mem_append.mp hx with h | h
      · exact p5 x h
      · rw [List.mem_singleton.mp h]; exact q2) ⟨⟨rfl, rfl, rfl⟩, [], rfl, (fun _ h => nomatch h), rfl⟩
  subst h5
  rw [List.length_map, List.length_range, Nat.zero_add] at h3
  refine ⟨rs, by omega, h4, ?_⟩
  have hb : evSs N (tabAt tab2 N (k + 1)) c__law_ranges (Rho.set (fun _ => none) 18 (.dat (.int c))) σ = some (.ret (.dat (.tuple (rs.map pairD))), σ ++ [(.live, rs.map pairD)]) := by
    refine (r_assign (hpk _ rfl)).trans ((r_newcell (ds := []) (σ₁ := σ) (by first | with_reducible_and_instances rfl | rfl | simp [es_nil, es_cons, es_assign, es_newcell, es_unpack, es_append, es_extend, es_insert, es_ite, es_ret, el_nil, el_cons, eb_nil, eb_cons, ev_const, ev_var, ev_bin, ev_neg, ev_nott, ev_bop, ev_cmp, ev_ite, ev_idx, ev_tup, ev_lst, ev_call, ev_prim, ev_isin, x_run, x_ba0, x_ba1, x_set, x_rdD, x_rdF, x_rdC, x_ra0, x_ra1, x_oa0, x_oa1, x_owD, x_owF, x_stD, x_stF, x_stC, x_bA, x_iA, x_tA, x_rC, x_on, x_onR, x_end, x_lvD, x_lvF, bi_add, bi_sub, bi_mod, bi_fdiv, cm_lt, cm_le, cm_gt, cm_ge, cm_eqi, cm_nei, cm_eqb, cm_neb, pi_bool, ix_t0, ix_t1, ix_t2, ix_l0, ix_l1, ix_l2, bo_or, bo_and])).trans ?_)
    refine (r_forS (vs := [.dat (.int m)]) (ds := [.int m]) (by first | with_reducible_and_instances rfl | rfl | simp [es_nil, es_cons, es_assign, es_newcell, es_unpack, es_append, es_extend, es_insert, es_ite, es_ret, el_nil, el_cons, eb_nil, eb_cons, ev_const, ev_var, ev_bin, ev_neg, ev_nott, ev_bop, ev_cmp, ev_ite, ev_idx, ev_tup, ev_lst, ev_call, ev_prim, ev_isin, x_run, x_ba0, x_ba1, x_set, x_rdD, x_rdF, x_rdC, x_ra0, x_ra1, x_oa0, x_oa1, x_owD, x_owF, x_stD, x_stF, x_stC, x_bA, x_iA, x_tA, x_rC, x_on, x_onR, x_end, x_lvD, x_lvF, bi_add, bi_sub, bi_mod, bi_fdiv, cm_lt, cm_le, cm_gt, cm_ge, cm_eqi, cm_nei, cm_eqb, cm_neb, pi_bool, ix_t0, ix_t1, ix_t2, ix_l0, ix_l1, ix_l2, bo_or, bo_and]) rfl rfl (range_it (by omega)) h1).trans (r_ret ?_)
    have hp := pt_list (xs := rs.map pairD) (le_lim (m := 3) (by rw [List.length_map]; omega) (by decide))
    simp [es_nil, es_cons, es_assign, es_newcell, es_unpack, es_append, es_extend, es_insert, es_ite, es_ret, el_nil, el_cons, eb_nil, eb_cons, ev_const, ev_var, ev_bin, ev_neg, ev_nott, ev_bop, ev_cmp, ev_ite, ev_idx, ev_tup, ev_lst, ev_call, ev_prim, ev_isin, x_run, x_ba0, x_ba1, x_set, x_rdD, x_rdF, x_rdC, x_ra0, x_ra1, x_oa0, x_oa1, x_owD, x_owF, x_stD, x_stF, x_stC, x_bA, x_iA, x_tA, x_rC, x_on, x_onR, x_end, x_lvD, x_lvF, bi_add, bi_sub, bi_mod, bi_fdiv, cm_lt, cm_le, cm_gt, cm_ge, cm_eqi, cm_nei, cm_eqb, cm_neb, pi_bool, ix_t0, ix_t1, ix_t2, ix_l0, ix_l1, ix_l2, bo_or, bo_and, h2, hp]
  rw [x_run, x_ba1, x_ba0, Option.bind_some, hb, Option.bind_some, x_end, x_lvD, Option.bind_some, List.take_left' rfl]
theorem s_expression (N k : Nat) (c : Int) (rs : List (Int × Int)) (hl : rs.length ≤ 3) (nb : Nat) (hnb : nb ≤ 6) (σ : Store) : ∃ (a : Int) (fs os : List Int), fs.length = rs.length ∧ (∀ f ∈ fs, f.natAbs ≤ 3) ∧ os.length = nb ∧ (∀ f ∈ os, f.natAbs ≤ 3) ∧
    tabAt tab2 N (k + 2) 17 [.dat (.int c), .dat (.tuple [.int rs.length, .int nb]), .dat (.tuple (rs.map pairD))] σ = some (.ret (.dat (.tuple [.int a, .tuple (fs.map .int), .tuple (os.map .int)])), σ) := by
  rw [tab_step (by rfl : tab2[17]? = some ([18, 25, 21], c__law_expression))]
  generalize hn : rs.length = n at hl
  have hrl : (List.range n).length ≤ lim := le_lim (m := 3) (by simpa using hl) (by decide)
  have hrb : (List.range nb).length ≤ lim := le_lim (m := 6) (by simpa using hnb) (by decide)
  have i7 := fun j : Nat => fmod_nat (mixed c j) (b := 7) (by decide)
  have i6 := fun j : Nat => fmod_nat ((mixed c (7 + j)).fdiv 5) (b := 6) (by decide)
  have hF := fun (ρ : Rho) (h15 : ρ 18 = some (.dat (.int c))) (h22 : ρ 25 = some (.dat (.tuple [.int n, .int nb]))) => ev_compA (Φ := tabAt tab2 N (k + 1)) (ρ := ρ) (σ := σ) (ce := (.idx (.lst [(.const (.int (0))), (.const (.int (1))), (.neg (.const (.int (1)))), (.const (.int (2))), (.neg (.const (.int (3)))), (.const (.int (1))), (.const (.int (0)))]) (.bin .Mod (.call 14 [(.var 18), (.var 17)]) (.const (.int (7)))))) (t := .one 17) (k := .range1) (its := [(.idx (.var 25) (.const (.int (0))))])
    (vs := [.dat (.int n)]) (ds := [.int n]) (List.range n) (fun k => .int (k : Nat)) (fun j => .int (([0, 1, -1, 2, -3, 1, 0] : List Int).getD ((mixed c j).fmod 7).toNat 0)) (by simp [es_nil, es_cons, es_assign, es_newcell, es_unpack, es_append, es_extend, es_insert, es_ite, es_ret, el_nil, el_cons, eb_nil, eb_cons, ev_const, ev_var, ev_bin, ev_neg, ev_nott, ev_bop, ev_cmp, ev_ite, ev_idx, ev_tup, ev_lst, ev_call, ev_prim, ev_isin, x_run, x_ba0, x_ba1, x_set, x_rdD, x_rdF, x_rdC, x_ra0, x_ra1, x_oa0, x_oa1, x_owD, x_owF, x_stD, x_stF, x_stC, x_bA, x_iA, x_tA, x_rC, x_on, x_onR, x_end, x_lvD, x_lvF, bi_add, bi_sub, bi_mod, bi_fdiv, cm_lt, cm_le, cm_gt, cm_ge, cm_eqi, cm_nei, cm_eqb, cm_neb, pi_bool, ix_t0, ix_t1, ix_t2, ix_l0, ix_l1, ix_l2, bo_or, bo_and, h22]) rfl rfl (range_it (by omega)) hrl (fun j hj => ⟨_, rfl, by
      have hj' := List.mem_range.mp hj
      obtain ⟨i, hi, e⟩ := i7 j
      have e' : (mixed c j).fmod 7 = (i : Int) := e
      rw [e', Int.toNat_natCast]
      exact ev_pick [0, 1, -1, 2, -3, 1, 0] i (by first | with_reducible_and_instances rfl | rfl | simp [es_nil, es_cons, es_assign, es_newcell, es_unpack, es_append, es_extend, es_insert, es_ite, es_ret, el_nil, el_cons, eb_nil, eb_cons, ev_const, ev_var, ev_bin, ev_neg, ev_nott, ev_bop, ev_cmp, ev_ite, ev_idx, ev_tup, ev_lst, ev_call, ev_prim, ev_isin, x_run, x_ba0, x_ba1, x_set, x_rdD, x_rdF, x_rdC, x_ra0, x_ra1, x_oa0, x_oa1, x_owD, x_owF, x_stD, x_stF, x_stC, x_bA, x_iA, x_tA, x_rC, x_on, x_onR, x_end, x_lvD, x_lvF, bi_add, bi_sub, bi_mod, bi_fdiv, cm_lt, cm_le, cm_gt, cm_ge, cm_eqi, cm_nei, cm_eqb, cm_neb, pi_bool, ix_t0, ix_t1, ix_t2, ix_l0, ix_l1, ix_l2, bo_or, bo_and]) (by simp [es_nil, es_cons, es_assign, es_newcell, es_unpack, es_append, es_extend, es_insert, es_ite, es_ret, el_nil, el_cons, eb_nil, eb_cons, ev_const, ev_var, ev_bin, ev_neg, ev_nott, ev_bop, ev_cmp, ev_ite, ev_idx, ev_tup, ev_lst, ev_call, ev_prim, ev_isin, x_run, x_ba0, x_ba1, x_set, x_rdD, x_rdF, x_rdC, x_ra0, x_ra1, x_oa0, x_oa1, x_owD, x_owF, x_stD, x_stF, x_stC, x_bA, x_iA, x_tA, x_rC, x_on, x_onR, x_end, x_lvD, x_lvF, bi_add, bi_sub, bi_mod, bi_fdiv, cm_lt, cm_le, cm_gt, cm_ge, cm_eqi, cm_nei, cm_eqb, cm_neb, pi_bool, ix_t0, ix_t1, ix_t2, ix_l0, ix_l1, ix_l2, bo_or, bo_and, h15, s_mixed N k c j (by omega) σ, e']) hi (by simp)⟩)
  have hO := fun (ρ : Rho) (h15 : ρ 18 = some (.dat (.int c))) (h22 : ρ 25 = some (.dat (.tuple [.int n, .int nb]))) => ev_compA (Φ := tabAt tab2 N (k + 1)) (ρ := ρ) (σ := σ) (ce := (.idx (.lst [(.const (.int (0))), (.const (.int (1))), (.const (.int (0))), (.neg (.const (.int (1)))), (.const (.int (2))), (.const (.int (0)))]) (.bin .Mod (.bin .FloorDiv (.call 14 [(.var 18), (.bin .Add (.const (.int (7))) (.var 17))]) (.const (.int (5)))) (.const (.int (6)))))) (t := .one 17) (k := .range1) (its := [(.idx (.var 25) (.const (.int (1))))])
    (vs := [.dat (.int nb)]) (ds := [.int nb]) (List.range nb) (fun k => .int (k : Nat)) (fun j => .int (([0, 1, 0, -1, 2, 0] : List Int).getD (((mixed c (7 + j)).fdiv 5).fmod 6).toNat 0)) (by simp [es_nil, es_cons, es_assign, es_newcell, es_unpack, es_append, es_extend, es_insert, es_ite, es_ret, el_nil, el_cons, eb_nil, eb_cons, ev_const, ev_var, ev_bin, ev_neg, ev_nott, ev_bop, ev_cmp, ev_ite, ev_idx, ev_tup, ev_lst, ev_call, ev_prim, ev_isin, x_run, x_ba0, x_ba1, x_set, x_rdD, x_rdF, x_rdC, x_ra0, x_ra1, x_oa0, x_oa1, x_owD, x_owF, x_stD, x_stF, x_stC, x_bA, x_iA, x_tA, x_rC, x_on, x_onR, x_end, x_lvD, x_lvF, bi_add, bi_sub, bi_mod, bi_fdiv, cm_lt, cm_le, cm_gt, cm_ge, cm_eqi, cm_nei, cm_eqb, cm_neb, pi_bool, ix_t0, ix_t1, ix_t2, ix_l0, ix_l1, ix_l2, bo_or, bo_and, h22]) rfl rfl (range_it (by omega)) hrb (fun j hj => ⟨_, rfl, by
      have hj' := List.mem_range.mp hj
      obtain ⟨i, hi, e⟩ := i6 j
      have e' : ((mixed c (7 + j)).fdiv 5).fmod 6 = (i : Int) := e
      rw [e', Int.toNat_natCast]
      have hm : tabAt tab2 N (k + 1) 14 [.dat (.int c), .dat (.int (7 + j))] σ = some (.ret (.dat (.int (mixed c (7 + j)))), σ) := s_mixed N k c (7 + j) (by omega) σ
      exact ev_pick [0, 1, 0, -1, 2, 0] i (by first | with_reducible_and_instances rfl | rfl | simp [es_nil, es_cons, es_assign, es_newcell, es_unpack, es_append, es_extend, es_insert, es_ite, es_ret, el_nil, el_cons, eb_nil, eb_cons, ev_const, ev_var, ev_bin, ev_neg, ev_nott, ev_bop, ev_cmp, ev_ite, ev_idx, ev_tup, ev_lst, ev_call, ev_prim, ev_isin, x_run, x_ba0, x_ba1, x_set, x_rdD, x_rdF, x_rdC, x_ra0, x_ra1, x_oa0, x_oa1, x_owD, x_owF, x_stD, x_stF, x_stC, x_bA, x_iA, x_tA, x_rC, x_on, x_onR, x_end, x_lvD, x_lvF, bi_add, bi_sub, bi_mod, bi_fdiv, cm_lt, cm_le, cm_gt, cm_ge, cm_eqi, cm_nei, cm_eqb, cm_neb, pi_bool, ix_t0, ix_t1, ix_t2, ix_l0, ix_l1, ix_l2, bo_or, bo_and]) (by simp [es_nil, es_cons, es_assign, es_newcell, es_unpack, es_append, es_extend, es_insert, es_ite, es_ret, el_nil, el_cons, eb_nil, eb_cons, ev_const, ev_var, ev_bin, ev_neg, ev_nott, ev_bop, ev_cmp, ev_ite, ev_idx, ev_tup, ev_lst, ev_call, ev_prim, ev_isin, x_run, x_ba0, x_ba1, x_set, x_rdD, x_rdF, x_rdC, x_ra0, x_ra1, x_oa0, x_oa1, x_owD, x_owF, x_stD, x_stF, x_stC, x_bA, x_iA, x_tA, x_rC, x_on, x_onR, x_end, x_lvD, x_lvF, bi_add, bi_sub, bi_mod, bi_fdiv, cm_lt, cm_le, cm_gt, cm_ge, cm_eqi, cm_nei, cm_eqb, cm_neb, pi_bool, ix_t0, ix_t1, ix_t2, ix_l0, ix_l1, ix_l2, bo_or, bo_and, h15, hm, e']) hi (by simp)⟩)
  have hz : (List.range n).map (fun j : Nat => PyData.int (([0, 1, -1, 2, -3, 1, 0] : List Int).getD ((mixed c j).fmod 7).toNat 0)) = ((List.range n).map fun j : Nat => ([0, 1, -1, 2, -3, 1, 0] : List Int).getD ((mixed c j).fmod 7).toNat 0).map .int := by rw [List.map_map]; rfl
  simp only [hz] at hF
  have hlen : ((List.range n).map fun j : Nat => ([0, 1, -1, 2, -3, 1, 0] : List Int).getD ((mixed c j).fmod 7).toNat 0).length = n := by simp
  have hsm : ∀ f ∈ (List.range n).map fun j : Nat => ([0, 1, -1, 2, -3, 1, 0] : List Int).getD ((mixed c j).fmod 7).toNat 0, f.natAbs ≤ 3 := fun f hf => by
    obtain ⟨j, _, rfl⟩ := List.mem_map.mp hf
    obtain ⟨i, hi, e⟩ := i7 j
    have e' : (mixed c j).fmod 7 = (i : Int) := e
    rw [e', Int.toNat_natCast]
    exact all_abs (getD_mem (l := [0, 1, -1, 2, -3, 1, 0]) (j := i) hi) rfl
  generalize ((List.range n).map fun j : Nat => ([0, 1, -1, 2, -3, 1, 0] : List Int).getD ((mixed c j).fmod 7).toNat 0) = fs at hF hlen hsm
  have hzo : (List.range nb).map (fun j : Nat => PyData.int (([0, 1, 0, -1, 2, 0] : List Int).getD (((mixed c (7 + j)).fdiv 5).fmod 6).toNat 0)) = ((List.range nb).map fun j : Nat => ([0, 1, 0, -1, 2, 0] : List Int).getD (((mixed c (7 + j)).fdiv 5).fmod 6).toNat 0).map .int := by rw [List.map_map]; rfl
  simp only [hzo] at hO
  have hleno : ((List.range nb).map fun j : Nat => ([0, 1, 0, -1, 2, 0] : List Int).getD (((mixed c (7 + j)).fdiv 5).fmod 6).toNat 0).length = nb := by simp
  have hsmo : ∀ f ∈ (List.range nb).map fun j : Nat => ([0, 1, 0, -1, 2, 0] : List Int).getD (((mixed c (7 + j)).fdiv 5).fmod 6).toNat 0, f.natAbs ≤ 3 := fun f hf => by
    obtain ⟨j, _, rfl⟩ := List.mem_map.mp hf
    obtain ⟨i, hi, e⟩ := i6 j
    have e' : ((mixed c (7 + j)).fdiv 5).fmod 6 = (i : Int) := e
    rw [e', Int.toNat_natCast]
    exact all_abs (getD_mem (l := [0, 1, 0, -1, 2, 0]) (j := i) hi) rfl
  generalize ((List.range nb).map fun j : Nat => ([0, 1, 0, -1, 2, 0] : List Int).getD (((mixed c (7 + j)).fdiv 5).fmod 6).toNat 0) = os at hO hleno hsmo
  have hc1 := fun (ρ : Rho) (h15 : ρ 18 = some (.dat (.int c))) (h22 : ρ 25 = some (.dat (.tuple [.int n, .int nb]))) => ev_and2 (Φ := tabAt tab2 N (k + 1)) (ρ := ρ) (σ := σ) (a := (.cmp .Eq (.bin .Mod (.bin .FloorDiv (.var 18) (.const (.int (13)))) (.const (.int (3)))) (.const (.int (1))))) (b := (.cmp .Gt (.idx (.var 25) (.const (.int (0)))) (.const (.int (0))))) (p := (c.fdiv 13).fmod 3 == 1) (q := decide (0 < (n : Int))) (by simp [es_nil, es_cons, es_assign, es_newcell, es_unpack, es_append, es_extend, es_insert, es_ite, es_ret, el_nil, el_cons, eb_nil, eb_cons, ev_const, ev_var, ev_bin, ev_neg, ev_nott, ev_bop, ev_cmp, ev_ite, ev_idx, ev_tup, ev_lst, ev_call, ev_prim, ev_isin, x_run, x_ba0, x_ba1, x_set, x_rdD, x_rdF, x_rdC, x_ra0, x_ra1, x_oa0, x_oa1, x_owD, x_owF, x_stD, x_stF, x_stC, x_bA, x_iA, x_tA, x_rC, x_on, x_onR, x_end, x_lvD, x_lvF, bi_add, bi_sub, bi_mod, bi_fdiv, cm_lt, cm_le, cm_gt, cm_ge, cm_eqi, cm_nei, cm_eqb, cm_neb, pi_bool, ix_t0, ix_t1, ix_t2, ix_l0, ix_l1, ix_l2, bo_or, bo_and, h15]) (fun _ => by simp [es_nil, es_cons, es_assign, es_newcell, es_unpack, es_append, es_extend, es_insert, es_ite, es_ret, el_nil, el_cons, eb_nil, eb_cons, ev_const, ev_var, ev_bin, ev_neg, ev_nott, ev_bop, ev_cmp, ev_ite, ev_idx, ev_tup, ev_lst, ev_call, ev_prim, ev_isin, x_run, x_ba0, x_ba1, x_set, x_rdD, x_rdF, x_rdC, x_ra0, x_ra1, x_oa0, x_oa1, x_owD, x_owF, x_stD, x_stF, x_stC, x_bA, x_iA, x_tA, x_rC, x_on, x_onR, x_end, x_lvD, x_lvF, bi_add, bi_sub, bi_mod, bi_fdiv, cm_lt, cm_le, cm_gt, cm_ge, cm_eqi, cm_nei, cm_eqb, cm_neb, pi_bool, ix_t0, ix_t1, ix_t2, ix_l0, ix_l1, ix_l2, bo_or, bo_and, h22])
  have hp18 : binD .Pow (.int 10) (.int 18) = some (.dat (.int (10 ^ 18))) := r_pow (b := 18) (by decide)
  have hfl := pt_list (xs := fs.map PyData.int) (le_lim (m := 3) (by rw [List.length_map]; omega) (by decide))
  have hosl := pt_list (xs := os.map PyData.int) (le_lim (m := 6) (by rw [List.length_map]; omega) (by decide))
  have hend : ∀ (ρ : Rho) (a : Int), ρ 18 = some (.dat (.int c)) → ρ 26 = some (.dat (.list (fs.map .int))) → ρ 27 = some (.dat (.list (os.map .int))) → ρ 28 = some (.dat (.int a)) → ∃ a', evSs N (tabAt tab2 N (k + 1)) [.ite (.cmp .Eq (.bin .Mod (.bin .FloorDiv (.var 18) (.const (.int (39)))) (.const (.int (9)))) (.const (.int (1)))) [.assign 28 (.bin .Mult (.var 28) (.bin .Pow (.const (.int (10))) (.const (.int (18)))))] [], .ret (.tup [(.var 28), (.prim .tuple [(.var 26)]), (.prim .tuple [(.var 27)])])] ρ σ = some (.ret (.dat (.tuple [.int a', .tuple (fs.map .int), .tuple (os.map .int)])), σ) := fun ρ a h15 h23 h24 h25 => by
    have he : evE (tabAt tab2 N (k + 1)) (.cmp .Eq (.bin .Mod (.bin .FloorDiv (.var 18) (.const (.int (39)))) (.const (.int (9)))) (.const (.int (1)))) ρ σ = some (.dat (.bool ((c.fdiv 39).fmod 9 == 1)), σ) := by simp [es_nil, es_cons, es_assign, es_newcell, es_unpack, es_append, es_extend, es_insert, es_ite, es_ret, el_nil, el_cons, eb_nil, eb_cons, ev_const, ev_var, ev_bin, ev_neg, ev_nott, ev_bop, ev_cmp, ev_ite, ev_idx, ev_tup, ev_lst, ev_call, ev_prim, ev_isin, x_run, x_ba0, x_ba1, x_set, x_rdD, x_rdF, x_rdC, x_ra0, x_ra1, x_oa0, x_oa1, x_owD, x_owF, x_stD, x_stF, x_stC, x_bA, x_iA, x_tA, x_rC, x_on, x_onR, x_end, x_lvD, x_lvF, bi_add, bi_sub, bi_mod, bi_fdiv, cm_lt, cm_le, cm_gt, cm_ge, cm_eqi, cm_nei, cm_eqb, cm_neb, pi_bool, ix_t0, ix_t1, ix_t2, ix_l0, ix_l1, ix_l2, bo_or, bo_and, h15]
    cases hb : (c.fdiv 39).fmod 9 == 1 with
    | false =>
      rw [hb] at he
      exact ⟨a, (r_skip he).trans (r_ret (by simp [es_nil, es_cons, es_assign, es_newcell, es_unpack, es_append, es_extend, es_insert, es_ite, es_ret, el_nil, el_cons, eb_nil, eb_cons, ev_const, ev_var, ev_bin, ev_neg, ev_nott, ev_bop, ev_cmp, ev_ite, ev_idx, ev_tup, ev_lst, ev_call, ev_prim, ev_isin, x_run, x_ba0, x_ba1, x_set, x_rdD, x_rdF, x_rdC, x_ra0, x_ra1, x_oa0, x_oa1, x_owD, x_owF, x_stD, x_stF, x_stC, x_bA, x_iA, x_tA, x_rC, x_on, x_onR, x_end, x_lvD, x_lvF, bi_add, bi_sub, bi_mod, bi_fdiv, cm_lt, cm_le, cm_gt, cm_ge, cm_eqi, cm_nei, cm_eqb, cm_neb, pi_bool, ix_t0, ix_t1, ix_t2, ix_l0, ix_l1, ix_l2, bo_or, bo_and, h23, h24, h25, hfl, hosl]))⟩
    | true =>
      rw [hb] at he
      have hm : binD .Mult (.int a) (.int (10 ^ 18)) = some (.dat (.int (a * 10 ^ 18))) := bi_mul (mulOk_r (by decide))
      refine ⟨a * 10 ^ 18, (r_next (ρ₁ := Rho.set ρ 28 (.dat (.int (a * 10 ^ 18)))) (σ₁ := σ) ((r_true he).trans ((r_assign (v := .dat (.int (a * 10 ^ 18))) (σ₁ := σ) ?_).trans es_nil))).trans (r_ret (by simp [es_nil, es_cons, es_assign, es_newcell, es_unpack, es_append, es_extend, es_insert, es_ite, es_ret, el_nil, el_cons, eb_nil, eb_cons, ev_const, ev_var, ev_bin, ev_neg, ev_nott, ev_bop, ev_cmp, ev_ite, ev_idx, ev_tup, ev_lst, ev_call, ev_prim, ev_isin, x_run, x_ba0, x_ba1, x_set, x_rdD, x_rdF, x_rdC, x_ra0, x_ra1, x_oa0, x_oa1, x_owD, x_owF, x_stD, x_stF, x_stC, x_bA, x_iA, x_tA, x_rC, x_on, x_onR, x_end, x_lvD, x_lvF, bi_add, bi_sub, bi_mod, bi_fdiv, cm_lt, cm_le, cm_gt, cm_ge, cm_eqi, cm_nei, cm_eqb, cm_neb, pi_bool, ix_t0, ix_t1, ix_t2, ix_l0, ix_l1, ix_l2, bo_or, bo_and, h23, h24, hfl, hosl]))⟩
      simp [es_nil, es_cons, es_assign, es_newcell, es_unpack, es_append, es_extend, es_insert, es_ite, es_ret, el_nil, el_cons, eb_nil, eb_cons, ev_const, ev_var, ev_bin, ev_neg, ev_nott, ev_bop, ev_cmp, ev_ite, ev_idx, ev_tup, ev_lst, ev_call, ev_prim, ev_isin, x_run, x_ba0, x_ba1, x_set, x_rdD, x_rdF, x_rdC, x_ra0, x_ra1, x_oa0, x_oa1, x_owD, x_owF, x_stD, x_stF, x_stC, x_bA, x_iA, x_tA, x_rC, x_on, x_onR, x_end, x_lvD, x_lvF, bi_add, bi_sub, bi_mod, bi_fdiv, cm_lt, cm_le, cm_gt, cm_ge, cm_eqi, cm_nei, cm_eqb, cm_neb, pi_bool, ix_t0, ix_t1, ix_t2, ix_l0, ix_l1, ix_l2, bo_or, bo_and, h25, hp18, -Int.reducePow, hm]
  have ha25 : ∀ ρ : Rho, ρ 18 = some (.dat (.int c)) → evE (tabAt tab2 N (k + 1)) (.bin .Sub (.bin .Mod (.var 18) (.const (.int (13)))) (.const (.int (6)))) ρ σ = some (.dat (.int (c.fmod 13 - 6)), σ) := fun ρ h => by simp [es_nil, es_cons, es_assign, es_newcell, es_unpack, es_append, es_extend, es_insert, es_ite, es_ret, el_nil, el_cons, eb_nil, eb_cons, ev_const, ev_var, ev_bin, ev_neg, ev_nott, ev_bop, ev_cmp, ev_ite, ev_idx, ev_tup, ev_lst, ev_call, ev_prim, ev_isin, x_run, x_ba0, x_ba1, x_set, x_rdD, x_rdF, x_rdC, x_ra0, x_ra1, x_oa0, x_oa1, x_owD, x_owF, x_stD, x_stF, x_stC, x_bA, x_iA, x_tA, x_rC, x_on, x_onR, x_end, x_lvD, x_lvF, bi_add, bi_sub, bi_mod, bi_fdiv, cm_lt, cm_le, cm_gt, cm_ge, cm_eqi, cm_nei, cm_eqb, cm_neb, pi_bool, ix_t0, ix_t1, ix_t2, ix_l0, ix_l1, ix_l2, bo_or, bo_and, h]
  have hfs : ∃ a', evSs N (tabAt tab2 N (k + 1)) c__law_expression (Rho.set (Rho.set (Rho.set (fun _ => none) 18 (.dat (.int c))) 25 (.dat (.tuple [.int n, .int nb]))) 21 (.dat (.tuple (rs.map pairD)))) σ = some (.ret (.dat (.tuple [.int a', .tuple (fs.map .int), .tuple (os.map .int)])), σ) := by
    cases hb : (c.fdiv 13).fmod 3 == 1 && decide (0 < (n : Int)) with
    | false =>
      simp only [hb] at hc1
      obtain ⟨a', h⟩ := hend (Rho.set (Rho.set (Rho.set (Rho.set (Rho.set (Rho.set (fun _ => none) 18 (.dat (.int c))) 25 (.dat (.tuple [.int n, .int nb]))) 21 (.dat (.tuple (rs.map pairD)))) 26 (.dat (.list (fs.map .int)))) 27 (.dat (.list (os.map .int)))) 28 (.dat (.int (c.fmod 13 - 6)))) _ rfl rfl rfl rfl
      exact ⟨a', (r_assign (hF _ rfl rfl)).trans ((r_assign (hO _ rfl rfl)).trans ((r_assign (ha25 _ rfl)).trans ((r_skip (hc1 _ rfl rfl)).trans h)))⟩
    | true =>
      simp only [hb] at hc1
      have hn0 : 0 < n := by
        have := (Bool.and_eq_true_iff.mp hb).2
        simpa using this
      obtain ⟨r, rs', hrs⟩ : ∃ r rs', rs = r :: rs' := by
        cases rs with
        | nil => simp at hn; omega
        | cons r rs' => exact ⟨r, rs', rfl⟩
      obtain ⟨f, fs', hff⟩ : ∃ f fs', fs = f :: fs' := by
        cases fs with
        | nil => simp at hlen; omega
        | cons f fs' => exact ⟨f, fs', rfl⟩
      have hm : binD .Mult (.int f) (.int r.1) = some (.dat (.int (f * r.1))) := bi_mul (mulOk_l (by
        have := hsm f (by rw [hff]; exact .head _)
        omega))
      obtain ⟨a', h⟩ := hend (Rho.set (Rho.set (Rho.set (Rho.set (Rho.set (Rho.set (Rho.set (fun _ => none) 18 (.dat (.int c))) 25 (.dat (.tuple [.int n, .int nb]))) 21 (.dat (.tuple (rs.map pairD)))) 26 (.dat (.list (fs.map .int)))) 27 (.dat (.list (os.map .int)))) 28 (.dat (.int (c.fmod 13 - 6)))) 28 (.dat (.int (c.fmod 13 - 6 - f * r.1)))) _ rfl rfl rfl rfl
      refine ⟨a', (r_assign (hF _ rfl rfl)).trans ((r_assign (hO _ rfl rfl)).trans ((r_assign (ha25 _ rfl)).trans ((r_next (σ₁ := σ) ((r_true (hc1 _ rfl rfl)).trans ((r_assign (v := .dat (.int (c.fmod 13 - 6 - f * r.1))) (σ₁ := σ) ?_).trans es_nil))).trans h)))⟩
      simp [es_nil, es_cons, es_assign, es_newcell, es_unpack, es_append, es_extend, es_insert, es_ite, es_ret, el_nil, el_cons, eb_nil, eb_cons, ev_const, ev_var, ev_bin, ev_neg, ev_nott, ev_bop, ev_cmp, ev_ite, ev_idx, ev_tup, ev_lst, ev_call, ev_prim, ev_isin, x_run, x_ba0, x_ba1, x_set, x_rdD, x_rdF, x_rdC, x_ra0, x_ra1, x_oa0, x_oa1, x_owD, x_owF, x_stD, x_stF, x_stC, x_bA, x_iA, x_tA, x_rC, x_on, x_onR, x_end, x_lvD, x_lvF, bi_add, bi_sub, bi_mod, bi_fdiv, cm_lt, cm_le, cm_gt, cm_ge, cm_eqi, cm_nei, cm_eqb, cm_neb, pi_bool, ix_t0, ix_t1, ix_t2, ix_l0, ix_l1, ix_l2, bo_or, bo_and, hrs, hff, hm, pairD]
  obtain ⟨a', h⟩ := hfs
  exact ⟨a', fs, os, hlen, hsm, hleno, hsmo, r_runD rfl h⟩
structure Ex where
  c : Int
  f : List Int
  o : List Int
noncomputable def Ex.d (e : Ex) : PyData := .tuple [.int e.c, .tuple (e.f.map .int), .tuple (e.o.map .int)]
structure Ex.ok (ni nb : Nat) (e : Ex) : Prop where
  nf : e.f.length = ni
  no : e.o.length = nb
  sf : ∀ f ∈ e.f, f.natAbs ≤ 3
  so : ∀ f ∈ e.o, f.natAbs ≤ 3
inductive Row where
  | put (b : Nat) (e : Ex)
  | ask (e : Ex) (y n : List Row)
  | times (k : Nat) (r : List Row)
  | tell (e : Ex)
  | stop (w : Str)
noncomputable def W : Fin 5 → Str
  | 0 => Str.ofString "put"
  | 1 => Str.ofString "ask"
  | 2 => Str.ofString "times"
  | 3 => Str.ofString "tell"
  | 4 => Str.ofString "stop"
theorem wq : ∀ i j : Fin 5, cmpD .Eq (.str (W i)) (.str (W j)) = some (i == j) := by decide +kernel
noncomputable def sPut : PyData := .str (Str.ofString "put")
noncomputable def sAsk : PyData := .str (Str.ofString "ask")
noncomputable def sTimes : PyData := .str (Str.ofString "times")
noncomputable def sTell : PyData := .str (Str.ofString "tell")
noncomputable def sStop : PyData := .str (Str.ofString "stop")
mutual
noncomputable def Row.d : Row → PyData
  | .put b e => .tuple [sPut, .int b, e.d]
  | .ask e y n => .tuple [sAsk, e.d, .tuple (rowsD y), .tuple (rowsD n)]
  | .times k r => .tuple [sTimes, .int k, .tuple (rowsD r)]
  | .tell e => .tuple [sTell, e.d]
  | .stop w => .tuple [sStop, .str w]
noncomputable def rowsD : List Row → List PyData
  | [] => []
  | r :: rs => r.d :: rowsD rs
end
theorem rowsD_map : ∀ rs : List Row, rowsD rs = rs.map Row.d
  | [] => rfl
  | r :: rs => congrArg (r.d :: ·) (rowsD_map rs)
noncomputable def Row.inner : Row → List (List Row)
  | .ask _ y n => [y, n]
  | .times _ r => [r]
  | _ => []
noncomputable def wordOk (w : Str) : Prop := 1 ≤ w.length ∧ w.length ≤ 8 ∧ ∀ c ∈ w.cps.toList, 97 ≤ c ∧ c ≤ 122
mutual
noncomputable def Row.ok (ni nb : Nat) : Row → Prop
  | .put b e => b < nb ∧ e.ok ni nb
  | .ask e y n => e.ok ni nb ∧ rowsOk ni nb y ∧ rowsOk ni nb n
  | .times k r => k ≤ 8 ∧ rowsOk ni nb r
  | .tell e => e.ok ni nb
  | .stop w => wordOk w
noncomputable def rowsOk (ni nb : Nat) : List Row → Prop
  | [] => True
  | r :: rs => r.ok ni nb ∧ rowsOk ni nb rs
noncomputable def Row.wt : Row → Nat
  | .ask _ y n => 1 + rowsWt y + rowsWt n
  | .times k r => 1 + k * rowsWt r
  | _ => 1
noncomputable def rowsWt : List Row → Nat
  | [] => 0
  | r :: rs => r.wt + rowsWt rs
noncomputable def Row.ls : Row → Nat
  | .ask _ y n => rowsLs y + rowsLs n
  | .times _ r => rowsLs r
  | _ => 0
noncomputable def rowsLs : List Row → Nat
  | [] => 1
  | r :: rs => r.ls + rowsLs rs
noncomputable def Row.sz : Row → Nat
  | .ask _ y n => 1 + rowsSz y + rowsSz n
  | .times _ r => 1 + rowsSz r
  | _ => 1
noncomputable def rowsSz : List Row → Nat
  | [] => 0
  | r :: rs => r.sz + rowsSz rs
noncomputable def Row.dp : Row → Nat
  | .ask _ y n => max (rowsDp y) (rowsDp n)
  | .times _ r => rowsDp r
  | _ => 0
noncomputable def rowsDp : List Row → Nat
  | [] => 1
  | r :: rs => max (r.dp + 1) (rowsDp rs)
end
theorem ok_mem {ni nb : Nat} : ∀ {rs : List Row} {r : Row}, rowsOk ni nb rs → r ∈ rs → r.ok ni nb
  | _ :: _, _, h, .head _ => h.1
  | _ :: _, _, h, .tail _ m => ok_mem h.2 m
theorem ok_app {ni nb : Nat} : ∀ {a b : List Row}, rowsOk ni nb a → rowsOk ni nb b → rowsOk ni nb (a ++ b)
  | [], _, _, h => h
  | _ :: _, _, h, h' => ⟨h.1, ok_app h.2 h'⟩
theorem wt_app : ∀ (a b : List Row), rowsWt (a ++ b) = rowsWt a + rowsWt b
  | [], b => (Nat.zero_add _).symm
  | r :: a, b => by show r.wt + rowsWt (a ++ b) = r.wt + rowsWt a + rowsWt b; rw [wt_app a b]; omega
theorem ev_notT {Φ : Phi} {ρ : Rho} {σ : Store} {a : CE} {p : Bool} (h : evE Φ a ρ σ = some (.dat (.bool p), σ)) : evE Φ (.nott a) ρ σ = some (.dat (.bool (!p)), σ) := by rw [ev_nott, h]; rfl
theorem ev_callR {Φ : Phi} {ρ : Rho} {σ σ₁ σ₂ : Store} {f : Nat} {es : List CE} {vs : List AV} {v : AV} (h1 : evEs Φ es ρ σ = some (vs, σ₁)) (h2 : Φ f vs σ₁ = some (.ret v, σ₂)) : evE Φ (.call f es) ρ σ = some (v, σ₂) := by rw [ev_call, h1, Option.bind_some, h2]; rfl
theorem ev_lenT {Φ : Phi} {ρ : Rho} {σ : Store} {a : CE} {xs : List PyData} (h : evE Φ a ρ σ = some (.dat (.tuple xs), σ)) (hl : xs.length ≤ 1000000) : evE Φ (.prim .len [a]) ρ σ = some (.dat (.int xs.length), σ) := by
  rw [ev_prim, el_cons, h, Option.bind_some, el_nil]
  show (primD .len [.tuple xs]).bind _ = _
  rw [pl_tuple (le_lim hl (Nat.le_refl _))]
  rfl
theorem ev_cmpR {Φ : Phi} {ρ : Rho} {σ : Store} {op : CmpOp} {a b : CE} {dx dy : PyData} {r : Bool} (h1 : evE Φ a ρ σ = some (.dat dx, σ)) (h2 : evE Φ b ρ σ = some (.dat dy, σ)) (h3 : cmpD op dx dy = some r) : evE Φ (.cmp op a b) ρ σ = some (.dat (.bool r), σ) := by
  rw [ev_cmp, h1, Option.bind_some, h2, Option.bind_some, x_rdD, Option.bind_some, x_rdD, Option.bind_some, h3]
  rfl
theorem cps_mem {c : Nat} (h : 97 ≤ c ∧ c ≤ 122) : (!(Builtin.Str.occurrences (Str.ofString "abcdefghijklmnopqrstuvwxyz") ⟨#[c]⟩ 0 (Str.ofString "abcdefghijklmnopqrstuvwxyz").length 1).isEmpty) = true := by
  have : ∀ c : Fin 123, 97 ≤ c.val → (!(Builtin.Str.occurrences (Str.ofString "abcdefghijklmnopqrstuvwxyz") ⟨#[c.val]⟩ 0 (Str.ofString "abcdefghijklmnopqrstuvwxyz").length 1).isEmpty) = true := by decide +kernel
  exact this ⟨c, by omega⟩ h.1
noncomputable def listsD (l : List (List Row)) : List PyData := l.map fun rs => .tuple (rowsD rs)
theorem get_last (σ : Store) (x : Flag × List PyData) : (σ ++ [x])[σ.length]? = some x := by simp
theorem set_last (σ : Store) (x y : Flag × List PyData) : (σ ++ [x]).set σ.length y = σ ++ [y] := by simp
theorem evV {Φ : Phi} {ρ : Rho} {σ : Store} {i : Nat} {v : AV} (h : ρ i = some v) : evE Φ (.var i) ρ σ = some (v, σ) := by rw [ev_var, h]; rfl
theorem el_var {Φ : Phi} {ρ : Rho} {σ : Store} {i : Nat} {v : AV} {es : List CE} {vs : List AV} (h : ρ i = some v) (h' : evEs Φ es ρ σ = some (vs, σ)) : evEs Φ (.var i :: es) ρ σ = some (settle v :: vs, σ) := by rw [el_cons, evV h, Option.bind_some, h']; rfl
theorem for_next {t : Tgt} {body : Rho → Store → Option (Fl × Store)} {d : PyData} {ds : List PyData} {ρ ρ₁ ρ₂ : Rho} {σ σ₂ : Store} (h1 : bindT t d ρ = some ρ₁) (h2 : body ρ₁ σ = some (.next ρ₂, σ₂)) : forGo t body (d :: ds) ρ σ = forGo t body ds ρ₂ σ₂ := by rw [x_for1, h1, Option.bind_some, h2]; rfl
theorem wh_step {test : Rho → Store → Option (AV × Store)} {body : Rho → Store → Option (Fl × Store)} {n : Nat} {ρ ρ₂ : Rho} {σ σ₁ σ₂ : Store} (h1 : test ρ σ = some (.dat (.bool true), σ₁)) (h2 : body ρ σ₁ = some (.next ρ₂, σ₂)) : whileGo test body (n + 1) ρ σ = whileGo test body n ρ₂ σ₂ := by
  show (test ρ σ).bind _ = _
  rw [h1]
  show (body ρ σ₁).bind _ = _
  rw [h2]
  rfl
theorem wh_end {test : Rho → Store → Option (AV × Store)} {body : Rho → Store → Option (Fl × Store)} {n : Nat} {ρ : Rho} {σ σ₁ : Store} (h1 : test ρ σ = some (.dat (.bool false), σ₁)) : whileGo test body (n + 1) ρ σ = some (.next ρ, σ₁) := by
  show (test ρ σ).bind _ = _
  rw [h1]
  rfl
theorem wh_ret {test : Rho → Store → Option (AV × Store)} {body : Rho → Store → Option (Fl × Store)} {n : Nat} {ρ : Rho} {σ σ₁ σ₂ : Store} {v : AV} (h1 : test ρ σ = some (.dat (.bool true), σ₁)) (h2 : body ρ σ₁ = some (.ret v, σ₂)) : whileGo test body (n + 1) ρ σ = some (.ret v, σ₂) := by
  show (test ρ σ).bind _ = _
  rw [h1]
  show (body ρ σ₁).bind _ = _
  rw [h2]
  rfl
theorem ev_lenC {Φ : Phi} {ρ : Rho} {σ : Store} {i c : Nat} {f : Flag} {xs : List PyData} (h : ρ i = some (.cell c)) (hc : σ[c]? = some (f, xs)) (hl : xs.length ≤ 1000000) : evE Φ (.prim .len [.var i]) ρ σ = some (.dat (.int xs.length), σ) := by
  have hr : rdAll σ [.cell c] = some [.list xs] := by rw [x_ra1, x_rdC, hc]; rfl
  rw [ev_prim, el_cons, ev_var, h]
  show (rdAll σ [.cell c]).bind _ = _
  rw [hr]
  show (primD .len [.list xs]).bind _ = _
  rw [pl_list (le_lim (m := 1000000) hl (by decide))]
  rfl
theorem ev_pos {Φ : Phi} {ρ : Rho} {σ : Store} {a : CE} {n : Nat} (h : evE Φ a ρ σ = some (.dat (.int n), σ)) : evE Φ (.cmp .Gt a (.const (.int 0))) ρ σ = some (.dat (.bool (decide (0 < n))), σ) := by
  rw [show decide (0 < n) = decide ((0 : Int) < n) from by simp]
  exact ev_cmpR h rfl rfl
theorem ev_popR {Φ : Phi} {ρ : Rho} {σ : Store} {i : Nat} {xs : List PyData} {d : PyData} (h : ρ i = some (.cell σ.length)) (hl : xs.length < 1000000) : evE Φ (.pop i) ρ (σ ++ [(.live, xs ++ [d])]) = some (.dat d, σ ++ [(.live, xs)]) := by
  rw [ev_pop, show cellIn ρ i = some σ.length from by rw [cellIn, h]; rfl, Option.bind_some, show liveAt (σ ++ [(.live, xs ++ [d])]) σ.length = some (xs ++ [d]) from by rw [liveAt, get_last], Option.bind_some, if_pos (le_lim (m := 1000000) (by rw [List.length_append]; show xs.length + 1 ≤ _; omega) (by decide)), List.getLast?_concat, Option.bind_some, List.dropLast_concat, set_last]
noncomputable def lsAll : List (List Row) → Nat
  | [] => 0
  | l :: r => rowsLs l + lsAll r
theorem lsAll_app : ∀ a b : List (List Row), lsAll (a ++ b) = lsAll a + lsAll b
  | [], b => (Nat.zero_add _).symm
  | l :: a, b => by show rowsLs l + lsAll (a ++ b) = rowsLs l + lsAll a + lsAll b; rw [lsAll_app a b]; omega
theorem ls_pos : ∀ rs : List Row, 1 ≤ rowsLs rs
  | [] => Nat.le_refl _
  | r :: rs => by have := ls_pos rs; show 1 ≤ r.ls + rowsLs rs; omega
theorem len_ls : ∀ l : List (List Row), l.length ≤ lsAll l
  | [] => Nat.le_refl _
  | l :: r => by have := ls_pos l; have := len_ls r; show r.length + 1 ≤ rowsLs l + lsAll r; omega
theorem inner_ls (r : Row) : lsAll r.inner = r.ls := by
  cases r <;> rfl
theorem flat_ls : ∀ rs : List Row, lsAll (rs.flatMap Row.inner) + 1 = rowsLs rs
  | [] => rfl
  | r :: rs => by
    have := flat_ls rs
    rw [List.flatMap_cons, lsAll_app, inner_ls]
    show _ = r.ls + rowsLs rs
    omega
theorem listsD_app (a b : List (List Row)) : listsD (a ++ b) = listsD a ++ listsD b := List.map_append
theorem listsD_len (a : List (List Row)) : (listsD a).length = a.length := List.length_map ..
theorem run_cell {N : Nat} {Φ : Phi} {is : List Nat} {cs : List CS} {args : List AV} {σ : Store} {ρ : Rho} {d : PyData} {τ : Store} (h : bindArgsR is args (fun _ => none) = some ρ) (h' : evSs N Φ cs ρ σ = some (.ret (.dat d), σ ++ τ)) : runF N Φ is cs args σ = some (.ret (.dat d), σ) := by
  rw [x_run, h, Option.bind_some, h', Option.bind_some, x_end, x_lvD, Option.bind_some, List.take_left' rfl]
theorem ev_andN {Φ : Phi} {ρ : Rho} {σ : Store} {a : CE} {es : List CE} {p q : Bool} (h1 : evE Φ a ρ σ = some (.dat (.bool p), σ)) (h2 : p = true → evE Φ (.bop .And es) ρ σ = some (.dat (.bool q), σ)) : evE Φ (.bop .And (a :: es)) ρ σ = some (.dat (.bool (p && q)), σ) := by
  rw [ev_bop, eb_cons, h1]
  cases p with
  | false => rfl
  | true => exact h2 rfl
theorem ev_orN {Φ : Phi} {ρ : Rho} {σ : Store} {a : CE} {es : List CE} {p q : Bool} (h1 : evE Φ a ρ σ = some (.dat (.bool p), σ)) (h2 : p = false → evE Φ (.bop .Or es) ρ σ = some (.dat (.bool q), σ)) : evE Φ (.bop .Or (a :: es)) ρ σ = some (.dat (.bool (p || q)), σ) := by
  rw [ev_bop, eb_cons, h1]
  cases p with
  | true => rfl
  | false => exact h2 rfl
theorem ev_orT {Φ : Phi} {ρ : Rho} {σ : Store} {a : CE} {es : List CE} (h1 : evE Φ a ρ σ = some (.dat (.bool true), σ)) : evE Φ (.bop .Or (a :: es)) ρ σ = some (.dat (.bool true), σ) := ev_orN (p := true) (q := true) h1 fun h => nomatch h
theorem ev_orF {Φ : Phi} {ρ : Rho} {σ : Store} {a : CE} {es : List CE} {q : Bool} (h1 : evE Φ a ρ σ = some (.dat (.bool false), σ)) (h2 : evE Φ (.bop .Or es) ρ σ = some (.dat (.bool q), σ)) : evE Φ (.bop .Or (a :: es)) ρ σ = some (.dat (.bool q), σ) := ev_orN (p := false) h1 fun _ => h2
theorem ev_andF {Φ : Phi} {ρ : Rho} {σ : Store} {a : CE} {es : List CE} (h1 : evE Φ a ρ σ = some (.dat (.bool false), σ)) : evE Φ (.bop .And (a :: es)) ρ σ = some (.dat (.bool false), σ) := ev_andN (p := false) (q := true) h1 fun h => nomatch h
theorem ev_andT {Φ : Phi} {ρ : Rho} {σ : Store} {a : CE} {es : List CE} {q : Bool} (h1 : evE Φ a ρ σ = some (.dat (.bool true), σ)) (h2 : evE Φ (.bop .And es) ρ σ = some (.dat (.bool q), σ)) : evE Φ (.bop .And (a :: es)) ρ σ = some (.dat (.bool q), σ) := ev_andN (p := true) h1 fun _ => h2
theorem ev_and1 {Φ : Phi} {ρ : Rho} {σ : Store} {a : CE} {p : Bool} (h1 : evE Φ a ρ σ = some (.dat (.bool p), σ)) : evE Φ (.bop .And [a]) ρ σ = some (.dat (.bool p), σ) := by
  cases p
  · exact ev_andF h1
  · exact ev_andT h1 rfl
theorem ev_or1 {Φ : Phi} {ρ : Rho} {σ : Store} {a : CE} {p : Bool} (h1 : evE Φ a ρ σ = some (.dat (.bool p), σ)) : evE Φ (.bop .Or [a]) ρ σ = some (.dat (.bool p), σ) := by
  cases p
  · exact ev_orF h1 rfl
  · exact ev_orT h1
noncomputable def asc (w : Str) : Bool := w.cps.all (· < 128)
mutual
noncomputable def nd : PyData → Nat
  | .tuple xs => 1 + ndAll xs
  | .list xs => 1 + ndAll xs
  | .str w => if asc w = true then 1 + w.length else 10000000
  | _ => 1
noncomputable def ndAll : List PyData → Nat
  | [] => 0
  | x :: xs => nd x + ndAll xs
end
theorem nd_pos (d : PyData) : 1 ≤ nd d := by
  cases d with
  | tuple xs => exact Nat.le_add_right ..
  | list xs => exact Nat.le_add_right ..
  | str w =>
    show 1 ≤ if asc w = true then 1 + w.length else 10000000
    split
    · exact Nat.le_add_right ..
    · decide
  | _ => exact Nat.le_refl _
theorem len_nd : ∀ xs : List PyData, xs.length ≤ ndAll xs
  | [] => Nat.le_refl _
  | x :: xs => by show xs.length + 1 ≤ nd x + ndAll xs; rw [Nat.add_comm]; exact Nat.add_le_add (nd_pos x) (len_nd xs)
theorem nd_mem : ∀ {xs : List PyData} {x : PyData}, x ∈ xs → nd x ≤ ndAll xs
  | _ :: _, _, .head _ => Nat.le_add_right ..
  | _ :: _, _, .tail _ m => Nat.le_trans (nd_mem m) (Nat.le_add_left ..)
theorem nd_app : ∀ a b : List PyData, ndAll (a ++ b) = ndAll a + ndAll b
  | [], b => (Nat.zero_add _).symm
  | x :: a, b => by show nd x + ndAll (a ++ b) = nd x + ndAll a + ndAll b; rw [nd_app a b, Nat.add_assoc]
theorem nd_tup {xs : List PyData} {n : Nat} (h : nd (.tuple xs) ≤ n) : ndAll xs ≤ n := Nat.le_trans (Nat.le_add_left ..) h
theorem nd_len {xs : List PyData} {n : Nat} (h : nd (.tuple xs) ≤ n) : xs.length ≤ n := Nat.le_trans (len_nd xs) (nd_tup h)
theorem nd_asc {w : Str} (h : nd (.str w) ≤ 1000000) : asc w = true ∧ w.length ≤ 1000000 := by
  have h : (if asc w = true then 1 + w.length else 10000000) ≤ 1000000 := h
  by_cases e : asc w = true
  · rw [if_pos e] at h
    exact ⟨e, Nat.le_trans (Nat.le_add_left ..) h⟩
  · rw [if_neg e] at h
    exact absurd h (by decide)
theorem lim_of {n : Nat} (h : n ≤ 1000000) : n ≤ lim := le_lim h (Nat.le_refl _)
theorem ev_allC {Φ : Phi} {ρ : Rho} {σ : Store} {ce a : CE} {i : Nat} {d : PyData} {xs : List PyData} (f : PyData → Bool) (h1 : evE Φ a ρ σ = some (.dat d, σ)) (h2 : iterD d = some xs) (hl : xs.length ≤ lim) (h : ∀ x ∈ xs, evE Φ ce (ρ.set i (.dat x)) σ = some (.dat (.bool (f x)), σ)) : evE Φ (.prim .all [.comp ce (.one i) .seq [a] []]) ρ σ = some (.dat (.bool ((xs.map f).all id)), σ) := by
  have hc := ev_compA (Φ := Φ) (ρ := ρ) (σ := σ) (ce := ce) (t := .one i) (k := .seq) (its := [a]) (vs := [.dat d]) (ds := [d]) xs id (fun x => .bool (f x)) (by rw [el_cons, h1]; rfl) rfl rfl (by show iterD d = _; rw [h2, List.map_id]) hl (fun x hx => ⟨_, rfl, h x hx⟩)
  rw [ev_prim, el_cons, hc, Option.bind_some, el_nil]
  show (primD .all [.list (xs.map fun x => PyData.bool (f x))]).bind _ = _
  rw [show xs.map (fun x => PyData.bool (f x)) = (xs.map f).map .bool by rw [List.map_map]; rfl, pa_all]
  rfl
noncomputable def wholesB (d : PyData) (m : Int) : Bool := match d with
  | .tuple xs => ((xs.length : Int) == m) && (xs.map wholeB).all id
  | _ => false
theorem s_are_wholes (N k : Nat) (d : PyData) (hd : nd d ≤ 1000000) (m : Int) (σ : Store) : tabAt tab2 N (k + 2) 2 [.dat d, .dat (.int m)] σ = some (.ret (.dat (.bool (wholesB d m))), σ) := by
  rw [tab_step (by rfl : tab2[2]? = some ([0, 3], c_are_wholes))]
  refine r_runD rfl (r_ret ?_)
  cases d with
  | tuple xs => exact ev_andT rfl (ev_andN (ev_cmpR (ev_lenT rfl (nd_len hd)) rfl (cm_eqi _ _)) fun _ => ev_and1 (ev_allC wholeB rfl rfl (lim_of (nd_len hd)) fun x _ => ev_callR rfl (s_is_whole N k x σ)))
  | _ => exact ev_andF rfl
noncomputable def isRangeB : PyData → Bool
  | .tuple [.int a, .int b] => decide (a ≤ b) && decide (b ≤ a + 20)
  | _ => false
theorem whole_int {d : PyData} (h : wholeB d = true) : ∃ a, d = .int a := by
  cases d <;> first | exact ⟨_, rfl⟩ | exact nomatch h
theorem rangeB_w {d : PyData} (h : wholesB d 2 = false) : isRangeB d = false := by
  unfold isRangeB
  split
  · exact nomatch h
  · rfl
theorem wholes2 {d : PyData} (h : wholesB d 2 = true) : ∃ a b, d = .tuple [.int a, .int b] := by
  cases d with
  | tuple xs =>
    obtain ⟨h1, h2⟩ := Bool.and_eq_true_iff.mp h
    match xs, h1, h2 with
    | [x, y], _, h2 =>
      obtain ⟨e1, e2⟩ := Bool.and_eq_true_iff.mp h2
      obtain ⟨a, rfl⟩ := whole_int e1
      obtain ⟨b, rfl⟩ := whole_int (Bool.and_eq_true_iff.mp e2).1
      exact ⟨a, b, rfl⟩
    | _ :: _ :: _ :: r, h1, _ => have := of_decide_eq_true h1; simp at this; omega
  | _ => exact nomatch h
theorem s_is_range (N k : Nat) (d : PyData) (hd : nd d ≤ 1000000) (σ : Store) : tabAt tab2 N (k + 3) 3 [.dat d] σ = some (.ret (.dat (.bool (isRangeB d))), σ) := by
  rw [tab_step (by rfl : tab2[3]? = some ([0], c_is_range))]
  have h := s_are_wholes N k d hd 2 σ
  cases hw : wholesB d 2 with
  | false =>
    rw [hw] at h
    rw [rangeB_w hw]
    exact r_runD rfl (r_taken (σ₁ := σ) (ev_notT (p := false) (ev_callR rfl h)) (r_ret rfl))
  | true =>
    rw [hw] at h
    obtain ⟨a, b, rfl⟩ := wholes2 hw
    refine r_runD rfl ((r_skip (σ₁ := σ) (ev_notT (p := true) (ev_callR rfl h))).trans (r_ret ?_))
    show (if decide (a ≤ b) = true then some (AV.dat (.bool (decide (b ≤ a + 20))), σ) else some (AV.dat (.bool false), σ)) = some (AV.dat (.bool (decide (a ≤ b) && decide (b ≤ a + 20))), σ)
    cases decide (a ≤ b) <;> rfl
noncomputable def isExB (ni nb : Int) : PyData → Bool
  | .tuple [a, b, c] => wholeB a && (wholesB b ni && wholesB c nb)
  | _ => false
theorem len3 {α : Type} {xs : List α} (h : xs.length = 3) : ∃ a b c, xs = [a, b, c] := by
  match xs, h with
  | [a, b, c], _ => exact ⟨a, b, c, rfl⟩
theorem ex_no3 {ni nb : Int} {xs : List PyData} (h : xs.length ≠ 3) : isExB ni nb (.tuple xs) = false := by
  unfold isExB
  split
  · rename_i e; cases e; exact absurd rfl h
  · rfl
theorem beq_nat {a b : Nat} (h : a ≠ b) : ((a : Int) == (b : Int)) = false := by
  rw [beq_eq_false_iff_ne]; exact fun e => h (Int.ofNat.inj e)
theorem s_is_expression (N k : Nat) (ni nb : Int) (d : PyData) (hd : nd d ≤ 1000000) (σ : Store) : tabAt tab2 N (k + 3) 4 [.dat d, .dat (.int ni), .dat (.int nb)] σ = some (.ret (.dat (.bool (isExB ni nb d))), σ) := by
  rw [tab_step (by rfl : tab2[4]? = some ([0, 5, 6], c_is_expression))]
  cases d with
  | tuple xs =>
    by_cases h3 : xs.length = 3
    · obtain ⟨a, b, c, rfl⟩ := len3 h3
      have hw := s_is_whole N (k + 1) a σ
      have hb := s_are_wholes N k b (Nat.le_trans (nd_mem (xs := [a, b, c]) (.tail _ (.head _))) (nd_tup hd)) ni σ
      have hc := s_are_wholes N k c (Nat.le_trans (nd_mem (xs := [a, b, c]) (.tail _ (.tail _ (.head _)))) (nd_tup hd)) nb σ
      refine r_runD rfl ?_
      show _ = some (Fl.ret (.dat (.bool (wholeB a && (wholesB b ni && wholesB c nb)))), σ)
      cases ha : wholeB a with
      | false =>
        rw [ha] at hw
        exact r_taken (σ₁ := σ) (ev_orF rfl (ev_orF rfl (ev_orT (ev_notT (p := false) (ev_callR rfl hw))))) (r_ret rfl)
      | true =>
        rw [ha] at hw
        exact (r_skip (σ₁ := σ) (ev_orF rfl (ev_orF rfl (ev_or1 (ev_notT (p := true) (ev_callR rfl hw)))))).trans (r_ret (ev_andN (p := wholesB b ni) (q := wholesB c nb) (ev_callR rfl hb) fun _ => ev_and1 (ev_callR rfl hc)))
    · rw [ex_no3 h3]
      refine r_runD rfl (r_taken (σ₁ := σ) (ev_orF rfl (ev_orT (ev_cmpR (ev_lenT rfl (nd_len hd)) rfl ((cm_nei _ _).trans ?_)))) (r_ret rfl))
      exact congrArg (fun b => some (!b)) (beq_nat h3)
  | _ => exact r_runD rfl (r_taken (σ₁ := σ) (ev_orT rfl) (r_ret rfl))
noncomputable def letB (x : PyData) : Bool := (inD x (.str (Str.ofString "abcdefghijklmnopqrstuvwxyz"))).getD false
noncomputable def isWordB : PyData → Bool
  | .str w => (decide (1 ≤ (w.length : Int)) && decide ((w.length : Int) ≤ 8)) && ((charsD w).map letB).all id
  | _ => false
theorem let_ev {w : Str} {x : PyData} (h : x ∈ charsD w) : inD x (.str (Str.ofString "abcdefghijklmnopqrstuvwxyz")) = some (letB x) := by
  obtain ⟨c, _, rfl⟩ := List.mem_map.mp h
  rfl
theorem s_is_word (N k : Nat) (d : PyData) (hd : nd d ≤ 1000000) (σ : Store) : tabAt tab2 N (k + 1) 5 [.dat d] σ = some (.ret (.dat (.bool (isWordB d))), σ) := by
  rw [tab_step (by rfl : tab2[5]? = some ([0], c_is_word))]
  cases d with
  | str w =>
    obtain ⟨ha, hl⟩ := nd_asc hd
    have hlen : evE (tabAt tab2 N k) (.prim .len [.var 0]) (Rho.set (fun _ => none) 0 (.dat (.str w))) σ = some (.dat (.int w.length), σ) := by
      rw [ev_prim, el_cons, evV (v := .dat (.str w)) rfl]
      show (if w.length ≤ lim then some (AV.dat (.int w.length)) else none).bind _ = _
      rw [if_pos (lim_of hl)]
      rfl
    have hc2 : evE (tabAt tab2 N k) (.cmp2 .LtE .LtE (.const (.int (1))) (.prim .len [(.var 0)]) (.const (.int (8)))) (Rho.set (fun _ => none) 0 (.dat (.str w))) σ = some (.dat (.bool (decide (1 ≤ (w.length : Int)) && decide ((w.length : Int) ≤ 8))), σ) := by
      rw [ev_cmp2, ev_const, Option.bind_some, hlen]
      show (if decide ((1 : Int) ≤ w.length) = true then some (AV.dat (.bool (decide ((w.length : Int) ≤ 8))), σ) else some (AV.dat (.bool false), σ)) = _
      cases decide ((1 : Int) ≤ w.length) <;> rfl
    refine r_runD rfl ?_
    show _ = some (Fl.ret (.dat (.bool ((decide (1 ≤ (w.length : Int)) && decide ((w.length : Int) ≤ 8)) && ((charsD w).map letB).all id))), σ)
    cases hb : (decide (1 ≤ (w.length : Int)) && decide ((w.length : Int) ≤ 8)) with
    | false =>
      rw [hb] at hc2
      exact r_taken (σ₁ := σ) (ev_orF rfl (ev_orT (ev_notT (p := false) hc2))) (r_ret rfl)
    | true =>
      rw [hb] at hc2
      exact (r_skip (σ₁ := σ) (ev_orF rfl (ev_or1 (ev_notT (p := true) hc2)))).trans (r_ret (ev_allC letB rfl (by show (if w.cps.all (· < 128) = true then some (charsD w) else none) = _; exact if_pos ha) (lim_of (by rw [charsD, List.length_map, Array.length_toList]; exact hl)) fun x hx => ev_cmpR rfl rfl (let_ev hx)))
  | _ => exact r_runD rfl (r_taken (σ₁ := σ) (ev_orT rfl) (r_ret rfl))
theorem asc_ok {w : Str} (h : asc w = true) : SeqAt.shaped (.str w) = true := by
  have h1 : PyData.strOk w = true := by
    unfold PyData.strOk
    unfold asc at h
    rw [← Array.all_toList, List.all_eq_true] at *
    exact fun c hc => decide_eq_true (Nat.lt_of_lt_of_le (of_decide_eq_true (h c hc)) (by decide))
  show (PyData.strOk w && _) = true
  rw [h1]
  rfl
theorem W_ok : ∀ i : Fin 5, SeqAt.shaped (.str (W i)) = true := by decide +kernel
theorem cm_w {w : Str} (h : asc w = true) (i : Fin 5) : cmpD .Eq (.str w) (.str (W i)) = some (w == W i) := by
  show (if (SeqAt.shaped (.str w) && SeqAt.shaped (.str (W i))) = true then some (w == W i) else none) = _
  rw [asc_ok h, W_ok i]
  rfl
noncomputable def stPut (ni nb : Int) (a : PyData) : List PyData → Bool
  | [e] => amongB a (0, nb - 1) && isExB ni nb e
  | _ => false
noncomputable def stAsk (ni nb : Int) (a : PyData) : List PyData → Bool
  | [_, _] => isExB ni nb a
  | _ => false
noncomputable def stTimes (a : PyData) : List PyData → Bool
  | [_] => amongB a (0, 8)
  | _ => false
noncomputable def stTell (ni nb : Int) (a : PyData) : List PyData → Bool
  | [] => isExB ni nb a
  | _ => false
noncomputable def stStop (a : PyData) : List PyData → Bool
  | [] => isWordB a
  | _ => false
noncomputable def stB (ni nb : Int) (w : Str) (a : PyData) (r : List PyData) : Bool :=
  if w == W 0 then stPut ni nb a r
  else if w == W 1 then stAsk ni nb a r
  else if w == W 2 then stTimes a r
  else if w == W 3 then stTell ni nb a r
  else (w == W 4) && stStop a r
noncomputable def isStB (ni nb : Int) : PyData → Bool
  | .tuple (.str w :: a :: r) => stB ni nb w a r
  | _ => false
noncomputable def innB : PyData → List PyData
  | .tuple (.str w :: _ :: r) => if w == W 1 then r.take 2 else if w == W 2 then r.take 1 else []
  | _ => []
section
variable {N k : Nat} {ni nb : Int} {w : Str} {a : PyData} {r : List PyData} {σ : Store}
noncomputable def rhoS (ni nb : Int) (w : Str) (a : PyData) (r : List PyData) : Rho := Rho.set (Rho.set (Rho.set (Rho.set (fun _ => none) 0 (.dat (.tuple (.str w :: a :: r)))) 5 (.dat (.int ni))) 6 (.dat (.int nb))) 8 (.dat (.str w))
theorem ev_w (Φ : Phi) (hw : asc w = true) (i : Fin 5) : evE Φ (.cmp .Eq (.var 8) (.const (.str (W i)))) (rhoS ni nb w a r) σ = some (.dat (.bool (w == W i)), σ) := ev_cmpR rfl rfl (cm_w hw i)
theorem ev_l (Φ : Phi) (hl : (PyData.str w :: a :: r).length ≤ 1000000) (m : Nat) : evE Φ (.cmp .Eq (.prim .len [.var 0]) (.const (.int m))) (rhoS ni nb w a r) σ = some (.dat (.bool (((r.length + 2 : Nat) : Int) == (m : Int))), σ) := ev_cmpR (ev_lenT rfl hl) rfl (cm_eqi _ _)
theorem ev_lF (Φ : Phi) (hl : (PyData.str w :: a :: r).length ≤ 1000000) (m : Nat) (h : r.length + 2 ≠ m) : evE Φ (.cmp .Eq (.prim .len [.var 0]) (.const (.int m))) (rhoS ni nb w a r) σ = some (.dat (.bool false), σ) := by rw [ev_l Φ hl m, beq_nat h]
theorem st_end (hw : asc w = true) (hl : (PyData.str w :: a :: r).length ≤ 1000000) (he : ∀ d ∈ a :: r, nd d ≤ 1000000) :
    evSs N (tabAt tab2 N (k + 3)) [.ite (.cmp .Eq (.var 8) (.const (.str (Str.ofString "put")))) [.ret (.bop .And [(.cmp .Eq (.prim .len [(.var 0)]) (.const (.int (3)))), (.call 1 [(.idx (.var 0) (.const (.int (1)))), (.const (.int (0))), (.bin .Sub (.var 6) (.const (.int (1))))]), (.call 4 [(.idx (.var 0) (.const (.int (2)))), (.var 5), (.var 6)])])] [],
  .ite (.cmp .Eq (.var 8) (.const (.str (Str.ofString "ask")))) [.ret (.bop .And [(.cmp .Eq (.prim .len [(.var 0)]) (.const (.int (4)))), (.call 4 [(.idx (.var 0) (.const (.int (1)))), (.var 5), (.var 6)])])] [],
  .ite (.cmp .Eq (.var 8) (.const (.str (Str.ofString "times")))) [.ret (.bop .And [(.cmp .Eq (.prim .len [(.var 0)]) (.const (.int (3)))), (.call 1 [(.idx (.var 0) (.const (.int (1)))), (.const (.int (0))), (.const (.int (8)))])])] [],
  .ite (.cmp .Eq (.var 8) (.const (.str (Str.ofString "tell")))) [.ret (.bop .And [(.cmp .Eq (.prim .len [(.var 0)]) (.const (.int (2)))), (.call 4 [(.idx (.var 0) (.const (.int (1)))), (.var 5), (.var 6)])])] [],
  .ret (.bop .And [(.cmp .Eq (.var 8) (.const (.str (Str.ofString "stop")))), (.cmp .Eq (.prim .len [(.var 0)]) (.const (.int (2)))), (.call 5 [(.idx (.var 0) (.const (.int (1))))])])] (rhoS ni nb w a r) σ = some (.ret (.dat (.bool (stB ni nb w a r))), σ) := by
  have w0 := ev_w (ni := ni) (nb := nb) (a := a) (r := r) (σ := σ) (tabAt tab2 N (k + 3)) hw 0
  have w1 := ev_w (ni := ni) (nb := nb) (a := a) (r := r) (σ := σ) (tabAt tab2 N (k + 3)) hw 1
  have w2 := ev_w (ni := ni) (nb := nb) (a := a) (r := r) (σ := σ) (tabAt tab2 N (k + 3)) hw 2
  have w3 := ev_w (ni := ni) (nb := nb) (a := a) (r := r) (σ := σ) (tabAt tab2 N (k + 3)) hw 3
  have w4 := ev_w (ni := ni) (nb := nb) (a := a) (r := r) (σ := σ) (tabAt tab2 N (k + 3)) hw 4
  have hm := fun lo hi => s_is_among N (k + 1) a (lo, hi) σ
  have hE := s_is_expression N k ni nb a (he a (.head _)) σ
  unfold stB
  cases h0 : w == W 0 with
  | true =>
    rw [h0] at w0
    rw [if_pos rfl]
    refine r_taken (σ₁ := σ) w0 (r_ret ?_)
    unfold stPut
    split
    · rename_i e
      exact ev_andT rfl (ev_andN (ev_callR rfl (hm 0 (nb - 1))) fun _ => ev_and1 (ev_callR rfl (s_is_expression N k ni nb e (he e (.tail _ (.head _))) σ)))
    · rename_i h
      exact ev_andF (ev_lF _ hl 3 fun e => by
        match r, e with
        | [x], _ => exact h x rfl)
  | false =>
  rw [h0] at w0
  rw [if_neg Bool.false_ne_true]
  refine (r_skip (σ₁ := σ) w0).trans ?_
  cases h1 : w == W 1 with
  | true =>
    rw [h1] at w1
    rw [if_pos rfl]
    refine r_taken (σ₁ := σ) w1 (r_ret ?_)
    unfold stAsk
    split
    · exact ev_andT rfl (ev_and1 (ev_callR rfl hE))
    · rename_i h
      exact ev_andF (ev_lF _ hl 4 fun e => by
        match r, e with
        | [x, y], _ => exact h x y rfl)
  | false =>
  rw [h1] at w1
  rw [if_neg Bool.false_ne_true]
  refine (r_skip (σ₁ := σ) w1).trans ?_
  cases h2 : w == W 2 with
  | true =>
    rw [h2] at w2
    rw [if_pos rfl]
    refine r_taken (σ₁ := σ) w2 (r_ret ?_)
    unfold stTimes
    split
    · exact ev_andT rfl (ev_and1 (ev_callR rfl (hm 0 8)))
    · rename_i h
      exact ev_andF (ev_lF _ hl 3 fun e => by
        match r, e with
        | [x], _ => exact h x rfl)
  | false =>
  rw [h2] at w2
  rw [if_neg Bool.false_ne_true]
  refine (r_skip (σ₁ := σ) w2).trans ?_
  cases h3 : w == W 3 with
  | true =>
    rw [h3] at w3
    rw [if_pos rfl]
    refine r_taken (σ₁ := σ) w3 (r_ret ?_)
    unfold stTell
    split
    · exact ev_andT rfl (ev_and1 (ev_callR rfl hE))
    · rename_i h
      exact ev_andF (ev_lF _ hl 2 fun e => by
        match r, e with
        | [], _ => exact h rfl)
  | false =>
  rw [h3] at w3
  rw [if_neg Bool.false_ne_true]
  refine (r_skip (σ₁ := σ) w3).trans (r_ret ?_)
  refine ev_andN w4 fun _ => ?_
  unfold stStop
  split
  · exact ev_andT rfl (ev_and1 (ev_callR rfl (s_is_word N (k + 2) a (he a (.head _)) σ)))
  · rename_i h
    exact ev_andF (ev_lF _ hl 2 fun e => by
      match r, e with
      | [], _ => exact h rfl)
end
theorem s_is_statement (N k : Nat) (ni nb : Int) (d : PyData) (hd : nd d ≤ 1000000) (σ : Store) : tabAt tab2 N (k + 4) 6 [.dat d, .dat (.int ni), .dat (.int nb)] σ = some (.ret (.dat (.bool (isStB ni nb d))), σ) := by
  rw [tab_step (by rfl : tab2[6]? = some ([0, 5, 6], c_is_statement))]
  cases d with
  | tuple xs =>
    have hl := nd_len hd
    match xs, hd, hl with
    | [], _, _ => exact r_runD rfl (r_taken (σ₁ := σ) (ev_orF rfl (ev_orT rfl)) (r_ret rfl))
    | [x], _, _ => rw [show isStB ni nb (.tuple [x]) = false from by cases x <;> rfl]; exact r_runD rfl (r_taken (σ₁ := σ) (ev_orF rfl (ev_orT rfl)) (r_ret rfl))
    | x :: a :: r, hd, hl =>
      have hlt : evE (tabAt tab2 N (k + 3)) (.cmp .Lt (.prim .len [(.var 0)]) (.const (.int (2)))) (Rho.set (Rho.set (Rho.set (fun _ => none) 0 (.dat (.tuple (x :: a :: r)))) 5 (.dat (.int ni))) 6 (.dat (.int nb))) σ = some (.dat (.bool false), σ) := by
        refine ev_cmpR (ev_lenT rfl hl) rfl ((cm_lt _ _).trans (congrArg some (decide_eq_false ?_)))
        rw [List.length_cons, List.length_cons]
        omega
      cases x with
      | str w =>
        have hm : ∀ d ∈ PyData.str w :: a :: r, nd d ≤ 1000000 := fun d m => Nat.le_trans (nd_mem m) (nd_tup hd)
        exact r_runD rfl ((r_skip (σ₁ := σ) (ev_orF rfl (ev_orF hlt (ev_or1 (p := false) rfl)))).trans ((r_assign (v := .dat (.str w)) (σ₁ := σ) rfl).trans (st_end (nd_asc (hm _ (.head _))).1 hl fun d m => hm d (.tail _ m))))
      | _ => exact r_runD rfl (r_taken (σ₁ := σ) (ev_orF rfl (ev_orF hlt (ev_or1 (p := true) rfl))) (r_ret rfl))
  | _ => exact r_runD rfl (r_taken (σ₁ := σ) (ev_orT rfl) (r_ret rfl))
theorem ww : ∀ i j : Fin 5, (W i == W j) = (i == j) := by decide +kernel
theorem stB_w (ni nb : Int) (i : Fin 5) (a : PyData) (r : List PyData) : stB ni nb (W i) a r = if i == 0 then stPut ni nb a r else if i == 1 then stAsk ni nb a r else if i == 2 then stTimes a r else if i == 3 then stTell ni nb a r else (i == 4) && stStop a r := by
  unfold stB
  rw [ww, ww, ww, ww, ww]
theorem innB_w (i : Fin 5) (a : PyData) (r : List PyData) : innB (.tuple (.str (W i) :: a :: r)) = if i == 1 then r.take 2 else if i == 2 then r.take 1 else [] := by
  show (if (W i == W 1) = true then r.take 2 else if (W i == W 2) = true then r.take 1 else []) = _
  rw [ww, ww]
theorem st_shape {ni nb : Int} {d : PyData} (h : isStB ni nb d = true) : ∃ w a r, d = .tuple (.str w :: a :: r) ∧ (w == W 1 → ∃ x y, r = [x, y]) ∧ ((w == W 1) = false → w == W 2 → ∃ x, r = [x]) := by
  unfold isStB at h
  split at h
  · rename_i w a r
    refine ⟨w, a, r, rfl, fun e => ?_, fun e0 e => ?_⟩
    · have hq : stB ni nb w a r = stAsk ni nb a r := by
        have : w = W 1 := eq_of_beq e
        rw [this, stB_w]
        rfl
      rw [hq] at h
      match r, h with
      | [x, y], _ => exact ⟨x, y, rfl⟩
    · have hq : stB ni nb w a r = stTimes a r := by
        have : w = W 2 := eq_of_beq e
        rw [this, stB_w]
        rfl
      rw [hq] at h
      match r, h with
      | [x], _ => exact ⟨x, rfl⟩
  · exact nomatch h
theorem s_inner_rows (N k : Nat) (ni nb : Int) (d : PyData) (hd : nd d ≤ 1000000) (h : isStB ni nb d = true) (σ : Store) : tabAt tab2 N (k + 1) 7 [.dat d] σ = some (.ret (.fresh (innB d)), σ) := by
  rw [tab_step (by rfl : tab2[7]? = some ([9], c_inner_rows))]
  obtain ⟨w, a, r, rfl, h1, h2⟩ := st_shape h
  have hw : asc w = true := (nd_asc (Nat.le_trans (nd_mem (xs := .str w :: a :: r) (.head _)) (nd_tup hd))).1
  have e : ∀ i : Fin 5, evE (tabAt tab2 N k) (.cmp .Eq (.idx (.var 9) (.const (.int (0)))) (.const (.str (W i)))) (Rho.set (fun _ => none) 9 (.dat (.tuple (.str w :: a :: r)))) σ = some (.dat (.bool (w == W i)), σ) := fun i => ev_cmpR rfl rfl (cm_w hw i)
  have e1 := e 1
  have e2 := e 2
  show _ = some (CR.ret (.fresh (if w == W 1 then r.take 2 else if w == W 2 then r.take 1 else [])), σ)
  cases q1 : w == W 1 with
  | true =>
    rw [q1] at e1
    obtain ⟨x, y, rfl⟩ := h1 q1
    exact r_runL rfl (r_taken (σ₁ := σ) e1 (r_ret rfl))
  | false =>
    rw [q1] at e1
    cases q2 : w == W 2 with
    | true =>
      rw [q2] at e2
      obtain ⟨x, rfl⟩ := h2 q1 q2
      exact r_runL rfl ((r_skip (σ₁ := σ) e1).trans (r_taken (σ₁ := σ) e2 (r_ret rfl)))
    | false =>
      rw [q2] at e2
      exact r_runL rfl ((r_skip (σ₁ := σ) e1).trans ((r_skip (σ₁ := σ) e2).trans (r_ret rfl)))
theorem take_nd : ∀ (n : Nat) (xs : List PyData), ndAll (xs.take n) ≤ ndAll xs
  | 0, _ => Nat.zero_le _
  | _ + 1, [] => Nat.le_refl _
  | n + 1, x :: xs => Nat.add_le_add_left (take_nd n xs) _
theorem inn_nd (d : PyData) : ndAll (innB d) ≤ nd d := by
  unfold innB
  split
  · rename_i w a r
    have h : ∀ n, ndAll (r.take n) ≤ nd (.tuple (.str w :: a :: r)) := fun n => Nat.le_trans (take_nd n r) (by show ndAll r ≤ 1 + (nd (.str w) + (nd a + ndAll r)); omega)
    split
    · exact h 2
    · split
      · exact h 1
      · exact Nat.zero_le _
  · exact Nat.zero_le _
theorem flat_nd : ∀ xs : List PyData, ndAll (xs.flatMap innB) ≤ ndAll xs
  | [] => Nat.le_refl _
  | x :: xs => by rw [List.flatMap_cons, nd_app]; exact Nat.add_le_add (inn_nd x) (flat_nd xs)
inductive BadRows (ni nb : Int) : PyData → Prop
  | nt {d : PyData} : (∀ xs, d ≠ .tuple xs) → BadRows ni nb d
  | st {x : PyData} {xs : List PyData} : x ∈ xs → isStB ni nb x = false → BadRows ni nb (.tuple xs)
  | inn {x y : PyData} {xs : List PyData} : x ∈ xs → y ∈ innB x → BadRows ni nb y → BadRows ni nb (.tuple xs)
theorem for_ret {t : Tgt} {body : Rho → Store → Option (Fl × Store)} {d : PyData} {ds : List PyData} {ρ ρ₁ : Rho} {v : AV} {σ σ₂ : Store} (h1 : bindT t d ρ = some ρ₁) (h2 : body ρ₁ σ = some (.ret v, σ₂)) : forGo t body (d :: ds) ρ σ = some (.ret v, σ₂) := by rw [x_for1, h1, Option.bind_some, h2]; rfl
theorem r_forR {N : Nat} {Φ : Phi} {ρ : Rho} {σ σ' : Store} {t : Tgt} {k : ItK} {its : List CE} {body cs : List CS} {vs : List AV} {ds xs : List PyData} {v : AV} (h1 : evEs Φ its ρ σ = some (vs, σ)) (h2 : liveOf σ vs = []) (h3 : rdAll σ vs = some ds) (h4 : itemsD k ds = some xs)
    (h5 : forGo t (fun ρ' σ' => evSs N Φ body ρ' σ') xs ρ σ = some (.ret v, σ')) : evSs N Φ (.forr t k its body :: cs) ρ σ = some (.ret v, σ') := by
  refine r_stop ?_
  simp only [es_forr, h1, h2, h3, h4, Option.bind_some, flagAll, h5]
noncomputable def arBody : List CS := [.ite (.nott (.call 6 [(.var 9), (.var 5), (.var 6)])) [.ret (.const (.bool false))] [], .extend 10 (.call 7 [(.var 9)])]
theorem ar_inner (N k : Nat) (ni nb : Int) (σ : Store) : ∀ (xs V : List PyData) (ρ : Rho), ndAll V + ndAll xs ≤ 1000000 → ρ 10 = some (.cell σ.length) → ρ 5 = some (.dat (.int ni)) → ρ 6 = some (.dat (.int nb)) →
    ((∃ x ∈ xs, isStB ni nb x = false) → ∃ τ, forGo (.one 9) (fun ρ' σ' => evSs N (tabAt tab2 N (k + 4)) arBody ρ' σ') xs ρ (σ ++ [(.live, V)]) = some (.ret (.dat (.bool false)), σ ++ τ)) ∧
    ((∀ x ∈ xs, isStB ni nb x = true) → ∃ ρ', forGo (.one 9) (fun ρ' σ' => evSs N (tabAt tab2 N (k + 4)) arBody ρ' σ') xs ρ (σ ++ [(.live, V)]) = some (.next ρ', σ ++ [(.live, V ++ xs.flatMap innB)]) ∧ ρ' 10 = some (.cell σ.length) ∧ ρ' 5 = some (.dat (.int ni)) ∧ ρ' 6 = some (.dat (.int nb))) := by
  intro xs
  induction xs with
  | nil => intro V ρ _ h1 h2 h3; exact ⟨(fun ⟨_, h, _⟩ => nomatch h), fun _ => ⟨ρ, by rw [List.flatMap_nil, List.append_nil]; rfl, h1, h2, h3⟩⟩
  | cons x xs ih =>
    intro V ρ hl h1 h2 h3
    have hl' : ndAll V + (nd x + ndAll xs) ≤ 1000000 := hl
    have hin := inn_nd x
    have hlen := len_nd V
    have hlen2 := len_nd (innB x)
    have hs := s_is_statement N k ni nb x (by omega) (σ ++ [(.live, V)])
    have hq : ∀ b, isStB ni nb x = b → evE (tabAt tab2 N (k + 4)) (.nott (.call 6 [(.var 9), (.var 5), (.var 6)])) (Rho.set ρ 9 (.dat x)) (σ ++ [(.live, V)]) = some (.dat (.bool (!b)), σ ++ [(.live, V)]) := fun b e => by
      rw [e] at hs
      exact ev_notT (ev_callR (vs := [.dat x, .dat (.int ni), .dat (.int nb)]) (el_var (v := .dat x) rfl (el_var (v := .dat (.int ni)) (by exact h2) (el_var (v := .dat (.int nb)) (by exact h3) rfl))) hs)
    cases hx : isStB ni nb x with
    | false => exact ⟨fun _ => ⟨_, for_ret rfl (r_taken (hq false hx) (r_ret rfl))⟩, fun h => absurd ((h x (.head _)).symm.trans hx) (by decide)⟩
    | true =>
      have hb1 : evSs N (tabAt tab2 N (k + 4)) arBody (Rho.set ρ 9 (.dat x)) (σ ++ [(.live, V)]) = some (.next (Rho.set ρ 9 (.dat x)), σ ++ [(.live, V ++ innB x)]) := by
        refine Eq.trans (r_skip (hq true hx)) ?_
        refine Eq.trans (r_extend (x := 10) (ρ := Rho.set ρ 9 (.dat x)) (c := σ.length) (ds := V) (es := innB x) h1 (ev_callR (vs := [.dat x]) rfl (s_inner_rows N (k + 3) ni nb x (by omega) hx _)) (get_last ..) (lim_of (by omega))) ?_
        rw [set_last, es_nil]
      obtain ⟨i1, i2⟩ := ih (V ++ innB x) (Rho.set ρ 9 (.dat x)) (by rw [nd_app]; omega) h1 h2 h3
      rw [for_next (ρ₂ := Rho.set ρ 9 (.dat x)) rfl hb1]
      refine ⟨fun ⟨y, hy, e⟩ => i1 ?_, fun h => ?_⟩
      · rcases List.mem_cons.mp hy with rfl | hy
        · exact absurd (hx.symm.trans e) (by decide)
        · exact ⟨y, hy, e⟩
      · rw [List.flatMap_cons, ← List.append_assoc]
        exact i2 fun y hy => h y (.tail _ hy)
noncomputable def arLoop : List CS := [.assign 11 (.pop 10), .ite (.nott (.isin (.var 11) .tuple)) [.ret (.const (.bool false))] [], .forr (.one 9) .seq [(.var 11)] arBody]
theorem ar_loop (N k : Nat) (ni nb : Int) (σ : Store) : ∀ (n : Nat) (V : List PyData) (ρ : Rho), ndAll V < n → ndAll V ≤ 1000000 → ρ 10 = some (.cell σ.length) → ρ 5 = some (.dat (.int ni)) → ρ 6 = some (.dat (.int nb)) →
    ((∃ d ∈ V, BadRows ni nb d) → ∃ τ, whileGo (fun ρ' σ' => evE (tabAt tab2 N (k + 4)) (.cmp .Gt (.prim .len [(.var 10)]) (.const (.int 0))) ρ' σ') (fun ρ' σ' => evSs N (tabAt tab2 N (k + 4)) arLoop ρ' σ') n ρ (σ ++ [(.live, V)]) = some (.ret (.dat (.bool false)), σ ++ τ)) ∧
    ((∀ d ∈ V, ¬ BadRows ni nb d) → ∃ ρ', whileGo (fun ρ' σ' => evE (tabAt tab2 N (k + 4)) (.cmp .Gt (.prim .len [(.var 10)]) (.const (.int 0))) ρ' σ') (fun ρ' σ' => evSs N (tabAt tab2 N (k + 4)) arLoop ρ' σ') n ρ (σ ++ [(.live, V)]) = some (.next ρ', σ ++ [(.live, [])])) := by
  intro n
  induction n with
  | zero => intro _ _ h; exact absurd h (Nat.not_lt_zero _)
  | succ n ih =>
    intro V ρ hn hl h1 h2 h3
    have hlen := len_nd V
    have ht := ev_pos (ev_lenC (Φ := tabAt tab2 N (k + 4)) (xs := V) h1 (get_last σ (.live, V)) (by omega))
    rcases List.eq_nil_or_concat V with rfl | ⟨V', d, rfl⟩
    · exact ⟨(fun ⟨_, h, _⟩ => nomatch h), fun _ => ⟨ρ, wh_end ht⟩⟩
    · rw [List.concat_eq_append] at *
      rw [show decide (0 < (V' ++ [d]).length) = true from by simp] at ht
      have hv : ndAll (V' ++ [d]) = ndAll V' + (nd d + 0) := nd_app V' [d]
      have hpop := ev_popR (Φ := tabAt tab2 N (k + 4)) (xs := V') (d := d) h1 (by have := len_nd V'; have := nd_pos d; omega)
      cases d with
      | tuple xs =>
        have hxs : nd (.tuple xs) = 1 + ndAll xs := rfl
        have hfl := flat_nd xs
        obtain ⟨j1, j2⟩ := ar_inner N k ni nb σ xs V' (Rho.set ρ 11 (.dat (.tuple xs))) (by omega) h1 h2 h3
        have go : evSs N (tabAt tab2 N (k + 4)) arLoop ρ (σ ++ [(.live, V' ++ [.tuple xs])]) = evSs N (tabAt tab2 N (k + 4)) [.forr (.one 9) .seq [(.var 11)] arBody] (Rho.set ρ 11 (.dat (.tuple xs))) (σ ++ [(.live, V')]) := (r_assign (v := .dat (.tuple xs)) hpop).trans (r_skip (σ₁ := σ ++ [(.live, V')]) rfl)
        by_cases hst : ∃ x ∈ xs, isStB ni nb x = false
        · obtain ⟨τ, e⟩ := j1 hst
          obtain ⟨x, hx, hx'⟩ := hst
          refine ⟨fun _ => ⟨τ, wh_ret ht (go.trans (r_forR (vs := [.dat (.tuple xs)]) (ds := [.tuple xs]) rfl rfl rfl rfl e))⟩, fun h => absurd (.st hx hx') (h _ (List.mem_append_right _ (.head _)))⟩
        · have hst : ∀ x ∈ xs, isStB ni nb x = true := fun x hx => Bool.of_not_eq_false fun e => hst ⟨x, hx, e⟩
          obtain ⟨ρ₂, e, i1, i2, i3⟩ := j2 hst
          obtain ⟨m1, m2⟩ := ih (V' ++ xs.flatMap innB) ρ₂ (by rw [nd_app]; omega) (by rw [nd_app]; omega) i1 i2 i3
          have go2 := fun m => wh_step (n := m) (test := fun ρ' σ' => evE (tabAt tab2 N (k + 4)) (.cmp .Gt (.prim .len [(.var 10)]) (.const (.int 0))) ρ' σ') (body := fun ρ' σ' => evSs N (tabAt tab2 N (k + 4)) arLoop ρ' σ') ht (go.trans ((r_forS (vs := [.dat (.tuple xs)]) (ds := [.tuple xs]) rfl rfl rfl rfl e).trans es_nil))
          rw [go2]
          refine ⟨fun ⟨y, hy, hb⟩ => m1 ?_, fun h => m2 fun y hy hb => ?_⟩
          · rcases List.mem_append.mp hy with hy | hy
            · exact ⟨y, List.mem_append_left _ hy, hb⟩
            · cases List.mem_singleton.mp hy
              cases hb with
              | nt h => exact absurd rfl (h xs)
              | st hx hx' => exact absurd ((hst _ hx).symm.trans hx') (by decide)
              | inn hx hy hb => exact ⟨_, List.mem_append_right _ (List.mem_flatMap.mpr ⟨_, hx, hy⟩), hb⟩
          · rcases List.mem_append.mp hy with hy | hy
            · exact h y (List.mem_append_left _ hy) hb
            · obtain ⟨x, hx, hy⟩ := List.mem_flatMap.mp hy
              exact h _ (List.mem_append_right _ (.head _)) (.inn hx hy hb)
      | _ => exact ⟨fun _ => ⟨[(.live, V')], wh_ret ht ((r_assign hpop).trans (r_taken (σ₁ := σ ++ [(.live, V')]) rfl (r_ret rfl)))⟩, fun h => absurd (.nt fun _ => PyData.noConfusion) (h _ (List.mem_append_right _ (.head _)))⟩
theorem s_are_rows (N k : Nat) (ni nb : Int) (d : PyData) (hd : nd d ≤ 1000000) (hN : 1000000 < N) (σ : Store) :
    (BadRows ni nb d → tabAt tab2 N (k + 5) 8 [.dat d, .dat (.int ni), .dat (.int nb)] σ = some (.ret (.dat (.bool false)), σ)) ∧ (¬ BadRows ni nb d → tabAt tab2 N (k + 5) 8 [.dat d, .dat (.int ni), .dat (.int nb)] σ = some (.ret (.dat (.bool true)), σ)) := by
  rw [tab_step (by rfl : tab2[8]? = some ([0, 5, 6], c_are_rows))]
  obtain ⟨e1, e2⟩ := ar_loop N k ni nb σ N [d] (Rho.set (Rho.set (Rho.set (Rho.set (fun _ => none) 0 (.dat d)) 5 (.dat (.int ni))) 6 (.dat (.int nb))) 10 (.cell σ.length)) (by show nd d + 0 < N; omega) hd rfl rfl rfl
  refine ⟨fun h => ?_, fun h => ?_⟩
  · obtain ⟨τ, e⟩ := e1 ⟨d, .head _, h⟩
    exact run_cell (τ := τ) rfl ((r_newcell (ds := [d]) (σ₁ := σ) rfl).trans (r_stop ((es_whil ..).trans e)))
  · obtain ⟨ρ', e⟩ := e2 fun x hx => by rw [List.mem_singleton.mp hx]; exact h
    exact run_cell (τ := [(.live, [])]) rfl ((r_newcell (ds := [d]) (σ₁ := σ) rfl).trans ((r_next ((es_whil ..).trans e)).trans (r_ret rfl)))
noncomputable def BadProg : PyData → Prop
  | .tuple [.tuple rs, b, r] => 3 < rs.length ∨ (rs.map isRangeB).all id = false ∨ amongB b (1, 6) = false ∨ ∃ nb, b = .int nb ∧ BadRows rs.length nb r
  | _ => True
theorem among_int {d : PyData} {r : Int × Int} (h : amongB d r = true) : ∃ i, d = .int i := by
  cases d <;> first | exact ⟨_, rfl⟩ | exact nomatch h
theorem s_is_program (N k : Nat) (d : PyData) (hd : nd d ≤ 1000000) (hN : 1000000 < N) (σ : Store) :
    (BadProg d → tabAt tab2 N (k + 6) 9 [.dat d] σ = some (.ret (.dat (.bool false)), σ)) ∧ (¬ BadProg d → tabAt tab2 N (k + 6) 9 [.dat d] σ = some (.ret (.dat (.bool true)), σ)) := by
  rw [tab_step (by rfl : tab2[9]? = some ([0], c_is_program))]
  have no : ∀ {d} {G : Prop}, BadProg d → ¬ BadProg d → G := fun h h' => absurd h h'
  cases d with
  | tuple xs =>
    by_cases h3 : xs.length = 3
    · obtain ⟨a, b, r, rfl⟩ := len3 h3
      cases a with
      | tuple rs =>
        have hm : ∀ d ∈ [PyData.tuple rs, b, r], nd d ≤ 1000000 := fun d m => Nat.le_trans (nd_mem m) (nd_tup hd)
        have hrs := hm _ (.head _)
        have hgt : evE (tabAt tab2 N (k + 5)) (.cmp .Gt (.prim .len [(.idx (.var 0) (.const (.int 0)))]) (.const (.int 3))) (Rho.set (fun _ => none) 0 (.dat (.tuple [.tuple rs, b, r]))) σ = some (.dat (.bool (decide (3 < (rs.length : Int)))), σ) := ev_cmpR (ev_lenT (xs := rs) rfl (nd_len hrs)) rfl (cm_gt _ _)
        have hall : evE (tabAt tab2 N (k + 5)) (.prim .all [(.comp (.call 3 [(.var 4)]) (.one 4) .seq [(.idx (.var 0) (.const (.int 0)))] [])]) (Rho.set (fun _ => none) 0 (.dat (.tuple [.tuple rs, b, r]))) σ = some (.dat (.bool ((rs.map isRangeB).all id)), σ) := ev_allC isRangeB rfl rfl (lim_of (nd_len hrs)) fun x hx => ev_callR rfl (s_is_range N (k + 2) x (Nat.le_trans (nd_mem hx) (nd_tup hrs)) σ)
        have start : ∀ {res}, evSs N (tabAt tab2 N (k + 5)) (c_is_program.drop 1) (Rho.set (fun _ => none) 0 (.dat (.tuple [.tuple rs, b, r]))) σ = some (.ret (.dat (.bool res)), σ) → runF N (tabAt tab2 N (k + 5)) [0] c_is_program [.dat (.tuple [.tuple rs, b, r])] σ = some (.ret (.dat (.bool res)), σ) := fun h => r_runD rfl ((r_skip (σ₁ := σ) (ev_orF rfl (ev_orF rfl (ev_or1 (p := false) rfl)))).trans h)
        by_cases q1 : 3 < rs.length
        · exact ⟨fun _ => start (r_taken (σ₁ := σ) (ev_orT (by rw [hgt, decide_eq_true (by omega)])) (r_ret rfl)), no (.inl q1)⟩
        · rw [decide_eq_false (by omega)] at hgt
          cases q2 : (rs.map isRangeB).all id with
          | false =>
            rw [q2] at hall
            exact ⟨fun _ => start (r_taken (σ₁ := σ) (ev_orF hgt (ev_orT (ev_notT (p := false) hall))) (r_ret rfl)), no (.inr (.inl q2))⟩
          | true =>
            rw [q2] at hall
            have hb := s_is_among N (k + 3) b (1, 6) σ
            cases q3 : amongB b (1, 6) with
            | false =>
              rw [q3] at hb
              exact ⟨fun _ => start ((r_skip (σ₁ := σ) (ev_orF hgt (ev_or1 (ev_notT (p := true) hall)))).trans (r_taken (σ₁ := σ) (ev_notT (p := false) (ev_callR rfl hb)) (r_ret rfl))), no (.inr (.inr (.inl q3)))⟩
            | true =>
              rw [q3] at hb
              obtain ⟨nb, rfl⟩ := among_int q3
              obtain ⟨f1, f2⟩ := s_are_rows N k rs.length nb r (hm _ (.tail _ (.tail _ (.head _)))) hN σ
              have go : ∀ {v}, tabAt tab2 N (k + 5) 8 [.dat r, .dat (.int rs.length), .dat (.int nb)] σ = some (.ret (.dat (.bool v)), σ) → runF N (tabAt tab2 N (k + 5)) [0] c_is_program [.dat (.tuple [.tuple rs, .int nb, r])] σ = some (.ret (.dat (.bool v)), σ) := fun h => start ((r_skip (σ₁ := σ) (ev_orF hgt (ev_or1 (ev_notT (p := true) hall)))).trans ((r_skip (σ₁ := σ) (ev_notT (p := true) (ev_callR rfl hb))).trans (r_ret (ev_callR (vs := [.dat r, .dat (.int rs.length), .dat (.int nb)]) (by
                rw [el_cons, show evE (tabAt tab2 N (k + 5)) (.idx (.var 0) (.const (.int 2))) (Rho.set (fun _ => none) 0 (.dat (.tuple [.tuple rs, .int nb, r]))) σ = some (.dat r, σ) from rfl, Option.bind_some, el_cons, ev_lenT (xs := rs) rfl (nd_len hrs)]
                rfl) h))))
              refine ⟨fun h => go (f1 ?_), fun h => go (f2 fun h' => h (.inr (.inr (.inr ⟨nb, rfl, h'⟩))))⟩
              rcases h with h | h | h | ⟨m, e, h⟩
              · exact absurd h q1
              · exact absurd (q2.symm.trans h) (by decide)
              · exact absurd (q3.symm.trans h) (by decide)
              · cases e; exact h
      | _ => exact ⟨fun _ => r_runD rfl (r_taken (σ₁ := σ) (ev_orF rfl (ev_orF rfl (ev_or1 (p := true) rfl))) (r_ret rfl)), no trivial⟩
    · refine ⟨fun _ => r_runD rfl (r_taken (σ₁ := σ) (ev_orF rfl (ev_orT (ev_cmpR (ev_lenT rfl (nd_len hd)) rfl ((cm_nei _ _).trans ?_)))) (r_ret rfl)), no ?_⟩
      · exact congrArg (fun b => some (!b)) (beq_nat h3)
      · unfold BadProg
        split
        · rename_i e; cases e; exact absurd rfl h3
        · trivial
  | _ => exact ⟨fun _ => r_runD rfl (r_taken (σ₁ := σ) (ev_orT rfl) (r_ret rfl)), no trivial⟩
theorem s_inner_row (N k : Nat) (r : Row) (σ : Store) : tabAt tab2 N (k + 1) 7 [.dat r.d] σ = some (.ret (.fresh (listsD r.inner)), σ) := by
  rw [tab_step (by rfl : tab2[7]? = some ([9], c_inner_rows))]
  cases r with
  | ask e y n => exact r_runL rfl (r_taken (σ₁ := σ) (ev_cmpR rfl rfl (wq 1 1)) (r_ret rfl))
  | times j r => exact r_runL rfl ((r_skip (σ₁ := σ) (ev_cmpR rfl rfl (wq 2 1))).trans (r_taken (σ₁ := σ) (ev_cmpR rfl rfl (wq 2 2)) (r_ret rfl)))
  | put b e => exact r_runL rfl ((r_skip (σ₁ := σ) (ev_cmpR rfl rfl (wq 0 1))).trans ((r_skip (σ₁ := σ) (ev_cmpR rfl rfl (wq 0 2))).trans (r_ret rfl)))
  | tell e => exact r_runL rfl ((r_skip (σ₁ := σ) (ev_cmpR rfl rfl (wq 3 1))).trans ((r_skip (σ₁ := σ) (ev_cmpR rfl rfl (wq 3 2))).trans (r_ret rfl)))
  | stop w => exact r_runL rfl ((r_skip (σ₁ := σ) (ev_cmpR rfl rfl (wq 4 1))).trans ((r_skip (σ₁ := σ) (ev_cmpR rfl rfl (wq 4 2))).trans (r_ret rfl)))
noncomputable def progD (rs : List (Int × Int)) (nb : Nat) (rows : List Row) : PyData := .tuple [.tuple (rs.map pairD), .int nb, .tuple (rowsD rows)]
theorem r_forC {N : Nat} {Φ : Phi} {ρ ρ' : Rho} {σ σ' : Store} {t : Tgt} {i j : Nat} {ds : List PyData} {body cs : List CS} (hi : ρ i = some (.cell j)) (hj : σ[j]? = some (.live, ds)) (h5 : forGo t (fun ρ' σ' => evSs N Φ body ρ' σ') ds ρ (σ.set j (.locked, ds)) = some (.next ρ', σ')) : evSs N Φ (.forr t .seq [.var i] body :: cs) ρ σ = evSs N Φ cs ρ' (flagAll .live [j] σ') := by
  have h1 : evEs Φ [.var i] ρ σ = some ([.cell j], σ) := el_var hi rfl
  have h2 : liveOf σ [.cell j] = [j] := by simp [liveOf, hj]
  have h3 : rdAll σ [.cell j] = some [.list ds] := by rw [x_ra1, x_rdC, hj]; rfl
  have h4 : flagAll .locked [j] σ = σ.set j (.locked, ds) := by simp [flagAll, hj]
  refine r_next ?_
  rw [es_forr, h1, Option.bind_some, h3, Option.bind_some]
  show (forGo t _ ds ρ (flagAll .locked (liveOf σ [.cell j]) σ)).bind _ = _
  rw [h2, h4, h5]
  rfl
theorem unlock_at {σ : Store} {j : Nat} {ds es : List PyData} (hj : σ[j]? = some (.live, ds)) : flagAll .live [j] (σ.set j (.locked, ds) ++ [(.live, es)]) = σ ++ [(.live, es)] := by
  have hjl : j < σ.length := (List.getElem?_eq_some_iff.mp hj).1
  have : (σ.set j (.locked, ds) ++ [(Flag.live, es)])[j]? = some (.locked, ds) := by
    rw [List.getElem?_append_left (by rw [List.length_set]; exact hjl), List.getElem?_set_self hjl]
  simp only [flagAll, this]
  rw [List.set_append_left _ _ (by rw [List.length_set]; exact hjl), List.set_set]
  have hs : σ.set j (.live, ds) = σ := by
    apply List.ext_getElem?
    intro i
    rw [List.getElem?_set]
    split
    · rename_i e; subst e; exact hj.symm
    · rfl
  rw [hs]
noncomputable def dpAll : List (List Row) → Nat
  | [] => 0
  | l :: r => max (rowsDp l) (dpAll r)
theorem dpAll_app : ∀ a b : List (List Row), dpAll (a ++ b) = max (dpAll a) (dpAll b)
  | [], b => (Nat.zero_max _).symm
  | l :: a, b => by show max (rowsDp l) (dpAll (a ++ b)) = max (max (rowsDp l) (dpAll a)) (dpAll b); rw [dpAll_app a b]; exact (Nat.max_assoc ..).symm
theorem inner_dp (r : Row) : dpAll r.inner = r.dp := by
  cases r <;> first | rfl | (show max _ 0 = _; exact Nat.max_zero _) | (show max _ (max _ 0) = max _ _; rw [Nat.max_zero])
theorem flat_dp : ∀ rs : List Row, dpAll (rs.flatMap Row.inner) + 1 = rowsDp rs
  | [] => rfl
  | r :: rs => by
    rw [List.flatMap_cons, dpAll_app, inner_dp, ← Nat.add_max_add_right, flat_dp rs]
    rfl
noncomputable def below (L : List (List Row)) : List (List Row) := L.flatMap fun rs => rs.flatMap Row.inner
theorem below_dp : ∀ L : List (List Row), L ≠ [] → dpAll (below L) + 1 = dpAll L
  | [], h => absurd rfl h
  | [l], _ => by
    show dpAll (l.flatMap Row.inner ++ []) + 1 = max (rowsDp l) 0
    rw [List.append_nil, Nat.max_zero, flat_dp l]
  | l :: l' :: r, _ => by
    show dpAll (l.flatMap Row.inner ++ below (l' :: r)) + 1 = max (rowsDp l) (dpAll (l' :: r))
    rw [dpAll_app, ← Nat.add_max_add_right, flat_dp l, below_dp (l' :: r) (fun e => nomatch e)]
theorem below_ls : ∀ L : List (List Row), lsAll (below L) + L.length = lsAll L
  | [] => rfl
  | l :: r => by
    have h1 := flat_ls l
    have h2 := below_ls r
    show lsAll (l.flatMap Row.inner ++ below r) + (r.length + 1) = rowsLs l + lsAll r
    rw [lsAll_app]
    omega
noncomputable def deBody : List CS := [.extend 13 (.call 7 [(.var 9)])]
theorem de_inner (N k : Nat) (σ : Store) : ∀ (rs : List Row) (W : List (List Row)) (ρ : Rho), lsAll W + rowsLs rs ≤ 1000000 → ρ 13 = some (.cell σ.length) →
    ∃ ρ', forGo (.one 9) (fun ρ' σ' => evSs N (tabAt tab2 N (k + 1)) deBody ρ' σ') (rowsD rs) ρ (σ ++ [(.live, listsD W)]) = some (.next ρ', σ ++ [(.live, listsD (W ++ rs.flatMap Row.inner))]) ∧ ∀ j, j ≠ 9 → ρ' j = ρ j := by
  intro rs
  induction rs with
  | nil => intro W ρ _ h1; exact ⟨ρ, by rw [List.flatMap_nil, List.append_nil]; rfl, fun _ _ => rfl⟩
  | cons r rs ih =>
    intro W ρ hl h1
    have hl' : lsAll W + (r.ls + rowsLs rs) ≤ 1000000 := hl
    have hin := inner_ls r
    have hlen := len_ls W
    have hlen2 := len_ls r.inner
    obtain ⟨ρ', e, i1⟩ := ih (W ++ r.inner) (Rho.set ρ 9 (.dat r.d)) (by rw [lsAll_app, hin]; omega) h1
    refine ⟨ρ', ?_, fun j hj => (i1 j hj).trans (if_neg hj)⟩
    rw [List.flatMap_cons, ← List.append_assoc, ← e]
    have hb1 : evSs N (tabAt tab2 N (k + 1)) deBody (Rho.set ρ 9 (.dat r.d)) (σ ++ [(.live, listsD W)]) = some (.next (Rho.set ρ 9 (.dat r.d)), σ ++ [(.live, listsD (W ++ r.inner))]) := by
      refine Eq.trans (r_extend (x := 13) (ρ := Rho.set ρ 9 (.dat r.d)) (c := σ.length) (ds := listsD W) (es := listsD r.inner) h1 (ev_callR (vs := [.dat r.d]) rfl (s_inner_row N k r _)) (get_last ..) (le_lim (m := 1000000) (by rw [listsD_len, listsD_len]; omega) (by decide))) ?_
      rw [set_last, es_nil, listsD_app]
    exact for_next rfl hb1
noncomputable def deOuter : List CS := [.forr (.one 9) .seq [(.var 14)] deBody]
theorem de_outer (N k : Nat) (σ : Store) : ∀ (L W : List (List Row)) (ρ : Rho), lsAll W + lsAll L ≤ 1000000 → ρ 13 = some (.cell σ.length) →
    ∃ ρ', forGo (.one 14) (fun ρ' σ' => evSs N (tabAt tab2 N (k + 1)) deOuter ρ' σ') (listsD L) ρ (σ ++ [(.live, listsD W)]) = some (.next ρ', σ ++ [(.live, listsD (W ++ below L))]) ∧ ∀ j, j ≠ 9 → j ≠ 14 → ρ' j = ρ j := by
  intro L
  induction L with
  | nil => intro W ρ _ h1; exact ⟨ρ, by rw [show below [] = [] from rfl, List.append_nil]; rfl, fun _ _ _ => rfl⟩
  | cons rs L ih =>
    intro W ρ hl h1
    have hl' : lsAll W + (rowsLs rs + lsAll L) ≤ 1000000 := hl
    have hfl := flat_ls rs
    obtain ⟨ρ₁, e1, i1⟩ := de_inner N k σ rs W (Rho.set ρ 14 (.dat (.tuple (rowsD rs)))) (by omega) h1
    obtain ⟨ρ', e, i2⟩ := ih (W ++ rs.flatMap Row.inner) ρ₁ (by rw [lsAll_app]; omega) ((i1 13 (by decide)).trans h1)
    refine ⟨ρ', ?_, fun j h12 h17 => (i2 j h12 h17).trans ((i1 j h12).trans (if_neg h17))⟩
    rw [show below (rs :: L) = rs.flatMap Row.inner ++ below L from rfl, ← List.append_assoc, ← e]
    exact for_next (d := .tuple (rowsD rs)) rfl (Eq.trans (r_forS (vs := [.dat (.tuple (rowsD rs))]) (ds := [.tuple (rowsD rs)]) (xs := rowsD rs) rfl rfl rfl rfl e1) es_nil)
noncomputable def deLoop : List CS := [.assign 3 (.bin .Add (.var 3) (.const (.int 1))), .newcell 13 (.lst []), .forr (.one 14) .seq [(.var 12)] deOuter, .newcell 12 (.var 13)]
theorem de_loop (N k : Nat) : ∀ (n : Nat) (σ : Store) (L : List (List Row)) (ρ : Rho) (m : Nat), dpAll L < n → lsAll L ≤ 1000000 → ρ 12 = some (.cell σ.length) → ρ 3 = some (.dat (.int m)) →
    ∃ ρ' τ, whileGo (fun ρ' σ' => evE (tabAt tab2 N (k + 1)) (.cmp .Gt (.prim .len [(.var 12)]) (.const (.int 0))) ρ' σ') (fun ρ' σ' => evSs N (tabAt tab2 N (k + 1)) deLoop ρ' σ') n ρ (σ ++ [(.live, listsD L)]) = some (.next ρ', σ ++ τ) ∧ ρ' 3 = some (.dat (.int (m + dpAll L : Nat))) := by
  intro n
  induction n with
  | zero => intro _ _ _ _ h; exact absurd h (Nat.not_lt_zero _)
  | succ n ih =>
    intro σ L ρ m hn hl h1 h3
    have hlen := len_ls L
    have ht := ev_pos (ev_lenC (Φ := tabAt tab2 N (k + 1)) (xs := listsD L) h1 (get_last σ (Flag.live, listsD L)) (by rw [listsD_len]; omega))
    rw [listsD_len] at ht
    by_cases hL : L = []
    · subst hL
      exact ⟨ρ, _, wh_end ht, h3⟩
    · rw [decide_eq_true (List.length_pos_iff.mpr hL)] at ht
      have hb := below_dp L hL
      have hbl := below_ls L
      have hgl := get_last σ (Flag.live, listsD L)
      have hsl : ((σ ++ [(Flag.live, listsD L)]).set σ.length (.locked, listsD L)).length = (σ ++ [(Flag.live, listsD L)]).length := List.length_set
      obtain ⟨ρ₁, e1, i1⟩ := de_outer N k ((σ ++ [(Flag.live, listsD L)]).set σ.length (Flag.locked, listsD L)) L [] (Rho.set (Rho.set ρ 3 (.dat (.int (m + 1)))) 13 (.cell (σ ++ [(Flag.live, listsD L)]).length)) (by show 0 + _ ≤ _; omega) (by rw [hsl]; rfl)
      obtain ⟨ρ', τ, e, i2⟩ := ih (σ ++ [(.live, listsD L)]) (below L) (Rho.set ρ₁ 12 (.cell (σ ++ [(Flag.live, listsD L)]).length)) (m + 1) (by omega) (by omega) rfl ((i1 3 (by decide) (by decide)).trans rfl)
      refine ⟨ρ', [(Flag.live, listsD L)] ++ τ, ?_, by rw [i2]; congr 3; omega⟩
      rw [← List.append_assoc, ← e]
      refine wh_step ht ?_
      refine Eq.trans (r_assign (v := .dat (.int (m + 1))) (σ₁ := σ ++ [(Flag.live, listsD L)]) ?_) (Eq.trans (r_newcell (ds := []) (σ₁ := σ ++ [(Flag.live, listsD L)]) rfl) (Eq.trans (r_forC (i := 12) (j := σ.length) (ds := listsD L) (ρ' := ρ₁) (σ' := (σ ++ [(Flag.live, listsD L)]).set σ.length (Flag.locked, listsD L) ++ [(Flag.live, listsD (below L))]) (by exact h1) ?_ ?_) ?_))
      · rw [ev_bin, evV h3]; rfl
      · rw [List.getElem?_append_left (by simp)]; exact hgl
      · rw [List.set_append_left _ _ (by simp)]
        exact e1
      · rw [unlock_at hgl, es_cons, es_newcell, evV (v := .cell (σ ++ [(Flag.live, listsD L)]).length) ((i1 13 (by decide) (by decide)).trans rfl)]
        rfl
theorem dp_ls : ∀ n rs, rowsLs rs ≤ n → rowsDp rs ≤ n
  | 0, rs, h => absurd (Nat.le_trans (ls_pos rs) h) (by decide)
  | n + 1, [], _ => Nat.succ_le_succ (Nat.zero_le _)
  | n + 1, r :: rs, h => by
    have hls : r.ls + rowsLs rs ≤ n + 1 := h
    have hp := ls_pos rs
    have h2 : rowsDp rs ≤ n + 1 := dp_ls (n + 1) rs (by omega)
    have h1 : r.dp ≤ n := by
      cases r with
      | ask e y m =>
        have hy : rowsLs y + rowsLs m + rowsLs rs ≤ n + 1 := hls
        exact Nat.max_le.mpr ⟨dp_ls n y (by have := ls_pos m; omega), dp_ls n m (by have := ls_pos y; omega)⟩
      | times j l =>
        have hy : rowsLs l + rowsLs rs ≤ n + 1 := hls
        exact dp_ls n l (by omega)
      | _ => exact Nat.zero_le _
    exact Nat.max_le.mpr ⟨Nat.succ_le_succ h1, h2⟩
theorem s_depth (N k : Nat) (hN : 1000000 < N) (rs : List Row) (hl : rowsLs rs ≤ 1000000) (σ : Store) : tabAt tab2 N (k + 2) 10 [.dat (.tuple (rowsD rs))] σ = some (.ret (.dat (.int (rowsDp rs))), σ) := by
  rw [tab_step (by rfl : tab2[10]? = some ([11], c_depth))]
  have hd : dpAll [rs] = rowsDp rs := Nat.max_zero _
  have hdl := dp_ls 1000000 rs hl
  obtain ⟨ρ', τ, e, h⟩ := de_loop N k N σ [rs] (Rho.set (Rho.set (Rho.set (fun _ => none) 11 (.dat (.tuple (rowsD rs)))) 3 (.dat (.int 0))) 12 (.cell σ.length)) 0 (by rw [hd]; omega) hl rfl rfl
  rw [hd, Nat.zero_add] at h
  exact run_cell (τ := τ) rfl (Eq.trans (r_assign (v := .dat (.int 0)) (σ₁ := σ) rfl) (Eq.trans (r_newcell (ds := [.tuple (rowsD rs)]) (σ₁ := σ) rfl) (Eq.trans (r_next ((es_whil ..).trans e)) (r_ret (evV h)))))
theorem ok_inner {ni nb : Nat} {r : Row} (h : r.ok ni nb) : ∀ l ∈ r.inner, rowsOk ni nb l := by
  cases r with
  | ask e y n => exact fun l m => by rcases List.mem_cons.mp m with rfl | m; exact h.2.1; rw [List.mem_singleton.mp m]; exact h.2.2
  | times k r => exact fun l m => by rw [List.mem_singleton.mp m]; exact h.2
  | _ => exact fun _ m => nomatch m
theorem ev_addI {Φ : Phi} {ρ : Rho} {σ : Store} {a b : CE} {x y : Int} (h1 : evE Φ a ρ σ = some (.dat (.int x), σ)) (h2 : evE Φ b ρ σ = some (.dat (.int y), σ)) : evE Φ (.bin .Add a b) ρ σ = some (.dat (.int (x + y)), σ) := ev_binR h1 h2 rfl rfl rfl
theorem ev_mulI {Φ : Phi} {ρ : Rho} {σ : Store} {a b : CE} {x y : Int} (h1 : evE Φ a ρ σ = some (.dat (.int x), σ)) (h2 : evE Φ b ρ σ = some (.dat (.int y), σ)) (h : mulOk x y = true) : evE Φ (.bin .Mult a b) ρ σ = some (.dat (.int (x * y)), σ) := ev_binR h1 h2 rfl rfl (bi_mul h)
theorem ev_ixD {Φ : Phi} {ρ : Rho} {σ : Store} {i : Nat} {m : Int} {d r : PyData} (h : ρ i = some (.dat d)) (h' : idxD d (.int m) = some r) : evE Φ (.idx (.var i) (.const (.int m))) ρ σ = some (.dat r, σ) := ev_idxR (evV h) rfl rfl rfl h'
theorem word_eq {Φ : Phi} {ρ : Rho} {σ : Store} {i : Nat} {d : PyData} {a : Fin 5} (b : Fin 5) (h : ρ i = some (.dat d)) (h' : idxD d (.int 0) = some (.str (W a))) : evE Φ (.cmp .Eq (.idx (.var i) (.const (.int 0))) (.const (.str (W b)))) ρ σ = some (.dat (.bool (a == b)), σ) := ev_cmpR (ev_ixD h h') rfl (wq a b)
noncomputable def wBody : List CS := [.assign 15 (.bin .Add (.var 15) (.const (.int 1))), .ite (.cmp .Eq (.idx (.var 9) (.const (.int 0))) (.const (.str (Str.ofString "ask")))) [.assign 15 (.bin .Add (.bin .Add (.var 15) (.call 11 [(.idx (.var 9) (.const (.int 2)))])) (.call 11 [(.idx (.var 9) (.const (.int 3)))]))] [.ite (.cmp .Eq (.idx (.var 9) (.const (.int 0))) (.const (.str (Str.ofString "times")))) [.assign 15 (.bin .Add (.var 15) (.bin .Mult (.idx (.var 9) (.const (.int 1))) (.call 11 [(.idx (.var 9) (.const (.int 2)))])))] []]]
theorem w_row (N : Nat) (Φ : Phi) (σ : Store) (r : Row) (m : Nat) (ρ : Rho) (h12 : ρ 9 = some (.dat r.d)) (h18 : ρ 15 = some (.dat (.int m))) (h8 : ∀ j l, r = .times j l → j ≤ 8) (H : ∀ l ∈ r.inner, Φ 11 [.dat (.tuple (rowsD l))] σ = some (.ret (.dat (.int (rowsWt l))), σ)) :
    ∃ ρ', evSs N Φ wBody ρ σ = some (.next ρ', σ) ∧ ρ' 15 = some (.dat (.int (m + r.wt : Nat))) := by
  have hA : evE Φ (.bin .Add (.var 15) (.const (.int 1))) ρ σ = some (.dat (.int ((m : Int) + 1)), σ) := ev_addI (evV h18) rfl
  have hcall : ∀ (ρ : Rho) (j : Int) l, ρ 9 = some (.dat r.d) → idxD r.d (.int j) = some (.tuple (rowsD l)) → l ∈ r.inner → evE Φ (.call 11 [(.idx (.var 9) (.const (.int j)))]) ρ σ = some (.dat (.int (rowsWt l)), σ) := fun ρ j l h1 h2 h3 => ev_callR (vs := [.dat (.tuple (rowsD l))]) (σ₁ := σ) (by rw [el_cons, ev_ixD h1 h2]; rfl) (H l h3)
  have plain : ∀ a : Fin 5, a ≠ 1 → a ≠ 2 → idxD r.d (.int 0) = some (.str (W a)) → r.wt = 1 → ∃ ρ', evSs N Φ wBody ρ σ = some (.next ρ', σ) ∧ ρ' 15 = some (.dat (.int (m + r.wt : Nat))) := fun a h1 h2 h0 hw => by
    have e1 := word_eq (Φ := Φ) (σ := σ) (ρ := ρ.set 15 (.dat (.int ((m : Int) + 1)))) (i := 9) 1 h12 h0
    have e2 := word_eq (Φ := Φ) (σ := σ) (ρ := ρ.set 15 (.dat (.int ((m : Int) + 1)))) (i := 9) 2 h12 h0
    rw [beq_false_of_ne h1] at e1
    rw [beq_false_of_ne h2] at e2
    exact ⟨_, Eq.trans (r_assign hA) (Eq.trans (r_next (Eq.trans (r_false e1) (Eq.trans (r_skip e2) es_nil))) es_nil), by rw [hw]; rfl⟩
  cases r with
  | put b e => exact plain 0 (by decide) (by decide) rfl rfl
  | tell e => exact plain 3 (by decide) (by decide) rfl rfl
  | stop w => exact plain 4 (by decide) (by decide) rfl rfl
  | ask e y n =>
    have e1 := word_eq (Φ := Φ) (σ := σ) (ρ := ρ.set 15 (.dat (.int ((m : Int) + 1)))) (i := 9) (a := 1) 1 h12 rfl
    refine ⟨_, Eq.trans (r_assign hA) (Eq.trans (r_next (Eq.trans (r_true e1) (Eq.trans (r_assign (v := .dat (.int ((m : Int) + 1 + (rowsWt y : Int) + rowsWt n))) (σ₁ := σ) (ev_addI (ev_addI (evV rfl) (hcall _ 2 y h12 rfl (.head _))) (hcall _ 3 n h12 rfl (.tail _ (.head _))))) es_nil))) es_nil), ?_⟩
    show some (AV.dat (.int ((m : Int) + 1 + (rowsWt y : Int) + rowsWt n))) = some (.dat (.int ((m + (1 + rowsWt y + rowsWt n) : Nat) : Int)))
    congr 3
    omega
  | times j l =>
    have e1 := word_eq (Φ := Φ) (σ := σ) (ρ := ρ.set 15 (.dat (.int ((m : Int) + 1)))) (i := 9) (a := 2) 1 h12 rfl
    have e2 := word_eq (Φ := Φ) (σ := σ) (ρ := ρ.set 15 (.dat (.int ((m : Int) + 1)))) (i := 9) (a := 2) 2 h12 rfl
    have hj := h8 j l rfl
    refine ⟨_, Eq.trans (r_assign hA) (Eq.trans (r_next (Eq.trans (r_false e1) (Eq.trans (r_next (Eq.trans (r_true e2) (Eq.trans (r_assign (v := .dat (.int ((m : Int) + 1 + (j : Int) * rowsWt l))) (σ₁ := σ) (ev_addI (evV rfl) (ev_mulI (ev_ixD h12 rfl) (hcall _ 2 l h12 rfl (.head _)) (mulOk_l (by omega))))) es_nil))) es_nil))) es_nil), ?_⟩
    show some (AV.dat (.int ((m : Int) + 1 + (j : Int) * rowsWt l))) = some (.dat (.int ((m + (1 + j * rowsWt l) : Nat) : Int)))
    rw [show (j : Int) * rowsWt l = ((j * rowsWt l : Nat) : Int) from (Int.natCast_mul ..).symm]
    congr 3
    omega
theorem w_loop (N : Nat) (Φ : Phi) (σ : Store) : ∀ (rs : List Row) (m : Nat) (ρ : Rho), ρ 15 = some (.dat (.int m)) → (∀ r ∈ rs, (∀ j l, r = .times j l → j ≤ 8) ∧ ∀ l ∈ r.inner, Φ 11 [.dat (.tuple (rowsD l))] σ = some (.ret (.dat (.int (rowsWt l))), σ)) →
    ∃ ρ', forGo (.one 9) (fun ρ' σ' => evSs N Φ wBody ρ' σ') (rowsD rs) ρ σ = some (.next ρ', σ) ∧ ρ' 15 = some (.dat (.int (m + rowsWt rs : Nat))) := by
  intro rs
  induction rs with
  | nil => intro m ρ h _; exact ⟨ρ, rfl, h⟩
  | cons r rs ih =>
    intro m ρ h H
    obtain ⟨ρ₁, e1, h1⟩ := w_row N Φ σ r m (Rho.set ρ 9 (.dat r.d)) rfl h (H r (.head _)).1 (H r (.head _)).2
    obtain ⟨ρ', e2, h2⟩ := ih (m + r.wt) ρ₁ h1 fun r' hr => H r' (.tail _ hr)
    exact ⟨ρ', (for_next rfl e1).trans e2, by rw [h2, Nat.add_assoc]; rfl⟩
theorem dp_mem : ∀ {rs : List Row} {r : Row}, r ∈ rs → r.dp + 1 ≤ rowsDp rs
  | _ :: _, _, .head _ => Nat.le_max_left ..
  | _ :: _, _, .tail _ m => Nat.le_trans (dp_mem m) (Nat.le_max_right ..)
theorem dp_inner {r : Row} {l : List Row} (h : l ∈ r.inner) : rowsDp l ≤ r.dp := by
  cases r with
  | ask e y n => rcases List.mem_cons.mp h with rfl | h; exact Nat.le_max_left ..; rw [List.mem_singleton.mp h]; exact Nat.le_max_right ..
  | times j r => rw [List.mem_singleton.mp h]; exact Nat.le_refl _
  | _ => exact nomatch h
theorem dp_pos : ∀ rs : List Row, 1 ≤ rowsDp rs
  | [] => Nat.le_refl _
  | r :: rs => Nat.le_trans (dp_pos rs) (Nat.le_max_right ..)
theorem s_weight (N ni nb : Nat) (σ : Store) : ∀ (k : Nat) (rs : List Row), rowsDp rs ≤ k → rowsOk ni nb rs → tabAt tab2 N k 11 [.dat (.tuple (rowsD rs))] σ = some (.ret (.dat (.int (rowsWt rs))), σ) := by
  intro k
  induction k with
  | zero => intro rs h; exact absurd (Nat.le_trans (dp_pos rs) h) (by decide)
  | succ k ih =>
    intro rs h ho
    rw [tab_step (by rfl : tab2[11]? = some ([11], c_weight))]
    obtain ⟨ρ', e, h'⟩ := w_loop N (tabAt tab2 N k) σ rs 0 (Rho.set (Rho.set (fun _ => none) 11 (.dat (.tuple (rowsD rs)))) 15 (.dat (.int 0))) rfl fun r hr => ⟨fun j l e => by have := ok_mem ho hr; rw [e] at this; exact this.1, fun l hl => ih l (by have := dp_mem hr; have := dp_inner hl; omega) (ok_inner (ok_mem ho hr) l hl)⟩
    rw [Nat.zero_add] at h'
    exact r_runD rfl (Eq.trans (r_assign (v := .dat (.int 0)) (σ₁ := σ) rfl) (Eq.trans (r_forS (vs := [.dat (.tuple (rowsD rs))]) (ds := [.tuple (rowsD rs)]) (xs := rowsD rs) rfl rfl rfl rfl e) (r_ret (evV h'))))
theorem run_none {N : Nat} {Φ : Phi} {is : List Nat} {cs : List CS} {args : List AV} {σ : Store} {ρ ρ' : Rho} (h : bindArgsR is args (fun _ => none) = some ρ) (h' : evSs N Φ cs ρ σ = some (.next ρ', σ)) : runF N Φ is cs args σ = some (.ret (.dat .none), σ) := by
  rw [x_run, h, Option.bind_some, h']
  show some (CR.ret (.dat .none), σ.take σ.length) = _
  rw [List.take_length]
theorem r_setItem {N : Nat} {Φ : Phi} {ρ : Rho} {σ : Store} {x c : Nat} {i e : CE} {cs : List CS} {k : Nat} {d : PyData} {ds : List PyData} (hx : ρ x = some (.cell c)) (h : evE Φ e ρ σ = some (.dat d, σ)) (hi : evE Φ i ρ σ = some (.dat (.int k), σ)) (hc : σ[c]? = some (.live, ds)) (hk : k < ds.length) (hl : ds.length ≤ 1000) : evSs N Φ (.setItem x i e :: cs) ρ σ = evSs N Φ cs ρ (σ.set c (.live, ds.set k d)) := by
  rw [es_cons, es_setItem, show cellIn ρ x = some c by rw [cellIn, hx]; rfl, Option.bind_some, h]
  show ((evE Φ i ρ σ).bind _).bind _ = _
  rw [hi]
  show ((liveAt σ c).bind _).bind _ = _
  rw [show liveAt σ c = some ds by rw [liveAt, hc], Option.bind_some, if_pos ⟨Int.natCast_nonneg _, hk, le_lim (m := 1000) hl (by decide)⟩]
  rfl
theorem rowsD_app (a b : List Row) : rowsD (a ++ b) = rowsD a ++ rowsD b := by rw [rowsD_map, rowsD_map, rowsD_map, List.map_append]
theorem rowsD_len (l : List Row) : (rowsD l).length = l.length := by rw [rowsD_map, List.length_map]
theorem sz_pos (r : Row) : 1 ≤ r.sz := by
  cases r <;> first | exact Nat.le_refl _ | (show 1 ≤ 1 + _; omega) | (show 1 ≤ 1 + _ + _; omega)
theorem len_sz : ∀ rs : List Row, rs.length ≤ rowsSz rs
  | [] => Nat.le_refl _
  | r :: rs => by have := sz_pos r; have := len_sz rs; show rs.length + 1 ≤ r.sz + rowsSz rs; omega
theorem ev_tup2 {Φ : Phi} {ρ : Rho} {σ : Store} {a b : CE} {d e : PyData} (h1 : evE Φ a ρ σ = some (.dat d, σ)) (h2 : evE Φ b ρ σ = some (.dat e, σ)) : evE Φ (.tup [a, b]) ρ σ = some (.dat (.tuple [d, e]), σ) := by
  rw [ev_tup, el_cons, h1, Option.bind_some, el_cons, h2]
  rfl
theorem el_one {Φ : Phi} {ρ : Rho} {σ σ₁ σ₂ : Store} {e : CE} {v : AV} {es : List CE} {vs : List AV} (h : evE Φ e ρ σ = some (v, σ₁)) (h' : evEs Φ es ρ σ₁ = some (vs, σ₂)) : evEs Φ (e :: es) ρ σ = some (settle v :: vs, σ₂) := by rw [el_cons, h, Option.bind_some, h']; rfl
theorem ev_primR {Φ : Phi} {ρ : Rho} {σ σ₁ : Store} {p : Prim} {es : List CE} {vs : List AV} {ds : List PyData} {r : AV} (h1 : evEs Φ es ρ σ = some (vs, σ₁)) (h2 : rdAll σ₁ vs = some ds) (h3 : primD p ds = some r) : evE Φ (.prim p es) ρ σ = some (r, σ₁) := by rw [ev_prim, h1, Option.bind_some, h2, Option.bind_some, h3]; rfl
noncomputable def abc : Str := Str.ofString "abcdefghijklmnopqrstuvwxyz"
theorem abc_cps : abc.cps = #[97, 98, 99, 100, 101, 102, 103, 104, 105, 106, 107, 108, 109, 110, 111, 112, 113, 114, 115, 116, 117, 118, 119, 120, 121, 122] := by decide +kernel
theorem ix_abc : ∀ j : Nat, j < 26 → idxD (.str abc) (.int j) = some (.str ⟨#[97 + j]⟩) := by
  intro j hj
  show (if 0 ≤ (j : Int) ∧ (j : Int).toNat < 4611686018427387904 then abc.cps[(j : Int).toNat]?.bind (fun c => some (PyData.str ⟨#[c]⟩)) else none) = _
  rw [if_pos (by omega), abc_cps, Int.toNat_natCast]
  have : ∀ j : Fin 26, (#[97, 98, 99, 100, 101, 102, 103, 104, 105, 106, 107, 108, 109, 110, 111, 112, 113, 114, 115, 116, 117, 118, 119, 120, 121, 122] : Array Nat)[j.val]? = some (97 + j.val) := by decide
  rw [this ⟨j, hj⟩]
  rfl
theorem strsD_map (cs : List Nat) : strsD (cs.map fun c => PyData.str ⟨#[c]⟩) = some (cs.map fun c => (⟨#[c]⟩ : Str)) := by
  induction cs with
  | nil => rfl
  | cons c cs ih => show (strsD (cs.map fun c => PyData.str ⟨#[c]⟩)).bind _ = _; rw [ih]; rfl
theorem join_cs (s : Str) (hs : s.cps = #[]) : ∀ cs : List Nat, (Str.join s (cs.map fun c => (⟨#[c]⟩ : Str))).cps.toList = cs
  | [] => rfl
  | [c] => rfl
  | c :: d :: cs => by
    have ih := join_cs s hs (d :: cs)
    show ((#[c] ++ s.cps) ++ (Str.join s ((d :: cs).map fun c => (⟨#[c]⟩ : Str))).cps).toList = _
    rw [hs, Array.toList_append, ih]
    rfl
theorem s_word_by (N k : Nat) (c : Int) (σ : Store) : ∃ w, wordOk w ∧ tabAt tab2 N (k + 2) 18 [.dat (.int c)] σ = some (.ret (.dat (.str w)), σ) := by
  rw [tab_step (by rfl : tab2[18]? = some ([18], c__law_word_by))]
  obtain ⟨m, hm, em⟩ := fmod_nat c (b := 8) (by decide)
  have em' : c.fmod 8 = (m : Int) := em
  have i26 := fun j : Nat => fmod_nat ((mixed (c.fdiv 8) j).fdiv 3) (b := 26) (by decide)
  have hc := ev_compA (Φ := tabAt tab2 N (k + 1)) (ρ := Rho.set (Rho.set (fun _ => none) 18 (.dat (.int c))) 29 (.dat (.str abc))) (σ := σ) (ce := .idx (.var 29) (.bin .Mod (.bin .FloorDiv (.call 14 [(.bin .FloorDiv (.var 18) (.const (.int 8))), (.var 17)]) (.const (.int 3))) (.const (.int 26)))) (t := .one 17) (k := .range1) (its := [.bin .Add (.const (.int 1)) (.bin .Mod (.var 18) (.const (.int 8)))])
    (vs := [.dat (.int (1 + m : Nat))]) (ds := [.int (1 + m : Nat)]) (List.range (1 + m)) (fun k => .int (k : Nat)) (fun j => .str ⟨#[97 + (((mixed (c.fdiv 8) j).fdiv 3).fmod 26).toNat]⟩)
    (by rw [el_cons, ev_addI (y := m) rfl (ev_binR (y := .dat (.int 8)) rfl rfl rfl rfl (by rw [bi_mod (by decide), em']))]; show some ([AV.dat (.int (1 + (m : Int)))], σ) = _; rw [show (1 + (m : Int)) = ((1 + m : Nat) : Int) from by omega]) rfl rfl (range_it (by omega)) (le_lim (m := 8) (by rw [List.length_range]; omega) (by decide)) (fun j hj => ⟨_, rfl, by
      have hj' := List.mem_range.mp hj
      obtain ⟨i, hi, e⟩ := i26 j
      have e' : ((mixed (c.fdiv 8) j).fdiv 3).fmod 26 = (i : Int) := e
      rw [e', Int.toNat_natCast]
      refine ev_idxR (x := .dat (.str abc)) (y := .dat (.int i)) (evV rfl) (ev_binR (x := .dat (.int ((mixed (c.fdiv 8) j).fdiv 3))) (y := .dat (.int 26)) (ev_binR (x := .dat (.int (mixed (c.fdiv 8) j))) (y := .dat (.int 3)) (ev_callR (vs := [.dat (.int (c.fdiv 8)), .dat (.int j)]) (σ₁ := σ) rfl (s_mixed N k (c.fdiv 8) j (by omega) σ)) rfl rfl rfl (bi_fdiv (by decide) (by decide))) rfl rfl rfl (by rw [bi_mod (by decide), e'])) rfl rfl (ix_abc i hi)⟩)
  have hz : (List.range (1 + m)).map (fun j : Nat => PyData.str ⟨#[97 + (((mixed (c.fdiv 8) j).fdiv 3).fmod 26).toNat]⟩) = ((List.range (1 + m)).map fun j : Nat => 97 + (((mixed (c.fdiv 8) j).fdiv 3).fmod 26).toNat).map fun c => PyData.str ⟨#[c]⟩ := by rw [List.map_map]; rfl
  rw [hz] at hc
  have hcs : ∀ x ∈ (List.range (1 + m)).map fun j : Nat => 97 + (((mixed (c.fdiv 8) j).fdiv 3).fmod 26).toNat, 97 ≤ x ∧ x ≤ 122 := fun x hx => by
    obtain ⟨j, _, rfl⟩ := List.mem_map.mp hx
    obtain ⟨i, hi, e⟩ := i26 j
    have e' : ((mixed (c.fdiv 8) j).fdiv 3).fmod 26 = (i : Int) := e
    rw [e', Int.toNat_natCast]
    omega
  have hlen : ((List.range (1 + m)).map fun j : Nat => 97 + (((mixed (c.fdiv 8) j).fdiv 3).fmod 26).toNat).length = 1 + m := by simp
  generalize ((List.range (1 + m)).map fun j : Nat => 97 + (((mixed (c.fdiv 8) j).fdiv 3).fmod 26).toNat) = cs at hc hcs hlen
  have hnil : (Str.ofString "").cps = #[] := by decide +kernel
  have hj := join_cs (Str.ofString "") hnil cs
  have hsz : (Str.join (Str.ofString "") (cs.map fun c => (⟨#[c]⟩ : Str))).length = 1 + m := by
    show (Str.join (Str.ofString "") (cs.map fun c => (⟨#[c]⟩ : Str))).cps.size = _
    rw [← Array.length_toList, hj, hlen]
  refine ⟨Str.join (Str.ofString "") (cs.map fun c => (⟨#[c]⟩ : Str)), ⟨by omega, by omega, fun x hx => hcs x (by rw [hj] at hx; exact hx)⟩, ?_⟩
  refine r_runD rfl (Eq.trans (r_assign (v := .dat (.str abc)) (σ₁ := σ) rfl) (r_ret (ev_primR (vs := [.dat (.str (Str.ofString "")), .dat (.list (cs.map fun c => PyData.str ⟨#[c]⟩))]) (σ₁ := σ) (el_one (v := .dat (.str (Str.ofString ""))) rfl (el_one hc rfl)) rfl ?_)))
  show ((strsD (cs.map fun c => PyData.str ⟨#[c]⟩)).bind fun ss => joinD (Str.ofString "") ss) = _
  rw [strsD_map]
  show (if ((cs.map fun c => (⟨#[c]⟩ : Str)).map (·.length)).sum + (cs.map fun c => (⟨#[c]⟩ : Str)).length * (Str.ofString "").length ≤ 16777216 then _ else none) = _
  rw [if_pos ?_]
  · have h1 : ((cs.map fun c => (⟨#[c]⟩ : Str)).map (·.length)).sum = cs.length := by
      rw [List.map_map]
      clear hc hcs hlen hj hsz
      induction cs with
      | nil => rfl
      | cons c cs ih => rw [List.map_cons, List.sum_cons, ih]; show 1 + _ = _; rw [List.length_cons]; omega
    have h2 : (Str.ofString "").length = 0 := by show (Str.ofString "").cps.size = 0; rw [hnil]; rfl
    rw [h1, h2]
    omega
theorem s_expr (N k : Nat) (c : Int) (rs : List (Int × Int)) (hl : rs.length ≤ 3) (nb : Nat) (hnb : nb ≤ 6) (σ : Store) : ∃ e : Ex, e.ok rs.length nb ∧ tabAt tab2 N (k + 2) 17 [.dat (.int c), .dat (.tuple [.int rs.length, .int nb]), .dat (.tuple (rs.map pairD))] σ = some (.ret (.dat e.d), σ) := by
  obtain ⟨a, fs, os, h1, h2, h3, h4, h5⟩ := s_expression N k c rs hl nb hnb σ
  exact ⟨⟨a, fs, os⟩, ⟨h1, h3, h2, h4⟩, h5⟩
noncomputable def wB : Nat → Nat
  | 0 => 1
  | d + 1 => 1 + 4 * wB d
noncomputable def lB : Nat → Nat
  | 0 => 0
  | d + 1 => 2 + 4 * lB d
noncomputable def aB : Nat → Nat
  | 0 => 1
  | d + 1 => 3 + 4 * aB d
structure Rb (ni nb d : Nat) (r : Row) : Prop where
  ok : r.ok ni nb
  wt : r.wt ≤ wB d
  sz : r.sz ≤ wB d
  ls : r.ls ≤ lB d
  dp : r.dp ≤ d
structure Rsb (ni nb d : Nat) (rs : List Row) : Prop where
  ok : rowsOk ni nb rs
  wt : rowsWt rs ≤ 2 * wB d
  sz : rowsSz rs ≤ 2 * wB d
  ls : rowsLs rs ≤ 1 + 2 * lB d
  dp : rowsDp rs ≤ d + 1
theorem n_a {n a A : Nat} (h : A = 3 + 4 * a) (hn : n + A ≤ 900) : n + 1 + (1 + 2 * a) ≤ 900 := by omega
theorem n_b {n n1 a A : Nat} (h : A = 3 + 4 * a) (hn : n + A ≤ 900) (p : n1 ≤ n + 1 + (1 + 2 * a)) : n1 + (1 + 2 * a) ≤ 900 := by omega
theorem n_c {n n1 n2 a A : Nat} (h : A = 3 + 4 * a) (p : n1 ≤ n + 1 + (1 + 2 * a)) (r : n2 ≤ n1 + (1 + 2 * a)) : n2 ≤ n + A := by omega
theorem n_d {n n1 a A : Nat} (h : A = 3 + 4 * a) (p : n1 ≤ n + 1 + (1 + 2 * a)) : n1 ≤ n + A := by omega
theorem n_e {a b x : Nat} (h : a ≤ 2 * x) (k : b ≤ 2 * x) : 1 + a + b ≤ 1 + 4 * x := by omega
theorem n_f {a b x : Nat} (h : a ≤ 1 + 2 * x) (k : b ≤ 1 + 2 * x) : a + b ≤ 2 + 4 * x := by omega
theorem ask_b {ni nb deep d : Nat} {e : Ex} {l1 l2 : List Row} (h : deep = d + 1) (ho : (Row.ask e l1 l2).ok ni nb) (p : Rsb ni nb d l1) (r : Rsb ni nb d l2) : Rb ni nb deep (.ask e l1 l2) := by
  subst h
  exact ⟨ho, n_e p.wt r.wt, n_e p.sz r.sz, n_f p.ls r.ls, Nat.max_le.mpr ⟨p.dp, r.dp⟩⟩
theorem times_b {ni nb deep d t : Nat} {l : List Row} (h : deep = d + 1) (ht : t ≤ 2) (ho : (Row.times t l).ok ni nb) (p : Rsb ni nb d l) : Rb ni nb deep (.times t l) := by
  subst h
  exact ⟨ho, Nat.add_le_add_left (Nat.le_trans (Nat.mul_le_mul ht p.wt) (by omega)) 1, n_e (b := 0) p.sz (Nat.zero_le _), n_f (b := 0) p.ls (Nat.zero_le _), p.dp⟩
theorem get_set {σ : Store} {c : Nat} {x y : Flag × List PyData} (h : σ[c]? = some x) : (σ.set c y)[c]? = some y := List.getElem?_set_self (List.getElem?_eq_some_iff.mp h).1
theorem ev_at {Φ : Phi} {ρ : Rho} {σ : Store} {c : Nat} {n : Int} (h : ρ 30 = some (.cell c)) (hc : σ[c]? = some (.live, [.int n])) : evE Φ (.idx (.var 30) (.const (.int 0))) ρ σ = some (.dat (.int n), σ) := ev_idxR (evV h) rfl (by rw [x_rdC, hc]; rfl) rfl rfl
theorem ev_modR {Φ : Phi} {ρ : Rho} {σ : Store} {a : CE} {x m : Int} (h : evE Φ a ρ σ = some (.dat (.int x), σ)) (hm : m ≠ 0) : evE Φ (.bin .Mod a (.const (.int m))) ρ σ = some (.dat (.int (x.fmod m)), σ) := ev_binR (y := .dat (.int m)) h rfl rfl rfl (bi_mod hm)
theorem ev_divR {Φ : Phi} {ρ : Rho} {σ : Store} {a : CE} {x m : Int} (h : evE Φ a ρ σ = some (.dat (.int x), σ)) (hm : m ≠ 0) (hm' : m.natAbs < 1073741824) : evE Φ (.bin .FloorDiv a (.const (.int m))) ρ σ = some (.dat (.int (x.fdiv m)), σ) := ev_binR (y := .dat (.int m)) h rfl rfl rfl (bi_fdiv hm hm')
theorem dec_nat (a b : Nat) : decide (a = b) = ((a : Int) == (b : Int)) := by
  by_cases q : a = b
  · rw [decide_eq_true q, q, beq_self_eq_true]
  · rw [decide_eq_false q, beq_false_of_ne (by omega)]
noncomputable def nextS : List CS := [.setItem 30 (.const (.int 0)) (.bin .Add (.idx (.var 30) (.const (.int 0))) (.const (.int 1))), .assign 18 (.call 14 [(.call 13 [(.var 16), (.bin .Mod (.idx (.var 30) (.const (.int 0))) (.const (.int 40)))]), (.idx (.var 30) (.const (.int 0)))])]
theorem next_ok (N k : Nat) (xs : List Int) (hx : xs.length ≤ 63) (n : Nat) (hn : n ≤ 900) (σ : Store) (c : Nat) (hc : σ[c]? = some (.live, [.int n])) (ρ : Rho) (h26 : ρ 16 = some (.dat (.list (xs.map .int)))) (h40 : ρ 30 = some (.cell c)) : ∃ x : Int, ∀ cs, evSs N (tabAt tab2 N (k + 1)) (nextS ++ cs) ρ σ = evSs N (tabAt tab2 N (k + 1)) cs (ρ.set 18 (.dat (.int x))) (σ.set c (.live, [.int ((n + 1 : Nat) : Int)])) := by
  obtain ⟨j, hj, ej⟩ := fmod_nat ((n + 1 : Nat) : Int) (b := 40) (by decide)
  have ej' : ((n + 1 : Nat) : Int).fmod 40 = (j : Int) := ej
  have hc' : (σ.set c (.live, [.int ((n + 1 : Nat) : Int)]))[c]? = some (Flag.live, [PyData.int ((n + 1 : Nat) : Int)]) := get_set hc
  have h1 := s_cell_at N k xs hx j (by omega) (σ.set c (.live, [.int ((n + 1 : Nat) : Int)]))
  have h2 := s_mixed N k (cellAt xs j) (n + 1) (by omega) (σ.set c (.live, [.int ((n + 1 : Nat) : Int)]))
  refine ⟨mixed (cellAt xs j) ((n + 1 : Nat) : Int), fun cs => ?_⟩
  refine Eq.trans (r_setItem (k := 0) (d := .int ((n + 1 : Nat) : Int)) h40 (ev_addI (x := n) (y := 1) (ev_at h40 hc) rfl) rfl hc Nat.zero_lt_one (by show 1 ≤ 1000; decide)) (r_assign (ev_callR (vs := [.dat (.int (cellAt xs j)), .dat (.int ((n + 1 : Nat) : Int))]) (σ₁ := σ.set c (.live, [.int ((n + 1 : Nat) : Int)])) (el_one (v := .dat (.int (cellAt xs j))) (σ₁ := σ.set c (.live, [.int ((n + 1 : Nat) : Int)])) (ev_callR (vs := [.dat (.list (xs.map .int)), .dat (.int j)]) (el_var (v := .dat (.list (xs.map .int))) h26 (el_one (v := .dat (.int j)) (by rw [ev_modR (ev_at h40 hc') (by decide), ej']) rfl)) h1) (el_one (v := .dat (.int ((n + 1 : Nat) : Int))) (ev_at h40 hc') rfl)) h2))
theorem ev_tup3 {Φ : Phi} {ρ : Rho} {σ σ₁ : Store} {a b c : CE} {d e f : PyData} (h1 : evE Φ a ρ σ = some (.dat d, σ)) (h2 : evE Φ b ρ σ = some (.dat e, σ)) (h3 : evE Φ c ρ σ = some (.dat f, σ₁)) : evE Φ (.tup [a, b, c]) ρ σ = some (.dat (.tuple [d, e, f]), σ₁) := by
  rw [ev_tup, el_one h1 (el_one h2 (el_one h3 rfl))]
  rfl
theorem ev_tup4 {Φ : Phi} {ρ : Rho} {σ σ₁ : Store} {a b c g : CE} {d e f h : PyData} (h1 : evE Φ a ρ σ = some (.dat d, σ)) (h2 : evE Φ b ρ σ = some (.dat e, σ)) (h3 : evE Φ c ρ σ = some (.dat f, σ)) (h4 : evE Φ g ρ σ = some (.dat h, σ₁)) : evE Φ (.tup [a, b, c, g]) ρ σ = some (.dat (.tuple [d, e, f, h]), σ₁) := by
  rw [ev_tup, el_one h1 (el_one h2 (el_one h3 (el_one h4 rfl)))]
  rfl
section
variable {N k : Nat} {xs : List Int} (hx : xs.length ≤ 63) {rs : List (Int × Int)} (h3 : rs.length ≤ 3) {nb : Nat} (hb1 : 1 ≤ nb) (hb6 : nb ≤ 6) {c : Nat}
abbrev sizesD (rs : List (Int × Int)) (nb : Nat) : PyData := .tuple [.int rs.length, .int nb]
include hx h3 hb1 hb6
theorem stmt_step (deep : Nat) (hd : deep ≤ 2) (n : Nat) (hn : n + aB deep ≤ 900) (σ : Store) (hc : σ[c]? = some (.live, [.int n]))
    (HR : ∀ d, deep = d + 1 → ∀ (n : Nat) (σ : Store), n + (1 + 2 * aB d) ≤ 900 → σ[c]? = some (.live, [.int n]) → ∃ l n', Rsb rs.length nb d l ∧ n' ≤ n + (1 + 2 * aB d) ∧ tabAt tab2 N (k + 2) 20 [.dat (.list (xs.map .int)), .cell c, .dat (.int d), .dat (sizesD rs nb), .dat (.tuple (rs.map pairD))] σ = some (.ret (.dat (.tuple (rowsD l))), σ.set c (.live, [.int (n' : Nat)]))) :
    ∃ r n', Rb rs.length nb deep r ∧ n' ≤ n + aB deep ∧ tabAt tab2 N (k + 3) 19 [.dat (.list (xs.map .int)), .cell c, .dat (.int deep), .dat (sizesD rs nb), .dat (.tuple (rs.map pairD))] σ = some (.ret (.dat r.d), σ.set c (.live, [.int (n' : Nat)])) := by
  rw [tab_step (by rfl : tab2[19]? = some ([16, 30, 31, 25, 21], c__law_statement))]
  have ha1 : 1 ≤ aB deep := by cases deep <;> first | exact Nat.le_refl _ | (show 1 ≤ 3 + 4 * _; omega)
  have hw1 : 1 ≤ wB deep := by cases deep <;> first | exact Nat.le_refl _ | (show 1 ≤ 1 + 4 * _; omega)
  obtain ⟨x, e0⟩ := next_ok N (k + 1) xs hx n (by omega) σ c hc (Rho.set (Rho.set (Rho.set (Rho.set (Rho.set (fun _ => none) 16 (.dat (.list (xs.map .int)))) 30 (.cell c)) 31 (.dat (.int deep))) 25 (.dat (sizesD rs nb))) 21 (.dat (.tuple (rs.map pairD)))) rfl rfl
  generalize hσ1 : σ.set c (.live, [.int ((n + 1 : Nat) : Int)]) = σ1 at e0
  have hc1 : σ1[c]? = some (.live, [.int ((n + 1 : Nat) : Int)]) := by rw [← hσ1]; exact get_set hc
  have hss : ∀ y, σ1.set c y = σ.set c y := fun y => by rw [← hσ1, List.set_set]
  obtain ⟨e, he, e1⟩ := s_expr N k (x.fdiv 9) rs h3 nb hb6 σ1
  obtain ⟨wy, hwy, ewy⟩ := fmod_nat x (b := 9) (by decide)
  have ewy' : x.fmod 9 = (wy : Int) := ewy
  obtain ⟨b, hb, eb⟩ := fmod_nat (x.fdiv 9) (b := nb) (by omega)
  obtain ⟨t, ht, et⟩ := fmod_nat (x.fdiv 9) (b := 3) (by decide)
  have et' : (x.fdiv 9).fmod 3 = (t : Int) := et
  generalize hρ : ((((Rho.set (Rho.set (Rho.set (Rho.set (Rho.set (fun _ => none) 16 (.dat (.list (xs.map .int)))) 30 (.cell c)) 31 (.dat (.int deep))) 25 (.dat (sizesD rs nb))) 21 (.dat (.tuple (rs.map pairD)))).set 18 (.dat (.int x))).set 32 (.dat (.int wy))).set 33 (.dat e.d)) = ρ
  have q26 : ρ 16 = some (.dat (.list (xs.map .int))) := by rw [← hρ]; rfl
  have q40 : ρ 30 = some (.cell c) := by rw [← hρ]; rfl
  have q41 : ρ 31 = some (.dat (.int deep)) := by rw [← hρ]; rfl
  have q35 : ρ 25 = some (.dat (sizesD rs nb)) := by rw [← hρ]; rfl
  have q31 : ρ 21 = some (.dat (.tuple (rs.map pairD))) := by rw [← hρ]; rfl
  have q28 : ρ 18 = some (.dat (.int x)) := by rw [← hρ]; rfl
  have q42 : ρ 32 = some (.dat (.int wy)) := by rw [← hρ]; rfl
  have q43 : ρ 33 = some (.dat e.d) := by rw [← hρ]; rfl
  have hput : evE (tabAt tab2 N (k + 2)) (.bin .Mod (.bin .FloorDiv (.var 18) (.const (.int 9))) (.idx (.var 25) (.const (.int 1)))) ρ σ1 = some (.dat (.int b), σ1) := ev_binR (y := .dat (.int nb)) (ev_divR (evV q28) (by decide) (by decide)) (ev_ixD q35 rfl) rfl rfl (by rw [bi_mod (by omega), eb])
  have hmod3 : evE (tabAt tab2 N (k + 2)) (.bin .Mod (.bin .FloorDiv (.var 18) (.const (.int 9))) (.const (.int 3))) ρ σ1 = some (.dat (.int t), σ1) := by rw [ev_modR (ev_divR (evV q28) (by decide) (by decide)) (by decide), et']
  suffices key : ∃ r n', Rb rs.length nb deep r ∧ n' ≤ n + aB deep ∧ evSs N (tabAt tab2 N (k + 2)) (c__law_statement.drop 4) ρ σ1 = some (.ret (.dat r.d), σ1.set c (.live, [.int ((n' : Nat) : Int)])) by
    obtain ⟨r, n', hr, hn', e2⟩ := key
    refine ⟨r, n', hr, hn', ?_⟩
    have hb0 : evSs N (tabAt tab2 N (k + 2)) c__law_statement (Rho.set (Rho.set (Rho.set (Rho.set (Rho.set (fun _ => none) 16 (.dat (.list (xs.map .int)))) 30 (.cell c)) 31 (.dat (.int deep))) 25 (.dat (sizesD rs nb))) 21 (.dat (.tuple (rs.map pairD)))) σ = some (.ret (.dat r.d), σ.set c (.live, [.int ((n' : Nat) : Int)])) := by
      refine (e0 (c__law_statement.drop 2)).trans ?_
      refine Eq.trans (r_assign (v := .dat (.int wy)) (σ₁ := σ1) (by rw [ev_modR (evV rfl) (by decide), ewy'])) (Eq.trans (r_assign (v := .dat e.d) (σ₁ := σ1) (ev_callR (vs := [.dat (.int (x.fdiv 9)), .dat (sizesD rs nb), .dat (.tuple (rs.map pairD))]) (σ₁ := σ1) (el_one (ev_divR (evV rfl) (by decide) (by decide)) rfl) e1)) ?_)
      rw [← hss]
      exact (congrArg (fun ρ => evSs N (tabAt tab2 N (k + 2)) (c__law_statement.drop 4) ρ σ1) hρ).trans e2
    rw [x_run, show bindArgsR [16, 30, 31, 25, 21] [.dat (.list (xs.map .int)), .cell c, .dat (.int deep), .dat (sizesD rs nb), .dat (.tuple (rs.map pairD))] (fun _ => none) = some (Rho.set (Rho.set (Rho.set (Rho.set (Rho.set (fun _ => none) 16 (.dat (.list (xs.map .int)))) 30 (.cell c)) 31 (.dat (.int deep))) 25 (.dat (sizesD rs nb))) 21 (.dat (.tuple (rs.map pairD)))) from rfl, Option.bind_some, hb0, Option.bind_some, x_end, x_lvD, Option.bind_some, List.take_of_length_le (by rw [List.length_set]; exact Nat.le_refl _)]
  have same : σ1 = σ1.set c (.live, [.int ((n + 1 : Nat) : Int)]) := by rw [hss, hσ1]
  have e6 : ∀ (m : Nat), evE (tabAt tab2 N (k + 2)) (.cmp .Lt (.var 32) (.const (.int m))) ρ σ1 = some (.dat (.bool (decide (wy < m))), σ1) := fun m => by
    rw [show decide (wy < m) = decide ((wy : Int) < m) from by simp]
    exact ev_cmpR (evV q42) rfl rfl
  have eeq : ∀ (m : Nat), evE (tabAt tab2 N (k + 2)) (.cmp .Eq (.var 32) (.const (.int m))) ρ σ1 = some (.dat (.bool (decide (wy = m))), σ1) := fun m => by
    rw [dec_nat]
    exact ev_cmpR (evV q42) rfl (cm_eqi _ _)
  have ed0 : evE (tabAt tab2 N (k + 2)) (.cmp .Eq (.var 31) (.const (.int 0))) ρ σ1 = some (.dat (.bool (decide (deep = 0))), σ1) := by
    rw [dec_nat]
    exact ev_cmpR (evV q41) rfl (cm_eqi _ _)
  have edg : evE (tabAt tab2 N (k + 2)) (.cmp .Gt (.var 31) (.const (.int 0))) ρ σ1 = some (.dat (.bool (decide (0 < deep))), σ1) := ev_pos (evV q41)
  have c1 := ev_or2 (e6 3) fun _ => ev_and2 ed0 fun _ => e6 6
  have c2 := e6 6
  have c3 := ev_and2 (eeq 6) fun _ => edg
  have c4 := ev_and2 (eeq 7) fun _ => (show evE (tabAt tab2 N (k + 2)) (.cmp .Eq (.bin .Mod (.bin .FloorDiv (.var 18) (.const (.int 9))) (.const (.int 3))) (.const (.int 1))) ρ σ1 = some (.dat (.bool ((t : Int) == 1)), σ1) from ev_cmpR hmod3 rfl (cm_eqi _ _))
  have c5 := ev_and2 (eeq 8) fun _ => ev_pos hmod3
  have hrows : ∀ (ρ' : Rho), ρ' 16 = some (.dat (.list (xs.map .int))) → ρ' 30 = some (.cell c) → ρ' 31 = some (.dat (.int deep)) → ρ' 25 = some (.dat (sizesD rs nb)) → ρ' 21 = some (.dat (.tuple (rs.map pairD))) → ∀ d, deep = d + 1 → ∀ (m : Nat) (τ : Store), m + (1 + 2 * aB d) ≤ 900 → τ[c]? = some (.live, [.int m]) →
      ∃ l n', Rsb rs.length nb d l ∧ n' ≤ m + (1 + 2 * aB d) ∧ evE (tabAt tab2 N (k + 2)) (.call 20 [(.var 16), (.var 30), (.bin .Sub (.var 31) (.const (.int 1))), (.var 25), (.var 21)]) ρ' τ = some (.dat (.tuple (rowsD l)), τ.set c (.live, [.int (n' : Nat)])) := fun ρ' a26 a40 a41 a35 a31 d hd' m τ hm hτ => by
    obtain ⟨l, n', q1, q2, q3⟩ := HR d hd' m τ hm hτ
    refine ⟨l, n', q1, q2, ev_callR (vs := [.dat (.list (xs.map .int)), .cell c, .dat (.int d), .dat (sizesD rs nb), .dat (.tuple (rs.map pairD))]) (σ₁ := τ) (el_var a26 (el_var a40 (el_one (v := .dat (.int d)) ?_ (el_var a35 (el_var a31 rfl))))) q3⟩
    rw [show PyData.int (d : Int) = .int ((deep : Int) - 1) from by rw [hd']; congr 1; omega]
    exact ev_binR (y := .dat (.int 1)) (evV a41) rfl rfl rfl rfl
  by_cases g1 : wy < 3 ∨ (deep = 0 ∧ wy < 6)
  · rw [show (decide (wy < 3) || (decide (deep = 0) && decide (wy < 6))) = true from by simpa using g1] at c1
    exact ⟨.put b e, n + 1, ⟨⟨hb, he⟩, hw1, hw1, Nat.zero_le _, Nat.zero_le _⟩, Nat.add_le_add_left ha1 n, (r_taken c1 (r_ret (ev_tup3 rfl hput (evV q43)))).trans (by rw [← same]; rfl)⟩
  rw [show (decide (wy < 3) || (decide (deep = 0) && decide (wy < 6))) = false from by rw [← Bool.not_eq_true]; simpa using g1] at c1
  by_cases g2 : wy < 6
  · rw [decide_eq_true g2] at c2
    obtain ⟨d, hd'⟩ : ∃ d, deep = d + 1 := ⟨deep - 1, by omega⟩
    have haB : aB deep = 3 + 4 * aB d := by rw [hd']; rfl
    obtain ⟨l1, n1, p1, p2, p3⟩ := hrows ρ q26 q40 q41 q35 q31 d hd' (n + 1) σ1 (n_a haB hn) hc1
    obtain ⟨l2, n2, r1, r2, r3⟩ := hrows (ρ.set 34 (.dat (.tuple (rowsD l1)))) q26 q40 q41 q35 q31 d hd' n1 (σ1.set c (.live, [.int (n1 : Nat)])) (n_b haB hn p2) (get_set hc1)
    rw [List.set_set] at r3
    refine ⟨.ask e l1 l2, n2, ask_b hd' ⟨he, p1.ok, r1.ok⟩ p1 r1, n_c haB p2 r2, Eq.trans (r_skip c1) (r_taken c2 (Eq.trans (r_assign p3) (r_ret ?_)))⟩
    · exact ev_tup4 rfl (evV (by exact q43)) (evV rfl) r3
  rw [decide_eq_false g2] at c2
  by_cases g3 : wy = 6 ∧ 0 < deep
  · rw [show (decide (wy = 6) && decide (0 < deep)) = true from by simpa using g3] at c3
    obtain ⟨d, hd'⟩ : ∃ d, deep = d + 1 := ⟨deep - 1, by omega⟩
    have haB : aB deep = 3 + 4 * aB d := by rw [hd']; rfl
    obtain ⟨l1, n1, p1, p2, p3⟩ := hrows ρ q26 q40 q41 q35 q31 d hd' (n + 1) σ1 (n_a haB hn) hc1
    refine ⟨.times t l1, n1, times_b hd' (by omega) ⟨by omega, p1.ok⟩ p1, n_d haB p2, Eq.trans (r_skip c1) (Eq.trans (r_skip c2) (r_taken c3 (r_ret (ev_tup3 rfl hmod3 p3))))⟩
  rw [show (decide (wy = 6) && decide (0 < deep)) = false from by rw [← Bool.not_eq_true]; simpa using g3] at c3
  by_cases g4 : wy = 7 ∧ t = 1
  · rw [show (decide (wy = 7) && ((t : Int) == 1)) = true from by rw [decide_eq_true g4.1, g4.2]; rfl] at c4
    obtain ⟨w, hw, ew⟩ := s_word_by N k (x.fdiv 27) σ1
    exact ⟨.stop w, n + 1, ⟨hw, hw1, hw1, Nat.zero_le _, Nat.zero_le _⟩, Nat.add_le_add_left ha1 n, Eq.trans (r_skip c1) (Eq.trans (r_skip c2) (Eq.trans (r_skip c3) ((r_taken c4 (r_ret (ev_tup2 rfl (ev_callR (vs := [.dat (.int (x.fdiv 27))]) (σ₁ := σ1) (el_one (ev_divR (evV q28) (by decide) (by decide)) rfl) ew)))).trans (by rw [← same]; rfl))))⟩
  rw [show (decide (wy = 7) && ((t : Int) == 1)) = false from by
    rw [← Bool.not_eq_true, Bool.and_eq_true, decide_eq_true_eq, beq_iff_eq]
    intro q
    exact g4 ⟨q.1, by omega⟩] at c4
  by_cases g5 : wy = 8 ∧ 0 < t
  · rw [show (decide (wy = 8) && decide (0 < t)) = true from by simpa using g5] at c5
    exact ⟨.tell e, n + 1, ⟨he, hw1, hw1, Nat.zero_le _, Nat.zero_le _⟩, Nat.add_le_add_left ha1 n, Eq.trans (r_skip c1) (Eq.trans (r_skip c2) (Eq.trans (r_skip c3) (Eq.trans (r_skip c4) ((r_taken c5 (r_ret (ev_tup2 rfl (evV q43)))).trans (by rw [← same]; rfl)))))⟩
  rw [show (decide (wy = 8) && decide (0 < t)) = false from by rw [← Bool.not_eq_true]; simpa using g5] at c5
  refine ⟨.put b ⟨e.c, List.replicate rs.length 0, e.o⟩, n + 1, ⟨⟨hb, ⟨by simp, he.no, fun f hf => by rw [(List.mem_replicate.mp hf).2]; decide, he.so⟩⟩, hw1, hw1, Nat.zero_le _, Nat.zero_le _⟩, Nat.add_le_add_left ha1 n, Eq.trans (r_skip c1) (Eq.trans (r_skip c2) (Eq.trans (r_skip c3) (Eq.trans (r_skip c4) (Eq.trans (r_skip c5) ((r_ret (ev_tup3 rfl hput (ev_tup3 (ev_ixD q43 rfl) (ev_binR (x := .dat (.tuple [.int 0])) (y := .dat (.int rs.length)) rfl (ev_ixD q35 rfl) rfl rfl (bi_reps 0 (by omega))) (ev_ixD q43 rfl)))).trans (by rw [← same]; rfl))))))⟩
end
theorem c_a {n x a z : Nat} (h : n + (x + a) ≤ z) : n + a ≤ z := by omega
theorem c_b {n n1 x a z : Nat} (h : n + (x + a) ≤ z) (p : n1 ≤ n + a) : n1 + x ≤ z := by omega
theorem c_c {n n1 n2 x a : Nat} (h : n2 ≤ n1 + x) (p : n1 ≤ n + a) : n2 ≤ n + (x + a) := by omega
theorem c_d {a b x w : Nat} (h : a ≤ w) (k : b ≤ x) : a + b ≤ x + w := by omega
theorem c_e {a b x w : Nat} (h : a ≤ w) (k : b ≤ 1 + x) : a + b ≤ 1 + (x + w) := by omega
theorem set_same {σ : Store} {c : Nat} {x : Flag × List PyData} (h : σ[c]? = some x) : σ.set c x = σ := by
  apply List.ext_getElem?
  intro i
  rw [List.getElem?_set]
  split
  · rename_i e; subst e; exact (if_pos (List.getElem?_eq_some_iff.mp h).1).trans h.symm
  · rfl
section
variable {N : Nat} {xs : List Int} (hx : xs.length ≤ 63) {rs : List (Int × Int)} (h3 : rs.length ≤ 3) {nb : Nat} (hb1 : 1 ≤ nb) (hb6 : nb ≤ 6) {c : Nat}
noncomputable def ceRow : CE := .call 19 [(.var 16), (.var 30), (.var 31), (.var 25), (.var 21)]
noncomputable def StOk (N k : Nat) (xs : List Int) (rs : List (Int × Int)) (nb c deep : Nat) : Prop := ∀ (n : Nat) (σ : Store), n + aB deep ≤ 900 → σ[c]? = some (.live, [.int n]) → ∃ r n', Rb rs.length nb deep r ∧ n' ≤ n + aB deep ∧ tabAt tab2 N k 19 [.dat (.list (xs.map .int)), .cell c, .dat (.int deep), .dat (sizesD rs nb), .dat (.tuple (rs.map pairD))] σ = some (.ret (.dat r.d), σ.set c (.live, [.int (n' : Nat)]))
theorem rows_comp {k deep : Nat} (HS : StOk N k xs rs nb c deep) (ρ : Rho) (q26 : ρ 16 = some (.dat (.list (xs.map .int)))) (q40 : ρ 30 = some (.cell c)) (q41 : ρ 31 = some (.dat (.int deep))) (q35 : ρ 25 = some (.dat (sizesD rs nb))) (q31 : ρ 21 = some (.dat (.tuple (rs.map pairD)))) : ∀ (ds : List PyData) (n : Nat) (σ : Store), n + ds.length * aB deep ≤ 900 → σ[c]? = some (.live, [.int n]) →
    ∃ l n', (rowsOk rs.length nb l ∧ rowsWt l ≤ ds.length * wB deep ∧ rowsSz l ≤ ds.length * wB deep ∧ rowsLs l ≤ 1 + ds.length * lB deep ∧ rowsDp l ≤ deep + 1) ∧ n' ≤ n + ds.length * aB deep ∧ compGo (fun ρ' σ' => evE (tabAt tab2 N k) ceRow ρ' σ') (fun ρ' σ' => evB (tabAt tab2 N k) .And [] ρ' σ') (.one 17) ρ ds σ = some (rowsD l, σ.set c (.live, [.int (n' : Nat)])) := by
  intro ds
  induction ds with
  | nil => intro n σ _ hc; exact ⟨[], n, ⟨trivial, Nat.zero_le _, Nat.zero_le _, Nat.le_add_right .., Nat.le_add_left ..⟩, Nat.le_add_right .., by rw [set_same hc]; rfl⟩
  | cons d ds ih =>
    intro n σ hn hc
    rw [List.length_cons, Nat.succ_mul] at hn
    obtain ⟨r, n1, p1, p2, p3⟩ := HS n σ (c_a hn) hc
    obtain ⟨l, n2, ⟨a1, a2, a3, a4, a5⟩, a6, a7⟩ := ih n1 (σ.set c (.live, [.int (n1 : Nat)])) (c_b hn p2) (get_set hc)
    rw [List.set_set] at a7
    refine ⟨r :: l, n2, ⟨⟨p1.ok, a1⟩, ?_, ?_, ?_, ?_⟩, by rw [List.length_cons, Nat.succ_mul]; exact c_c a6 p2, ?_⟩
    · rw [List.length_cons, Nat.succ_mul]; exact c_d p1.wt a2
    · rw [List.length_cons, Nat.succ_mul]; exact c_d p1.sz a3
    · rw [List.length_cons, Nat.succ_mul]; exact c_e p1.ls a4
    · exact Nat.max_le.mpr ⟨Nat.succ_le_succ p1.dp, a5⟩
    · have he : evE (tabAt tab2 N k) (.call 19 [(.var 16), (.var 30), (.var 31), (.var 25), (.var 21)]) (ρ.set 17 (.dat d)) σ = some (.dat r.d, σ.set c (.live, [.int (n1 : Nat)])) := ev_callR (vs := [.dat (.list (xs.map .int)), .cell c, .dat (.int deep), .dat (sizesD rs nb), .dat (.tuple (rs.map pairD))]) (σ₁ := σ) (el_var (v := .dat (.list (xs.map .int))) (by exact q26) (el_var (v := .cell c) (by exact q40) (el_var (v := .dat (.int deep)) (by exact q41) (el_var (v := .dat (sizesD rs nb)) (by exact q35) (el_var (v := .dat (.tuple (rs.map pairD))) (by exact q31) rfl))))) p3
      have hcc : ∀ (elt : Rho → Store → Option (AV × Store)) (tests : Rho → Store → Option (Bool × Store)) (σ₁ : Store) (r : PyData) (z : List PyData × Store), tests (ρ.set 17 (.dat d)) σ = some (true, σ) → elt (ρ.set 17 (.dat d)) σ = some (.dat r, σ₁) → compGo elt tests (.one 17) ρ ds σ₁ = some z → compGo elt tests (.one 17) ρ (d :: ds) σ = some (r :: z.1, z.2) := fun elt tests σ₁ r z h1 h2 h3 => by
        show (tests (ρ.set 17 (.dat d)) σ).bind _ = _
        rw [h1, Option.bind_some, if_pos rfl, h2]
        show (compGo elt tests (.one 17) ρ ds σ₁).bind _ = _
        rw [h3]
        rfl
      exact hcc _ _ _ _ _ rfl he a7
include hx
theorem rows_step {k deep : Nat} (hd : deep ≤ 2) (HS : StOk N (k + 3) xs rs nb c deep) (n : Nat) (σ : Store) (hn : n + (1 + 2 * aB deep) ≤ 900) (hc : σ[c]? = some (.live, [.int n])) : ∃ l n', Rsb rs.length nb deep l ∧ n' ≤ n + (1 + 2 * aB deep) ∧ tabAt tab2 N (k + 4) 20 [.dat (.list (xs.map .int)), .cell c, .dat (.int deep), .dat (sizesD rs nb), .dat (.tuple (rs.map pairD))] σ = some (.ret (.dat (.tuple (rowsD l))), σ.set c (.live, [.int (n' : Nat)])) := by
  rw [tab_step (by rfl : tab2[20]? = some ([16, 30, 31, 25, 21], c__law_rows))]
  have hw2 : wB deep ≤ 21 ∧ aB deep ≤ 31 ∧ lB deep ≤ 10 := by
    match deep, hd with
    | 0, _ => decide
    | 1, _ => decide
    | 2, _ => decide
  obtain ⟨x, e0⟩ := next_ok N (k + 2) xs hx n (by omega) σ c hc (Rho.set (Rho.set (Rho.set (Rho.set (Rho.set (fun _ => none) 16 (.dat (.list (xs.map .int)))) 30 (.cell c)) 31 (.dat (.int deep))) 25 (.dat (sizesD rs nb))) 21 (.dat (.tuple (rs.map pairD)))) rfl rfl
  have hc1 : (σ.set c (.live, [.int ((n + 1 : Nat) : Int)]))[c]? = some (Flag.live, [PyData.int ((n + 1 : Nat) : Int)]) := get_set hc
  obtain ⟨t, ht, et⟩ := fmod_nat x (b := 2) (by decide)
  have et' : x.fmod 2 = (t : Int) := et
  have body : ∀ (m : Nat), m ≤ 2 → ∀ ρ : Rho, ρ 16 = some (.dat (.list (xs.map .int))) → ρ 30 = some (.cell c) → ρ 31 = some (.dat (.int deep)) → ρ 25 = some (.dat (sizesD rs nb)) → ρ 21 = some (.dat (.tuple (rs.map pairD))) → ρ 20 = some (.dat (.int m)) →
      ∃ l n', Rsb rs.length nb deep l ∧ n' ≤ n + (1 + 2 * aB deep) ∧ evSs N (tabAt tab2 N (k + 3)) (c__law_rows.drop 4) ρ (σ.set c (.live, [.int ((n + 1 : Nat) : Int)])) = some (.ret (.dat (.tuple (rowsD l))), σ.set c (.live, [.int (n' : Nat)])) := fun m hm ρ q26 q40 q41 q35 q31 q30 => by
    have hmul : ∀ z, m * z ≤ 2 * z := fun z => Nat.mul_le_mul_right z hm
    obtain ⟨l, n', ⟨a1, a2, a3, a4, a5⟩, a6, a7⟩ := rows_comp HS ρ q26 q40 q41 q35 q31 ((List.range m).map fun k => PyData.int (k : Nat)) (n + 1) (σ.set c (.live, [.int ((n + 1 : Nat) : Int)])) (by have := hmul (aB deep); simp; omega) hc1
    rw [List.set_set] at a7
    rw [List.length_map, List.length_range] at a2 a3 a4 a6
    refine ⟨l, n', ⟨a1, Nat.le_trans a2 (hmul _), Nat.le_trans a3 (hmul _), Nat.le_trans a4 (Nat.add_le_add_left (hmul _) _), a5⟩, by have := hmul (aB deep); omega, r_ret (ev_primR (vs := [.dat (.list (rowsD l))]) (σ₁ := σ.set c (.live, [.int (n' : Nat)])) (el_one (v := .fresh (rowsD l)) (σ₁ := σ.set c (.live, [.int (n' : Nat)])) ?_ rfl) rfl (pt_list (le_lim (m := 100) (by have := len_sz l; have := hmul (wB deep); rw [rowsD_len]; omega) (by decide))))⟩
    show evE _ (.comp ceRow (.one 17) .range1 [.var 20] []) ρ _ = _
    rw [ev_comp, el_var q30 rfl, Option.bind_some]
    show ((itemsD .range1 [.int m]).bind _) = _
    rw [range_it (by omega), Option.bind_some, if_pos (le_lim (m := 2) (by simpa using hm) (by decide))]
    show (compGo _ _ (.one 17) ρ _ (σ.set c (.live, [.int ((n + 1 : Nat) : Int)]))).bind _ = _
    rw [a7]
    rfl
  suffices key : ∃ l n', Rsb rs.length nb deep l ∧ n' ≤ n + (1 + 2 * aB deep) ∧ evSs N (tabAt tab2 N (k + 3)) c__law_rows (Rho.set (Rho.set (Rho.set (Rho.set (Rho.set (fun _ => none) 16 (.dat (.list (xs.map .int)))) 30 (.cell c)) 31 (.dat (.int deep))) 25 (.dat (sizesD rs nb))) 21 (.dat (.tuple (rs.map pairD)))) σ = some (.ret (.dat (.tuple (rowsD l))), σ.set c (.live, [.int (n' : Nat)])) by
    obtain ⟨l, n', p1, p2, p3⟩ := key
    refine ⟨l, n', p1, p2, ?_⟩
    rw [x_run, show bindArgsR [16, 30, 31, 25, 21] [.dat (.list (xs.map .int)), .cell c, .dat (.int deep), .dat (sizesD rs nb), .dat (.tuple (rs.map pairD))] (fun _ => none) = some (Rho.set (Rho.set (Rho.set (Rho.set (Rho.set (fun _ => none) 16 (.dat (.list (xs.map .int)))) 30 (.cell c)) 31 (.dat (.int deep))) 25 (.dat (sizesD rs nb))) 21 (.dat (.tuple (rs.map pairD)))) from rfl, Option.bind_some, p3, Option.bind_some, x_end, x_lvD, Option.bind_some, List.take_of_length_le (by rw [List.length_set]; exact Nat.le_refl _)]
  have hm1 : ∀ ρ : Rho, ρ 18 = some (.dat (.int x)) → evE (tabAt tab2 N (k + 3)) (.bin .Add (.const (.int 1)) (.bin .Mod (.var 18) (.const (.int 2)))) ρ (σ.set c (.live, [.int ((n + 1 : Nat) : Int)])) = some (.dat (.int ((1 + t : Nat) : Int)), σ.set c (.live, [.int ((n + 1 : Nat) : Int)])) := fun ρ h => by
    rw [show (((1 + t : Nat)) : Int) = 1 + x.fmod 2 from by omega]
    exact ev_addI rfl (ev_modR (evV h) (by decide))
  have hgt : ∀ ρ : Rho, ρ 30 = some (.cell c) → evE (tabAt tab2 N (k + 3)) (.cmp .Gt (.idx (.var 30) (.const (.int 0))) (.const (.int 30))) ρ (σ.set c (.live, [.int ((n + 1 : Nat) : Int)])) = some (.dat (.bool (decide ((30 : Int) < ((n + 1 : Nat) : Int)))), σ.set c (.live, [.int ((n + 1 : Nat) : Int)])) := fun ρ h => ev_cmpR (ev_at h hc1) rfl rfl
  cases hq : decide ((30 : Int) < ((n + 1 : Nat) : Int)) with
  | false =>
    simp only [hq] at hgt
    obtain ⟨l, n', p1, p2, p3⟩ := body (1 + t) (by omega) (Rho.set (Rho.set (Rho.set (Rho.set (Rho.set (Rho.set (Rho.set (fun _ => none) 16 (.dat (.list (xs.map .int)))) 30 (.cell c)) 31 (.dat (.int deep))) 25 (.dat (sizesD rs nb))) 21 (.dat (.tuple (rs.map pairD)))) 18 (.dat (.int x))) 20 (.dat (.int ((1 + t : Nat) : Int)))) rfl rfl rfl rfl rfl rfl
    exact ⟨l, n', p1, p2, (e0 (c__law_rows.drop 2)).trans (Eq.trans (r_assign (hm1 _ rfl)) (Eq.trans (r_skip (hgt _ rfl)) p3))⟩
  | true =>
    simp only [hq] at hgt
    obtain ⟨l, n', p1, p2, p3⟩ := body 0 (by omega) (Rho.set (Rho.set (Rho.set (Rho.set (Rho.set (Rho.set (Rho.set (Rho.set (fun _ => none) 16 (.dat (.list (xs.map .int)))) 30 (.cell c)) 31 (.dat (.int deep))) 25 (.dat (sizesD rs nb))) 21 (.dat (.tuple (rs.map pairD)))) 18 (.dat (.int x))) 20 (.dat (.int ((1 + t : Nat) : Int)))) 20 (.dat (.int 0))) rfl rfl rfl rfl rfl rfl
    exact ⟨l, n', p1, p2, (e0 (c__law_rows.drop 2)).trans (Eq.trans (r_assign (hm1 _ rfl)) (Eq.trans (r_next (Eq.trans (r_true (hgt _ rfl)) (Eq.trans (r_assign (v := .dat (.int 0)) (σ₁ := σ.set c (.live, [.int ((n + 1 : Nat) : Int)])) rfl) es_nil))) p3))⟩
include h3 hb1 hb6
theorem s_stmt : ∀ (deep : Nat), deep ≤ 2 → ∀ k, StOk N (k + 2 * deep + 3) xs rs nb c deep := by
  intro deep
  induction deep with
  | zero => intro _ k n σ hn hc; exact stmt_step (k := k) hx h3 hb1 hb6 0 (by decide) n hn σ hc fun d e => absurd e (by omega)
  | succ d ih =>
    intro hd k n σ hn hc
    refine stmt_step (k := k + 2 * (d + 1)) hx h3 hb1 hb6 (d + 1) hd n hn σ hc fun d' e m τ hm hτ => ?_
    obtain rfl : d' = d := by omega
    exact rows_step (k := k + 2 * d') hx (by omega) (ih (by omega) k) m τ hm hτ
end
structure PB (rs : List (Int × Int)) (nb : Nat) (rows : List Row) : Prop where
  h3 : rs.length ≤ 3
  hr : ∀ r ∈ rs, okR r
  fr : ∀ r ∈ rs, farR r
  b1 : 1 ≤ nb
  b6 : nb ≤ 6
  ok : rowsOk rs.length nb rows
  wt : rowsWt rows ≤ 68
  sz : rowsSz rows ≤ 60
  ls : rowsLs rows ≤ 40
  dp : rowsDp rows ≤ 3
structure R0b (ni nb : Nat) (R : List Row) : Prop where
  ok : rowsOk ni nb R
  wt : rowsWt R ≤ 25
  sz : rowsSz R ≤ 5
  ls : rowsLs R ≤ 5
  dp : rowsDp R ≤ 3
theorem ev_reps {Φ : Phi} {ρ : Rho} {σ : Store} {b : CE} (i : Int) {n : Nat} (h : evE Φ b ρ σ = some (.dat (.int n), σ)) (hn : n ≤ 1000) : evE Φ (.bin .Mult (.tup [.const (.int i)]) b) ρ σ = some (.dat (.tuple ((List.replicate n i).map .int)), σ) := ev_binR (x := .dat (.tuple [.int i])) rfl h rfl rfl (bi_reps i hn)
theorem ev_cat {Φ : Phi} {ρ : Rho} {σ : Store} {a b : CE} {x : Int} {ys : List Int} (h1 : evE Φ a ρ σ = some (.dat (.int x), σ)) (h2 : evE Φ b ρ σ = some (.dat (.tuple (ys.map .int)), σ)) (hl : ys.length ≤ 100) : evE Φ (.bin .Add (.tup [a]) b) ρ σ = some (.dat (.tuple ((x :: ys).map .int)), σ) := by
  refine ev_binR (x := .dat (.tuple [.int x])) ?_ h2 rfl rfl (bi_addT (le_lim (m := 200) ?_ (by decide)))
  · rw [ev_tup, el_one h1 rfl]; rfl
  · rw [List.length_map]; show 1 + ys.length ≤ _; omega
theorem ev_tup1 {Φ : Phi} {ρ : Rho} {σ σ₁ : Store} {a : CE} {d : PyData} (h1 : evE Φ a ρ σ = some (.dat d, σ₁)) : evE Φ (.tup [a]) ρ σ = some (.dat (.tuple [d]), σ₁) := by
  rw [ev_tup, el_one h1 rfl]
  rfl
theorem ev_modE {Φ : Phi} {ρ : Rho} {σ : Store} {i : Nat} {y m : Int} {n : Nat} (h : ρ i = some (.dat (.int y))) (hm : m ≠ 0) (e : y.fmod m = n) : evE Φ (.bin .Mod (.var i) (.const (.int m))) ρ σ = some (.dat (.int n), σ) := by rw [← e]; exact ev_modR (evV h) hm
theorem ev_dmE {Φ : Phi} {ρ : Rho} {σ : Store} {i : Nat} {y q m : Int} {n : Nat} (h : ρ i = some (.dat (.int y))) (hq : q ≠ 0) (hq' : q.natAbs < 1073741824) (hm : m ≠ 0) (e : (y.fdiv q).fmod m = n) : evE Φ (.bin .Mod (.bin .FloorDiv (.var i) (.const (.int q))) (.const (.int m))) ρ σ = some (.dat (.int n), σ) := by rw [← e]; exact ev_modR (ev_divR (evV h) hq hq') hm
theorem ev_eqN {Φ : Phi} {ρ : Rho} {σ : Store} {a : CE} {n : Nat} (m : Nat) (h : evE Φ a ρ σ = some (.dat (.int n), σ)) : evE Φ (.cmp .Eq a (.const (.int m))) ρ σ = some (.dat (.bool (decide (n = m))), σ) := by rw [dec_nat]; exact ev_cmpR h rfl (cm_eqi _ _)
theorem later_ok : wordOk (Str.ofString "later") := ⟨by decide +kernel, by decide +kernel, by decide +kernel⟩
theorem first_n {j m : Nat} (hj : j < 9) (h : 1 + 8 * m ≤ 25) : 1 + j * m + 0 ≤ 25 := Nat.le_trans (Nat.add_le_add_left (Nat.mul_le_mul_right m (Nat.le_of_lt_succ hj)) 1) h
theorem first_rows (N : Nat) (Φ : Phi) (ni nb : Nat) (hi : ni ≤ 3) (hb1 : 1 ≤ nb) (hb6 : nb ≤ 6) (y : Int) (σ : Store) (ρ : Rho) (q35 : ρ 25 = some (.dat (.tuple [.int ni, .int nb]))) (q32 : ρ 22 = some (.dat (.int y))) (q46 : ρ 36 = some (.dat (.tuple []))) :
    ∃ R ρ', R0b ni nb R ∧ (∀ cs, evSs N Φ ((c__law_program.drop 5).take 2 ++ cs) ρ σ = evSs N Φ cs ρ' σ) ∧ ρ' 36 = some (.dat (.tuple (rowsD R))) ∧ ρ' 16 = ρ 16 ∧ ρ' 30 = ρ 30 ∧ ρ' 25 = ρ 25 ∧ ρ' 21 = ρ 21 ∧ ρ' 35 = ρ 35 := by
  have b1 : ni ≤ 1000 := Nat.le_trans hi (by decide)
  have b2 : nb - 1 ≤ 1000 := Nat.le_trans (Nat.sub_le ..) (Nat.le_trans hb6 (by decide))
  obtain ⟨u, hu, eu⟩ := fmod_nat y (b := 3) (by decide)
  obtain ⟨j, hj, ej⟩ := fmod_nat (y.fdiv 6) (b := 9) (by decide)
  have hni : ∀ ρ : Rho, ρ 25 = some (.dat (.tuple [.int ni, .int nb])) → evE Φ (.idx (.var 25) (.const (.int 0))) ρ σ = some (.dat (.int ni), σ) := fun ρ h => ev_ixD h rfl
  have hnb : ∀ ρ : Rho, ρ 25 = some (.dat (.tuple [.int ni, .int nb])) → evE Φ (.bin .Sub (.idx (.var 25) (.const (.int 1))) (.const (.int 1))) ρ σ = some (.dat (.int ((nb - 1 : Nat) : Int)), σ) := fun ρ h => by
    rw [show (((nb - 1 : Nat)) : Int) = (nb : Int) - 1 from by omega]
    exact ev_binR (y := .dat (.int 1)) (ev_ixD h rfl) rfl rfl rfl rfl
  have hu1 : evE Φ (.cmp .Eq (.bin .Mod (.var 22) (.const (.int 3))) (.const (.int 1))) ρ σ = some (.dat (.bool (decide (u = 1))), σ) := ev_eqN 1 (ev_modE q32 (by decide) eu)
  have hu2 : ∀ ρ : Rho, ρ 22 = some (.dat (.int y)) → ρ 25 = some (.dat (.tuple [.int ni, .int nb])) → evE Φ (.bop .And [(.cmp .Eq (.bin .Mod (.var 22) (.const (.int 3))) (.const (.int 2))), (.cmp .Gt (.idx (.var 25) (.const (.int 1))) (.const (.int 1)))]) ρ σ = some (.dat (.bool (decide (u = 2) && decide ((1 : Int) < nb))), σ) := fun ρ h h' => ev_and2 (ev_eqN 2 (ev_modE h (by decide) eu)) fun _ => ev_cmpR (ev_ixD h' rfl) rfl rfl
  by_cases g1 : u = 1
  · rw [decide_eq_true g1] at hu1
    obtain ⟨t, ht, et⟩ := fmod_nat (y.fdiv 3) (b := 2) (by decide)
    have he : evE Φ (.tup [(.const (.int 1)), (.bin .Mult (.tup [(.const (.int 1))]) (.idx (.var 25) (.const (.int 0)))), (.bin .Add (.tup [(.bin .Add (.const (.int 1)) (.bin .Mod (.bin .FloorDiv (.var 22) (.const (.int 3))) (.const (.int 2))))]) (.bin .Mult (.tup [(.const (.int 0))]) (.bin .Sub (.idx (.var 25) (.const (.int 1))) (.const (.int 1)))))]) ρ σ = some (.dat (Ex.d ⟨1, List.replicate ni 1, (1 + (t : Int)) :: List.replicate (nb - 1) 0⟩), σ) :=
      ev_tup3 rfl (ev_reps 1 (hni ρ q35) b1) (ev_cat (ev_addI rfl (ev_dmE q32 (by decide) (by decide) (by decide) et)) (ev_reps 0 (hnb ρ q35) b2) (by simp; omega))
    have hok : Ex.ok ni nb ⟨1, List.replicate ni 1, (1 + (t : Int)) :: List.replicate (nb - 1) 0⟩ := ⟨by simp, by simp; omega, fun f hf => by rw [(List.mem_replicate.mp hf).2]; decide, fun f hf => by
      rcases List.mem_cons.mp hf with rfl | hf
      · omega
      · rw [(List.mem_replicate.mp hf).2]; decide⟩
    have hc2 := hu2 (((ρ.set 33 (.dat (Ex.d ⟨1, List.replicate ni 1, (1 + (t : Int)) :: List.replicate (nb - 1) 0⟩))).set 36 (.dat (.tuple (rowsD [.times j [.put 0 ⟨1, List.replicate ni 1, (1 + (t : Int)) :: List.replicate (nb - 1) 0⟩]]))))) q32 q35
    rw [show (decide (u = 2) && decide ((1 : Int) < nb)) = false from by rw [g1]; rfl] at hc2
    refine ⟨[.times j [.put 0 ⟨1, List.replicate ni 1, (1 + (t : Int)) :: List.replicate (nb - 1) 0⟩]], _, ⟨⟨⟨Nat.le_of_lt_succ hj, ⟨hb1, hok⟩, trivial⟩, trivial⟩, first_n (m := 1) hj (by decide), by show 1 + (1 + 0) + 0 ≤ 5; decide, by show (0 + 1) + 1 ≤ 5; decide, by show max (max (0 + 1) 1 + 1) 1 ≤ 3; decide⟩, fun cs => Eq.trans (r_next (Eq.trans (r_true hu1) (Eq.trans (r_assign he) (Eq.trans (r_assign (v := .dat (.tuple (rowsD [.times j [.put 0 ⟨1, List.replicate ni 1, (1 + (t : Int)) :: List.replicate (nb - 1) 0⟩]]))) (ev_tup1 (ev_tup3 rfl (ev_dmE (by exact q32) (by decide) (by decide) (by decide) ej) (ev_tup1 (ev_tup3 rfl rfl (evV rfl)))))) es_nil)))) (r_skip hc2), rfl, rfl, rfl, rfl, rfl, rfl⟩
  rw [decide_eq_false g1] at hu1
  by_cases g2 : u = 2 ∧ 1 < nb
  · have hc2 := hu2 ρ q32 q35
    rw [show (decide (u = 2) && decide ((1 : Int) < nb)) = true from by rw [decide_eq_true g2.1, decide_eq_true (by omega)]; rfl] at hc2
    generalize hos : (1 : Int) :: List.replicate (nb - 1) 0 = os
    have hlo : os.length = nb := by rw [← hos]; simp; omega
    have hso : ∀ f ∈ os, f.natAbs ≤ 3 := fun f hf => by
      rw [← hos] at hf
      rcases List.mem_cons.mp hf with rfl | hf
      · decide
      · rw [(List.mem_replicate.mp hf).2]; decide
    have e37 : evE Φ (.bin .Add (.tup [(.const (.int 1))]) (.bin .Mult (.tup [(.const (.int 0))]) (.bin .Sub (.idx (.var 25) (.const (.int 1))) (.const (.int 1))))) ρ σ = some (.dat (.tuple (os.map .int)), σ) := by rw [← hos]; exact ev_cat rfl (ev_reps 0 (hnb ρ q35) b2) (by simp; omega)
    obtain ⟨v, hv, ev⟩ := fmod_nat (y.fdiv 54) (b := 4) (by decide)
    have ok1 : ∀ (a f : Int), f.natAbs ≤ 3 → Ex.ok ni nb ⟨a, List.replicate ni f, os⟩ := fun a f hf => ⟨by simp, hlo, fun g hg => by rw [(List.mem_replicate.mp hg).2]; exact hf, hso⟩
    have ok2 : Ex.ok ni nb ⟨2, List.replicate ni 1, os.reverse⟩ := ⟨by simp, by simp [hlo], fun g hg => by rw [(List.mem_replicate.mp hg).2]; decide, fun f hf => hso f (List.mem_reverse.mp hf)⟩
    have hrev : ∀ ρ : Rho, ρ 27 = some (.dat (.tuple (os.map .int))) → evE Φ (.rev (.var 27)) ρ σ = some (.dat (.tuple (os.reverse.map .int)), σ) := fun ρ h => by
      rw [ev_rev, evV h, Option.bind_some]
      show (if (os.map PyData.int).length ≤ lim then some (AV.dat (.tuple (os.map PyData.int).reverse)) else none).bind _ = _
      rw [if_pos (le_lim (m := 10) (by rw [List.length_map]; omega) (by decide)), ← List.map_reverse]
      rfl
    have hyes : ∃ yes : List Row, (yes = [.put (nb - 1) ⟨2, List.replicate ni 1, os.reverse⟩] ∨ yes = [.stop (Str.ofString "later")]) ∧ ∀ ρ : Rho, ρ 22 = some (.dat (.int y)) → ρ 38 = some (.dat (Row.put (nb - 1) ⟨2, List.replicate ni 1, os.reverse⟩).d) → evE Φ (.idx (.lst [(.tup [(.var 38)]), (.tup [(.tup [(.const (.str (Str.ofString "stop"))), (.const (.str (Str.ofString "later")))])])]) (.prim .int [(.cmp .Eq (.bin .Mod (.bin .FloorDiv (.var 22) (.const (.int 54))) (.const (.int 4))) (.const (.int 1)))])) ρ σ = some (.dat (.tuple (rowsD yes)), σ) := by
      have hl : ∀ ρ : Rho, ρ 38 = some (.dat (Row.put (nb - 1) ⟨2, List.replicate ni 1, os.reverse⟩).d) → evE Φ (.lst [(.tup [(.var 38)]), (.tup [(.tup [(.const (.str (Str.ofString "stop"))), (.const (.str (Str.ofString "later")))])])]) ρ σ = some (.fresh [.tuple (rowsD [.put (nb - 1) ⟨2, List.replicate ni 1, os.reverse⟩]), .tuple (rowsD [.stop (Str.ofString "later")])], σ) := fun ρ h => by
        rw [ev_lst, el_one (ev_tup1 (evV h)) rfl]
        rfl
      have hi : ∀ ρ : Rho, ρ 22 = some (.dat (.int y)) → evE Φ (.prim .int [(.cmp .Eq (.bin .Mod (.bin .FloorDiv (.var 22) (.const (.int 54))) (.const (.int 4))) (.const (.int 1)))]) ρ σ = some (.dat (.int (if decide (v = 1) then 1 else 0)), σ) := fun ρ h => ev_primR (vs := [.dat (.bool (decide (v = 1)))]) (σ₁ := σ) (el_one (ev_eqN 1 (ev_dmE h (by decide) (by decide) (by decide) ev)) rfl) rfl rfl
      cases hq : decide (v = 1) with
      | false => rw [hq] at hi; exact ⟨_, .inl rfl, fun ρ h h' => ev_idxR (hl ρ h') (hi ρ h) rfl rfl rfl⟩
      | true => rw [hq] at hi; exact ⟨_, .inr rfl, fun ρ h h' => ev_idxR (hl ρ h') (hi ρ h) rfl rfl rfl⟩
    obtain ⟨yes, hy1, hy2⟩ := hyes
    have hyok : rowsOk ni nb yes ∧ rowsWt yes = 1 ∧ rowsSz yes = 1 ∧ rowsLs yes = 1 ∧ rowsDp yes = 1 := by
      rcases hy1 with rfl | rfl
      · exact ⟨⟨⟨Nat.sub_lt hb1 (by decide), ok2⟩, trivial⟩, rfl, rfl, rfl, rfl⟩
      · exact ⟨⟨later_ok, trivial⟩, rfl, rfl, rfl, rfl⟩
    obtain ⟨y1, y2, y3, y4, y5⟩ := hyok
    refine ⟨[.times j [.put 0 ⟨1, List.replicate ni 0, os⟩, .ask ⟨-3, List.replicate ni 0, os⟩ yes []]], _, ⟨⟨⟨Nat.le_of_lt_succ hj, ⟨hb1, ok1 1 0 (by decide)⟩, ⟨ok1 (-3) 0 (by decide), y1, trivial⟩, trivial⟩, trivial⟩, ?_, ?_, ?_, ?_⟩, fun cs => Eq.trans (r_skip hu1) (r_next (Eq.trans (r_true hc2) (Eq.trans (r_assign e37) (Eq.trans (r_assign (ev_reps 0 (hni _ (by exact q35)) b1)) (Eq.trans (r_assign (v := .dat (Row.put (nb - 1) ⟨2, List.replicate ni 1, os.reverse⟩).d) (σ₁ := σ) (ev_tup3 rfl (hnb _ (by exact q35)) (ev_tup3 rfl (ev_reps 1 (hni _ (by exact q35)) (by omega)) (hrev _ rfl)))) (Eq.trans (r_assign (hy2 _ (by exact q32) rfl)) (Eq.trans (r_assign (v := .dat (Row.ask ⟨-3, List.replicate ni 0, os⟩ yes []).d) (σ₁ := σ) (ev_tup4 rfl (ev_tup3 rfl (evV rfl) (evV rfl)) (evV rfl) rfl)) (Eq.trans (r_assign (v := .dat (.tuple (rowsD [.times j [.put 0 ⟨1, List.replicate ni 0, os⟩, .ask ⟨-3, List.replicate ni 0, os⟩ yes []]]))) (ev_tup1 (ev_tup3 rfl (ev_dmE (by exact q32) (by decide) (by decide) (by decide) ej) (ev_tup2 (ev_tup3 rfl rfl (ev_tup3 rfl (evV rfl) (evV rfl))) (evV rfl))))) es_nil)))))))), rfl, rfl, rfl, rfl, rfl, rfl⟩
    · show 1 + j * (1 + (1 + rowsWt yes + 0 + 0)) + 0 ≤ 25; rw [y2]; exact first_n (m := 3) hj (by decide)
    · show 1 + (1 + (1 + rowsSz yes + 0 + 0)) + 0 ≤ 5; rw [y3]; decide
    · show (0 + (rowsLs yes + 1 + 1)) + 1 ≤ 5; rw [y4]; decide
    · show max (max (0 + 1) (max (max (rowsDp yes) 1 + 1) 1) + 1) 1 ≤ 3; rw [y5]; decide
  · have hc2 := hu2 ρ q32 q35
    rw [show (decide (u = 2) && decide ((1 : Int) < nb)) = false from by
      rw [← Bool.not_eq_true, Bool.and_eq_true, decide_eq_true_eq, decide_eq_true_eq]
      intro q
      exact g2 ⟨q.1, by omega⟩] at hc2
    exact ⟨[], ρ, ⟨trivial, Nat.zero_le _, Nat.zero_le _, by show 1 ≤ 5; decide, by show 1 ≤ 3; decide⟩, fun cs => Eq.trans (r_skip hu1) (r_skip hc2), q46, rfl, rfl, rfl, rfl, rfl⟩
theorem sz_app : ∀ (a b : List Row), rowsSz (a ++ b) = rowsSz a + rowsSz b
  | [], b => (Nat.zero_add _).symm
  | r :: a, b => by show r.sz + rowsSz (a ++ b) = r.sz + rowsSz a + rowsSz b; rw [sz_app a b]; omega
theorem ls_app : ∀ (a b : List Row), rowsLs (a ++ b) + 1 = rowsLs a + rowsLs b
  | [], b => Nat.add_comm ..
  | r :: a, b => by
    have := ls_app a b
    show r.ls + rowsLs (a ++ b) + 1 = r.ls + rowsLs a + rowsLs b
    omega
theorem dp_app : ∀ (a b : List Row), rowsDp (a ++ b) = max (rowsDp a) (rowsDp b)
  | [], b => (Nat.max_eq_right (dp_pos b)).symm
  | r :: a, b => by
    show max (r.dp + 1) (rowsDp (a ++ b)) = max (max (r.dp + 1) (rowsDp a)) (rowsDp b)
    rw [dp_app a b]
    exact (Nat.max_assoc ..).symm
theorem grow {a b c d m x : Nat} (h : a ≤ b + x) (hb : b = c + d) (hd : d ≤ m) : a ≤ c + (x + m) := by omega
theorem grow' {b c d m x z : Nat} (h : c + (x + m) ≤ z) (hb : b = c + d) (hd : d ≤ m) : b + x ≤ z := by omega
theorem p_wt {a b c t m z : Nat} (h : a = b + 1) (k : b ≤ c + (1 + t) * 21) (r : c ≤ m) (ht : t < 2) (hz : m + 43 ≤ z) : a ≤ z := by omega
theorem p_ls {a b c t m z : Nat} (h : a = b) (k : b ≤ c + (1 + t) * 10) (r : c ≤ m) (ht : t < 2) (hz : m + 20 ≤ z) : a ≤ z := by omega
theorem p_n {t m z : Nat} (ht : t < 2) (hz : 1 + m * 2 ≤ z) : 1 + (1 + t) * m ≤ z := Nat.le_trans (Nat.add_le_add_left (Nat.mul_comm m _ ▸ Nat.mul_le_mul_left m (by omega : 1 + t ≤ 2)) 1) hz
theorem p_s {t m a b z : Nat} (ht : t < 2) (h : a ≤ b) (hz : b + m * 2 ≤ z) : a + (1 + t) * m ≤ z := Nat.le_trans (Nat.add_le_add h (Nat.mul_comm m _ ▸ Nat.mul_le_mul_left m (by omega : 1 + t ≤ 2))) hz
theorem shift {n n1 m x z : Nat} (h : n + (x + m) ≤ z) (p : n1 ≤ n + m) : n1 + x ≤ z := by omega
noncomputable def pBody : List CS := [.assign 36 (.bin .Add (.var 36) (.tup [(.call 19 [(.var 16), (.var 30), (.const (.int 2)), (.var 25), (.var 21)])]))]
section
variable {N : Nat} {xs : List Int} {rs : List (Int × Int)} {nb c : Nat}
theorem prog_loop {k : Nat} (HS : StOk N k xs rs nb c 2) : ∀ (ds : List PyData) (n : Nat) (τ : Store) (R : List Row) (ρ : Rho), n + ds.length * 31 ≤ 900 → τ[c]? = some (.live, [.int n]) → rowsOk rs.length nb R → rowsSz R + ds.length * 21 ≤ 100 → ρ 36 = some (.dat (.tuple (rowsD R))) →
    ρ 16 = some (.dat (.list (xs.map .int))) → ρ 30 = some (.cell c) → ρ 25 = some (.dat (sizesD rs nb)) → ρ 21 = some (.dat (.tuple (rs.map pairD))) →
    ∃ ρ' R' n', (rowsOk rs.length nb R' ∧ rowsWt R' ≤ rowsWt R + ds.length * 21 ∧ rowsSz R' ≤ rowsSz R + ds.length * 21 ∧ rowsLs R' ≤ rowsLs R + ds.length * 10 ∧ rowsDp R' ≤ max (rowsDp R) 3) ∧ forGo (.one 17) (fun ρ' σ' => evSs N (tabAt tab2 N k) pBody ρ' σ') ds ρ τ = some (.next ρ', τ.set c (.live, [.int (n' : Nat)])) ∧ ρ' 36 = some (.dat (.tuple (rowsD R'))) ∧ ∀ j, j ≠ 36 → j ≠ 17 → ρ' j = ρ j := by
  intro ds
  induction ds with
  | nil => intro n τ R ρ _ hc ho _ q46 _ _ _ _; exact ⟨ρ, R, n, ⟨ho, Nat.le_add_right .., Nat.le_add_right .., Nat.le_add_right .., Nat.le_max_left ..⟩, by rw [set_same hc]; rfl, q46, fun _ _ _ => rfl⟩
  | cons d ds ih =>
    intro n τ R ρ hn hc ho hs q46 q26 q40 q35 q31
    rw [List.length_cons, Nat.succ_mul] at hn hs
    obtain ⟨r, n1, p1, p2, p3⟩ := HS n τ (by show n + 31 ≤ 900; omega) hc
    have p2' : n1 ≤ n + 31 := p2
    have pw : r.wt ≤ 21 := p1.wt
    have ps : r.sz ≤ 21 := p1.sz
    have pl : r.ls ≤ 10 := p1.ls
    obtain ⟨ρ', R', n', ⟨a1, a2, a3, a4, a5⟩, a6, a7, a8⟩ := ih n1 (τ.set c (.live, [.int (n1 : Nat)])) (R ++ [r]) ((ρ.set 17 (.dat d)).set 36 (.dat (.tuple (rowsD (R ++ [r]))))) (shift hn p2') (get_set hc) (ok_app ho ⟨p1.ok, trivial⟩) (grow' hs (sz_app R [r]) ps) rfl q26 q40 q35 q31
    rw [List.set_set] at a6
    refine ⟨ρ', R', n', ⟨a1, ?_, ?_, ?_, ?_⟩, ?_, a7, fun j h1 h2 => (a8 j h1 h2).trans ((if_neg h1).trans (if_neg h2))⟩
    · rw [List.length_cons, Nat.succ_mul]; exact grow a2 (wt_app R [r]) pw
    · rw [List.length_cons, Nat.succ_mul]; exact grow a3 (sz_app R [r]) ps
    · rw [List.length_cons, Nat.succ_mul]; exact grow a4 (Nat.succ.inj (ls_app R [r])) pl
    · rw [dp_app] at a5
      exact Nat.le_trans a5 (Nat.max_le.mpr ⟨Nat.max_le.mpr ⟨Nat.le_max_left .., Nat.le_trans (Nat.max_le.mpr ⟨Nat.succ_le_succ p1.dp, by decide⟩ : max (r.dp + 1) 1 ≤ 3) (Nat.le_max_right ..)⟩, Nat.le_max_right ..⟩)
    · refine (for_next (ρ₁ := ρ.set 17 (.dat d)) (ρ₂ := (ρ.set 17 (.dat d)).set 36 (.dat (.tuple (rowsD (R ++ [r]))))) (σ₂ := τ.set c (.live, [.int (n1 : Nat)])) rfl ?_).trans a6
      have hcall : evE (tabAt tab2 N k) (.call 19 [(.var 16), (.var 30), (.const (.int 2)), (.var 25), (.var 21)]) (ρ.set 17 (.dat d)) τ = some (.dat r.d, τ.set c (.live, [.int (n1 : Nat)])) := ev_callR (vs := [.dat (.list (xs.map .int)), .cell c, .dat (.int 2), .dat (sizesD rs nb), .dat (.tuple (rs.map pairD))]) (σ₁ := τ) (el_var (v := .dat (.list (xs.map .int))) (by exact q26) (el_var (v := .cell c) (by exact q40) (el_one (v := .dat (.int 2)) rfl (el_var (v := .dat (sizesD rs nb)) (by exact q35) (el_var (v := .dat (.tuple (rs.map pairD))) (by exact q31) rfl))))) p3
      refine Eq.trans (r_assign (σ₁ := τ.set c (.live, [.int (n1 : Nat)])) (v := .dat (.tuple (rowsD (R ++ [r])))) ?_) es_nil
      rw [ev_bin, evV (v := .dat (.tuple (rowsD R))) (by exact q46), Option.bind_some]
      show ((evE (tabAt tab2 N k) (.tup [(.call 19 [(.var 16), (.var 30), (.const (.int 2)), (.var 25), (.var 21)])]) (ρ.set 17 (.dat d)) τ).bind _) = _
      rw [ev_tup1 hcall, Option.bind_some]
      show (binD .Add (.tuple (rowsD R)) (.tuple [r.d])).bind _ = _
      rw [bi_addT (le_lim (m := 200) (by have := len_sz R; rw [rowsD_len]; show R.length + 1 ≤ 200; omega) (by decide)), rowsD_app]
      rfl
end
theorem s_program (N k : Nat) (xs : List Int) (hx : xs.length ≤ 63) (σ : Store) : ∃ rs nb rows, PB rs nb rows ∧ tabAt tab2 N (k + 8) 21 [.dat (.list (xs.map .int)), .dat (.int 0)] σ = some (.ret (.dat (progD rs nb rows)), σ) := by
  rw [tab_step (by rfl : tab2[21]? = some ([16, 35], c__law_program))]
  obtain ⟨rs, h3, hr, er⟩ := s_ranges N (k + 5) (cellAt xs 0) σ
  have hc0 := s_cell_at N (k + 6) xs hx 0 (by decide) σ
  have hc1 := fun τ => s_cell_at N (k + 6) xs hx 1 (by decide) τ
  have cell1 : ∀ (ρ : Rho) (τ : Store), ρ 16 = some (.dat (.list (xs.map .int))) → ρ 35 = some (.dat (.int 0)) → evE (tabAt tab2 N (k + 7)) (.call 13 [(.var 16), (.bin .Add (.var 35) (.const (.int 1)))]) ρ τ = some (.dat (.int (cellAt xs 1)), τ) := fun ρ τ h h' => ev_callR (vs := [.dat (.list (xs.map .int)), .dat (.int (0 + 1))]) (σ₁ := τ) (el_var (v := .dat (.list (xs.map .int))) h (el_one (v := .dat (.int (0 + 1))) (ev_addI (evV h') rfl) rfl)) (hc1 τ)
  generalize cellAt xs 1 = y at cell1
  obtain ⟨i5, hi5, e5⟩ := fmod_nat y (b := 5) (by decide)
  have e5' : y.fmod 5 = (i5 : Int) := e5
  have hmem := getD_mem (l := [1, 2, 3, 2, 6]) (j := i5) hi5
  have hpk := fun (ρ : Rho) (h : ρ 16 = some (.dat (.list (xs.map .int)))) (h' : ρ 35 = some (.dat (.int 0))) => ev_pick (Φ := tabAt tab2 N (k + 7)) (ρ := ρ) (σ := σ) (es := (.lst [(.const (.int 1)), (.const (.int 2)), (.const (.int 3)), (.const (.int 2)), (.const (.int 6))])) (i := .bin .Mod (.call 13 [(.var 16), (.bin .Add (.var 35) (.const (.int 1)))]) (.const (.int 5))) [1, 2, 3, 2, 6] i5 rfl (by rw [ev_modR (cell1 ρ σ h h') (by decide), e5']) hi5 (by show 5 < 1000; decide)
  generalize ([1, 2, 3, 2, 6] : List Int).getD i5 0 = mi at hmem hpk
  obtain ⟨nb, rfl, hb1, hb6⟩ := pick_nat hmem 1 6 rfl
  obtain ⟨R0, ρ7, hR0, e7, q46, q26, q40, q35, q31, q45⟩ := first_rows N (tabAt tab2 N (k + 7)) rs.length nb h3 hb1 hb6 (y.fdiv 10) (σ ++ [(.live, [.int ((1 : Nat) : Int)])]) (Rho.set (Rho.set (Rho.set (Rho.set (Rho.set (Rho.set (Rho.set (fun _ => none) 16 (.dat (.list (xs.map .int)))) 35 (.dat (.int 0))) 21 (.dat (.tuple (rs.map pairD)))) 25 (.dat (sizesD rs nb))) 30 (.cell σ.length)) 22 (.dat (.int (y.fdiv 10)))) 36 (.dat (.tuple []))) rfl rfl rfl
  have q26 := q26.trans rfl
  have q40 := q40.trans rfl
  have q35 := q35.trans rfl
  have q31 := q31.trans rfl
  have q45 := q45.trans rfl
  obtain ⟨t, ht, et⟩ := fmod_nat (y.fdiv 5) (b := 2) (by decide)
  have et' : (y.fdiv 5).fmod 2 = (t : Int) := et
  have r0w := hR0.wt
  have r0s := hR0.sz
  have r0l := hR0.ls
  have r0d := hR0.dp
  obtain ⟨ρ8, R1, n', ⟨a1, a2, a3, a4, a5⟩, a6, a7, a8⟩ := prog_loop (N := N) (xs := xs) (rs := rs) (nb := nb) (c := σ.length) (s_stmt hx h3 hb1 hb6 2 (by decide) k) ((List.range (1 + t)).map fun k => PyData.int (k : Nat)) 1 (σ ++ [(.live, [.int ((1 : Nat) : Int)])]) R0 ρ7 (by rw [List.length_map, List.length_range]; exact p_n ht (by decide)) (get_last ..) hR0.ok (by rw [List.length_map, List.length_range]; exact p_s ht r0s (by decide)) q46 q26 q40 q35 q31
  rw [List.length_map, List.length_range] at a2 a3 a4
  rw [set_last] at a6
  obtain ⟨e, he, ee⟩ := s_expr N (k + 5) (y.fdiv 9) rs h3 nb hb6 (σ ++ [(.live, [.int (n' : Nat)])])
  refine ⟨rs, nb, R1 ++ [.tell e], ⟨h3, fun r m => (hr r m).1, fun r m => (hr r m).2, hb1, hb6, ok_app a1 (show rowsOk rs.length nb [.tell e] from ⟨he, trivial⟩), p_wt (wt_app R1 [.tell e]) a2 r0w ht (by decide), p_wt (sz_app R1 [.tell e]) a3 r0s ht (by decide), p_ls (Nat.succ.inj (ls_app R1 [.tell e])) a4 r0l ht (by decide), by rw [dp_app]; exact Nat.max_le.mpr ⟨Nat.le_trans a5 (Nat.max_le.mpr ⟨r0d, Nat.le_refl _⟩), (by decide : 1 ≤ 3)⟩⟩, run_cell (τ := [(.live, [.int (n' : Nat)])]) rfl ?_⟩
  have hlen : ∀ ρ : Rho, ρ 21 = some (.dat (.tuple (rs.map pairD))) → evE (tabAt tab2 N (k + 7)) (.prim .len [(.var 21)]) ρ σ = some (.dat (.int rs.length), σ) := fun ρ h => by
    have := ev_lenT (Φ := tabAt tab2 N (k + 7)) (ρ := ρ) (σ := σ) (a := .var 21) (xs := rs.map pairD) (evV h) (by rw [List.length_map]; omega)
    rw [List.length_map] at this
    exact this
  have A1 : evSs N (tabAt tab2 N (k + 7)) c__law_program (Rho.set (Rho.set (fun _ => none) 16 (.dat (.list (xs.map .int)))) 35 (.dat (.int 0))) σ = evSs N (tabAt tab2 N (k + 7)) (c__law_program.drop 1) (Rho.set (Rho.set (Rho.set (fun _ => none) 16 (.dat (.list (xs.map .int)))) 35 (.dat (.int 0))) 21 (.dat (.tuple (rs.map pairD)))) σ :=
    r_newdat (d := .tuple (rs.map pairD)) (σ₁ := σ) (ev_callR (vs := [.dat (.int (cellAt xs 0))]) (σ₁ := σ) (el_one (v := .dat (.int (cellAt xs 0))) (ev_callR (vs := [.dat (.list (xs.map .int)), .dat (.int 0)]) (σ₁ := σ) rfl hc0) rfl) er)
  have A2 : evSs N (tabAt tab2 N (k + 7)) (c__law_program.drop 1) (Rho.set (Rho.set (Rho.set (fun _ => none) 16 (.dat (.list (xs.map .int)))) 35 (.dat (.int 0))) 21 (.dat (.tuple (rs.map pairD)))) σ = evSs N (tabAt tab2 N (k + 7)) (c__law_program.drop 2) (Rho.set (Rho.set (Rho.set (Rho.set (fun _ => none) 16 (.dat (.list (xs.map .int)))) 35 (.dat (.int 0))) 21 (.dat (.tuple (rs.map pairD)))) 25 (.dat (sizesD rs nb))) σ :=
    r_assign (v := .dat (sizesD rs nb)) (σ₁ := σ) (ev_tup2 (hlen _ rfl) (hpk _ rfl rfl))
  have A3 : evSs N (tabAt tab2 N (k + 7)) (c__law_program.drop 2) (Rho.set (Rho.set (Rho.set (Rho.set (fun _ => none) 16 (.dat (.list (xs.map .int)))) 35 (.dat (.int 0))) 21 (.dat (.tuple (rs.map pairD)))) 25 (.dat (sizesD rs nb))) σ = evSs N (tabAt tab2 N (k + 7)) (c__law_program.drop 3) (Rho.set (Rho.set (Rho.set (Rho.set (Rho.set (fun _ => none) 16 (.dat (.list (xs.map .int)))) 35 (.dat (.int 0))) 21 (.dat (.tuple (rs.map pairD)))) 25 (.dat (sizesD rs nb))) 30 (.cell σ.length)) (σ ++ [(.live, [.int ((1 : Nat) : Int)])]) :=
    r_newcell (ds := [.int ((1 : Nat) : Int)]) (σ₁ := σ) (by rw [ev_lst, el_one (ev_addI (x := 0) (y := 1) (evV rfl) rfl) rfl]; rfl)
  have h4a : evE (tabAt tab2 N (k + 7)) (.call 13 [(.var 16), (.bin .Add (.var 35) (.const (.int 1)))]) (Rho.set (Rho.set (Rho.set (Rho.set (Rho.set (fun _ => none) 16 (.dat (.list (xs.map .int)))) 35 (.dat (.int 0))) 21 (.dat (.tuple (rs.map pairD)))) 25 (.dat (sizesD rs nb))) 30 (.cell σ.length)) (σ ++ [(Flag.live, [PyData.int ((1 : Nat) : Int)])]) = some (.dat (.int y), (σ ++ [(Flag.live, [PyData.int ((1 : Nat) : Int)])])) := cell1 _ _ rfl rfl
  have h4 : evE (tabAt tab2 N (k + 7)) (.bin .FloorDiv (.call 13 [(.var 16), (.bin .Add (.var 35) (.const (.int 1)))]) (.const (.int 10))) (Rho.set (Rho.set (Rho.set (Rho.set (Rho.set (fun _ => none) 16 (.dat (.list (xs.map .int)))) 35 (.dat (.int 0))) 21 (.dat (.tuple (rs.map pairD)))) 25 (.dat (sizesD rs nb))) 30 (.cell σ.length)) (σ ++ [(Flag.live, [PyData.int ((1 : Nat) : Int)])]) = some (.dat (.int (y.fdiv 10)), (σ ++ [(Flag.live, [PyData.int ((1 : Nat) : Int)])])) := ev_divR h4a (by decide) (by decide)
  have A4 : evSs N (tabAt tab2 N (k + 7)) (c__law_program.drop 3) (Rho.set (Rho.set (Rho.set (Rho.set (Rho.set (fun _ => none) 16 (.dat (.list (xs.map .int)))) 35 (.dat (.int 0))) 21 (.dat (.tuple (rs.map pairD)))) 25 (.dat (sizesD rs nb))) 30 (.cell σ.length)) (σ ++ [(Flag.live, [PyData.int ((1 : Nat) : Int)])]) = evSs N (tabAt tab2 N (k + 7)) (c__law_program.drop 4) (Rho.set (Rho.set (Rho.set (Rho.set (Rho.set (Rho.set (fun _ => none) 16 (.dat (.list (xs.map .int)))) 35 (.dat (.int 0))) 21 (.dat (.tuple (rs.map pairD)))) 25 (.dat (sizesD rs nb))) 30 (.cell σ.length)) 22 (.dat (.int (y.fdiv 10)))) (σ ++ [(Flag.live, [PyData.int ((1 : Nat) : Int)])]) := r_assign h4
  have h5 : evE (tabAt tab2 N (k + 7)) (.tup []) (Rho.set (Rho.set (Rho.set (Rho.set (Rho.set (Rho.set (fun _ => none) 16 (.dat (.list (xs.map .int)))) 35 (.dat (.int 0))) 21 (.dat (.tuple (rs.map pairD)))) 25 (.dat (sizesD rs nb))) 30 (.cell σ.length)) 22 (.dat (.int (y.fdiv 10)))) (σ ++ [(Flag.live, [PyData.int ((1 : Nat) : Int)])]) = some (.dat (.tuple []), (σ ++ [(Flag.live, [PyData.int ((1 : Nat) : Int)])])) := rfl
  have A5 : evSs N (tabAt tab2 N (k + 7)) (c__law_program.drop 4) (Rho.set (Rho.set (Rho.set (Rho.set (Rho.set (Rho.set (fun _ => none) 16 (.dat (.list (xs.map .int)))) 35 (.dat (.int 0))) 21 (.dat (.tuple (rs.map pairD)))) 25 (.dat (sizesD rs nb))) 30 (.cell σ.length)) 22 (.dat (.int (y.fdiv 10)))) (σ ++ [(Flag.live, [PyData.int ((1 : Nat) : Int)])]) = evSs N (tabAt tab2 N (k + 7)) (c__law_program.drop 5) (Rho.set (Rho.set (Rho.set (Rho.set (Rho.set (Rho.set (Rho.set (fun _ => none) 16 (.dat (.list (xs.map .int)))) 35 (.dat (.int 0))) 21 (.dat (.tuple (rs.map pairD)))) 25 (.dat (sizesD rs nb))) 30 (.cell σ.length)) 22 (.dat (.int (y.fdiv 10)))) 36 (.dat (.tuple []))) (σ ++ [(Flag.live, [PyData.int ((1 : Nat) : Int)])]) := r_assign h5
  have A7 := e7 ((c__law_program.drop 5).drop 2)
  rw [List.take_append_drop] at A7
  refine A1.trans (A2.trans (A3.trans (A4.trans (A5.trans (A7.trans ?_)))))
  refine Eq.trans (r_forS (vs := [.dat (.int ((1 + t : Nat) : Int))]) (ds := [.int ((1 + t : Nat) : Int)]) ?_ rfl rfl (range_it (by omega)) a6) ?_
  · refine el_one (v := .dat (.int ((1 + t : Nat) : Int))) ?_ rfl
    rw [show (((1 + t : Nat)) : Int) = 1 + (y.fdiv 5).fmod 2 from by omega]
    exact ev_addI rfl (ev_modR (ev_divR (cell1 _ _ q26 q45) (by decide) (by decide)) (by decide))
  · have b26 := (a8 16 (by decide) (by decide)).trans q26
    have b45 := (a8 35 (by decide) (by decide)).trans q45
    have b35 := (a8 25 (by decide) (by decide)).trans q35
    have b31 := (a8 21 (by decide) (by decide)).trans q31
    have k1 : evE (tabAt tab2 N (k + 7)) (.bin .FloorDiv (.call 13 [(.var 16), (.bin .Add (.var 35) (.const (.int 1)))]) (.const (.int 9))) ρ8 (σ ++ [(Flag.live, [PyData.int (n' : Nat)])]) = some (.dat (.int (y.fdiv 9)), (σ ++ [(Flag.live, [PyData.int (n' : Nat)])])) := ev_divR (cell1 ρ8 _ b26 b45) (by decide) (by decide)
    have k2 : evE (tabAt tab2 N (k + 7)) (.call 17 [(.bin .FloorDiv (.call 13 [(.var 16), (.bin .Add (.var 35) (.const (.int 1)))]) (.const (.int 9))), (.var 25), (.var 21)]) ρ8 (σ ++ [(Flag.live, [PyData.int (n' : Nat)])]) = some (.dat e.d, (σ ++ [(Flag.live, [PyData.int (n' : Nat)])])) := ev_callR (vs := [.dat (.int (y.fdiv 9)), .dat (sizesD rs nb), .dat (.tuple (rs.map pairD))]) (σ₁ := (σ ++ [(Flag.live, [PyData.int (n' : Nat)])])) (el_one (v := .dat (.int (y.fdiv 9))) k1 (el_var (v := .dat (sizesD rs nb)) b35 (el_var (v := .dat (.tuple (rs.map pairD))) b31 rfl))) ee
    have k3 : evE (tabAt tab2 N (k + 7)) (.tup [(.tup [(.const (.str (Str.ofString "tell"))), (.var 33)])]) (ρ8.set 33 (.dat e.d)) (σ ++ [(Flag.live, [PyData.int (n' : Nat)])]) = some (.dat (.tuple [(Row.tell e).d]), (σ ++ [(Flag.live, [PyData.int (n' : Nat)])])) := ev_tup1 (ev_tup2 rfl (evV rfl))
    refine Eq.trans (r_assign k2) (r_ret (ev_tup3 (d := .tuple (rs.map pairD)) (e := .int nb) (evV (by exact b31)) (ev_ixD (by exact b35) rfl) (ev_binR (x := .dat (.tuple (rowsD R1))) (y := .dat (.tuple [(Row.tell e).d])) (evV (by exact a7)) k3 rfl rfl ?_)))
    rw [rowsD_app]
    refine bi_addT (le_lim (m := 200) ?_ (by decide))
    have := len_sz R1
    rw [rowsD_len]
    show R1.length + 1 ≤ 200
    omega
noncomputable def wBody2 : List CS := [.assign 40 (.bin .Add (.var 40) (.const (.int (1)))), .ite (.cmp .Eq (.idx (.var 41) (.const (.int (0)))) (.const (.str (Str.ofString "ask")))) [.assign 40 (.bin .Add (.bin .Add (.var 40) (.call 22 [(.idx (.var 41) (.const (.int (2))))])) (.call 22 [(.idx (.var 41) (.const (.int (3))))]))] [], .ite (.cmp .Eq (.idx (.var 41) (.const (.int (0)))) (.const (.str (Str.ofString "times")))) [.assign 40 (.bin .Add (.var 40) (.bin .Mult (.idx (.var 41) (.const (.int (1)))) (.call 22 [(.idx (.var 41) (.const (.int (2))))])))] []]
theorem lw_row (N : Nat) (Φ : Phi) (σ : Store) (r : Row) (m : Nat) (ρ : Rho) (h12 : ρ 41 = some (.dat r.d)) (h18 : ρ 40 = some (.dat (.int m))) (h8 : ∀ j l, r = .times j l → j ≤ 8) (H : ∀ l ∈ r.inner, Φ 22 [.dat (.tuple (rowsD l))] σ = some (.ret (.dat (.int (rowsWt l))), σ)) :
    ∃ ρ', evSs N Φ wBody2 ρ σ = some (.next ρ', σ) ∧ ρ' 40 = some (.dat (.int (m + r.wt : Nat))) := by
  have hA : evE Φ (.bin .Add (.var 40) (.const (.int 1))) ρ σ = some (.dat (.int ((m : Int) + 1)), σ) := ev_addI (evV h18) rfl
  have hcall : ∀ (ρ : Rho) (j : Int) l, ρ 41 = some (.dat r.d) → idxD r.d (.int j) = some (.tuple (rowsD l)) → l ∈ r.inner → evE Φ (.call 22 [(.idx (.var 41) (.const (.int j)))]) ρ σ = some (.dat (.int (rowsWt l)), σ) := fun ρ j l h1 h2 h3 => ev_callR (vs := [.dat (.tuple (rowsD l))]) (σ₁ := σ) (by rw [el_cons, ev_ixD h1 h2]; rfl) (H l h3)
  have plain : ∀ a : Fin 5, a ≠ 1 → a ≠ 2 → idxD r.d (.int 0) = some (.str (W a)) → r.wt = 1 → ∃ ρ', evSs N Φ wBody2 ρ σ = some (.next ρ', σ) ∧ ρ' 40 = some (.dat (.int (m + r.wt : Nat))) := fun a h1 h2 h0 hw => by
    have e1 := word_eq (Φ := Φ) (σ := σ) (ρ := ρ.set 40 (.dat (.int ((m : Int) + 1)))) (i := 41) 1 h12 h0
    have e2 := word_eq (Φ := Φ) (σ := σ) (ρ := ρ.set 40 (.dat (.int ((m : Int) + 1)))) (i := 41) 2 h12 h0
    rw [beq_false_of_ne h1] at e1
    rw [beq_false_of_ne h2] at e2
    exact ⟨_, Eq.trans (r_assign hA) (Eq.trans (r_skip e1) (Eq.trans (r_skip e2) es_nil)), by rw [hw]; rfl⟩
  cases r with
  | put b e => exact plain 0 (by decide) (by decide) rfl rfl
  | tell e => exact plain 3 (by decide) (by decide) rfl rfl
  | stop w => exact plain 4 (by decide) (by decide) rfl rfl
  | ask e y n =>
    have e1 := word_eq (Φ := Φ) (σ := σ) (ρ := ρ.set 40 (.dat (.int ((m : Int) + 1)))) (i := 41) (a := 1) 1 h12 rfl
    have e2 := word_eq (Φ := Φ) (σ := σ) (ρ := (ρ.set 40 (.dat (.int ((m : Int) + 1)))).set 40 (.dat (.int ((m : Int) + 1 + (rowsWt y : Int) + rowsWt n)))) (i := 41) (a := 1) 2 h12 rfl
    refine ⟨_, Eq.trans (r_assign hA) (Eq.trans (r_next (Eq.trans (r_true e1) (Eq.trans (r_assign (v := .dat (.int ((m : Int) + 1 + (rowsWt y : Int) + rowsWt n))) (σ₁ := σ) (ev_addI (ev_addI (evV rfl) (hcall _ 2 y h12 rfl (.head _))) (hcall _ 3 n h12 rfl (.tail _ (.head _))))) es_nil))) (Eq.trans (r_skip e2) es_nil)), ?_⟩
    show some (AV.dat (.int ((m : Int) + 1 + (rowsWt y : Int) + rowsWt n))) = some (.dat (.int ((m + (1 + rowsWt y + rowsWt n) : Nat) : Int)))
    congr 3
    omega
  | times j l =>
    have e1 := word_eq (Φ := Φ) (σ := σ) (ρ := ρ.set 40 (.dat (.int ((m : Int) + 1)))) (i := 41) (a := 2) 1 h12 rfl
    have e2 := word_eq (Φ := Φ) (σ := σ) (ρ := ρ.set 40 (.dat (.int ((m : Int) + 1)))) (i := 41) (a := 2) 2 h12 rfl
    have hj := h8 j l rfl
    refine ⟨_, Eq.trans (r_assign hA) (Eq.trans (r_skip e1) (Eq.trans (r_next (Eq.trans (r_true e2) (Eq.trans (r_assign (v := .dat (.int ((m : Int) + 1 + (j : Int) * rowsWt l))) (σ₁ := σ) (ev_addI (evV rfl) (ev_mulI (ev_ixD h12 rfl) (hcall _ 2 l h12 rfl (.head _)) (mulOk_l (by omega))))) es_nil))) es_nil)), ?_⟩
    show some (AV.dat (.int ((m : Int) + 1 + (j : Int) * rowsWt l))) = some (.dat (.int ((m + (1 + j * rowsWt l) : Nat) : Int)))
    rw [show (j : Int) * rowsWt l = ((j * rowsWt l : Nat) : Int) from (Int.natCast_mul ..).symm]
    congr 3
    omega
theorem lw_loop (N : Nat) (Φ : Phi) (σ : Store) : ∀ (rs : List Row) (m : Nat) (ρ : Rho), ρ 40 = some (.dat (.int m)) → (∀ r ∈ rs, (∀ j l, r = .times j l → j ≤ 8) ∧ ∀ l ∈ r.inner, Φ 22 [.dat (.tuple (rowsD l))] σ = some (.ret (.dat (.int (rowsWt l))), σ)) →
    ∃ ρ', forGo (.one 41) (fun ρ' σ' => evSs N Φ wBody2 ρ' σ') (rowsD rs) ρ σ = some (.next ρ', σ) ∧ ρ' 40 = some (.dat (.int (m + rowsWt rs : Nat))) := by
  intro rs
  induction rs with
  | nil => intro m ρ h _; exact ⟨ρ, rfl, h⟩
  | cons r rs ih =>
    intro m ρ h H
    obtain ⟨ρ₁, e1, h1⟩ := lw_row N Φ σ r m (Rho.set ρ 41 (.dat r.d)) rfl h (H r (.head _)).1 (H r (.head _)).2
    obtain ⟨ρ', e2, h2⟩ := ih (m + r.wt) ρ₁ h1 fun r' hr => H r' (.tail _ hr)
    exact ⟨ρ', (for_next rfl e1).trans e2, by rw [h2, Nat.add_assoc]; rfl⟩
theorem s_lweight (N ni nb : Nat) (σ : Store) : ∀ (k : Nat) (rs : List Row), rowsDp rs ≤ k → rowsOk ni nb rs → tabAt tab2 N k 22 [.dat (.tuple (rowsD rs))] σ = some (.ret (.dat (.int (rowsWt rs))), σ) := by
  intro k
  induction k with
  | zero => intro rs h; exact absurd (Nat.le_trans (dp_pos rs) h) (by decide)
  | succ k ih =>
    intro rs h ho
    rw [tab_step (by rfl : tab2[22]? = some ([36], c__law_weight))]
    obtain ⟨ρ', e, h'⟩ := lw_loop N (tabAt tab2 N k) σ rs 0 (Rho.set (Rho.set (fun _ => none) 36 (.dat (.tuple (rowsD rs)))) 40 (.dat (.int 0))) rfl fun r hr => ⟨fun j l e => by have := ok_mem ho hr; rw [e] at this; exact this.1, fun l hl => ih l (by have := dp_mem hr; have := dp_inner hl; omega) (ok_inner (ok_mem ho hr) l hl)⟩
    rw [Nat.zero_add] at h'
    exact r_runD rfl (Eq.trans (r_assign (v := .dat (.int 0)) (σ₁ := σ) rfl) (Eq.trans (r_forS (vs := [.dat (.tuple (rowsD rs))]) (ds := [.tuple (rowsD rs)]) (xs := rowsD rs) rfl rfl rfl rfl e) (r_ret (evV h'))))
noncomputable def dpM : List Row → Nat
  | [] => 0
  | r :: rs => max r.dp (dpM rs)
theorem dpM_dp : ∀ rs : List Row, rowsDp rs = dpM rs + 1
  | [] => rfl
  | r :: rs => by show max (r.dp + 1) (rowsDp rs) = max r.dp (dpM rs) + 1; rw [dpM_dp rs, Nat.succ_max_succ]
theorem inq : ∀ a : Fin 5, cmpD .In (.str (W a)) (.tuple [.str (W 1), .str (W 2)]) = some (a == 1 || a == 2) := by decide +kernel
theorem ev_sl {Φ : Phi} {ρ : Rho} {σ : Store} {a lo hi : CE} {dx dl du : PyData} {r : AV} (h1 : evE Φ a ρ σ = some (.dat dx, σ)) (h2 : evE Φ lo ρ σ = some (.dat dl, σ)) (h3 : evE Φ hi ρ σ = some (.dat du, σ)) (h4 : sliceD dx dl du = some r) : evE Φ (.slice a lo hi) ρ σ = some (r, σ) := by
  rw [ev_slice, h1, Option.bind_some, h2, Option.bind_some, h3, Option.bind_some, x_rdD, Option.bind_some, x_rdD, Option.bind_some, x_rdD, Option.bind_some, h4]
  rfl
theorem max_int (a b : Nat) : (if (b : Int) > a then (b : Int) else a) = ((max a b : Nat) : Int) := by
  by_cases h : b > a
  · rw [if_pos (by omega), Nat.max_eq_right (by omega)]
  · rw [if_neg (by omega), Nat.max_eq_left (by omega)]
noncomputable def dIn : List CS := [.ite (.cmp .In (.idx (.var 41) (.const (.int (0)))) (.tup [(.const (.str (Str.ofString "ask"))), (.const (.str (Str.ofString "times")))])) [.assign 42 (.prim .max [(.var 42), (.call 23 [(.var 43)])])] []]
theorem d_in (N : Nat) (Φ : Phi) (σ : Store) (d : PyData) (a : Fin 5) (ha : (a == 1 || a == 2) = true) (hd : idxD d (.int 0) = some (.str (W a))) : ∀ (ls : List (List Row)) (m : Nat) (ρ : Rho), ρ 41 = some (.dat d) → ρ 42 = some (.dat (.int m)) → (∀ l ∈ ls, Φ 23 [.dat (.tuple (rowsD l))] σ = some (.ret (.dat (.int (rowsDp l))), σ)) →
    ∃ ρ', forGo (.one 43) (fun ρ' σ' => evSs N Φ dIn ρ' σ') (listsD ls) ρ σ = some (.next ρ', σ) ∧ ρ' 42 = some (.dat (.int (max m (dpAll ls) : Nat))) := by
  intro ls
  induction ls with
  | nil => intro m ρ _ h _; exact ⟨ρ, rfl, by rw [h]; show _ = some (AV.dat (.int (max m 0 : Nat))); rw [Nat.max_zero]⟩
  | cons l ls ih =>
    intro m ρ h1 h2 H
    obtain ⟨ρ', e, h⟩ := ih (max m (rowsDp l)) ((ρ.set 43 (.dat (.tuple (rowsD l)))).set 42 (.dat (.int (max m (rowsDp l) : Nat)))) h1 rfl fun x hx => H x (.tail _ hx)
    refine ⟨ρ', (for_next (ρ₁ := ρ.set 43 (.dat (.tuple (rowsD l)))) (ρ₂ := (ρ.set 43 (.dat (.tuple (rowsD l)))).set 42 (.dat (.int (max m (rowsDp l) : Nat)))) (σ₂ := σ) rfl ?_).trans e, by rw [h, Nat.max_assoc]; rfl⟩
    have hq : evE Φ (.cmp .In (.idx (.var 41) (.const (.int (0)))) (.tup [(.const (.str (Str.ofString "ask"))), (.const (.str (Str.ofString "times")))])) (ρ.set 43 (.dat (.tuple (rowsD l)))) σ = some (.dat (.bool true), σ) := by rw [← ha]; exact ev_cmpR (ev_ixD h1 hd) rfl (inq a)
    refine Eq.trans (r_next (Eq.trans (r_true hq) (Eq.trans (r_assign (v := .dat (.int (max m (rowsDp l) : Nat))) (σ₁ := σ) ?_) es_nil))) es_nil
    refine ev_primR (vs := [.dat (.int m), .dat (.int (rowsDp l))]) (ds := [.int m, .int (rowsDp l)]) (el_var (v := .dat (.int m)) (by exact h2) (el_one (v := .dat (.int (rowsDp l))) (ev_callR (vs := [.dat (.tuple (rowsD l))]) rfl (H l (.head _))) rfl)) rfl ?_
    rw [← max_int]
    rfl
noncomputable def dOut : List CS := [.forr (.one 43) .seq [(.slice (.var 41) (.const (.int (2))) (.const .none))] dIn]
theorem d_row (N : Nat) (Φ : Phi) (σ : Store) (r : Row) (m : Nat) (ρ : Rho) (h1 : ρ 41 = some (.dat r.d)) (h2 : ρ 42 = some (.dat (.int m))) (H : ∀ l ∈ r.inner, Φ 23 [.dat (.tuple (rowsD l))] σ = some (.ret (.dat (.int (rowsDp l))), σ)) :
    ∃ ρ', evSs N Φ dOut ρ σ = some (.next ρ', σ) ∧ ρ' 42 = some (.dat (.int (max m r.dp : Nat))) := by
  have go : ∀ {ρ' : Rho} {xs : List PyData}, sliceD r.d (.int 2) .none = some (.dat (.tuple xs)) → forGo (.one 43) (fun ρ' σ' => evSs N Φ dIn ρ' σ') xs ρ σ = some (.next ρ', σ) → evSs N Φ dOut ρ σ = some (.next ρ', σ) := fun {ρ'} {xs} hs e => (r_forS (vs := [.dat (.tuple xs)]) (ds := [.tuple xs]) (el_one (v := .dat (.tuple xs)) (ev_sl (evV h1) rfl rfl hs) rfl) rfl rfl rfl e).trans es_nil
  rw [← inner_dp]
  cases r with
  | put b e =>
    refine ⟨ρ.set 43 (.dat e.d), go (xs := [e.d]) rfl ((for_next (ρ₁ := ρ.set 43 (.dat e.d)) (ρ₂ := ρ.set 43 (.dat e.d)) (σ₂ := σ) rfl (Eq.trans (r_skip (ev_cmpR (dx := .str (W 0)) (ev_ixD (i := 41) (d := (Row.put b e).d) (by exact h1) rfl) rfl (inq 0))) es_nil)).trans rfl), by rw [show dpAll (Row.put b e).inner = 0 from rfl, Nat.max_zero]; exact h2⟩
  | tell e => exact ⟨ρ, go (xs := []) rfl rfl, by rw [show dpAll (Row.tell e).inner = 0 from rfl, Nat.max_zero]; exact h2⟩
  | stop w => exact ⟨ρ, go (xs := []) rfl rfl, by rw [show dpAll (Row.stop w).inner = 0 from rfl, Nat.max_zero]; exact h2⟩
  | ask e y n =>
    obtain ⟨ρ', e1, h⟩ := d_in N Φ σ (Row.ask e y n).d 1 rfl rfl [y, n] m ρ h1 h2 H
    exact ⟨ρ', go (xs := listsD [y, n]) rfl e1, h⟩
  | times j l =>
    obtain ⟨ρ', e1, h⟩ := d_in N Φ σ (Row.times j l).d 2 rfl rfl [l] m ρ h1 h2 H
    exact ⟨ρ', go (xs := listsD [l]) rfl e1, h⟩
theorem d_loop (N : Nat) (Φ : Phi) (σ : Store) : ∀ (rs : List Row) (m : Nat) (ρ : Rho), ρ 42 = some (.dat (.int m)) → (∀ r ∈ rs, ∀ l ∈ r.inner, Φ 23 [.dat (.tuple (rowsD l))] σ = some (.ret (.dat (.int (rowsDp l))), σ)) →
    ∃ ρ', forGo (.one 41) (fun ρ' σ' => evSs N Φ dOut ρ' σ') (rowsD rs) ρ σ = some (.next ρ', σ) ∧ ρ' 42 = some (.dat (.int (max m (dpM rs) : Nat))) := by
  intro rs
  induction rs with
  | nil => intro m ρ h _; exact ⟨ρ, rfl, by rw [h]; show _ = some (AV.dat (.int (max m 0 : Nat))); rw [Nat.max_zero]⟩
  | cons r rs ih =>
    intro m ρ h H
    obtain ⟨ρ₁, e1, h1⟩ := d_row N Φ σ r m (Rho.set ρ 41 (.dat r.d)) rfl h (H r (.head _))
    obtain ⟨ρ', e2, h2⟩ := ih (max m r.dp) ρ₁ h1 fun r' hr => H r' (.tail _ hr)
    exact ⟨ρ', (for_next rfl e1).trans e2, by rw [h2, Nat.max_assoc]; rfl⟩
theorem s_ldepth (N : Nat) (σ : Store) : ∀ (k : Nat) (rs : List Row), rowsDp rs ≤ k → tabAt tab2 N k 23 [.dat (.tuple (rowsD rs))] σ = some (.ret (.dat (.int (rowsDp rs))), σ) := by
  intro k
  induction k with
  | zero => intro rs h; exact absurd (Nat.le_trans (dp_pos rs) h) (by decide)
  | succ k ih =>
    intro rs h
    rw [tab_step (by rfl : tab2[23]? = some ([36], c__law_depth))]
    obtain ⟨ρ', e, h'⟩ := d_loop N (tabAt tab2 N k) σ rs 0 (Rho.set (Rho.set (fun _ => none) 36 (.dat (.tuple (rowsD rs)))) 42 (.dat (.int 0))) rfl fun r hr l hl => ih l (by have := dp_mem hr; have := dp_inner hl; omega)
    rw [Nat.zero_max] at h'
    rw [dpM_dp]
    exact r_runD rfl (Eq.trans (r_assign (v := .dat (.int 0)) (σ₁ := σ) rfl) (Eq.trans (r_forS (vs := [.dat (.tuple (rowsD rs))]) (ds := [.tuple (rowsD rs)]) (xs := rowsD rs) rfl rfl rfl rfl e) (r_ret (ev_addI (x := (dpM rs : Int)) (y := 1) (evV h') rfl))))
theorem ints_whole : ∀ xs : List Int, (List.map wholeB (xs.map PyData.int)).all id = true
  | [] => rfl
  | _ :: xs => ints_whole xs
theorem ints_wholes (xs : List Int) {m : Nat} (h : xs.length = m) : wholesB (.tuple (xs.map .int)) m = true := by
  show ((((xs.map PyData.int).length : Int) == (m : Int)) && (List.map wholeB (xs.map PyData.int)).all id) = true
  rw [List.length_map, h, ints_whole, beq_self_eq_true]
  rfl
theorem ex_ok {ni nb : Nat} {e : Ex} (h : e.ok ni nb) : isExB ni nb e.d = true := by
  show (true && (wholesB (.tuple (e.f.map .int)) ni && wholesB (.tuple (e.o.map .int)) nb)) = true
  rw [ints_wholes _ h.nf, ints_wholes _ h.no]
  rfl
theorem word_ok {w : Str} (h : wordOk w) : isWordB (.str w) = true := by
  obtain ⟨h1, h2, h3⟩ := h
  show ((decide (1 ≤ (w.length : Int)) && decide ((w.length : Int) ≤ 8)) && ((charsD w).map letB).all id) = true
  rw [decide_eq_true (by omega : 1 ≤ (w.length : Int)), decide_eq_true (by omega : (w.length : Int) ≤ 8), Bool.true_and, Bool.true_and, List.all_eq_true]
  intro b hb
  obtain ⟨x, hx, rfl⟩ := List.mem_map.mp hb
  obtain ⟨c, hc, rfl⟩ := List.mem_map.mp hx
  exact cps_mem (h3 c hc)
theorem among_ok {x lo hi : Int} (h1 : lo ≤ x) (h2 : x ≤ hi) : amongB (.int x) (lo, hi) = true := by
  show (decide (lo ≤ x) && decide (x ≤ hi)) = true
  rw [decide_eq_true h1, decide_eq_true h2]
  rfl
theorem row_st {ni nb : Nat} {r : Row} (h : r.ok ni nb) : isStB ni nb r.d = true := by
  cases r with
  | put b e =>
    refine (stB_w ni nb 0 _ _).trans ?_
    show (amongB (.int b) (0, (nb : Int) - 1) && isExB ni nb e.d) = true
    rw [ex_ok h.2, among_ok (by omega) (by have := h.1; omega)]
    rfl
  | ask e y n => exact (stB_w ni nb 1 _ _).trans (ex_ok h.1)
  | times j r => exact (stB_w ni nb 2 _ _).trans (among_ok (x := (j : Int)) (lo := 0) (hi := 8) (by omega) (by have := h.1; omega))
  | tell e => exact (stB_w ni nb 3 _ _).trans (ex_ok h)
  | stop w => exact (stB_w ni nb 4 _ _).trans (word_ok h)
theorem row_inn (r : Row) : innB r.d = listsD r.inner := by
  cases r with
  | put b e => exact innB_w 0 _ _
  | ask e y n => exact innB_w 1 _ _
  | times j r => exact innB_w 2 _ _
  | tell e => exact innB_w 3 _ _
  | stop w => exact innB_w 4 _ _
theorem good_rows {ni nb : Nat} {d : PyData} (h : BadRows ni nb d) : ∀ rs, d = .tuple (rowsD rs) → rowsOk ni nb rs → False := by
  induction h with
  | nt h => exact fun rs e _ => h _ e
  | st hx hf =>
    intro rs e ho
    cases e
    rw [rowsD_map] at hx
    obtain ⟨r, hr, rfl⟩ := List.mem_map.mp hx
    exact absurd ((row_st (ok_mem ho hr)).symm.trans hf) (by decide)
  | inn hx hy _ ih =>
    intro rs e ho
    cases e
    rw [rowsD_map] at hx
    obtain ⟨r, hr, rfl⟩ := List.mem_map.mp hx
    rw [row_inn] at hy
    obtain ⟨l, hl, rfl⟩ := List.mem_map.mp hy
    exact ih l rfl (ok_inner (ok_mem ho hr) l hl)
theorem nd_ints : ∀ xs : List Int, ndAll (xs.map .int) = xs.length
  | [] => rfl
  | _ :: xs => by show 1 + ndAll (xs.map .int) = xs.length + 1; rw [nd_ints xs, Nat.add_comm]
theorem ex_nd {ni nb : Nat} (hi : ni ≤ 3) (hb : nb ≤ 6) {e : Ex} (h : e.ok ni nb) : nd e.d ≤ 13 := by
  show 1 + (1 + ((1 + ndAll (e.f.map .int)) + ((1 + ndAll (e.o.map .int)) + 0))) ≤ 13
  rw [nd_ints, nd_ints, h.nf, h.no]
  omega
theorem w_nd : ∀ i : Fin 5, nd (.str (W i)) ≤ 6 := by decide +kernel
theorem word_nd {w : Str} (h : wordOk w) : nd (.str w) ≤ 9 := by
  show (if asc w = true then 1 + w.length else 10000000) ≤ 9
  rw [if_pos (by
    unfold asc
    rw [← Array.all_toList, List.all_eq_true]
    exact fun c hc => decide_eq_true (Nat.lt_of_le_of_lt (h.2.2 c hc).2 (by decide)))]
  have := h.2.1
  omega
mutual
theorem row_nd {ni nb : Nat} (hi : ni ≤ 3) (hb : nb ≤ 6) : ∀ r : Row, r.ok ni nb → nd r.d ≤ 25 * r.sz
  | .put b e, h => by
    have h1 := w_nd 0
    have h2 := ex_nd hi hb h.2
    show 1 + (nd (.str (W 0)) + (1 + (nd e.d + 0))) ≤ 25 * 1
    omega
  | .ask e y n, h => by
    have h1 := w_nd 1
    have h2 := ex_nd hi hb h.1
    have h3 := rows_nd hi hb y h.2.1
    have h4 := rows_nd hi hb n h.2.2
    show 1 + (nd (.str (W 1)) + (nd e.d + ((1 + ndAll (rowsD y)) + ((1 + ndAll (rowsD n)) + 0)))) ≤ 25 * (1 + rowsSz y + rowsSz n)
    omega
  | .times k l, h => by
    have h1 := w_nd 2
    have h3 := rows_nd hi hb l h.2
    show 1 + (nd (.str (W 2)) + (1 + ((1 + ndAll (rowsD l)) + 0))) ≤ 25 * (1 + rowsSz l)
    omega
  | .tell e, h => by
    have h1 := w_nd 3
    have h2 := ex_nd hi hb h
    show 1 + (nd (.str (W 3)) + (nd e.d + 0)) ≤ 25 * 1
    omega
  | .stop w, h => by
    have h1 := w_nd 4
    have h2 := word_nd h
    show 1 + (nd (.str (W 4)) + (nd (.str w) + 0)) ≤ 25 * 1
    omega
theorem rows_nd {ni nb : Nat} (hi : ni ≤ 3) (hb : nb ≤ 6) : ∀ rs : List Row, rowsOk ni nb rs → ndAll (rowsD rs) ≤ 25 * rowsSz rs
  | [], _ => Nat.le_refl _
  | r :: rs, h => by
    have h1 := row_nd hi hb r h.1
    have h2 := rows_nd hi hb rs h.2
    show nd r.d + ndAll (rowsD rs) ≤ 25 * (r.sz + rowsSz rs)
    omega
end
theorem nd_pairs : ∀ rs : List (Int × Int), ndAll (rs.map pairD) = 3 * rs.length
  | [] => rfl
  | _ :: rs => by show 3 + ndAll (rs.map pairD) = 3 * (rs.length + 1); rw [nd_pairs rs]; omega
mutual
theorem row_ls : ∀ r : Row, r.ls ≤ 2 * r.sz
  | .put _ _ => Nat.zero_le _
  | .tell _ => Nat.zero_le _
  | .stop _ => Nat.zero_le _
  | .ask e y n => by
    have h1 := rows_ls y
    have h2 := rows_ls n
    show rowsLs y + rowsLs n ≤ 2 * (1 + rowsSz y + rowsSz n)
    omega
  | .times k l => by
    have h1 := rows_ls l
    show rowsLs l ≤ 2 * (1 + rowsSz l)
    omega
theorem rows_ls : ∀ rs : List Row, rowsLs rs ≤ 2 * rowsSz rs + 1
  | [] => Nat.le_refl _
  | r :: rs => by
    have h1 := row_ls r
    have h2 := rows_ls rs
    show r.ls + rowsLs rs ≤ 2 * (r.sz + rowsSz rs) + 1
    omega
end
structure PO (rs : List (Int × Int)) (nb : Nat) (rows : List Row) : Prop where
  h3 : rs.length ≤ 3
  hr : ∀ r ∈ rs, okR r
  b1 : 1 ≤ nb
  b6 : nb ≤ 6
  ok : rowsOk rs.length nb rows
  sz : rowsSz rows ≤ 30000
  dp : rowsDp rows ≤ 12
theorem PO.nd {rs : List (Int × Int)} {nb : Nat} {rows : List Row} (P : PO rs nb rows) : nd (progD rs nb rows) ≤ 800000 := by
  have h1 := rows_nd P.h3 P.b6 rows P.ok
  have h2 := P.sz
  have h3 := P.h3
  show 1 + ((1 + ndAll (rs.map pairD)) + (1 + ((1 + ndAll (rowsD rows)) + 0))) ≤ 800000
  rw [nd_pairs]
  omega
theorem range_ok {r : Int × Int} (h : okR r) : isRangeB (pairD r) = true := by
  show (decide (r.1 ≤ r.2) && decide (r.2 ≤ r.1 + 20)) = true
  rw [decide_eq_true h.2, decide_eq_true (by have := h.1; have := h.2; omega : r.2 ≤ r.1 + 20)]
  rfl
theorem ranges_ok {rs : List (Int × Int)} (h : ∀ r ∈ rs, okR r) : (List.map isRangeB (rs.map pairD)).all id = true := by
  rw [List.all_eq_true]
  intro b hb
  obtain ⟨x, hx, rfl⟩ := List.mem_map.mp hb
  obtain ⟨r, hr, rfl⟩ := List.mem_map.mp hx
  exact range_ok (h r hr)
theorem PO.good {rs : List (Int × Int)} {nb : Nat} {rows : List Row} (P : PO rs nb rows) : ¬ BadProg (progD rs nb rows) := by
  intro h
  rcases h with h | h | h | ⟨m, e, h⟩
  · rw [List.length_map] at h
    exact absurd h (Nat.not_lt.mpr P.h3)
  · exact absurd ((ranges_ok P.hr).symm.trans h) (by decide)
  · exact absurd ((among_ok (by have := P.b1; omega) (by have := P.b6; omega)).symm.trans h) (by decide)
  · cases e
    rw [List.length_map] at h
    exact good_rows h _ rfl P.ok
theorem run_exc {N : Nat} {Φ : Phi} {is : List Nat} {cs : List CS} {args : List AV} {σ : Store} {ρ : Rho} {c : Nat} (h : bindArgsR is args (fun _ => none) = some ρ) (h' : evSs N Φ cs ρ σ = some (.exc c, σ)) : runF N Φ is cs args σ = some (.exc c, σ) := by
  rw [x_run, h, Option.bind_some, h']
  show some (CR.exc c, σ.take σ.length) = _
  rw [List.take_length]
theorem r_raise {N : Nat} {Φ : Phi} {ρ : Rho} {σ : Store} {c : CE} {x : Nat} {cs : List CS} (h : evE Φ c ρ σ = some (.dat (.bool true), σ)) : evSs N Φ (.ite c [.raise x] [] :: cs) ρ σ = some (.exc x, σ) := by
  rw [es_cons, r_true h]
  rfl
theorem s_need_bad (N k : Nat) (hN : 1000000 < N) (d : PyData) (hd : nd d ≤ 1000000) (h : BadProg d) (σ : Store) : tabAt tab2 N (k + 7) 12 [.dat d] σ = some (.exc 1, σ) := by
  rw [tab_step (by rfl : tab2[12]? = some ([0], c_need_program))]
  exact run_exc rfl (r_raise (ev_notT (p := false) (ev_callR rfl ((s_is_program N k d hd hN σ).1 h))))
section
variable {N k : Nat} {rs : List (Int × Int)} {nb : Nat} {rows : List Row}
theorem s_need_good (hN : 1000000 < N) (P : PO rs nb rows) (σ : Store) : tabAt tab2 N (k + 13) 12 [.dat (progD rs nb rows)] σ = if rowsWt rows ≤ 200 ∧ rowsDp rows ≤ 6 then some (.ret (.dat .none), σ) else some (.exc 2, σ) := by
  rw [tab_step (by rfl : tab2[12]? = some ([0], c_need_program))]
  have h1 := (s_is_program N (k + 6) _ (Nat.le_trans P.nd (by decide)) hN σ).2 P.good
  have h2 := s_depth N (k + 10) hN rows (Nat.le_trans (rows_ls rows) (by have := P.sz; omega)) σ
  have h3 := s_weight N rs.length nb σ (k + 12) rows (Nat.le_trans P.dp (Nat.le_add_left ..)) P.ok
  have e2 : cmpD .Gt (.int (rowsDp rows)) (.int 6) = some (decide (6 < (rowsDp rows : Int))) := cm_gt _ _
  have e3 : cmpD .Gt (.int (rowsWt rows)) (.int 200) = some (decide (200 < (rowsWt rows : Int))) := cm_gt _ _
  have hor := ev_orN (Φ := tabAt tab2 N (k + 12)) (ρ := Rho.set (fun _ => none) 0 (.dat (progD rs nb rows))) (σ := σ) (ev_cmpR (a := .call 10 [(.idx (.var 0) (.const (.int (2))))]) (b := .const (.int 6)) (ev_callR rfl h2) rfl e2) fun _ => ev_or1 (ev_cmpR (a := .call 11 [(.idx (.var 0) (.const (.int (2))))]) (b := .const (.int 200)) (ev_callR rfl h3) rfl e3)
  have ok1 := ev_notT (p := true) (ev_callR (Φ := tabAt tab2 N (k + 12)) (ρ := Rho.set (fun _ => none) 0 (.dat (progD rs nb rows))) (f := 9) (es := [.var 0]) rfl h1)
  by_cases hq : rowsWt rows ≤ 200 ∧ rowsDp rows ≤ 6
  · rw [if_pos hq]
    rw [decide_eq_false (by omega : ¬ 6 < (rowsDp rows : Int)), decide_eq_false (by omega : ¬ 200 < (rowsWt rows : Int))] at hor
    exact run_none rfl ((r_skip ok1).trans ((r_skip hor).trans es_nil))
  · rw [if_neg hq]
    have ht : (decide (6 < (rowsDp rows : Int)) || decide (200 < (rowsWt rows : Int))) = true := by
      rw [Bool.or_eq_true, decide_eq_true_iff, decide_eq_true_iff]
      omega
    rw [ht] at hor
    exact run_exc rfl ((r_skip ok1).trans (r_raise hor))
end
theorem bi_mulS {x : Str} (hx : x.length ≤ 64) {n : Nat} (hn : n ≤ 1000) : binD .Mult (.str x) (.int n) = some (.dat (.str (repS n x))) := by
  show (if (n : Int).natAbs ≤ 65536 ∧ x.length ≤ 64 then some (AV.dat (.str (repS (n : Int).toNat x))) else none) = _
  rw [if_pos ⟨by omega, hx⟩]
  rfl
theorem bi_addS {x y : Str} (h : x.length + y.length ≤ 1000) : binD .Add (.str x) (.str y) = some (.dat (.str (x ++ y))) := by
  show (if x.length + y.length ≤ lim then some (AV.dat (.str (x ++ y))) else none) = _
  exact if_pos (le_lim h (by decide))
noncomputable def hWord (i j : Nat) : Str := repS i (Str.ofString "bad") ++ repS j (Str.ofString "great")
noncomputable def hWords (i j : Nat) : Str := hWord i j ++ repS 0 (Str.ofString "inputs") ++ repS 0 (Str.ofString "many")
theorem hw_bad : repS 1 (hWords 1 0) = Str.ofString "bad" := by decide +kernel
theorem hw_great : repS 1 (hWords 0 1) = Str.ofString "great" := by decide +kernel
noncomputable def hBody : List CS := [.assign 45 (.bin .Add (.bin .Mult (.const (.str (Str.ofString "bad"))) (.prim .int [(.isexc (.var 33) [1])])) (.bin .Mult (.const (.str (Str.ofString "great"))) (.prim .int [(.isexc (.var 33) [2])]))), .assign 45 (.bin .Add (.bin .Add (.var 45) (.bin .Mult (.const (.str (Str.ofString "inputs"))) (.prim .int [(.isexc (.var 33) [3])]))) (.bin .Mult (.const (.str (Str.ofString "many"))) (.prim .int [(.isexc (.var 33) [4])]))), .ret (.bin .Mult (.var 45) (.prim .int [(.isexc (.var 33) [99])]))]
theorem h_run {N : Nat} {Φ : Phi} {ρ : Rho} {σ : Store} (i j : Nat) (hi : i ≤ 1000) (hj : j ≤ 1000) (p1 : ∀ ρ : Rho, ρ 33 = some (.exc (if i = 1 then 1 else 2)) → evE Φ (.prim .int [(.isexc (.var 33) [1])]) ρ σ = some (.dat (.int i), σ)) (p2 : ∀ ρ : Rho, ρ 33 = some (.exc (if i = 1 then 1 else 2)) → evE Φ (.prim .int [(.isexc (.var 33) [2])]) ρ σ = some (.dat (.int j), σ))
    (p3 : ∀ ρ : Rho, ρ 33 = some (.exc (if i = 1 then 1 else 2)) → evE Φ (.prim .int [(.isexc (.var 33) [3])]) ρ σ = some (.dat (.int (0 : Nat)), σ)) (p4 : ∀ ρ : Rho, ρ 33 = some (.exc (if i = 1 then 1 else 2)) → evE Φ (.prim .int [(.isexc (.var 33) [4])]) ρ σ = some (.dat (.int (0 : Nat)), σ)) (p5 : ∀ ρ : Rho, ρ 33 = some (.exc (if i = 1 then 1 else 2)) → evE Φ (.prim .int [(.isexc (.var 33) [99])]) ρ σ = some (.dat (.int (1 : Nat)), σ))
    (l1 : (repS i (Str.ofString "bad")).length + (repS j (Str.ofString "great")).length ≤ 1000) (l2 : (hWord i j).length + (repS 0 (Str.ofString "inputs")).length ≤ 1000) (l3 : (hWord i j ++ repS 0 (Str.ofString "inputs")).length + (repS 0 (Str.ofString "many")).length ≤ 1000) (l4 : (hWords i j).length ≤ 64)
    (h : ρ 33 = some (.exc (if i = 1 then 1 else 2))) : evSs N Φ hBody ρ σ = some (.ret (.dat (.str (repS 1 (hWords i j)))), σ) := by
  have lc : ∀ x : Str, x.length ≤ 64 → ∀ {n : Nat} {e : CE} {ρ : Rho}, n ≤ 1000 → evE Φ e ρ σ = some (.dat (.int n), σ) → evE Φ (.bin .Mult (.const (.str x)) e) ρ σ = some (.dat (.str (repS n x)), σ) := fun x hx n e ρ hn he => ev_binR (x := .dat (.str x)) rfl he rfl rfl (bi_mulS hx hn)
  refine (r_assign (v := .dat (.str (hWord i j))) (ev_binR (lc _ (by decide +kernel) hi (p1 ρ h)) (lc _ (by decide +kernel) hj (p2 ρ h)) rfl rfl (bi_addS l1))).trans ?_
  have h2 : (ρ.set 45 (.dat (.str (hWord i j)))) 33 = some (.exc (if i = 1 then 1 else 2)) := h
  refine (r_assign (v := .dat (.str (hWords i j))) (ev_binR (ev_binR (x := .dat (.str (hWord i j))) (evV rfl) (lc _ (by decide +kernel) (by decide) (p3 _ h2)) rfl rfl (bi_addS l2)) (lc _ (by decide +kernel) (by decide) (p4 _ h2)) rfl rfl (bi_addS l3))).trans ?_
  have h3 : ((ρ.set 45 (.dat (.str (hWord i j)))).set 45 (.dat (.str (hWords i j)))) 33 = some (.exc (if i = 1 then 1 else 2)) := h
  exact r_ret (ev_binR (x := .dat (.str (hWords i j))) (evV rfl) (p5 _ h3) rfl rfl (bi_mulS l4 (by decide)))
theorem h_bad {N : Nat} {Φ : Phi} {ρ : Rho} {σ : Store} (h : ρ 33 = some (.exc 1)) : evSs N Φ hBody ρ σ = some (.ret (.dat (.str (Str.ofString "bad"))), σ) := by
  have e : ∀ (cs : List Nat) (b : Bool), cs.any (excSub 1) = b → ∀ ρ : Rho, ρ 33 = some (.exc 1) → evE Φ (.prim .int [(.isexc (.var 33) cs)]) ρ σ = some (.dat (.int (if b then 1 else 0)), σ) := fun cs b hb ρ h => by
    refine ev_primR (vs := [.dat (.bool b)]) (ds := [.bool b]) (el_one (v := .dat (.bool b)) ?_ rfl) rfl (pi_bool b)
    rw [ev_isexc, evV h, ← hb]
    rfl
  have := h_run (N := N) (Φ := Φ) (ρ := ρ) (σ := σ) 1 0 (by decide) (by decide) (e [1] true rfl) (e [2] false rfl) (e [3] false rfl) (e [4] false rfl) (e [99] true rfl) (by decide +kernel) (by decide +kernel) (by decide +kernel) (by decide +kernel) h
  rw [hw_bad] at this
  exact this
theorem h_great {N : Nat} {Φ : Phi} {ρ : Rho} {σ : Store} (h : ρ 33 = some (.exc 2)) : evSs N Φ hBody ρ σ = some (.ret (.dat (.str (Str.ofString "great"))), σ) := by
  have e : ∀ (cs : List Nat) (b : Bool), cs.any (excSub 2) = b → ∀ ρ : Rho, ρ 33 = some (.exc 2) → evE Φ (.prim .int [(.isexc (.var 33) cs)]) ρ σ = some (.dat (.int (if b then 1 else 0)), σ) := fun cs b hb ρ h => by
    refine ev_primR (vs := [.dat (.bool b)]) (ds := [.bool b]) (el_one (v := .dat (.bool b)) ?_ rfl) rfl (pi_bool b)
    rw [ev_isexc, evV h, ← hb]
    rfl
  have := h_run (N := N) (Φ := Φ) (ρ := ρ) (σ := σ) 0 1 (by decide) (by decide) (e [1] false rfl) (e [2] true rfl) (e [3] false rfl) (e [4] false rfl) (e [99] true rfl) (by decide +kernel) (by decide +kernel) (by decide +kernel) (by decide +kernel) h
  rw [hw_great] at this
  exact this
theorem s_told_ok {N k : Nat} {d : PyData} {σ : Store} (h : tabAt tab2 N k 12 [.dat d] σ = some (.ret (.dat .none), σ)) : tabAt tab2 N (k + 1) 24 [.dat d] σ = some (.ret (.fresh [.none]), σ) := by
  rw [tab_step (by rfl : tab2[24]? = some ([44], c__law_told))]
  refine r_runL rfl (r_stop ?_)
  rw [es_tryy, el_var (v := .dat d) rfl el_nil, Option.bind_some]
  show (tabAt tab2 N k 12 [.dat d] σ).bind _ = _
  rw [h]
  rfl
theorem s_told_exc {N k : Nat} {d : PyData} {σ : Store} {c : Nat} {w : Str} (hc : c < 5) (h : tabAt tab2 N k 12 [.dat d] σ = some (.exc c, σ)) (hw : ∀ ρ : Rho, ρ 33 = some (.exc c) → evSs N (tabAt tab2 N k) hBody ρ σ = some (.ret (.dat (.str w)), σ)) : tabAt tab2 N (k + 1) 24 [.dat d] σ = some (.ret (.dat (.str w)), σ) := by
  rw [tab_step (by rfl : tab2[24]? = some ([44], c__law_told))]
  refine r_runD rfl (r_stop ?_)
  rw [es_tryy, el_var (v := .dat d) rfl el_nil, Option.bind_some]
  show (tabAt tab2 N k 12 [.dat d] σ).bind _ = _
  rw [h]
  show (if c < 5 then (evSs N (tabAt tab2 N k) hBody (Rho.set (Rho.set (fun _ => none) 44 (.dat d)) 33 (.exc c)) σ).bind _ else none) = _
  rw [if_pos hc, hw _ rfl]
  rfl
noncomputable def zs (n : Nat) : List PyData := (List.replicate n (0 : Int)).map .int
theorem zs_len (n : Nat) : (zs n).length = n := by rw [zs, List.length_map, List.length_replicate]
theorem zs_nd (n : Nat) : ndAll (zs n) = n := by rw [zs, nd_ints, List.length_replicate]
theorem zeros {n : Nat} (h : n ≤ 6) : binD .Mult (.list [.int 0]) (.int n) = some (.fresh (zs n)) := by
  show (if (n : Int).natAbs * 1 ≤ 65536 ∧ (n : Int).natAbs ≤ 65536 then some (AV.fresh ((List.replicate (n : Int).toNat [PyData.int 0]).flatten)) else none) = _
  rw [if_pos (by omega), Int.toNat_natCast, flat_rep, zs, List.map_replicate]
section
variable {N : Nat} {Φ : Phi} {ρ : Rho} {σ : Store}
noncomputable def EvL (Φ : Phi) (es : List CE) (ρ : Rho) (σ : Store) (ds : List PyData) : Prop := evEs Φ es ρ σ = some (ds.map AV.dat, σ)
theorem ed0 : EvL Φ [] ρ σ [] := rfl
theorem edd {e : CE} {es : List CE} {d : PyData} {ds : List PyData} (h : evE Φ e ρ σ = some (.dat d, σ)) (h' : EvL Φ es ρ σ ds) : EvL Φ (e :: es) ρ σ (d :: ds) := el_one h h'
theorem edf {e : CE} {es : List CE} {l ds : List PyData} (h : evE Φ e ρ σ = some (.fresh l, σ)) (h' : EvL Φ es ρ σ ds) : EvL Φ (e :: es) ρ σ (.list l :: ds) := el_one h h'
theorem own_dat (σ : Store) : ∀ ds : List PyData, ownAll (ds.map AV.dat) σ = some (ds, σ)
  | [] => rfl
  | d :: ds => by show (ownAll (ds.map AV.dat) σ).bind _ = _; rw [own_dat σ ds]; rfl
theorem ev_T {es : List CE} {ds : List PyData} (h : EvL Φ es ρ σ ds) : evE Φ (.tup es) ρ σ = some (.dat (.tuple ds), σ) := by
  rw [ev_tup, show evEs Φ es ρ σ = some (ds.map AV.dat, σ) from h, Option.bind_some, own_dat]
  rfl
theorem ev_L {es : List CE} {ds : List PyData} (h : EvL Φ es ρ σ ds) : evE Φ (.lst es) ρ σ = some (.fresh ds, σ) := by
  rw [ev_lst, show evEs Φ es ρ σ = some (ds.map AV.dat, σ) from h, Option.bind_some, own_dat]
  rfl
theorem r_first {es : List CE} {M : List PyData} {cs : List CS} (he : EvL Φ es ρ σ M) : evSs N Φ (.newcell 50 (.lst es) :: cs) ρ σ = evSs N Φ cs (ρ.set 50 (.cell σ.length)) (σ ++ [(.live, M)]) := r_newcell (ev_L he)
theorem ev_more {es : List CE} {c : Nat} {L M : List PyData} (h50 : ρ 50 = some (.cell c)) (hc : σ[c]? = some (.live, L)) (he : EvL Φ es ρ σ M) (hl : L.length + M.length ≤ 1000) : evE Φ (.bin .Add (.var 50) (.lst es)) ρ σ = some (.fresh (L ++ M), σ) := ev_binR (x := .cell c) (y := .fresh M) (evV h50) (ev_L he) (by rw [x_rdC, hc]; rfl) rfl (bi_addL (le_lim hl (by decide)))
theorem r_more {es : List CE} {L M : List PyData} {cs : List CS} (h50 : ρ 50 = some (.cell σ.length)) (he : EvL Φ es ρ (σ ++ [(.live, L)]) M) (hl : L.length + M.length ≤ 1000) : evSs N Φ (.newcell 50 (.bin .Add (.var 50) (.lst es)) :: cs) ρ (σ ++ [(.live, L)]) = evSs N Φ cs (ρ.set 50 (.cell (σ ++ [(Flag.live, L)]).length)) ((σ ++ [(.live, L)]) ++ [(.live, L ++ M)]) := r_newcell (ev_more h50 (get_last ..) he hl)
theorem r_pickL {es : List CE} {i : CE} {L M : List PyData} {cs : List CS} {j : Nat} (h50 : ρ 50 = some (.cell σ.length)) (he : EvL Φ es ρ (σ ++ [(.live, L)]) M) (hi : evE Φ i ρ (σ ++ [(.live, L)]) = some (.dat (.int j), σ ++ [(.live, L)])) (hj : j < (L ++ M).length) (hl : L.length + M.length ≤ 1000) : ∃ d ∈ L ++ M, evSs N Φ (.ret (.idx (.bin .Add (.var 50) (.lst es)) i) :: cs) ρ (σ ++ [(.live, L)]) = some (.ret (.dat d), σ ++ [(.live, L)]) :=
  ⟨(L ++ M)[j], List.getElem_mem hj, r_ret (ev_idxR (x := .fresh (L ++ M)) (ev_more h50 (get_last ..) he hl) hi rfl rfl (ix_list (by rw [List.length_append] at hj; omega) (List.getElem?_eq_getElem hj)))⟩
theorem ev_tl {a : CE} {xs : List PyData} (h : evE Φ a ρ σ = some (.dat (.tuple xs), σ)) (hl : xs.length ≤ 1000) : evE Φ (.prim .list [a]) ρ σ = some (.fresh xs, σ) := ev_primR (vs := [.dat (.tuple xs)]) (ds := [.tuple xs]) (el_one h rfl) rfl (pk_tuple (le_lim hl (by decide)))
end
noncomputable def goodE (n nb : Nat) : PyData := .tuple [.int 1, .tuple (zs n), .tuple (zs nb)]
noncomputable def exL1 (n nb : Nat) (t o : PyData) : List PyData := [.list [.int 1, .tuple (zs n), .tuple (zs nb)], .tuple [.int 1, .tuple (zs n)], o, .tuple [t, .tuple (zs n), .tuple (zs nb)], o, o]
noncomputable def exL2 (n nb : Nat) : List PyData := [.tuple [.int 1, .tuple (zs (n + 1)), .tuple (zs nb)], .tuple [.int 1, .list (zs n), .tuple (zs nb)], .tuple [.int 1, .tuple (zs n), .tuple (zs nb ++ [.int 0])]]
noncomputable def exL3 (n nb : Nat) : List PyData := [.tuple [.int 1, .tuple (zs n), .tuple ((zs nb).drop 1)]]
noncomputable def exL4 (n nb : Nat) (o : PyData) : List PyData := [o, .none, .tuple [.int 1, .tuple (zs n), .list (zs nb)], .tuple [.int 1, .tuple (zs n), .tuple (zs nb), .int 1], .int 5]
theorem no_ex_end {N : Nat} {Φ : Phi} {ρ : Rho} {σ : Store} {n nb : Nat} {t o P : PyData} {c : Int} (hn : n ≤ 3) (hb : nb ≤ 6) (q47 : ρ 47 = some (.dat (goodE n nb))) (q49 : ρ 49 = some (.dat o)) (q44 : ρ 44 = some (.dat t)) (q20 : ρ 20 = some (.dat (.int n))) (q46 : ρ 46 = some (.dat P)) (hP : idxD P (.int 1) = some (.int nb)) (q18 : ρ 18 = some (.dat (.int c))) :
    ∃ d ∈ exL1 n nb t o ++ exL2 n nb ++ exL3 n nb ++ exL4 n nb o, ∃ τ, evSs N Φ (c__law_no_expression.drop 6) ρ σ = some (.ret (.dat d), σ ++ τ) := by
  obtain ⟨j, hj, ej⟩ := fmod_nat c (b := 15) (by decide)
  have hl := zs_len nb
  have e1 : evSs N Φ (c__law_no_expression.drop 6) ρ σ = evSs N Φ (c__law_no_expression.drop 7) (ρ.set 50 (.cell σ.length)) (σ ++ [(.live, exL1 n nb t o)]) :=
    r_first (edf (ev_tl (evV q47) (by decide : 3 ≤ 1000)) (edd (ev_sl (evV q47) rfl rfl rfl) (edd (evV q49) (edd (ev_binR (x := .dat (.tuple [t])) (y := .dat (.tuple [.tuple (zs n), .tuple (zs nb)])) (ev_T (edd (evV q44) ed0)) (ev_sl (evV q47) rfl rfl rfl) rfl rfl rfl) (edd (evV q49) (edd (evV q49) ed0))))))
  have e2 : evSs N Φ (c__law_no_expression.drop 7) (ρ.set 50 (.cell σ.length)) (σ ++ [(.live, exL1 n nb t o)]) = evSs N Φ (c__law_no_expression.drop 8) ((ρ.set 50 (.cell σ.length)).set 50 (.cell (σ ++ [(Flag.live, exL1 n nb t o)]).length)) ((σ ++ [(.live, exL1 n nb t o)]) ++ [(.live, exL1 n nb t o ++ exL2 n nb)]) :=
    r_more rfl (edd (ev_T (edd rfl (edd (ev_reps 0 (n := n + 1) (ev_addI (x := n) (y := 1) (evV (by exact q20)) rfl) (by omega)) (edd (ev_ixD (by exact q47) rfl) ed0)))) (edd (ev_T (edd rfl (edf (ev_binR (x := .fresh [.int 0]) (y := .dat (.int n)) rfl (evV (by exact q20)) rfl rfl (zeros (by omega))) (edd (ev_ixD (by exact q47) rfl) ed0)))) (edd (ev_T (edd rfl (edd (ev_ixD (by exact q47) rfl) (edd (ev_binR (x := .dat (.tuple (zs nb))) (y := .dat (.tuple [.int 0])) (ev_ixD (by exact q47) rfl) rfl rfl rfl (bi_addT (le_lim (m := 100) (by rw [hl]; show nb + 1 ≤ 100; omega) (by decide)))) ed0)))) ed0))) (by decide : 9 ≤ 1000)
  generalize hσ : σ ++ [(Flag.live, exL1 n nb t o)] = σ₁ at e1 e2
  have e3 : evSs N Φ (c__law_no_expression.drop 8) ((ρ.set 50 (.cell σ.length)).set 50 (.cell σ₁.length)) (σ₁ ++ [(.live, exL1 n nb t o ++ exL2 n nb)]) = evSs N Φ (c__law_no_expression.drop 9) ((ρ.set 50 (.cell σ.length)).set 50 (.cell σ₁.length)) (σ₁ ++ [(.live, exL1 n nb t o ++ exL2 n nb ++ exL3 n nb)]) := by
    refine Eq.trans (r_append (x := 50) (c := σ₁.length) (d := .tuple [.int 1, .tuple (zs n), .tuple ((zs nb).drop 1)]) (ds := exL1 n nb t o ++ exL2 n nb) rfl (ev_T (edd rfl (edd (ev_ixD (by exact q47) rfl) (edd (ev_sl (dx := .tuple (zs nb)) (dl := .int (1 : Nat)) (du := .none) (ev_ixD (by exact q47) rfl) rfl rfl (sl_tB (by rw [hl]; omega) (by decide))) ed0)))) (get_last ..) (Nat.lt_of_lt_of_le (by decide : 9 < 10) (le_lim (m := 10) (Nat.le_refl _) (by decide)))) ?_
    rw [set_last]
    rfl
  obtain ⟨d, hd, e⟩ := r_pickL (N := N) (Φ := Φ) (ρ := (ρ.set 50 (.cell σ.length)).set 50 (.cell σ₁.length)) (σ := σ₁) (L := exL1 n nb t o ++ exL2 n nb ++ exL3 n nb) (M := exL4 n nb o) (cs := []) (j := j) (i := .bin .Mod (.var 18) (.const (.int 15))) (es := [(.var 49), (.const .none), (.tup [(.const (.int (1))), (.idx (.var 47) (.const (.int (1)))), (.bin .Mult (.lst [(.const (.int (0)))]) (.idx (.var 46) (.const (.int (1)))))]), (.bin .Add (.var 47) (.tup [(.const (.int (1)))])), (.const (.int (5)))])
    rfl (edd (evV (by exact q49)) (edd rfl (edd (ev_T (edd rfl (edd (ev_ixD (by exact q47) rfl) (edf (ev_binR (x := .fresh [.int 0]) (y := .dat (.int nb)) rfl (ev_ixD (by exact q46) hP) rfl rfl (zeros hb)) ed0)))) (edd (ev_binR (x := .dat (goodE n nb)) (y := .dat (.tuple [.int 1])) (evV (by exact q47)) rfl rfl rfl rfl) (edd rfl ed0))))) (ev_modE (by exact q18) (by decide) ej) (by exact hj) (by decide : 15 ≤ 1000)
  refine ⟨d, hd, [(Flag.live, exL1 n nb t o)] ++ [(.live, exL1 n nb t o ++ exL2 n nb ++ exL3 n nb)], ?_⟩
  rw [← List.append_assoc, hσ]
  exact e1.trans (e2.trans (e3.trans e))
theorem wh_len {xs : List PyData} {m : Nat} (h : xs.length ≠ m) : wholesB (.tuple xs) m = false := by
  show (((xs.length : Int) == (m : Int)) && _) = false
  rw [beq_nat h]
  rfl
theorem wh_mem {xs : List PyData} {m : Int} {x : PyData} (h : x ∈ xs) (hx : wholeB x = false) : wholesB (.tuple xs) m = false := by
  show (_ && (xs.map wholeB).all id) = false
  rw [show (xs.map wholeB).all id = false from by
    rw [List.all_eq_false]
    exact ⟨wholeB x, List.mem_map.mpr ⟨x, h, rfl⟩, by rw [hx]; decide⟩, Bool.and_false]
theorem all_cons {P : PyData → Prop} {x : PyData} {xs : List PyData} (h : P x) (h' : ∀ d ∈ xs, P d) : ∀ d ∈ x :: xs, P d := fun d m => by
  rcases List.mem_cons.mp m with rfl | m
  · exact h
  · exact h' d m
theorem all_nil {P : PyData → Prop} : ∀ d ∈ ([] : List PyData), P d := fun _ m => nomatch m
theorem all_app {P : PyData → Prop} {a b : List PyData} (h : ∀ d ∈ a, P d) (h' : ∀ d ∈ b, P d) : ∀ d ∈ a ++ b, P d := fun d m => (List.mem_append.mp m).elim (h d) (h' d)
theorem ex3 {ni nb : Int} {b c : PyData} (h : wholesB b ni = false ∨ wholesB c nb = false) : isExB ni nb (.tuple [.int 1, b, c]) = false := by
  show (true && (wholesB b ni && wholesB c nb)) = false
  rcases h with h | h
  · rw [h]; rfl
  · rw [h, Bool.and_false]; rfl
theorem ex_bad {n nb : Nat} {t o : PyData} (hb1 : 1 ≤ nb) (ht : wholeB t = false) (ho : isExB n nb o = false) : ∀ d ∈ exL1 n nb t o ++ exL2 n nb ++ exL3 n nb ++ exL4 n nb o, isExB n nb d = false := by
  have hl := zs_len nb
  refine all_app (all_app (all_app (all_cons rfl (all_cons rfl (all_cons ho (all_cons ?_ (all_cons ho (all_cons ho all_nil)))))) (all_cons (ex3 (.inl (wh_len ?_))) (all_cons (ex3 (.inl rfl)) (all_cons (ex3 (.inr (wh_len ?_))) all_nil)))) (all_cons (ex3 (.inr (wh_len ?_))) all_nil)) (all_cons ho (all_cons rfl (all_cons (ex3 (.inr rfl)) (all_cons rfl (all_cons rfl all_nil)))))
  · show (wholeB t && _) = false
    rw [ht]
    rfl
  · rw [zs_len]; omega
  · rw [List.length_append, hl]; exact Nat.succ_ne_self nb
  · rw [List.length_drop, hl]; omega
theorem ex_small {n nb : Nat} {t o : PyData} (hn : n ≤ 3) (hb : nb ≤ 6) (ht : nd t ≤ 3) (ho : nd o ≤ 60) : ∀ d ∈ exL1 n nb t o ++ exL2 n nb ++ exL3 n nb ++ exL4 n nb o, nd d ≤ 60 := by
  have h0 := zs_nd n
  have h1 := zs_nd nb
  have h2 := zs_nd (n + 1)
  have h3 : ndAll (zs nb ++ [.int 0]) = nb + 1 := by rw [nd_app, h1]; rfl
  have h4 : ndAll ((zs nb).drop 1) ≤ nb := by
    have := nd_app ((zs nb).take 1) ((zs nb).drop 1)
    rw [List.take_append_drop, h1] at this
    omega
  refine all_app (all_app (all_app (all_cons ?_ (all_cons ?_ (all_cons ho (all_cons ?_ (all_cons ho (all_cons ho all_nil)))))) (all_cons ?_ (all_cons ?_ (all_cons ?_ all_nil)))) (all_cons ?_ all_nil)) (all_cons ho (all_cons (by decide) (all_cons ?_ (all_cons ?_ (all_cons (by decide) all_nil)))))
  · show 1 + (1 + ((1 + ndAll (zs n)) + ((1 + ndAll (zs nb)) + 0))) ≤ 60; omega
  · show 1 + (1 + ((1 + ndAll (zs n)) + 0)) ≤ 60; omega
  · show 1 + (nd t + ((1 + ndAll (zs n)) + ((1 + ndAll (zs nb)) + 0))) ≤ 60; omega
  · show 1 + (1 + ((1 + ndAll (zs (n + 1))) + ((1 + ndAll (zs nb)) + 0))) ≤ 60; omega
  · show 1 + (1 + ((1 + ndAll (zs n)) + ((1 + ndAll (zs nb)) + 0))) ≤ 60; omega
  · show 1 + (1 + ((1 + ndAll (zs n)) + ((1 + ndAll (zs nb ++ [.int 0])) + 0))) ≤ 60; omega
  · show 1 + (1 + ((1 + ndAll (zs n)) + ((1 + ndAll ((zs nb).drop 1)) + 0))) ≤ 60; omega
  · show 1 + (1 + ((1 + ndAll (zs n)) + ((1 + ndAll (zs nb)) + 0))) ≤ 60; omega
  · show 1 + (1 + ((1 + ndAll (zs n)) + ((1 + ndAll (zs nb)) + (1 + 0)))) ≤ 60; omega
noncomputable def things : List PyData := [.bool true, .none, .str (Str.ofString "1"), .list [.int 0], .tuple [.int 0]]
theorem one_no : ∀ i : Fin 5, (Str.ofString "1" == W i) = false := by decide +kernel
theorem stB_no {ni nb : Int} {a : PyData} {r : List PyData} {w : Str} (h : ∀ i : Fin 5, (w == W i) = false) : stB ni nb w a r = false := by
  unfold stB
  rw [h, h, h, h, h]
  rfl
theorem things_st (ni nb : Int) (a : PyData) (r : List PyData) : ∀ t ∈ things, isStB ni nb (.tuple (t :: a :: r)) = false := all_cons rfl (all_cons rfl (all_cons (stB_no one_no) (all_cons rfl (all_cons rfl all_nil))))
theorem ex_nost {n nb : Nat} {t o : PyData} (ht : ∀ a r, isStB n nb (.tuple (t :: a :: r)) = false) (ho : isStB n nb o = false) : ∀ d ∈ exL1 n nb t o ++ exL2 n nb ++ exL3 n nb ++ exL4 n nb o, isStB n nb d = false :=
  all_app (all_app (all_app (all_cons rfl (all_cons rfl (all_cons ho (all_cons (ht _ _) (all_cons ho (all_cons ho all_nil)))))) (all_cons rfl (all_cons rfl (all_cons rfl all_nil)))) (all_cons rfl all_nil)) (all_cons ho (all_cons rfl (all_cons rfl (all_cons rfl (all_cons rfl all_nil)))))
theorem things_bad : ∀ d ∈ things, wholeB d = false ∧ nd d ≤ 3 := all_cons ⟨rfl, by decide⟩ (all_cons ⟨rfl, by decide⟩ (all_cons ⟨rfl, by decide +kernel⟩ (all_cons ⟨rfl, by decide⟩ (all_cons ⟨rfl, by decide⟩ all_nil))))
theorem sl_tA {ds : List PyData} {m : Nat} (h : ds.length ≤ 1000000) (hm : m ≤ 1000000) : sliceD (.tuple ds) .none (.int m) = some (.dat (.tuple (ds.take m))) := by
  show ((if 0 ≤ (m : Int) ∧ (m : Int).toNat < 4611686018427387904 then some (some (m : Int).toNat) else none).bind fun h => if ds.length ≤ lim then some (AV.dat (.tuple (cutL ds none h))) else none) = _
  rw [if_pos (by omega), Option.bind_some, if_pos (le_lim h (Nat.le_refl _)), Int.toNat_natCast, cutA]
theorem s_no_ex {N k : Nat} {rs : List (Int × Int)} {nb : Nat} {rows : List Row} (h3 : rs.length ≤ 3) (b1 : 1 ≤ nb) (b6 : nb ≤ 6) (c : Int) (σ : Store) : ∃ d, isExB rs.length nb d = false ∧ isStB rs.length nb d = false ∧ nd d ≤ 60 ∧ tabAt tab2 N (k + 1) 25 [.dat (progD rs nb rows), .dat (.int c)] σ = some (.ret (.dat d), σ) := by
  rw [tab_step (by rfl : tab2[25]? = some ([46, 18], c__law_no_expression))]
  obtain ⟨i, hi, ei⟩ := fmod_nat (c.fdiv 15) (b := 5) (by decide)
  obtain ⟨m, hm, em⟩ := fmod_nat (c.fdiv 75) (b := rs.length + nb) (by omega)
  have htm : things[i] ∈ things := List.getElem_mem hi
  have hpt : ∀ ρ : Rho, ρ 18 = some (.dat (.int c)) → evE (tabAt tab2 N k) (.idx (.lst [(.const (.bool true)), (.const .none), (.const (.str (Str.ofString "1"))), (.lst [(.const (.int (0)))]), (.tup [(.const (.int (0)))])]) (.bin .Mod (.bin .FloorDiv (.var 18) (.const (.int (15)))) (.const (.int (5))))) ρ σ = some (.dat things[i], σ) := fun ρ h => ev_idxR (x := .fresh things) (y := .dat (.int i)) rfl (ev_dmE h (by decide) (by decide) (by decide) ei) rfl rfl (ix_list (Nat.lt_trans hi (by decide)) (List.getElem?_eq_getElem hi))
  obtain ⟨ht, htn⟩ := things_bad _ htm
  have hts := fun a r => things_st rs.length nb a r _ htm
  generalize things[i] = t at ht htn hpt hts
  clear htm
  have hB : ∃ q : Nat, (((rs.length : Int) + nb) - 1 - m : Int) = (q : Int) ∧ m + q + 1 = rs.length + nb := ⟨rs.length + nb - 1 - m, by omega, by omega⟩
  obtain ⟨q, eq, hq⟩ := hB
  have hlen : (zs m ++ [t] ++ zs q).length ≤ 1000 := by rw [List.length_append, List.length_append, zs_len, zs_len]; show m + 1 + q ≤ 1000; omega
  have hnd : ndAll (zs m ++ [t] ++ zs q) ≤ 20 := by rw [nd_app, nd_app, zs_nd, zs_nd]; show m + (nd t + 0) + q ≤ 20; omega
  have htB : t ∈ zs m ++ [t] ++ zs q := List.mem_append_left _ (List.mem_append_right _ (.head _))
  generalize hBd : zs m ++ [t] ++ zs q = B at hlen hnd htB
  have ho : isExB rs.length nb (.tuple [.int 1, .tuple (B.take rs.length), .tuple (B.drop rs.length)]) = false := by
    rw [← List.take_append_drop rs.length B] at htB
    exact ex3 ((List.mem_append.mp htB).imp (fun h => wh_mem h ht) (fun h => wh_mem h ht))
  have hon : nd (.tuple [.int 1, .tuple (B.take rs.length), .tuple (B.drop rs.length)]) ≤ 60 := by
    have := nd_app (B.take rs.length) (B.drop rs.length)
    rw [List.take_append_drop] at this
    show 1 + (1 + ((1 + ndAll (B.take rs.length)) + ((1 + ndAll (B.drop rs.length)) + 0))) ≤ 60
    omega
  obtain ⟨d, hd, τ, e⟩ := no_ex_end (N := N) (Φ := tabAt tab2 N k) (σ := σ) (n := rs.length) (nb := nb) (t := t) (o := .tuple [.int 1, .tuple (B.take rs.length), .tuple (B.drop rs.length)]) (P := progD rs nb rows) (c := c) (ρ := Rho.set (Rho.set (Rho.set (Rho.set (Rho.set (Rho.set (Rho.set (Rho.set (fun _ => none) 46 (.dat (progD rs nb rows))) 18 (.dat (.int c))) 20 (.dat (.int rs.length))) 47 (.dat (goodE rs.length nb))) 44 (.dat t)) 30 (.dat (.int m))) 48 (.dat (.tuple B))) 49 (.dat (.tuple [.int 1, .tuple (B.take rs.length), .tuple (B.drop rs.length)]))) h3 b6 rfl rfl rfl rfl rfl rfl rfl
  refine ⟨d, ex_bad b1 ht ho d hd, ex_nost hts rfl d hd, ex_small h3 b6 htn hon d hd, run_cell rfl (Eq.trans ?_ e)⟩
  have hl0 : evE (tabAt tab2 N k) (.prim .len [(.idx (.var 46) (.const (.int (0))))]) (Rho.set (Rho.set (fun _ => none) 46 (.dat (progD rs nb rows))) 18 (.dat (.int c))) σ = some (.dat (.int rs.length), σ) := by
    have := ev_lenT (Φ := tabAt tab2 N k) (ρ := Rho.set (Rho.set (fun _ => none) 46 (.dat (progD rs nb rows))) 18 (.dat (.int c))) (σ := σ) (a := .idx (.var 46) (.const (.int 0))) (xs := rs.map pairD) rfl (by rw [List.length_map]; omega)
    rw [List.length_map] at this
    exact this
  refine Eq.trans (r_assign hl0) (Eq.trans (r_assign (v := .dat (goodE rs.length nb)) (σ₁ := σ) (ev_T (edd rfl (edd (ev_reps 0 (evV rfl) (by omega)) (edd (ev_reps 0 (n := nb) (ev_ixD rfl rfl) (by omega)) ed0))))) (Eq.trans (r_assign (hpt _ rfl)) (Eq.trans (r_newdat (σ₁ := σ) (d := .int m) ?_) (Eq.trans (r_assign (v := .dat (.tuple B)) (σ₁ := σ) ?_) (r_assign (v := .dat (.tuple [.int 1, .tuple (B.take rs.length), .tuple (B.drop rs.length)])) (σ₁ := σ) (ev_T (edd rfl (edd (ev_sl (dx := .tuple B) (dl := .none) (du := .int rs.length) rfl rfl rfl (sl_tA (by omega) (by omega))) (edd (ev_sl (dx := .tuple B) (dl := .int rs.length) (du := .none) rfl rfl rfl (sl_tB hlen (by omega))) ed0)))))))))
  · refine ev_binR (x := .dat (.int (c.fdiv 75))) (y := .dat (.int ((rs.length : Int) + nb))) (ev_divR (evV rfl) (by decide) (by decide)) (ev_addI (evV rfl) (ev_ixD rfl rfl)) rfl rfl ((bi_mod (by omega)).trans ?_)
    rw [← em]
    rfl
  · rw [← hBd]
    refine ev_binR (x := .dat (.tuple (zs m ++ [t]))) (y := .dat (.tuple (zs q))) (ev_binR (x := .dat (.tuple (zs m))) (y := .dat (.tuple [t])) (ev_reps 0 (n := m) (evV rfl) (by omega)) (ev_T (edd (evV rfl) ed0)) rfl rfl (bi_addT (le_lim (m := 100) (by rw [zs_len]; show m + 1 ≤ 100; omega) (by decide)))) (ev_reps 0 (n := q) ?_ (by omega)) rfl rfl (bi_addT (le_lim (m := 100) (by rw [List.length_append, zs_len, zs_len]; show m + 1 + q ≤ 100; omega) (by decide)))
    rw [← eq]
    exact ev_binR (x := .dat (.int ((rs.length : Int) + nb - 1))) (y := .dat (.int m)) (ev_binR (x := .dat (.int ((rs.length : Int) + nb))) (y := .dat (.int 1)) (ev_addI (evV rfl) (ev_ixD rfl rfl)) rfl rfl rfl (bi_sub _ _)) (evV rfl) rfl rfl (bi_sub _ _)
noncomputable def BadSt (ni nb : Int) (d : PyData) : Prop := isStB ni nb d = false ∨ ∃ y ∈ innB d, BadRows ni nb y
section
variable {ni nb : Int} {a x y : PyData} {r : List PyData}
theorem bs0 (h : stPut ni nb a r = false) : BadSt ni nb (.tuple (sPut :: a :: r)) := .inl ((stB_w ni nb 0 a r).trans h)
theorem bs1 (h : stAsk ni nb a r = false) : BadSt ni nb (.tuple (sAsk :: a :: r)) := .inl ((stB_w ni nb 1 a r).trans h)
theorem bs2 (h : stTimes a r = false) : BadSt ni nb (.tuple (sTimes :: a :: r)) := .inl ((stB_w ni nb 2 a r).trans h)
theorem bs3 (h : stTell ni nb a r = false) : BadSt ni nb (.tuple (sTell :: a :: r)) := .inl ((stB_w ni nb 3 a r).trans h)
theorem bs4 (h : stStop a r = false) : BadSt ni nb (.tuple (sStop :: a :: r)) := .inl ((stB_w ni nb 4 a r).trans h)
theorem bi1 (h : BadRows ni nb x ∨ BadRows ni nb y) : BadSt ni nb (.tuple [sAsk, a, x, y]) := .inr (by
  rw [show innB (.tuple [sAsk, a, x, y]) = [x, y] from innB_w 1 a [x, y]]
  exact h.elim (fun h => ⟨x, .head _, h⟩) (fun h => ⟨y, .tail _ (.head _), h⟩))
theorem bi2 (h : BadRows ni nb x) : BadSt ni nb (.tuple [sTimes, a, x]) := .inr (by
  rw [show innB (.tuple [sTimes, a, x]) = [x] from innB_w 2 a [x]]
  exact ⟨x, .head _, h⟩)
theorem nt_l {l : List PyData} : BadRows ni nb (.list l) := .nt fun _ h => nomatch h
theorem nt_n : BadRows ni nb .none := .nt fun _ h => nomatch h
theorem st_2 (h : isStB ni nb y = false) : BadRows ni nb (.tuple [x, y]) := .st (.tail _ (.head _)) h
end
structure Lt (l : Str) : Prop where
  len : l.length = 1
  a1 : l.length + (Str.ofString "1").length ≤ 1000
  a2 : (Str.ofString " ").length + l.length ≤ 1000
  a3 : l.length + (Str.ofString "-").length ≤ 1000
  a4 : (l ++ Str.ofString "-").length + l.length ≤ 1000
  w1 : isWordB (.str (l ++ Str.ofString "1")) = false
  w2 : isWordB (.str (Str.ofString " " ++ l)) = false
  w3 : isWordB (.str (l ++ Str.ofString "-" ++ l)) = false
  w4 : isWordB (.str (repS 9 l)) = false
  m0 : nd (.str l) ≤ 12
  n0 : nd (.str l) ≤ 150
  n1 : nd (.str (l ++ Str.ofString "1")) ≤ 150
  n2 : nd (.str (Str.ofString " " ++ l)) ≤ 150
  n3 : nd (.str (l ++ Str.ofString "-" ++ l)) ≤ 150
  n4 : nd (.str (repS 9 l)) ≤ 150
noncomputable def lt (j : Fin 26) : Str := ⟨#[97 + j.val]⟩
theorem lt_ok (j : Fin 26) : Lt (lt j) where
  len := rfl
  a1 := by revert j; decide +kernel
  a2 := by revert j; decide +kernel
  a3 := by revert j; decide +kernel
  a4 := by revert j; decide +kernel
  w1 := by revert j; decide +kernel
  w2 := by revert j; decide +kernel
  w3 := by revert j; decide +kernel
  w4 := by revert j; decide +kernel
  m0 := by revert j; decide +kernel
  n0 := by revert j; decide +kernel
  n1 := by revert j; decide +kernel
  n2 := by revert j; decide +kernel
  n3 := by revert j; decide +kernel
  n4 := by revert j; decide +kernel
structure Qs (ρ : Rho) (nb : Nat) (g b p P : PyData) (c : Int) : Prop where
  q46 : ρ 46 = some (.dat P)
  hP : idxD P (.int 1) = some (.int nb)
  q47 : ρ 47 = some (.dat g)
  q49 : ρ 49 = some (.dat b)
  q36 : ρ 36 = some (.dat (.tuple [p]))
  q18 : ρ 18 = some (.dat (.int c))
noncomputable def nsM1 (nb : Nat) (g b p : PyData) (l : Str) : List PyData := [(.tuple [(.str (Str.ofString "put")), (.int nb), g]), (.tuple [(.str (Str.ofString "put")), (.int (-1)), g]), (.tuple [(.str (Str.ofString "put")), (.bool true), g]), (.tuple [(.str (Str.ofString "put")), (.int 0), b]), (.tuple [(.str (Str.ofString "put")), (.int 0)])]
noncomputable def nsM2 (nb : Nat) (g b p : PyData) (l : Str) : List PyData := [(.tuple [(.str (Str.ofString "ask")), g, (.tuple [p])]), (.tuple [(.str (Str.ofString "ask")), b, (.tuple [p]), (.tuple [p])]), (.tuple [(.str (Str.ofString "ask")), g, (.list [p]), (.tuple [p])]), (.tuple [(.str (Str.ofString "tell")), b])]
noncomputable def nsM3 (nb : Nat) (g b p : PyData) (l : Str) : List PyData := [(.tuple [(.str (Str.ofString "ask")), g, (.tuple [p]), (.tuple [p, b])]), (.tuple [(.str (Str.ofString "times")), (.int 9), (.tuple [p])]), (.tuple [(.str (Str.ofString "times")), (.int (-1)), (.tuple [p])]), (.tuple [(.str (Str.ofString "times")), (.bool true), (.tuple [p])])]
noncomputable def nsM4 (nb : Nat) (g b p : PyData) (l : Str) : List PyData := [(.tuple [(.str (Str.ofString "times")), (.int 2), (.tuple [p, (.int 5)])]), (.tuple [(.str (Str.ofString "stop")), (.str (Str.ofString ""))]), (.tuple [(.str (Str.ofString "stop")), (.str (Str.ofString "abcdefghi"))]), (.tuple [(.str (Str.ofString "stop")), (.str (Str.ofString "aB"))]), (.tuple [(.str (Str.ofString "stop")), (.int 5)])]
noncomputable def nsM5 (nb : Nat) (g b p : PyData) (l : Str) : List PyData := [(.tuple [(.str (Str.ofString "say")), g]), (.list [(.str (Str.ofString "tell")), g]), (.tuple [(.str (Str.ofString "stop")), (.str (l ++ (Str.ofString "1")))]), (.tuple [(.str (Str.ofString "stop")), (.str ((Str.ofString " ") ++ l))])]
noncomputable def nsM6 (nb : Nat) (g b p : PyData) (l : Str) : List PyData := [(.tuple [(.str (Str.ofString "stop")), (.str ((l ++ (Str.ofString "-")) ++ l))]), (.tuple [(.str (Str.ofString "stop")), (.str (repS 9 l))]), (.tuple [(.str (Str.ofString "stop")), (.str l), (.str l)])]
noncomputable def nsM7 (nb : Nat) (g b p : PyData) (l : Str) : List PyData := [(.tuple [(.str (Str.ofString "put")), (.int 0), g, g]), (.tuple [(.str (Str.ofString "ask")), g, (.tuple [p]), (.tuple [p]), (.tuple [p])]), (.tuple [(.str (Str.ofString "times")), (.int 2), (.tuple [p]), (.tuple [p])])]
noncomputable def nsM8 (nb : Nat) (g b p : PyData) (l : Str) : List PyData := [(.tuple [(.str (Str.ofString "tell")), g, g]), (.tuple [(.str (Str.ofString "times")), (.int 2), (.list [p])]), (.tuple [(.str (Str.ofString "ask")), g, (.tuple [p]), (.list [p])])]
noncomputable def nsM9 (nb : Nat) (g b p : PyData) (l : Str) : List PyData := [(.tuple [(.str (Str.ofString "times")), .none, (.tuple [p])]), (.tuple [(.str (Str.ofString "put")), .none, g]), (.tuple [(.str (Str.ofString "ask")), g, .none, (.tuple [p])]), (.tuple [(.str (Str.ofString "times")), (.int 2), .none])]
noncomputable def nsM10 (nb : Nat) (g b p : PyData) (l : Str) : List PyData := [(.tuple [(.str (Str.ofString "tell"))]), (.tuple [(.str (Str.ofString "stop"))]), (.tuple [(.str (Str.ofString "times")), (.int 2)]), (.tuple [(.str (Str.ofString "times"))]), (.tuple [(.str (Str.ofString "put"))]), (.tuple [(.str (Str.ofString "ask"))]), (.tuple [(.str (Str.ofString "ask")), g])]
noncomputable def nsM11 (nb : Nat) (g b p : PyData) (l : Str) : List PyData := [(.tuple [(.str (Str.ofString "stop")), (.list [(.str l)])]), (.tuple [(.str (Str.ofString "stop")), (.tuple [(.str l), (.str l)])]), (.tuple [(.str (Str.ofString "stop")), .none])]
noncomputable def nsM12 (nb : Nat) (g b p : PyData) (l : Str) : List PyData := [(.tuple [(.list [(.str (Str.ofString "tell"))]), g]), (.tuple [.none, g]), (.tuple []), (.str (Str.ofString "tell")), (.int 5)]
theorem nsE1 {Φ : Phi} {ρ : Rho} {σ : Store} {nb : Nat} {g b p P : PyData} {c : Int} {l : Str} (Q : Qs ρ nb g b p P c) : EvL Φ [(.tup [(.const (.str (Str.ofString "put"))), (.idx (.var 46) (.const (.int 1))), (.var 47)]), (.tup [(.const (.str (Str.ofString "put"))), (.neg (.const (.int 1))), (.var 47)]), (.tup [(.const (.str (Str.ofString "put"))), (.const (.bool true)), (.var 47)]), (.tup [(.const (.str (Str.ofString "put"))), (.const (.int 0)), (.var 49)]), (.tup [(.const (.str (Str.ofString "put"))), (.const (.int 0))])] ρ σ (nsM1 nb g b p l) := (edd (ev_T (edd rfl (edd (ev_ixD (by exact Q.q46) Q.hP) (edd (evV (by exact Q.q47)) ed0)))) (edd (ev_T (edd rfl (edd rfl (edd (evV (by exact Q.q47)) ed0)))) (edd (ev_T (edd rfl (edd rfl (edd (evV (by exact Q.q47)) ed0)))) (edd (ev_T (edd rfl (edd rfl (edd (evV (by exact Q.q49)) ed0)))) (edd (ev_T (edd rfl (edd rfl ed0))) ed0)))))
theorem nsE2 {Φ : Phi} {ρ : Rho} {σ : Store} {nb : Nat} {g b p P : PyData} {c : Int} {l : Str} (Q : Qs ρ nb g b p P c) : EvL Φ [(.tup [(.const (.str (Str.ofString "ask"))), (.var 47), (.var 36)]), (.tup [(.const (.str (Str.ofString "ask"))), (.var 49), (.var 36), (.var 36)]), (.tup [(.const (.str (Str.ofString "ask"))), (.var 47), (.prim .list [(.var 36)]), (.var 36)]), (.tup [(.const (.str (Str.ofString "tell"))), (.var 49)])] ρ σ (nsM2 nb g b p l) := (edd (ev_T (edd rfl (edd (evV (by exact Q.q47)) (edd (evV (by exact Q.q36)) ed0)))) (edd (ev_T (edd rfl (edd (evV (by exact Q.q49)) (edd (evV (by exact Q.q36)) (edd (evV (by exact Q.q36)) ed0))))) (edd (ev_T (edd rfl (edd (evV (by exact Q.q47)) (edf (ev_tl (evV (by exact Q.q36)) (by decide : 1 ≤ 1000)) (edd (evV (by exact Q.q36)) ed0))))) (edd (ev_T (edd rfl (edd (evV (by exact Q.q49)) ed0))) ed0))))
theorem nsE3 {Φ : Phi} {ρ : Rho} {σ : Store} {nb : Nat} {g b p P : PyData} {c : Int} {l : Str} (Q : Qs ρ nb g b p P c) : EvL Φ [(.tup [(.const (.str (Str.ofString "ask"))), (.var 47), (.var 36), (.bin .Add (.var 36) (.tup [(.var 49)]))]), (.tup [(.const (.str (Str.ofString "times"))), (.const (.int 9)), (.var 36)]), (.tup [(.const (.str (Str.ofString "times"))), (.neg (.const (.int 1))), (.var 36)]), (.tup [(.const (.str (Str.ofString "times"))), (.const (.bool true)), (.var 36)])] ρ σ (nsM3 nb g b p l) := (edd (ev_T (edd rfl (edd (evV (by exact Q.q47)) (edd (evV (by exact Q.q36)) (edd (ev_binR (x := .dat (.tuple [p])) (y := .dat (.tuple [b])) (evV (by exact Q.q36)) (ev_T (edd (evV (by exact Q.q49)) ed0)) rfl rfl rfl) ed0))))) (edd (ev_T (edd rfl (edd rfl (edd (evV (by exact Q.q36)) ed0)))) (edd (ev_T (edd rfl (edd rfl (edd (evV (by exact Q.q36)) ed0)))) (edd (ev_T (edd rfl (edd rfl (edd (evV (by exact Q.q36)) ed0)))) ed0))))
theorem nsE4 {Φ : Phi} {ρ : Rho} {σ : Store} {nb : Nat} {g b p P : PyData} {c : Int} {l : Str} (Q : Qs ρ nb g b p P c) : EvL Φ [(.tup [(.const (.str (Str.ofString "times"))), (.const (.int 2)), (.bin .Add (.var 36) (.tup [(.const (.int 5))]))]), (.tup [(.const (.str (Str.ofString "stop"))), (.const (.str (Str.ofString "")))]), (.tup [(.const (.str (Str.ofString "stop"))), (.const (.str (Str.ofString "abcdefghi")))]), (.tup [(.const (.str (Str.ofString "stop"))), (.const (.str (Str.ofString "aB")))]), (.tup [(.const (.str (Str.ofString "stop"))), (.const (.int 5))])] ρ σ (nsM4 nb g b p l) := (edd (ev_T (edd rfl (edd rfl (edd (ev_binR (x := .dat (.tuple [p])) (y := .dat (.tuple [(.int 5)])) (evV (by exact Q.q36)) (ev_T (edd rfl ed0)) rfl rfl rfl) ed0)))) (edd (ev_T (edd rfl (edd rfl ed0))) (edd (ev_T (edd rfl (edd rfl ed0))) (edd (ev_T (edd rfl (edd rfl ed0))) (edd (ev_T (edd rfl (edd rfl ed0))) ed0)))))
theorem nsE5 {Φ : Phi} {ρ : Rho} {σ : Store} {nb : Nat} {g b p P : PyData} {c : Int} {l : Str} (Q : Qs ρ nb g b p P c) (q51 : ρ 51 = some (.dat (.str l))) (HL : Lt l) : EvL Φ [(.tup [(.const (.str (Str.ofString "say"))), (.var 47)]), (.lst [(.const (.str (Str.ofString "tell"))), (.var 47)]), (.tup [(.const (.str (Str.ofString "stop"))), (.bin .Add (.var 51) (.const (.str (Str.ofString "1"))))]), (.tup [(.const (.str (Str.ofString "stop"))), (.bin .Add (.const (.str (Str.ofString " "))) (.var 51))])] ρ σ (nsM5 nb g b p l) := (edd (ev_T (edd rfl (edd (evV (by exact Q.q47)) ed0))) (edf (ev_L (edd rfl (edd (evV (by exact Q.q47)) ed0))) (edd (ev_T (edd rfl (edd (ev_binR (x := .dat (.str l)) (y := .dat (.str (Str.ofString "1"))) (evV (by exact q51)) rfl rfl rfl (bi_addS HL.a1)) ed0))) (edd (ev_T (edd rfl (edd (ev_binR (x := .dat (.str (Str.ofString " "))) (y := .dat (.str l)) rfl (evV (by exact q51)) rfl rfl (bi_addS HL.a2)) ed0))) ed0))))
theorem nsE6 {Φ : Phi} {ρ : Rho} {σ : Store} {nb : Nat} {g b p P : PyData} {c : Int} {l : Str} (Q : Qs ρ nb g b p P c) (q51 : ρ 51 = some (.dat (.str l))) (HL : Lt l) : EvL Φ [(.tup [(.const (.str (Str.ofString "stop"))), (.bin .Add (.bin .Add (.var 51) (.const (.str (Str.ofString "-")))) (.var 51))]), (.tup [(.const (.str (Str.ofString "stop"))), (.bin .Mult (.var 51) (.const (.int 9)))]), (.tup [(.const (.str (Str.ofString "stop"))), (.var 51), (.var 51)])] ρ σ (nsM6 nb g b p l) := (edd (ev_T (edd rfl (edd (ev_binR (x := .dat (.str (l ++ (Str.ofString "-")))) (y := .dat (.str l)) (ev_binR (x := .dat (.str l)) (y := .dat (.str (Str.ofString "-"))) (evV (by exact q51)) rfl rfl rfl (bi_addS HL.a3)) (evV (by exact q51)) rfl rfl (bi_addS HL.a4)) ed0))) (edd (ev_T (edd rfl (edd (ev_binR (x := .dat (.str l)) (y := .dat (.int (9 : Nat))) (evV (by exact q51)) rfl rfl rfl (bi_mulS (by rw [HL.len]; decide) (by decide))) ed0))) (edd (ev_T (edd rfl (edd (evV (by exact q51)) (edd (evV (by exact q51)) ed0)))) ed0)))
theorem nsE7 {Φ : Phi} {ρ : Rho} {σ : Store} {nb : Nat} {g b p P : PyData} {c : Int} {l : Str} (Q : Qs ρ nb g b p P c) : EvL Φ [(.tup [(.const (.str (Str.ofString "put"))), (.const (.int 0)), (.var 47), (.var 47)]), (.tup [(.const (.str (Str.ofString "ask"))), (.var 47), (.var 36), (.var 36), (.var 36)]), (.tup [(.const (.str (Str.ofString "times"))), (.const (.int 2)), (.var 36), (.var 36)])] ρ σ (nsM7 nb g b p l) := (edd (ev_T (edd rfl (edd rfl (edd (evV (by exact Q.q47)) (edd (evV (by exact Q.q47)) ed0))))) (edd (ev_T (edd rfl (edd (evV (by exact Q.q47)) (edd (evV (by exact Q.q36)) (edd (evV (by exact Q.q36)) (edd (evV (by exact Q.q36)) ed0)))))) (edd (ev_T (edd rfl (edd rfl (edd (evV (by exact Q.q36)) (edd (evV (by exact Q.q36)) ed0))))) ed0)))
theorem nsE8 {Φ : Phi} {ρ : Rho} {σ : Store} {nb : Nat} {g b p P : PyData} {c : Int} {l : Str} (Q : Qs ρ nb g b p P c) : EvL Φ [(.tup [(.const (.str (Str.ofString "tell"))), (.var 47), (.var 47)]), (.tup [(.const (.str (Str.ofString "times"))), (.const (.int 2)), (.prim .list [(.var 36)])]), (.tup [(.const (.str (Str.ofString "ask"))), (.var 47), (.var 36), (.prim .list [(.var 36)])])] ρ σ (nsM8 nb g b p l) := (edd (ev_T (edd rfl (edd (evV (by exact Q.q47)) (edd (evV (by exact Q.q47)) ed0)))) (edd (ev_T (edd rfl (edd rfl (edf (ev_tl (evV (by exact Q.q36)) (by decide : 1 ≤ 1000)) ed0)))) (edd (ev_T (edd rfl (edd (evV (by exact Q.q47)) (edd (evV (by exact Q.q36)) (edf (ev_tl (evV (by exact Q.q36)) (by decide : 1 ≤ 1000)) ed0))))) ed0)))
theorem nsE9 {Φ : Phi} {ρ : Rho} {σ : Store} {nb : Nat} {g b p P : PyData} {c : Int} {l : Str} (Q : Qs ρ nb g b p P c) : EvL Φ [(.tup [(.const (.str (Str.ofString "times"))), (.const .none), (.var 36)]), (.tup [(.const (.str (Str.ofString "put"))), (.const .none), (.var 47)]), (.tup [(.const (.str (Str.ofString "ask"))), (.var 47), (.const .none), (.var 36)]), (.tup [(.const (.str (Str.ofString "times"))), (.const (.int 2)), (.const .none)])] ρ σ (nsM9 nb g b p l) := (edd (ev_T (edd rfl (edd rfl (edd (evV (by exact Q.q36)) ed0)))) (edd (ev_T (edd rfl (edd rfl (edd (evV (by exact Q.q47)) ed0)))) (edd (ev_T (edd rfl (edd (evV (by exact Q.q47)) (edd rfl (edd (evV (by exact Q.q36)) ed0))))) (edd (ev_T (edd rfl (edd rfl (edd rfl ed0)))) ed0))))
theorem nsE10 {Φ : Phi} {ρ : Rho} {σ : Store} {nb : Nat} {g b p P : PyData} {c : Int} {l : Str} (Q : Qs ρ nb g b p P c) : EvL Φ [(.tup [(.const (.str (Str.ofString "tell")))]), (.tup [(.const (.str (Str.ofString "stop")))]), (.tup [(.const (.str (Str.ofString "times"))), (.const (.int 2))]), (.tup [(.const (.str (Str.ofString "times")))]), (.tup [(.const (.str (Str.ofString "put")))]), (.tup [(.const (.str (Str.ofString "ask")))]), (.tup [(.const (.str (Str.ofString "ask"))), (.var 47)])] ρ σ (nsM10 nb g b p l) := (edd (ev_T (edd rfl ed0)) (edd (ev_T (edd rfl ed0)) (edd (ev_T (edd rfl (edd rfl ed0))) (edd (ev_T (edd rfl ed0)) (edd (ev_T (edd rfl ed0)) (edd (ev_T (edd rfl ed0)) (edd (ev_T (edd rfl (edd (evV (by exact Q.q47)) ed0))) ed0)))))))
theorem nsE11 {Φ : Phi} {ρ : Rho} {σ : Store} {nb : Nat} {g b p P : PyData} {c : Int} {l : Str} (Q : Qs ρ nb g b p P c) (q51 : ρ 51 = some (.dat (.str l))) (HL : Lt l) : EvL Φ [(.tup [(.const (.str (Str.ofString "stop"))), (.lst [(.var 51)])]), (.tup [(.const (.str (Str.ofString "stop"))), (.tup [(.var 51), (.var 51)])]), (.tup [(.const (.str (Str.ofString "stop"))), (.const .none)])] ρ σ (nsM11 nb g b p l) := (edd (ev_T (edd rfl (edf (ev_L (edd (evV (by exact q51)) ed0)) ed0))) (edd (ev_T (edd rfl (edd (ev_T (edd (evV (by exact q51)) (edd (evV (by exact q51)) ed0))) ed0))) (edd (ev_T (edd rfl (edd rfl ed0))) ed0)))
theorem nsE12 {Φ : Phi} {ρ : Rho} {σ : Store} {nb : Nat} {g b p P : PyData} {c : Int} {l : Str} (Q : Qs ρ nb g b p P c) : EvL Φ [(.tup [(.lst [(.const (.str (Str.ofString "tell")))]), (.var 47)]), (.tup [(.const .none), (.var 47)]), (.tup []), (.const (.str (Str.ofString "tell"))), (.const (.int 5))] ρ σ (nsM12 nb g b p l) := (edd (ev_T (edf (ev_L (edd rfl ed0)) (edd (evV (by exact Q.q47)) ed0))) (edd (ev_T (edd rfl (edd (evV (by exact Q.q47)) ed0))) (edd (ev_T ed0) (edd rfl (edd rfl ed0)))))
structure Hs (σ₀ : Store) (ρ : Rho) (σ : Store) (L : List PyData) : Prop where
  cell : ∃ c, ρ 50 = some (.cell c) ∧ σ[c]? = some (.live, L)
  pre : ∃ τ, σ = σ₀ ++ τ
section
variable {N : Nat} {Φ : Phi} {ρ : Rho} {σ σ₀ : Store} {L M : List PyData} {es : List CE} {nb : Nat} {g b p P : PyData} {c : Int}
theorem Qs.on (Q : Qs ρ nb g b p P c) {ρ' : Rho} (h : ∀ j, j ≠ 50 → ρ' j = ρ j) : Qs ρ' nb g b p P c := ⟨(h 46 (by decide)).trans Q.q46, Q.hP, (h 47 (by decide)).trans Q.q47, (h 49 (by decide)).trans Q.q49, (h 36 (by decide)).trans Q.q36, (h 18 (by decide)).trans Q.q18⟩
theorem hs_new {e : CE} (pre : ∃ τ, σ = σ₀ ++ τ) (he : evE Φ e ρ σ = some (.fresh L, σ)) : ∃ ρ' σ', (∀ cs, evSs N Φ (.newcell 50 e :: cs) ρ σ = evSs N Φ cs ρ' σ') ∧ Hs σ₀ ρ' σ' L ∧ ∀ j, j ≠ 50 → ρ' j = ρ j := by
  obtain ⟨τ, rfl⟩ := pre
  exact ⟨_, _, fun cs => r_newcell he, ⟨⟨_, rfl, get_last ..⟩, ⟨τ ++ [(.live, L)], by rw [List.append_assoc]⟩⟩, fun j h => if_neg h⟩
theorem Hs.first (he : EvL Φ es ρ σ L) : ∃ ρ' σ', (∀ cs, evSs N Φ (.newcell 50 (.lst es) :: cs) ρ σ = evSs N Φ cs ρ' σ') ∧ Hs σ ρ' σ' L ∧ ∀ j, j ≠ 50 → ρ' j = ρ j := hs_new ⟨[], by rw [List.append_nil]⟩ (ev_L he)
theorem Hs.ev (H : Hs σ₀ ρ σ L) (he : EvL Φ es ρ σ M) (hl : L.length + M.length ≤ 1000) : evE Φ (.bin .Add (.var 50) (.lst es)) ρ σ = some (.fresh (L ++ M), σ) := by
  obtain ⟨c, h1, h2⟩ := H.cell
  exact ev_more h1 h2 he hl
inductive Evs (Φ : Phi) (G : Rho → Prop) : List CS → List PyData → Prop
  | nil : Evs Φ G [] []
  | cons {es : List CE} {M L : List PyData} {cs : List CS} : (∀ ρ σ, G ρ → EvL Φ es ρ σ M) → Evs Φ G cs L → Evs Φ G (.newcell 50 (.bin .Add (.var 50) (.lst es)) :: cs) (M ++ L)
theorem Evs.run {G : Rho → Prop} (hG : ∀ ρ ρ', G ρ → (∀ j, j ≠ 50 → ρ' j = ρ j) → G ρ') {cs₀ : List CS} {M : List PyData} (h : Evs Φ G cs₀ M) : ∀ {L : List PyData} {ρ : Rho} {σ : Store}, Hs σ₀ ρ σ L → G ρ → L.length + M.length ≤ 1000 → ∃ ρ' σ', (∀ cs, evSs N Φ (cs₀ ++ cs) ρ σ = evSs N Φ cs ρ' σ') ∧ Hs σ₀ ρ' σ' (L ++ M) ∧ G ρ' := by
  induction h with
  | nil => exact fun {L ρ σ} H g _ => ⟨ρ, σ, fun _ => rfl, by rw [List.append_nil]; exact H, g⟩
  | @cons es M K cs he _ ih =>
    intro L ρ σ H g hl
    rw [List.length_append] at hl
    obtain ⟨ρ1, σ1, e1, H1, s1⟩ := hs_new (N := N) H.pre (H.ev (he ρ σ g) (by omega))
    obtain ⟨ρ2, σ2, e2, H2, g2⟩ := ih H1 (hG _ _ g s1) (by rw [List.length_append]; omega)
    exact ⟨ρ2, σ2, fun cs => (e1 _).trans (e2 cs), by rw [← List.append_assoc]; exact H2, g2⟩
theorem Hs.pick (H : Hs σ₀ ρ σ L) {i : CE} {j : Nat} (he : EvL Φ es ρ σ M) (hi : evE Φ i ρ σ = some (.dat (.int j), σ)) (hj : j < (L ++ M).length) (hl : L.length + M.length ≤ 1000) : ∃ d ∈ L ++ M, ∃ τ, ∀ cs, evSs N Φ (.ret (.idx (.bin .Add (.var 50) (.lst es)) i) :: cs) ρ σ = some (.ret (.dat d), σ₀ ++ τ) := by
  obtain ⟨τ, hτ⟩ := H.pre
  exact ⟨(L ++ M)[j], List.getElem_mem hj, τ, fun cs => by rw [← hτ]; exact r_ret (ev_idxR (x := .fresh (L ++ M)) (H.ev he hl) hi rfl rfl (ix_list (by rw [List.length_append] at hj; omega) (List.getElem?_eq_getElem hj)))⟩
end
noncomputable def nsL (nb : Nat) (g b p : PyData) (l : Str) : List PyData := nsM1 nb g b p l ++ (nsM2 nb g b p l ++ (nsM3 nb g b p l ++ (nsM4 nb g b p l ++ []))) ++ (nsM5 nb g b p l ++ (nsM6 nb g b p l ++ (nsM7 nb g b p l ++ (nsM8 nb g b p l ++ (nsM9 nb g b p l ++ (nsM10 nb g b p l ++ (nsM11 nb g b p l ++ []))))))) ++ nsM12 nb g b p l
theorem ns_end {N : Nat} {Φ : Phi} {ρ : Rho} {σ : Store} {nb : Nat} {g b p P : PyData} {c : Int} (Q : Qs ρ nb g b p P c) : ∃ l, Lt l ∧ ∃ d ∈ nsL nb g b p l, ∃ τ, evSs N Φ (c__law_no_statement.drop 3) ρ σ = some (.ret (.dat d), σ ++ τ) := by
  obtain ⟨j, hj, ej⟩ := fmod_nat (c.fdiv 7) (b := 26) (by decide)
  obtain ⟨i, hi, ei⟩ := fmod_nat c (b := 50) (by decide)
  refine ⟨lt ⟨j, hj⟩, lt_ok ⟨j, hj⟩, ?_⟩
  have HL := lt_ok ⟨j, hj⟩
  have hlet : ∀ {ρ : Rho} {σ : Store}, ρ 18 = some (.dat (.int c)) → evE Φ (.idx (.const (.str (Str.ofString "abcdefghijklmnopqrstuvwxyz"))) (.bin .Mod (.bin .FloorDiv (.var 18) (.const (.int (7)))) (.const (.int (26))))) ρ σ = some (.dat (.str (lt ⟨j, hj⟩)), σ) := fun h => ev_idxR (x := .dat (.str abc)) (y := .dat (.int j)) rfl (ev_dmE h (by decide) (by decide) (by decide) ej) rfl rfl (ix_abc j hj)
  generalize lt ⟨j, hj⟩ = l at HL hlet
  obtain ⟨ρ1, σ1, e1, H1, s1⟩ := Hs.first (N := N) (nsE1 (Φ := Φ) (σ := σ) (l := l) Q)
  obtain ⟨ρ4, σ4, e4, H4, Q4⟩ := Evs.run (N := N) (Φ := Φ) (G := fun ρ => Qs ρ nb g b p P c) (fun _ _ Q s => Q.on s) (.cons (fun _ _ Q => nsE2 (l := l) Q) (.cons (fun _ _ Q => nsE3 (l := l) Q) (.cons (fun _ _ Q => nsE4 (l := l) Q) .nil))) H1 (Q.on s1) (by show 5 + 13 ≤ 1000; decide)
  have e5 : ∀ cs, evSs N Φ (.assign 51 (.idx (.const (.str (Str.ofString "abcdefghijklmnopqrstuvwxyz"))) (.bin .Mod (.bin .FloorDiv (.var 18) (.const (.int (7)))) (.const (.int (26))))) :: cs) ρ4 σ4 = evSs N Φ cs (ρ4.set 51 (.dat (.str l))) σ4 := fun cs => r_assign (hlet Q4.q18)
  obtain ⟨ρ6, σ6, e6, H6, Q6, _⟩ := Evs.run (N := N) (Φ := Φ) (G := fun ρ => Qs ρ nb g b p P c ∧ ρ 51 = some (.dat (.str l))) (ρ := ρ4.set 51 (.dat (.str l))) (fun _ _ Q s => ⟨Q.1.on s, (s 51 (by decide)).trans Q.2⟩) (.cons (fun _ _ Q => nsE5 Q.1 Q.2 HL) (.cons (fun _ _ Q => nsE6 Q.1 Q.2 HL) (.cons (fun _ _ Q => nsE7 (l := l) Q.1) (.cons (fun _ _ Q => nsE8 (l := l) Q.1) (.cons (fun _ _ Q => nsE9 (l := l) Q.1) (.cons (fun _ _ Q => nsE10 (l := l) Q.1) (.cons (fun _ _ Q => nsE11 Q.1 Q.2 HL) .nil))))))) ⟨H4.cell, H4.pre⟩ ⟨⟨Q4.q46, Q4.hP, Q4.q47, Q4.q49, Q4.q36, Q4.q18⟩, rfl⟩ (by show 18 + 27 ≤ 1000; decide)
  obtain ⟨d, hd, τ, e⟩ := H6.pick (N := N) (nsE12 (Φ := Φ) (l := l) Q6) (ev_modE Q6.q18 (by decide) ei) (by exact hi) (by show 45 + 5 ≤ 1000; decide)
  exact ⟨d, hd, τ, (e1 _).trans ((e4 _).trans ((e5 _).trans ((e6 _).trans (e _))))⟩
theorem among_nb (nb : Nat) : amongB (.int (nb : Int)) (0, (nb : Int) - 1) = false := by
  show (decide (0 ≤ (nb : Int)) && decide ((nb : Int) ≤ (nb : Int) - 1)) = false
  rw [decide_eq_false (by omega : ¬ (nb : Int) ≤ (nb : Int) - 1), Bool.and_false]
theorem say_no : ∀ i : Fin 5, (Str.ofString "say" == W i) = false := by decide +kernel
theorem w_0 : isWordB (.str (Str.ofString "")) = false := by decide +kernel
theorem w_9 : isWordB (.str (Str.ofString "abcdefghi")) = false := by decide +kernel
theorem w_B : isWordB (.str (Str.ofString "aB")) = false := by decide +kernel
section
variable {ni nb : Nat} {g b p : PyData} {l : Str}
theorem ns_bad (hb : isExB ni nb b = false) (hbs : isStB ni nb b = false) (HL : Lt l) : ∀ d ∈ nsL nb g b p l, BadSt ni nb d := by
  refine all_app (all_app (all_app ?_ (all_app ?_ (all_app ?_ (all_app ?_ all_nil)))) (all_app ?_ (all_app ?_ (all_app ?_ (all_app ?_ (all_app ?_ (all_app ?_ (all_app ?_ all_nil)))))))) ?_
  · exact all_cons (bs0 (by show (amongB (.int (nb : Int)) (0, (nb : Int) - 1) && _) = false; rw [among_nb]; rfl)) (all_cons (bs0 rfl) (all_cons (bs0 rfl) (all_cons (bs0 (by show (_ && isExB ni nb b) = false; rw [hb, Bool.and_false])) (all_cons (bs0 rfl) all_nil))))
  · exact all_cons (bs1 rfl) (all_cons (bs1 hb) (all_cons (bi1 (.inl nt_l)) (all_cons (bs3 hb) all_nil)))
  · exact all_cons (bi1 (.inr (st_2 hbs))) (all_cons (bs2 rfl) (all_cons (bs2 rfl) (all_cons (bs2 rfl) all_nil)))
  · exact all_cons (bi2 (st_2 rfl)) (all_cons (bs4 w_0) (all_cons (bs4 w_9) (all_cons (bs4 w_B) (all_cons (bs4 rfl) all_nil))))
  · exact all_cons (.inl (stB_no say_no)) (all_cons (.inl rfl) (all_cons (bs4 HL.w1) (all_cons (bs4 HL.w2) all_nil)))
  · exact all_cons (bs4 HL.w3) (all_cons (bs4 HL.w4) (all_cons (bs4 rfl) all_nil))
  · exact all_cons (bs0 rfl) (all_cons (bs1 rfl) (all_cons (bs2 rfl) all_nil))
  · exact all_cons (bs3 rfl) (all_cons (bi2 nt_l) (all_cons (bi1 (.inr nt_l)) all_nil))
  · exact all_cons (bs2 rfl) (all_cons (bs0 rfl) (all_cons (bi1 (.inl nt_n)) (all_cons (bi2 nt_n) all_nil)))
  · exact all_cons (.inl rfl) (all_cons (.inl rfl) (all_cons (bs2 rfl) (all_cons (.inl rfl) (all_cons (.inl rfl) (all_cons (.inl rfl) (all_cons (bs1 rfl) all_nil))))))
  · exact all_cons (bs4 rfl) (all_cons (bs4 rfl) (all_cons (bs4 rfl) all_nil))
  · exact all_cons (.inl rfl) (all_cons (.inl rfl) (all_cons (.inl rfl) (all_cons (.inl rfl) (all_cons (.inl rfl) all_nil))))
end
theorem sI (x : Int) : nd (.int x) ≤ 150 := (by decide : 1 ≤ 150)
theorem sB (x : Bool) : nd (.bool x) ≤ 150 := (by decide : 1 ≤ 150)
theorem sN : nd .none ≤ 150 := by decide
theorem to3 {d : PyData} (h : nd d ≤ 150) : nd d ≤ 1000 := Nat.le_trans h (by decide)
theorem nd_le : ∀ {xs : List PyData}, (∀ x ∈ xs, nd x ≤ 150) → ndAll xs ≤ xs.length * 150
  | [], _ => Nat.le_refl _
  | x :: xs, h => by rw [List.length_cons, Nat.succ_mul, Nat.add_comm]; exact Nat.add_le_add (h x (.head _)) (nd_le fun y m => h y (.tail _ m))
theorem t5 {xs : List PyData} (h : ∀ x ∈ xs, nd x ≤ 150) (hl : Nat.ble xs.length 5 = true) : nd (.tuple xs) ≤ 1000 := Nat.le_trans (Nat.add_le_add_left (Nat.le_trans (nd_le h) (Nat.mul_le_mul_right 150 (Nat.le_of_ble_eq_true hl))) 1) (by decide)
theorem l5 {xs : List PyData} (h : ∀ x ∈ xs, nd x ≤ 150) (hl : Nat.ble xs.length 5 = true) : nd (.list xs) ≤ 1000 := t5 h hl
theorem sS0 : nd (.str (Str.ofString "put")) ≤ 150 := by decide +kernel
theorem sS1 : nd (.str (Str.ofString "tell")) ≤ 150 := by decide +kernel
theorem sS2 : nd (.str (Str.ofString "ask")) ≤ 150 := by decide +kernel
theorem sS3 : nd (.str (Str.ofString "times")) ≤ 150 := by decide +kernel
theorem sS4 : nd (.str (Str.ofString "stop")) ≤ 150 := by decide +kernel
theorem sS5 : nd (.str (Str.ofString "aB")) ≤ 150 := by decide +kernel
theorem sS6 : nd (.str (Str.ofString "abcdefghi")) ≤ 150 := by decide +kernel
theorem sS7 : nd (.str (Str.ofString "")) ≤ 150 := by decide +kernel
theorem sS8 : nd (.str (Str.ofString "say")) ≤ 150 := by decide +kernel
theorem hlt : nd (.list [.str (Str.ofString "tell")]) ≤ 150 := by decide +kernel
theorem ns_small {nb : Nat} {g b p : PyData} {l : Str} (hg : nd g ≤ 150) (hb : nd b ≤ 60) (hp : nd p ≤ 25) (HL : Lt l) : ∀ d ∈ nsL nb g b p l, nd d ≤ 1000 := by
  have h1 : nd (.tuple [p]) ≤ 150 := Nat.le_trans (Nat.add_le_add_left hp 1) (by decide)
  have hl : nd (.list [p]) ≤ 150 := h1
  have h2 : nd (.tuple [p, b]) ≤ 150 := Nat.le_trans (Nat.add_le_add_left (Nat.add_le_add hp hb) 1) (by decide)
  have h5 : nd (.tuple [p, .int 5]) ≤ 150 := Nat.le_trans (Nat.add_le_add_left (Nat.add_le_add_right hp 1) 1) (by decide)
  have hl1 : nd (.list [.str l]) ≤ 150 := Nat.le_trans (Nat.add_le_add_left HL.m0 1) (by decide)
  have hll : nd (.tuple [.str l, .str l]) ≤ 150 := Nat.le_trans (Nat.add_le_add_left (Nat.add_le_add HL.m0 HL.m0) 1) (by decide)
  have hb : nd b ≤ 150 := Nat.le_trans hb (by decide)
  exact (all_app (all_app (all_app (all_cons (t5 (all_cons sS0 (all_cons (sI _) (all_cons hg all_nil))) rfl) (all_cons (t5 (all_cons sS0 (all_cons (sI _) (all_cons hg all_nil))) rfl) (all_cons (t5 (all_cons sS0 (all_cons (sB _) (all_cons hg all_nil))) rfl) (all_cons (t5 (all_cons sS0 (all_cons (sI _) (all_cons hb all_nil))) rfl) (all_cons (t5 (all_cons sS0 (all_cons (sI _) all_nil)) rfl) all_nil))))) (all_app (all_cons (t5 (all_cons sS2 (all_cons hg (all_cons h1 all_nil))) rfl) (all_cons (t5 (all_cons sS2 (all_cons hb (all_cons h1 (all_cons h1 all_nil)))) rfl) (all_cons (t5 (all_cons sS2 (all_cons hg (all_cons hl (all_cons h1 all_nil)))) rfl) (all_cons (t5 (all_cons sS1 (all_cons hb all_nil)) rfl) all_nil)))) (all_app (all_cons (t5 (all_cons sS2 (all_cons hg (all_cons h1 (all_cons h2 all_nil)))) rfl) (all_cons (t5 (all_cons sS3 (all_cons (sI _) (all_cons h1 all_nil))) rfl) (all_cons (t5 (all_cons sS3 (all_cons (sI _) (all_cons h1 all_nil))) rfl) (all_cons (t5 (all_cons sS3 (all_cons (sB _) (all_cons h1 all_nil))) rfl) all_nil)))) (all_app (all_cons (t5 (all_cons sS3 (all_cons (sI _) (all_cons h5 all_nil))) rfl) (all_cons (t5 (all_cons sS4 (all_cons sS7 all_nil)) rfl) (all_cons (t5 (all_cons sS4 (all_cons sS6 all_nil)) rfl) (all_cons (t5 (all_cons sS4 (all_cons sS5 all_nil)) rfl) (all_cons (t5 (all_cons sS4 (all_cons (sI _) all_nil)) rfl) all_nil))))) all_nil)))) (all_app (all_cons (t5 (all_cons sS8 (all_cons hg all_nil)) rfl) (all_cons (l5 (all_cons sS1 (all_cons hg all_nil)) rfl) (all_cons (t5 (all_cons sS4 (all_cons HL.n1 all_nil)) rfl) (all_cons (t5 (all_cons sS4 (all_cons HL.n2 all_nil)) rfl) all_nil)))) (all_app (all_cons (t5 (all_cons sS4 (all_cons HL.n3 all_nil)) rfl) (all_cons (t5 (all_cons sS4 (all_cons HL.n4 all_nil)) rfl) (all_cons (t5 (all_cons sS4 (all_cons HL.n0 (all_cons HL.n0 all_nil))) rfl) all_nil))) (all_app (all_cons (t5 (all_cons sS0 (all_cons (sI _) (all_cons hg (all_cons hg all_nil)))) rfl) (all_cons (t5 (all_cons sS2 (all_cons hg (all_cons h1 (all_cons h1 (all_cons h1 all_nil))))) rfl) (all_cons (t5 (all_cons sS3 (all_cons (sI _) (all_cons h1 (all_cons h1 all_nil)))) rfl) all_nil))) (all_app (all_cons (t5 (all_cons sS1 (all_cons hg (all_cons hg all_nil))) rfl) (all_cons (t5 (all_cons sS3 (all_cons (sI _) (all_cons hl all_nil))) rfl) (all_cons (t5 (all_cons sS2 (all_cons hg (all_cons h1 (all_cons hl all_nil)))) rfl) all_nil))) (all_app (all_cons (t5 (all_cons sS3 (all_cons sN (all_cons h1 all_nil))) rfl) (all_cons (t5 (all_cons sS0 (all_cons sN (all_cons hg all_nil))) rfl) (all_cons (t5 (all_cons sS2 (all_cons hg (all_cons sN (all_cons h1 all_nil)))) rfl) (all_cons (t5 (all_cons sS3 (all_cons (sI _) (all_cons sN all_nil))) rfl) all_nil)))) (all_app (all_cons (t5 (all_cons sS1 all_nil) rfl) (all_cons (t5 (all_cons sS4 all_nil) rfl) (all_cons (t5 (all_cons sS3 (all_cons (sI _) all_nil)) rfl) (all_cons (t5 (all_cons sS3 all_nil) rfl) (all_cons (t5 (all_cons sS0 all_nil) rfl) (all_cons (t5 (all_cons sS2 all_nil) rfl) (all_cons (t5 (all_cons sS2 (all_cons hg all_nil)) rfl) all_nil))))))) (all_app (all_cons (t5 (all_cons sS4 (all_cons hl1 all_nil)) rfl) (all_cons (t5 (all_cons sS4 (all_cons hll all_nil)) rfl) (all_cons (t5 (all_cons sS4 (all_cons sN all_nil)) rfl) all_nil))) all_nil)))))))) (all_cons (t5 (all_cons hlt (all_cons hg all_nil)) rfl) (all_cons (t5 (all_cons sN (all_cons hg all_nil)) rfl) (all_cons (t5 all_nil rfl) (all_cons (to3 sS1) (all_cons (to3 (sI _)) all_nil))))))
theorem good_nd {n nb : Nat} (hn : n ≤ 3) (hb : nb ≤ 6) : nd (goodE n nb) ≤ 13 := by
  have h0 := zs_nd n
  have h1 := zs_nd nb
  show 1 + (1 + ((1 + ndAll (zs n)) + ((1 + ndAll (zs nb)) + 0))) ≤ 13
  omega
theorem ev_good {Φ : Phi} {ρ : Rho} {σ : Store} {rs : List (Int × Int)} {nb : Nat} {R : PyData} (h : ρ 46 = some (.dat (.tuple [.tuple (rs.map pairD), .int nb, R]))) (h3 : rs.length ≤ 3) (b6 : nb ≤ 6) (x : Int) : evE Φ (.tup [(.const (.int x)), (.bin .Mult (.tup [(.const (.int 0))]) (.prim .len [(.idx (.var 46) (.const (.int 0)))])), (.bin .Mult (.tup [(.const (.int 0))]) (.idx (.var 46) (.const (.int 1))))]) ρ σ = some (.dat (.tuple [.int x, .tuple (zs rs.length), .tuple (zs nb)]), σ) := by
  refine ev_T (edd rfl (edd (ev_reps 0 ?_ (by omega)) (edd (ev_reps 0 (n := nb) (ev_ixD h rfl) (by omega)) ed0)))
  have := ev_lenT (Φ := Φ) (ρ := ρ) (σ := σ) (a := .idx (.var 46) (.const (.int 0))) (xs := rs.map pairD) (ev_ixD h rfl) (by rw [List.length_map]; omega)
  rw [List.length_map] at this
  exact this
theorem s_no_st {N k : Nat} {rs : List (Int × Int)} {nb : Nat} {rows : List Row} (h3 : rs.length ≤ 3) (b1 : 1 ≤ nb) (b6 : nb ≤ 6) (c : Int) (σ : Store) : ∃ d, BadSt rs.length nb d ∧ nd d ≤ 1000 ∧ tabAt tab2 N (k + 2) 26 [.dat (progD rs nb rows), .dat (.int c)] σ = some (.ret (.dat d), σ) := by
  rw [tab_step (by rfl : tab2[26]? = some ([46, 18], c__law_no_statement))]
  obtain ⟨b, hb1, hb2, hb3, hb4⟩ := s_no_ex (N := N) (k := k) (rows := rows) h3 b1 b6 (c.fdiv 50) σ
  have hg := good_nd h3 b6
  obtain ⟨l, HL, d, hd, τ, e⟩ := ns_end (N := N) (Φ := tabAt tab2 N (k + 1)) (σ := σ) (g := goodE rs.length nb) (b := b) (p := .tuple [sPut, .int 0, goodE rs.length nb]) (P := progD rs nb rows) (c := c) (nb := nb) (ρ := Rho.set (Rho.set (Rho.set (Rho.set (Rho.set (fun _ => none) 46 (.dat (progD rs nb rows))) 18 (.dat (.int c))) 47 (.dat (goodE rs.length nb))) 49 (.dat b)) 36 (.dat (.tuple [.tuple [sPut, .int 0, goodE rs.length nb]]))) ⟨rfl, rfl, rfl, rfl, rfl, rfl⟩
  refine ⟨d, ns_bad hb1 hb2 HL d hd, ns_small (Nat.le_trans hg (by decide)) hb3 (by have := w_nd 0; show 1 + (nd (.str (W 0)) + (1 + (nd (goodE rs.length nb) + 0))) ≤ 25; omega) HL d hd, run_cell rfl (Eq.trans ?_ e)⟩
  have hc : evE (tabAt tab2 N (k + 1)) (.call 25 [(.var 46), (.bin .FloorDiv (.var 18) (.const (.int 50)))]) (Rho.set (Rho.set (Rho.set (fun _ => none) 46 (.dat (progD rs nb rows))) 18 (.dat (.int c))) 47 (.dat (goodE rs.length nb))) σ = some (.dat b, σ) := ev_callR (el_var (v := .dat (progD rs nb rows)) rfl (el_one (v := .dat (.int (c.fdiv 50))) (ev_divR (evV rfl) (by decide) (by decide)) rfl)) hb4
  exact Eq.trans (r_assign (ev_good rfl h3 b6 1)) (Eq.trans (r_assign hc) (r_assign (v := .dat (.tuple [.tuple [sPut, .int 0, goodE rs.length nb]])) (σ₁ := σ) (ev_T (edd (ev_T (edd rfl (edd rfl (edd (evV rfl) ed0)))) ed0))))
theorem sl_tC {ds : List PyData} {m : Nat} (h : ds.length ≤ 1000000) (hm : m ≤ 1000001) : sliceD (.tuple ds) (.int m) .none = some (.dat (.tuple (ds.drop m))) := by
  show ((if 0 ≤ (m : Int) ∧ (m : Int).toNat < 4611686018427387904 then some (some (m : Int).toNat) else none).bind fun l => if ds.length ≤ lim then some (AV.dat (.tuple (cutL ds l none))) else none) = _
  rw [if_pos (by omega), Option.bind_some, if_pos (le_lim h (Nat.le_refl _)), Int.toNat_natCast, cutB]
theorem ev_ins {Φ : Phi} {ρ : Rho} {σ : Store} {a b x : CE} {A B : List PyData} {s : PyData} (h1 : evE Φ a ρ σ = some (.dat (.tuple A), σ)) (h2 : evE Φ x ρ σ = some (.dat s, σ)) (h3 : evE Φ b ρ σ = some (.dat (.tuple B), σ)) (hl : A.length + 1 + B.length ≤ 1000000) : evE Φ (.bin .Add (.bin .Add a (.tup [x])) b) ρ σ = some (.dat (.tuple (A ++ [s] ++ B)), σ) :=
  ev_binR (x := .dat (.tuple (A ++ [s]))) (y := .dat (.tuple B)) (ev_binR (x := .dat (.tuple A)) (y := .dat (.tuple [s])) h1 (ev_T (edd h2 ed0)) rfl rfl (bi_addT (lim_of (Nat.le_trans (Nat.le_add_right ..) hl)))) h3 rfl rfl (bi_addT (lim_of (by rw [List.length_append]; exact hl)))
theorem bad_of {ni nb : Int} {d : PyData} {xs : List PyData} (h : BadSt ni nb d) (hm : d ∈ xs) : BadRows ni nb (.tuple xs) := h.elim (.st hm) fun ⟨_, hy, hb⟩ => .inn hm hy hb
theorem mid {A B : List PyData} {s : PyData} : s ∈ A ++ [s] ++ B := List.mem_append_left _ (List.mem_append_right _ (.head _))
structure Us (ρ : Rho) (P : PyData) (c y : Int) (RS RW : List PyData) (nb : Nat) : Prop where
  q46 : ρ 46 = some (.dat P)
  q18 : ρ 18 = some (.dat (.int c))
  q21 : ρ 21 = some (.dat (.tuple RS))
  q52 : ρ 52 = some (.dat (.int nb))
  q36 : ρ 36 = some (.dat (.tuple RW))
  q22 : ρ 22 = some (.dat (.int y))
  l3 : RS.length ≤ 3
  ln : RW.length ≤ 790000
section
variable {N : Nat} {Φ : Phi} {ρ : Rho} {σ : Store} {P : PyData} {c y : Int} {RS RW : List PyData} {nb : Nat}
theorem cut_len (m : Nat) (xs : List PyData) (h : xs.length ≤ 790000) : (xs.take m).length + 1 + (xs.drop m).length ≤ 1000000 := by
  rw [List.length_take, List.length_drop]
  omega
noncomputable def sp1S : List CS := [.assign 53 (.idx (.lst [(.tup [(.const (.str (Str.ofString "tell")))]), (.tup [(.const (.str (Str.ofString "put"))), (.const (.int (0)))])]) (.bin .Mod (.bin .FloorDiv (.var 22) (.const (.int (2)))) (.const (.int (2))))), .ret (.tup [(.var 21), (.var 52), (.bin .Add (.bin .Add (.slice (.var 36) (.const .none) (.const (.int (1)))) (.tup [(.bin .Add (.var 53) (.tup [(.call 25 [(.var 46), (.bin .FloorDiv (.var 22) (.const (.int (4))))])]))])) (.slice (.var 36) (.const (.int (1))) (.const .none)))])]
theorem sp1 (U : Us ρ P c y RS RW nb) {e : PyData} (h25 : Φ 25 [.dat P, .dat (.int (y.fdiv 4))] σ = some (.ret (.dat e), σ)) : ∃ pre, (pre = [sTell] ∨ pre = [sPut, .int 0]) ∧ evSs N Φ sp1S ρ σ = some (.ret (.dat (.tuple [.tuple RS, .int nb, .tuple (RW.take 1 ++ [.tuple (pre ++ [e])] ++ RW.drop 1)])), σ) := by
  obtain ⟨i, hi, ei⟩ := fmod_nat (y.fdiv 2) (b := 2) (by decide)
  have hp : ∃ pre : List PyData, (pre = [sTell] ∨ pre = [sPut, .int 0]) ∧ [PyData.tuple [sTell], .tuple [sPut, .int 0]][i]? = some (.tuple pre) := by
    match i, hi with
    | 0, _ => exact ⟨_, .inl rfl, rfl⟩
    | 1, _ => exact ⟨_, .inr rfl, rfl⟩
  obtain ⟨pre, hpre, hq⟩ := hp
  have hpl : pre.length ≤ 2 := by rcases hpre with rfl | rfl <;> decide
  refine ⟨pre, hpre, Eq.trans (r_assign (v := .dat (.tuple pre)) (σ₁ := σ) (ev_idxR (x := .fresh [.tuple [sTell], .tuple [sPut, .int 0]]) (y := .dat (.int i)) rfl (ev_dmE U.q22 (by decide) (by decide) (by decide) ei) rfl rfl (ix_list (Nat.lt_trans hi (by decide)) hq))) (r_ret (ev_T (edd (evV (by exact U.q21)) (edd (evV (by exact U.q52)) (edd (ev_ins (ev_sl (dx := .tuple RW) (dl := .none) (du := .int (1 : Nat)) (evV (by exact U.q36)) rfl rfl (sl_tA (Nat.le_trans U.ln (by decide)) (by decide))) ?_ (ev_sl (dx := .tuple RW) (dl := .int (1 : Nat)) (du := .none) (evV (by exact U.q36)) rfl rfl (sl_tC (Nat.le_trans U.ln (by decide)) (by decide))) (cut_len 1 RW U.ln)) ed0)))))⟩
  exact ev_binR (x := .dat (.tuple pre)) (y := .dat (.tuple [e])) (evV rfl) (ev_T (edd (ev_callR (vs := [.dat P, .dat (.int (y.fdiv 4))]) (el_var (v := .dat P) (by exact U.q46) (el_one (v := .dat (.int (y.fdiv 4))) (ev_divR (evV (by exact U.q22)) (by decide) (by decide)) rfl)) h25) ed0)) rfl rfl (bi_addT (le_lim (m := 10) (by show pre.length + 1 ≤ 10; omega) (by decide)))
noncomputable def rgL1 (x : Int) : List PyData := [.tuple [.int 1, .int 0], .tuple [.int 0, .int 21], .tuple [.int x, .int (-1)], .list [.int 0, .int 1], .tuple [.int 0, .bool true], .tuple [.int 0, .none], .tuple [.int 0, .int 1, .int 2], .tuple [.int (10 ^ 20), .int 0]]
noncomputable def rgL2 : List PyData := [.tuple [.bool true, .int 3], .tuple [.none, .int 3], .tuple [.int 0], .tuple [.list [.int 0], .int 3], .none, .int 5, .str (Str.ofString "01")]
theorem rg_bad {x : Int} (h : 0 ≤ x) : ∀ d ∈ rgL1 x ++ rgL2, isRangeB d = false ∧ nd d ≤ 10 := by
  refine all_app (all_cons ⟨by decide, by decide⟩ (all_cons ⟨by decide, by decide⟩ (all_cons ⟨?_, (by decide : 1 + (1 + (1 + 0)) ≤ 10)⟩ (all_cons ⟨rfl, by decide⟩ (all_cons ⟨rfl, by decide⟩ (all_cons ⟨rfl, by decide⟩ (all_cons ⟨rfl, by decide⟩ (all_cons ⟨by decide +kernel, by decide⟩ all_nil)))))))) (all_cons ⟨rfl, by decide⟩ (all_cons ⟨rfl, by decide⟩ (all_cons ⟨rfl, by decide⟩ (all_cons ⟨rfl, by decide⟩ (all_cons ⟨rfl, by decide⟩ (all_cons ⟨rfl, by decide⟩ (all_cons ⟨rfl, by decide +kernel⟩ all_nil)))))))
  show (decide (x ≤ -1) && _) = false
  rw [decide_eq_false (by omega)]
  rfl
noncomputable def sp2S : List CS := [.assign 22 (.bin .FloorDiv (.var 22) (.const (.int (2)))), .assign 49 (.lst [(.tup [(.const (.int (1))), (.const (.int (0)))]), (.tup [(.const (.int (0))), (.const (.int (21)))]), (.tup [(.bin .Mod (.bin .FloorDiv (.var 22) (.const (.int (36)))) (.const (.int (5)))), (.neg (.const (.int (1))))]), (.lst [(.const (.int (0))), (.const (.int (1)))]), (.tup [(.const (.int (0))), (.const (.bool true))]), (.tup [(.const (.int (0))), (.const .none)]), (.tup [(.const (.int (0))), (.const (.int (1))), (.const (.int (2)))]), (.tup [(.bin .Pow (.const (.int (10))) (.const (.int (20)))), (.const (.int (0)))])]), .assign 49 (.idx (.bin .Add (.var 49) (.lst [(.tup [(.const (.bool true)), (.const (.int (3)))]), (.tup [(.const .none), (.const (.int (3)))]), (.tup [(.const (.int (0)))]), (.tup [(.lst [(.const (.int (0)))]), (.const (.int (3)))]), (.const .none), (.const (.int (5))), (.const (.str (Str.ofString "01")))])) (.bin .Mod (.var 22) (.const (.int (15))))), .newcell 30 (.bin .Mod (.bin .FloorDiv (.var 22) (.const (.int (15)))) (.prim .max [(.const (.int (1))), (.prim .len [(.var 21)])])), .ret (.tup [(.bin .Add (.bin .Add (.slice (.var 21) (.const .none) (.var 30)) (.tup [(.var 49)])) (.slice (.var 21) (.bin .Add (.var 30) (.const (.int (1)))) (.const .none))), (.var 52), (.var 36)])]
theorem sp2 (U : Us ρ P c y RS RW nb) : ∃ m d, (isRangeB d = false ∧ nd d ≤ 10) ∧ evSs N Φ sp2S ρ σ = some (.ret (.dat (.tuple [.tuple (RS.take m ++ [d] ++ RS.drop (m + 1)), .int nb, .tuple RW])), σ) := by
  have hl3 := U.l3
  obtain ⟨x, hx, ex⟩ := fmod_nat ((y.fdiv 2).fdiv 36) (b := 5) (by decide)
  obtain ⟨i, hi, ei⟩ := fmod_nat (y.fdiv 2) (b := 15) (by decide)
  obtain ⟨m, hm, em⟩ := fmod_nat ((y.fdiv 2).fdiv 15) (b := max 1 RS.length) (by omega)
  have hm3 : m ≤ 3 := by have : max 1 RS.length ≤ 3 := Nat.max_le.mpr ⟨by decide, hl3⟩; omega
  have hi' : i < (rgL1 x ++ rgL2).length := hi
  refine ⟨m, (rgL1 x ++ rgL2)[i], rg_bad (Int.natCast_nonneg x) _ (List.getElem_mem hi'), ?_⟩
  have hpow : binD .Pow (.int 10) (.int 20) = some (.dat (.int (10 ^ 20))) := r_pow (b := 20) (by decide)
  refine Eq.trans (r_assign (ev_divR (evV U.q22) (by decide) (by decide))) (Eq.trans (r_assign (v := .fresh (rgL1 x)) (σ₁ := σ) (ev_L (edd rfl (edd rfl (edd (ev_T (edd (ev_dmE rfl (by decide) (by decide) (by decide) ex) (edd rfl ed0))) (edf rfl (edd rfl (edd rfl (edd rfl (edd (ev_T (edd (ev_binR (x := .dat (.int 10)) (y := .dat (.int 20)) rfl rfl rfl rfl hpow) (edd rfl ed0))) ed0)))))))))) (Eq.trans (r_assign (v := .dat (rgL1 x ++ rgL2)[i]) (σ₁ := σ) (ev_idxR (x := .fresh (rgL1 x ++ rgL2)) (y := .dat (.int i)) (ev_binR (x := .dat (.list (rgL1 x))) (y := .fresh rgL2) (evV rfl) rfl rfl rfl (bi_addL (le_lim (m := 15) (by decide : 8 + 7 ≤ 15) (by decide)))) (ev_modE rfl (by decide) ei) rfl rfl (ix_list (Nat.lt_trans hi (by decide)) (List.getElem?_eq_getElem hi')))) (Eq.trans (r_newdat (σ₁ := σ) (d := .int m) ?_) (r_ret (ev_T (edd (ev_ins (ev_sl (dx := .tuple RS) (dl := .none) (du := .int m) (evV (by exact U.q21)) rfl (evV rfl) (sl_tA (by omega) (by omega))) (evV rfl) (ev_sl (dx := .tuple RS) (dl := .int ((m + 1 : Nat) : Int)) (du := .none) (evV (by exact U.q21)) (ev_addI (x := (m : Int)) (y := 1) (evV rfl) rfl) rfl (sl_tC (by omega) (by omega))) ?_) (edd (evV (by exact U.q52)) (edd (evV (by exact U.q36)) ed0))))))))
  · refine ev_binR (x := .dat (.int ((y.fdiv 2).fdiv 15))) (y := .dat (.int ((max 1 RS.length : Nat) : Int))) (ev_divR (evV rfl) (by decide) (by decide)) (ev_primR (vs := [.dat (.int 1), .dat (.int RS.length)]) (ds := [.int 1, .int RS.length]) (el_one (v := .dat (.int 1)) rfl (el_one (v := .dat (.int RS.length)) (ev_lenT (evV (by exact U.q21)) (by omega)) rfl)) rfl ?_) rfl rfl ((bi_mod (by omega)).trans ?_)
    · rw [← max_int]
      rfl
    · rw [em]
  · rw [List.length_take, List.length_drop]
    omega
theorem ev_tL {a : CE} {xs : List PyData} (h : evE Φ a ρ σ = some (.dat (.tuple xs), σ)) (hl : xs.length ≤ 1000000) : evE Φ (.prim .list [a]) ρ σ = some (.fresh xs, σ) := ev_primR (vs := [.dat (.tuple xs)]) (ds := [.tuple xs]) (el_one h rfl) rfl (pk_tuple (lim_of hl))
noncomputable def pgM1 (RS RW : List PyData) (nb : Nat) : List PyData := [(.tuple [(.tuple RS), (.int 0), (.tuple RW)]), (.tuple [(.tuple RS), (.int 7), (.tuple RW)]), (.tuple [(.tuple RS), (.bool true), (.tuple RW)]), (.tuple [(.list RS), (.int nb), (.tuple RW)])]
theorem pgE1 (U : Us ρ P c y RS RW nb) : EvL Φ [(.tup [(.var 21), (.const (.int 0)), (.var 36)]), (.tup [(.var 21), (.const (.int 7)), (.var 36)]), (.tup [(.var 21), (.const (.bool true)), (.var 36)]), (.tup [(.prim .list [(.var 21)]), (.var 52), (.var 36)])] ρ σ (pgM1 RS RW nb) := (edd (ev_T (edd (evV (by exact U.q21)) (edd rfl (edd (evV (by exact U.q36)) ed0)))) (edd (ev_T (edd (evV (by exact U.q21)) (edd rfl (edd (evV (by exact U.q36)) ed0)))) (edd (ev_T (edd (evV (by exact U.q21)) (edd rfl (edd (evV (by exact U.q36)) ed0)))) (edd (ev_T (edf (ev_tL (evV (by exact U.q21)) (Nat.le_trans U.l3 (by decide))) (edd (evV (by exact U.q52)) (edd (evV (by exact U.q36)) ed0)))) ed0))))
noncomputable def pgM2 (RS RW : List PyData) (nb : Nat) : List PyData := [(.tuple [(.tuple RS), (.int nb)]), (.tuple [(.tuple []), .none, (.tuple RW)]), (.list [(.tuple RS), (.int nb), (.tuple RW)]), (.tuple [(.tuple RS), (.int nb), (.list RW)])]
theorem pgE2 (U : Us ρ P c y RS RW nb) : EvL Φ [(.tup [(.var 21), (.var 52)]), (.tup [(.tup []), (.const .none), (.var 36)]), (.lst [(.var 21), (.var 52), (.var 36)]), (.tup [(.var 21), (.var 52), (.prim .list [(.var 36)])])] ρ σ (pgM2 RS RW nb) := (edd (ev_T (edd (evV (by exact U.q21)) (edd (evV (by exact U.q52)) ed0))) (edd (ev_T (edd rfl (edd rfl (edd (evV (by exact U.q36)) ed0)))) (edf (ev_L (edd (evV (by exact U.q21)) (edd (evV (by exact U.q52)) (edd (evV (by exact U.q36)) ed0)))) (edd (ev_T (edd (evV (by exact U.q21)) (edd (evV (by exact U.q52)) (edf (ev_tL (evV (by exact U.q36)) (Nat.le_trans U.ln (by decide))) ed0)))) ed0))))
noncomputable def d54 : PyData := (.tuple [(.str (Str.ofString "tell")), (.tuple [(.int 0), (.tuple [(.int 1), (.int 1), (.int 1), (.int 1)]), (.tuple [(.int 0)])])])
noncomputable def pgM3 (RS RW : List PyData) (nb : Nat) : List PyData := [.none, (.tuple [(.tuple RS), (.int nb), .none]), (.tuple [(.tuple [(.tuple [(.int 0), (.int 1)]), (.tuple [(.int 0), (.int 1)]), (.tuple [(.int 0), (.int 1)]), (.tuple [(.int 0), (.int 1)])]), (.int 1), (.tuple [d54])]), (.tuple [(.tuple []), (.int 0), (.tuple [])])]
theorem pgE3 (U : Us ρ P c y RS RW nb) (q54 : ρ 54 = some (.dat d54)) : EvL Φ [(.const .none), (.tup [(.var 21), (.var 52), (.const .none)]), (.tup [(.bin .Mult (.tup [(.tup [(.const (.int 0)), (.const (.int 1))])]) (.const (.int 4))), (.const (.int 1)), (.tup [(.var 54)])]), (.tup [(.tup []), (.const (.int 0)), (.tup [])])] ρ σ (pgM3 RS RW nb) := (edd rfl (edd (ev_T (edd (evV (by exact U.q21)) (edd (evV (by exact U.q52)) (edd rfl ed0)))) (edd (ev_T (edd rfl (edd rfl (edd (ev_T (edd (evV (by exact q54)) ed0)) ed0)))) (edd rfl ed0))))
noncomputable def pgM4 (RS RW : List PyData) (nb : Nat) : List PyData := [(.tuple [(.tuple []), (.int 7), (.tuple [(.tuple [(.str (Str.ofString "tell")), (.tuple [(.int 0), (.tuple []), (.tuple [(.int 0), (.int 0), (.int 0), (.int 0), (.int 0), (.int 0), (.int 0)])])])])]), (.tuple [(.tuple [(.tuple [(.int 0), (.int 1)]), (.tuple [(.int 0), (.int 1)]), (.tuple [(.int 0), (.int 1)]), (.tuple [(.int 0), (.int 1)])]), (.int 1), (.tuple [])]), (.tuple [(.tuple RS), (.int nb), (.tuple RW), (.int 1)])]
theorem pgE4 (U : Us ρ P c y RS RW nb) : EvL Φ [(.tup [(.tup []), (.const (.int 7)), (.tup [(.tup [(.const (.str (Str.ofString "tell"))), (.tup [(.const (.int 0)), (.tup []), (.bin .Mult (.tup [(.const (.int 0))]) (.const (.int 7)))])])])]), (.tup [(.bin .Mult (.tup [(.tup [(.const (.int 0)), (.const (.int 1))])]) (.const (.int 4))), (.const (.int 1)), (.tup [])]), (.tup [(.var 21), (.var 52), (.var 36), (.const (.int 1))])] ρ σ (pgM4 RS RW nb) := (edd rfl (edd rfl (edd (ev_T (edd (evV (by exact U.q21)) (edd (evV (by exact U.q52)) (edd (evV (by exact U.q36)) (edd rfl ed0))))) ed0)))
noncomputable def pgM5 (RS RW : List PyData) (nb : Nat) : List PyData := [(.tuple []), (.tuple [(.tuple RS), (.str (Str.ofString "1")), (.tuple RW)]), (.tuple [.none, (.int nb), (.tuple RW)]), (.int 5)]
theorem pgE5 (U : Us ρ P c y RS RW nb) : EvL Φ [(.tup []), (.tup [(.var 21), (.const (.str (Str.ofString "1"))), (.var 36)]), (.tup [(.const .none), (.var 52), (.var 36)]), (.const (.int 5))] ρ σ (pgM5 RS RW nb) := (edd rfl (edd (ev_T (edd (evV (by exact U.q21)) (edd rfl (edd (evV (by exact U.q36)) ed0)))) (edd (ev_T (edd rfl (edd (evV (by exact U.q52)) (edd (evV (by exact U.q36)) ed0)))) (edd rfl ed0))))
noncomputable def sp3S : List CS := [(.newcell 50 (.lst [(.tup [(.var 21), (.const (.int 0)), (.var 36)]), (.tup [(.var 21), (.const (.int 7)), (.var 36)]), (.tup [(.var 21), (.const (.bool true)), (.var 36)]), (.tup [(.prim .list [(.var 21)]), (.var 52), (.var 36)])])), (.newcell 50 (.bin .Add (.var 50) (.lst [(.tup [(.var 21), (.var 52)]), (.tup [(.tup []), (.const .none), (.var 36)]), (.lst [(.var 21), (.var 52), (.var 36)]), (.tup [(.var 21), (.var 52), (.prim .list [(.var 36)])])]))), (.assign 54 (.tup [(.const (.str (Str.ofString "tell"))), (.tup [(.const (.int 0)), (.bin .Mult (.tup [(.const (.int 1))]) (.const (.int 4))), (.tup [(.const (.int 0))])])])), (.newcell 50 (.bin .Add (.var 50) (.lst [(.const .none), (.tup [(.var 21), (.var 52), (.const .none)]), (.tup [(.bin .Mult (.tup [(.tup [(.const (.int 0)), (.const (.int 1))])]) (.const (.int 4))), (.const (.int 1)), (.tup [(.var 54)])]), (.tup [(.tup []), (.const (.int 0)), (.tup [])])]))), (.newcell 50 (.bin .Add (.var 50) (.lst [(.tup [(.tup []), (.const (.int 7)), (.tup [(.tup [(.const (.str (Str.ofString "tell"))), (.tup [(.const (.int 0)), (.tup []), (.bin .Mult (.tup [(.const (.int 0))]) (.const (.int 7)))])])])]), (.tup [(.bin .Mult (.tup [(.tup [(.const (.int 0)), (.const (.int 1))])]) (.const (.int 4))), (.const (.int 1)), (.tup [])]), (.tup [(.var 21), (.var 52), (.var 36), (.const (.int 1))])]))), (.ret (.idx (.bin .Add (.var 50) (.lst [(.tup []), (.tup [(.var 21), (.const (.str (Str.ofString "1"))), (.var 36)]), (.tup [(.const .none), (.var 52), (.var 36)]), (.const (.int 5))])) (.bin .Mod (.var 22) (.const (.int 19)))))]
theorem Us.on (U : Us ρ P c y RS RW nb) {ρ' : Rho} (h : ∀ j, j ≠ 50 → j ≠ 54 → ρ' j = ρ j) : Us ρ' P c y RS RW nb := ⟨(h 46 (by decide) (by decide)).trans U.q46, (h 18 (by decide) (by decide)).trans U.q18, (h 21 (by decide) (by decide)).trans U.q21, (h 52 (by decide) (by decide)).trans U.q52, (h 36 (by decide) (by decide)).trans U.q36, (h 22 (by decide) (by decide)).trans U.q22, U.l3, U.ln⟩
noncomputable def pgL (RS RW : List PyData) (nb : Nat) : List PyData := pgM1 RS RW nb ++ (pgM2 RS RW nb ++ []) ++ (pgM3 RS RW nb ++ (pgM4 RS RW nb ++ [])) ++ pgM5 RS RW nb
theorem sp3 (U : Us ρ P c y RS RW nb) : ∃ d ∈ pgL RS RW nb, ∃ τ, evSs N Φ sp3S ρ σ = some (.ret (.dat d), σ ++ τ) := by
  obtain ⟨i, hi, ei⟩ := fmod_nat y (b := 19) (by decide)
  obtain ⟨ρ1, σ1, e1, H1, s1⟩ := Hs.first (N := N) (pgE1 (Φ := Φ) (σ := σ) U)
  obtain ⟨ρ2, σ2, e2, H2, U2⟩ := Evs.run (N := N) (Φ := Φ) (G := fun ρ => Us ρ P c y RS RW nb) (fun _ _ U s => U.on fun j h _ => s j h) (.cons (fun _ _ U => pgE2 U) .nil) H1 (U.on fun j h _ => s1 j h) (by show 4 + 4 ≤ 1000; decide)
  have e3 : ∀ cs, evSs N Φ (.assign 54 (.tup [(.const (.str (Str.ofString "tell"))), (.tup [(.const (.int 0)), (.bin .Mult (.tup [(.const (.int 1))]) (.const (.int 4))), (.tup [(.const (.int 0))])])]) :: cs) ρ2 σ2 = evSs N Φ cs (ρ2.set 54 (.dat d54)) σ2 := fun cs => r_assign (v := .dat d54) rfl
  obtain ⟨ρ5, σ5, e5, H5, U5, _⟩ := Evs.run (N := N) (Φ := Φ) (G := fun ρ => Us ρ P c y RS RW nb ∧ ρ 54 = some (.dat d54)) (ρ := ρ2.set 54 (.dat d54)) (fun _ _ U s => ⟨U.1.on fun j h _ => s j h, (s 54 (by decide)).trans U.2⟩) (.cons (fun _ _ U => pgE3 U.1 U.2) (.cons (fun _ _ U => pgE4 U.1) .nil)) ⟨H2.cell, H2.pre⟩ ⟨U2.on fun j _ h => if_neg h, rfl⟩ (by show 8 + 7 ≤ 1000; decide)
  obtain ⟨d, hd, τ, e⟩ := H5.pick (N := N) (pgE5 (Φ := Φ) U5) (ev_modE U5.q22 (by decide) ei) (by exact hi) (by show 15 + 4 ≤ 1000; decide)
  exact ⟨d, hd, τ, (e1 _).trans ((e2 _).trans ((e3 _).trans ((e5 _).trans (e _))))⟩
theorem pg_bad : ∀ d ∈ pgL RS RW nb, BadProg d := by
  have am : ∀ {b : PyData} {R : List PyData} {W : PyData}, amongB b (1, 6) = false → BadProg (.tuple [.tuple R, b, W]) := fun h => .inr (.inr (.inl h))
  have rw_ : ∀ {W : PyData}, BadRows RS.length nb W → BadProg (.tuple [.tuple RS, .int nb, W]) := fun h => .inr (.inr (.inr ⟨_, rfl, h⟩))
  refine all_app (all_app (all_app ?_ (all_app ?_ all_nil)) (all_app ?_ (all_app ?_ all_nil))) ?_
  · exact all_cons (am rfl) (all_cons (am rfl) (all_cons (am rfl) (all_cons trivial all_nil)))
  · exact all_cons trivial (all_cons (am rfl) (all_cons trivial (all_cons (rw_ nt_l) all_nil)))
  · exact all_cons trivial (all_cons (rw_ nt_n) (all_cons (.inl (by decide : 3 < 4)) (all_cons (am rfl) all_nil)))
  · exact all_cons (am rfl) (all_cons (.inl (by decide : 3 < 4)) (all_cons trivial all_nil))
  · exact all_cons trivial (all_cons (am rfl) (all_cons trivial (all_cons trivial all_nil)))
theorem pg_small (h1 : ndAll RS ≤ 9) (h2 : ndAll RW ≤ 790000) : ∀ d ∈ pgL RS RW nb, nd d ≤ 1000000 := by
  have s1 : nd (.str (Str.ofString "1")) ≤ 10 := by decide +kernel
  have a3 : ∀ {a b : PyData}, nd a ≤ 10 → nd b ≤ 10 → nd (.tuple [a, b, .tuple RW]) ≤ 1000000 := fun {a b} ha hb => by
    show 1 + (nd a + (nd b + ((1 + ndAll RW) + 0))) ≤ 1000000
    omega
  have hr : nd (.tuple RS) ≤ 10 := by show 1 + ndAll RS ≤ 10; omega
  have hl : nd (.list RS) ≤ 10 := by show 1 + ndAll RS ≤ 10; omega
  have k4 : nd (.tuple [.tuple RS, .int nb, .none]) ≤ 1000000 := by show 1 + ((1 + ndAll RS) + (1 + (1 + 0))) ≤ 1000000; omega
  refine all_app (all_app (all_app ?_ (all_app ?_ all_nil)) (all_app ?_ (all_app ?_ all_nil))) ?_
  · exact all_cons (a3 hr (by decide)) (all_cons (a3 hr (by decide)) (all_cons (a3 hr (by decide)) (all_cons (a3 hl (by show 1 ≤ 10; decide)) all_nil)))
  · refine all_cons ?_ (all_cons (a3 (by decide) (by decide)) (all_cons ?_ (all_cons ?_ all_nil)))
    · show 1 + ((1 + ndAll RS) + (1 + 0)) ≤ 1000000; omega
    · show 1 + ((1 + ndAll RS) + (1 + ((1 + ndAll RW) + 0))) ≤ 1000000; omega
    · show 1 + ((1 + ndAll RS) + (1 + ((1 + ndAll RW) + 0))) ≤ 1000000; omega
  · exact all_cons (by decide) (all_cons k4 (all_cons (by decide +kernel) (all_cons (by decide) all_nil)))
  · refine all_cons (by decide +kernel) (all_cons (by decide) (all_cons ?_ all_nil))
    show 1 + ((1 + ndAll RS) + (1 + ((1 + ndAll RW) + (1 + 0)))) ≤ 1000000; omega
  · exact all_cons (by decide) (all_cons (a3 hr s1) (all_cons (a3 (by decide) (by show 1 ≤ 10; decide)) (all_cons (by decide) all_nil)))
end
theorem r_unpack3 {N : Nat} {Φ : Phi} {ρ : Rho} {σ : Store} {i j l : Nat} {e : CE} {a b d : PyData} {cs : List CS} (h : evE Φ e ρ σ = some (.dat (.tuple [a, b, d]), σ)) : evSs N Φ (.unpack [i, j, l] e :: cs) ρ σ = evSs N Φ cs (((ρ.set i (.dat a)).set j (.dat b)).set l (.dat d)) σ := by
  rw [es_cons, es_unpack, h]
  rfl
theorem ins_nd {A : List PyData} {s : PyData} (m : Nat) : ndAll (A.take m ++ [s] ++ A.drop m) = ndAll A + nd s := by
  have := nd_app (A.take m) (A.drop m)
  rw [List.take_append_drop] at this
  rw [nd_app, nd_app]
  show ndAll (A.take m) + (nd s + 0) + ndAll (A.drop m) = _
  omega
theorem ins_prog {RS RW : List PyData} {nb m : Nat} {s : PyData} (h1 : ndAll RS ≤ 9) (h2 : ndAll RW ≤ 790000) (hs : nd s ≤ 3000) : nd (.tuple [.tuple RS, .int nb, .tuple (RW.take m ++ [s] ++ RW.drop m)]) ≤ 1000000 := by
  show 1 + ((1 + ndAll RS) + (1 + ((1 + ndAll (RW.take m ++ [s] ++ RW.drop m)) + 0))) ≤ 1000000
  rw [ins_nd]
  omega
theorem ins_bad {RS RW : List PyData} {nb m n : Nat} {s : PyData} (hl : RS.length = n) (h : BadSt n nb s) : BadProg (.tuple [.tuple RS, .int nb, .tuple (RW.take m ++ [s] ++ RW.drop m)]) := by
  subst hl
  exact .inr (.inr (.inr ⟨_, rfl, bad_of h mid⟩))
theorem rs_nd {RS : List PyData} {d : PyData} (m : Nat) (h1 : ndAll RS ≤ 9) (hd : nd d ≤ 10) : ndAll (RS.take m ++ [d] ++ RS.drop (m + 1)) ≤ 30 := by
  have h2 := take_nd m RS
  have h3 := nd_app (RS.take (m + 1)) (RS.drop (m + 1))
  rw [List.take_append_drop] at h3
  rw [nd_app, nd_app]
  show ndAll (RS.take m) + (nd d + 0) + ndAll (RS.drop (m + 1)) ≤ 30
  omega
theorem rs_bad {A B : List PyData} {d b r : PyData} (h : isRangeB d = false) : BadProg (.tuple [.tuple (A ++ [d] ++ B), b, r]) := .inr (.inl (by
  rw [List.all_eq_false]
  exact ⟨isRangeB d, List.mem_map.mpr ⟨d, mid, rfl⟩, by rw [h]; decide⟩))
noncomputable def deepS (n nb : Nat) (d : PyData) : PyData := .tuple [sAsk, .tuple [.int 0, .tuple (zs n), .tuple (zs nb)], .tuple [.tuple [sTimes, .int 0, .tuple [d]]], .tuple []]
theorem deep_bad {n nb : Nat} {d : PyData} (h : BadSt n nb d) : BadSt n nb (deepS n nb d) := bi1 (.inl (bad_of (bi2 (bad_of h (.head _))) (.head _)))
theorem deep_nd {n nb : Nat} {d : PyData} (hn : n ≤ 3) (hb : nb ≤ 6) (h : nd d ≤ 1000) : nd (deepS n nb d) ≤ 3000 := by
  have h0 := zs_nd n
  have h1 := zs_nd nb
  have w1 := w_nd 1
  have w2 := w_nd 2
  show 1 + (nd (.str (W 1)) + ((1 + (1 + ((1 + ndAll (zs n)) + ((1 + ndAll (zs nb)) + 0)))) + ((1 + ((1 + (nd (.str (W 2)) + (1 + ((1 + (nd d + 0)) + 0)))) + 0)) + ((1 + 0) + 0)))) ≤ 3000
  omega
section
variable {N : Nat} {Φ : Phi} {ρ : Rho} {σ : Store} {P : PyData} {c y : Int} {RS RW : List PyData} {nb : Nat}
noncomputable def sp4S : List CS := [.newcell 30 (.bin .Mod (.var 22) (.bin .Add (.prim .len [(.var 36)]) (.const (.int (1))))), .assign 49 (.call 26 [(.var 46), (.bin .FloorDiv (.var 22) (.const (.int (5))))])]
theorem sp4 (U : Us ρ P c y RS RW nb) {b : PyData} (h26 : Φ 26 [.dat P, .dat (.int (y.fdiv 5))] σ = some (.ret (.dat b), σ)) : ∃ m : Nat, m ≤ RW.length ∧ ∀ cs, evSs N Φ (sp4S ++ cs) ρ σ = evSs N Φ cs ((ρ.set 30 (.dat (.int m))).set 49 (.dat b)) σ := by
  obtain ⟨m, hm, em⟩ := fmod_nat y (b := RW.length + 1) (Nat.succ_pos _)
  refine ⟨m, Nat.le_of_lt_succ hm, fun cs => Eq.trans (r_newdat (σ₁ := σ) (d := .int m) ?_) (r_assign (v := .dat b) (σ₁ := σ) (ev_callR (vs := [.dat P, .dat (.int (y.fdiv 5))]) (el_var (v := .dat P) (by exact U.q46) (el_one (v := .dat (.int (y.fdiv 5))) (ev_divR (evV (by exact U.q22)) (by decide) (by decide)) rfl)) h26))⟩
  refine ev_binR (x := .dat (.int y)) (y := .dat (.int ((RW.length + 1 : Nat) : Int))) (evV U.q22) (ev_addI (x := (RW.length : Int)) (y := 1) (ev_lenT (evV U.q36) (Nat.le_trans U.ln (by decide))) rfl) rfl rfl ((bi_mod (by omega)).trans ?_)
  rw [em]
theorem ev_mid {x : CE} {m : Nat} {s : PyData} (q36 : ρ 36 = some (.dat (.tuple RW))) (q30 : ρ 30 = some (.dat (.int m))) (q21 : ρ 21 = some (.dat (.tuple RS))) (q52 : ρ 52 = some (.dat (.int nb))) (ln : RW.length ≤ 790000) (hm : m ≤ RW.length) (hx : evE Φ x ρ σ = some (.dat s, σ)) : evE Φ (.tup [(.var 21), (.var 52), (.bin .Add (.bin .Add (.slice (.var 36) (.const .none) (.var 30)) (.tup [x])) (.slice (.var 36) (.var 30) (.const .none)))]) ρ σ = some (.dat (.tuple [.tuple RS, .int nb, .tuple (RW.take m ++ [s] ++ RW.drop m)]), σ) :=
  ev_T (edd (evV q21) (edd (evV q52) (edd (ev_ins (ev_sl (dx := .tuple RW) (dl := .none) (du := .int m) (evV q36) rfl (evV q30) (sl_tA (by omega) (by omega))) hx (ev_sl (dx := .tuple RW) (dl := .int m) (du := .none) (evV q36) (evV q30) rfl (sl_tC (by omega) (by omega))) (cut_len m RW ln)) ed0)))
theorem spoilt_run (U : Us ρ P c y RS RW nb) {n : Nat} (hn : RS.length = n) (h1 : ndAll RS ≤ 9) (h2 : ndAll RW ≤ 790000) (b6 : nb ≤ 6) {e b : PyData} (he : isExB n nb e = false) (hen : nd e ≤ 60) (hb : BadSt n nb b) (hbn : nd b ≤ 1000) (h25 : Φ 25 [.dat P, .dat (.int (y.fdiv 4))] σ = some (.ret (.dat e), σ)) (h26 : Φ 26 [.dat P, .dat (.int (y.fdiv 5))] σ = some (.ret (.dat b), σ)) :
    ∃ d, BadProg d ∧ nd d ≤ 1000000 ∧ ∃ τ, evSs N Φ (c__law_spoilt.drop 2) ρ σ = some (.ret (.dat d), σ ++ τ) := by
  obtain ⟨i8, _, e8⟩ := fmod_nat c (b := 8) (by decide)
  obtain ⟨i4, hi4, e4⟩ := fmod_nat c (b := 4) (by decide)
  have k8 : evE Φ (.cmp .Eq (.bin .Mod (.var 18) (.const (.int (8)))) (.const (.int (0)))) ρ σ = some (.dat (.bool (decide (i8 = 0))), σ) := ev_eqN 0 (ev_modE U.q18 (by decide) e8)
  have k4 : ∀ (m : Nat) {ρ' : Rho}, ρ' 18 = some (.dat (.int c)) → evE Φ (.cmp .Eq (.bin .Mod (.var 18) (.const (.int (4)))) (.const (.int m))) ρ' σ = some (.dat (.bool (decide (i4 = m))), σ) := fun m ρ' h => ev_eqN m (ev_modE h (by decide) e4)
  have nil : ∀ {d : PyData} {x : Option (Fl × Store)}, x = some (.ret (.dat d), σ) → ∃ τ, x = some (.ret (.dat d), σ ++ τ) := fun h => ⟨[], by rw [h, List.append_nil]⟩
  have hn3 : n ≤ 3 := hn ▸ U.l3
  by_cases c1 : i8 = 0
  · rw [decide_eq_true c1] at k8
    obtain ⟨pre, hpre, er⟩ := sp1 (N := N) U h25
    have hs : BadSt n nb (.tuple (pre ++ [e])) ∧ nd (.tuple (pre ++ [e])) ≤ 3000 := by
      have w3 := w_nd 3
      have w0 := w_nd 0
      rcases hpre with rfl | rfl
      · exact ⟨bs3 he, by show 1 + (nd (.str (W 3)) + (nd e + 0)) ≤ 3000; omega⟩
      · exact ⟨bs0 (by show (_ && isExB n nb e) = false; rw [he, Bool.and_false]), by show 1 + (nd (.str (W 0)) + (1 + (nd e + 0))) ≤ 3000; omega⟩
    exact ⟨_, ins_bad hn hs.1, ins_prog h1 h2 hs.2, nil (r_taken k8 er)⟩
  rw [decide_eq_false c1] at k8
  by_cases c2 : i4 = 0
  · have q := k4 0 U.q18
    rw [decide_eq_true c2] at q
    obtain ⟨m, d, hd, er⟩ := sp2 (N := N) (Φ := Φ) (σ := σ) U
    refine ⟨_, rs_bad hd.1, ?_, nil ((r_skip k8).trans (r_taken q er))⟩
    have := rs_nd m h1 hd.2
    show 1 + ((1 + ndAll (RS.take m ++ [d] ++ RS.drop (m + 1))) + (1 + ((1 + ndAll RW) + 0))) ≤ 1000000
    omega
  have q0 := k4 0 U.q18
  rw [decide_eq_false c2] at q0
  by_cases c3 : i4 = 1
  · have q := k4 1 U.q18
    rw [decide_eq_true c3] at q
    obtain ⟨d, hd, τ, er⟩ := sp3 (N := N) (Φ := Φ) (σ := σ) U
    exact ⟨d, pg_bad d hd, pg_small h1 h2 d hd, τ, (r_skip k8).trans ((r_skip q0).trans (r_taken q er))⟩
  have q1 := k4 1 U.q18
  rw [decide_eq_false c3] at q1
  obtain ⟨m, hm, e5⟩ := sp4 (N := N) U h26
  by_cases c4 : i4 = 2
  · have q := k4 2 (ρ' := (ρ.set 30 (.dat (.int m))).set 49 (.dat b)) U.q18
    rw [decide_eq_true c4] at q
    exact ⟨_, ins_bad (m := m) hn hb, ins_prog h1 h2 (Nat.le_trans hbn (by decide)), nil ((r_skip k8).trans ((r_skip q0).trans ((r_skip q1).trans ((e5 _).trans (r_taken q (r_ret (ev_mid U.q36 rfl U.q21 U.q52 U.ln hm (evV rfl))))))))⟩
  · have q := k4 2 (ρ' := (ρ.set 30 (.dat (.int m))).set 49 (.dat b)) U.q18
    rw [decide_eq_false c4] at q
    have hz : evE Φ (.tup [(.const (.int (0))), (.bin .Mult (.tup [(.const (.int (0)))]) (.prim .len [(.var 21)])), (.bin .Mult (.tup [(.const (.int (0)))]) (.var 52))]) ((ρ.set 30 (.dat (.int m))).set 49 (.dat b)) σ = some (.dat (.tuple [.int 0, .tuple (zs n), .tuple (zs nb)]), σ) := by
      rw [← hn]
      exact ev_T (edd rfl (edd (ev_reps 0 (ev_lenT (evV (by exact U.q21)) (by omega)) (by omega)) (edd (ev_reps 0 (evV (by exact U.q52)) (by omega)) ed0)))
    exact ⟨_, ins_bad (m := m) hn (deep_bad hb), ins_prog h1 h2 (deep_nd hn3 b6 hbn), nil ((r_skip k8).trans ((r_skip q0).trans ((r_skip q1).trans ((e5 _).trans ((r_skip q).trans ((r_assign hz).trans (r_ret (ev_mid (by exact U.q36) rfl (by exact U.q21) (by exact U.q52) U.ln hm (ev_T (edd rfl (edd (evV rfl) (edd (ev_T (edd (ev_T (edd rfl (edd rfl (edd (ev_T (edd (evV rfl) ed0)) ed0)))) ed0)) (edd rfl ed0)))))))))))))⟩
end
theorem s_spoilt {N k : Nat} {rs : List (Int × Int)} {nb : Nat} {rows : List Row} (P : PO rs nb rows) (c : Int) (σ : Store) : ∃ d, BadProg d ∧ nd d ≤ 1000000 ∧ tabAt tab2 N (k + 3) 27 [.dat (progD rs nb rows), .dat (.int c)] σ = some (.ret (.dat d), σ) := by
  rw [tab_step (by rfl : tab2[27]? = some ([46, 18], c__law_spoilt))]
  obtain ⟨e, he1, _, he3, he4⟩ := s_no_ex (N := N) (k := k + 1) (rows := rows) P.h3 P.b1 P.b6 ((c.fdiv 4).fdiv 4) σ
  obtain ⟨b, hb1, hb2, hb3⟩ := s_no_st (N := N) (k := k) (rows := rows) P.h3 P.b1 P.b6 ((c.fdiv 4).fdiv 5) σ
  have h1 : ndAll (rs.map pairD) ≤ 9 := by rw [nd_pairs]; have := P.h3; omega
  have h2 : ndAll (rowsD rows) ≤ 790000 := Nat.le_trans (rows_nd P.h3 P.b6 rows P.ok) (by have := P.sz; omega)
  obtain ⟨d, hd1, hd2, τ, er⟩ := spoilt_run (N := N) (Φ := tabAt tab2 N (k + 2)) (σ := σ) (P := progD rs nb rows) (c := c) (y := c.fdiv 4) (RS := rs.map pairD) (RW := rowsD rows) (nb := nb) (ρ := Rho.set (Rho.set (Rho.set (Rho.set (Rho.set (Rho.set (fun _ => none) 46 (.dat (progD rs nb rows))) 18 (.dat (.int c))) 21 (.dat (.tuple (rs.map pairD)))) 52 (.dat (.int nb))) 36 (.dat (.tuple (rowsD rows)))) 22 (.dat (.int (c.fdiv 4)))) ⟨rfl, rfl, rfl, rfl, rfl, rfl, by rw [List.length_map]; exact P.h3, Nat.le_trans (len_nd _) h2⟩ (n := rs.length) (List.length_map ..) h1 h2 P.b6 he1 he3 hb1 hb2 he4 hb3
  exact ⟨d, hd1, hd2, run_cell rfl (Eq.trans (r_unpack3 rfl) (Eq.trans (r_assign (ev_divR (evV rfl) (by decide) (by decide))) er))⟩
structure Wb (ni nb i : Nat) (R : List Row) : Prop where
  ok : rowsOk ni nb R
  sz : rowsSz R + 1 ≤ 61 * 2 ^ i
  dp : rowsDp R ≤ 3 + i
noncomputable def zeroE (n nb : Nat) (x : Int) : Ex := ⟨x, List.replicate n 0, List.replicate nb 0⟩
theorem zeroE_ok (n nb : Nat) (x : Int) : (zeroE n nb x).ok n nb := ⟨List.length_replicate .., List.length_replicate .., fun f h => by rw [(List.mem_replicate.mp h).2]; decide, fun f h => by rw [(List.mem_replicate.mp h).2]; decide⟩
theorem take_ok {ni nb : Nat} {R : List Row} (h : rowsOk ni nb R) : rowsOk ni nb (R.take 1) := by
  cases R with
  | nil => exact h
  | cons r R => exact ⟨h.1, trivial⟩
theorem take_sz (R : List Row) : rowsSz (R.take 1) ≤ rowsSz R := by
  cases R with
  | nil => exact Nat.le_refl _
  | cons r R => exact Nat.add_le_add_left (Nat.zero_le _) _
theorem take_dp (R : List Row) : rowsDp (R.take 1) ≤ rowsDp R := by
  cases R with
  | nil => exact Nat.le_refl _
  | cons r R => exact Nat.max_le.mpr ⟨Nat.le_max_left .., Nat.le_trans (dp_pos R) (Nat.le_max_right ..)⟩
theorem wb_n {a b x : Nat} (h : a + 1 ≤ 61 * 2 ^ x) (k : b ≤ 2 * a + 1) : b + 1 ≤ 61 * 2 ^ (x + 1) := by
  rw [Nat.pow_succ]
  omega
theorem dp1 {r : Row} {m : Nat} (h : r.dp ≤ m) : rowsDp [r] ≤ m + 1 := Nat.max_le.mpr ⟨Nat.succ_le_succ h, Nat.succ_le_succ (Nat.zero_le _)⟩
theorem wb_times {n nb i t : Nat} {R : List Row} (h : Wb n nb i R) (ht : t ≤ 8) : Wb n nb (i + 1) [.times t R] := ⟨⟨⟨ht, h.ok⟩, trivial⟩, wb_n h.sz (by show 1 + rowsSz R + 0 ≤ 2 * rowsSz R + 1; omega), dp1 h.dp⟩
theorem wb_ask0 {n nb i : Nat} {R : List Row} (h : Wb n nb i R) : Wb n nb (i + 1) [.ask (zeroE n nb 0) [] R] := ⟨⟨⟨zeroE_ok n nb 0, trivial, h.ok⟩, trivial⟩, wb_n h.sz (by show 1 + 0 + rowsSz R + 0 ≤ 2 * rowsSz R + 1; omega), dp1 (Nat.max_le.mpr ⟨Nat.le_trans (by decide : 1 ≤ 3) (Nat.le_add_right ..), h.dp⟩)⟩
theorem wb_ask1 {n nb i : Nat} {R : List Row} (h : Wb n nb i R) : Wb n nb (i + 1) [.ask (zeroE n nb 0) R (R.take 1)] := ⟨⟨⟨zeroE_ok n nb 0, h.ok, take_ok h.ok⟩, trivial⟩, wb_n h.sz (by have := take_sz R; show 1 + rowsSz R + rowsSz (R.take 1) + 0 ≤ 2 * rowsSz R + 1; omega), dp1 (Nat.max_le.mpr ⟨h.dp, Nat.le_trans (take_dp R) h.dp⟩)⟩
noncomputable def wrapS : List CS := [.assign 20 (.bin .Mod (.bin .FloorDiv (.call 14 [(.bin .FloorDiv (.call 13 [(.var 16), (.const (.int (41)))]) (.const (.int (36)))), (.var 17)]) (.const (.int (5)))) (.const (.int (5)))), .assign 36 (.idx (.lst [(.tup [(.tup [(.const (.str (Str.ofString "times"))), (.var 20), (.var 36)])]), (.tup [(.tup [(.const (.str (Str.ofString "ask"))), (.var 55), (.tup []), (.var 36)])]), (.tup [(.tup [(.const (.str (Str.ofString "ask"))), (.var 55), (.var 36), (.slice (.var 36) (.const .none) (.const (.int (1))))])])]) (.bin .Mod (.var 20) (.const (.int (3)))))]
section
variable {N : Nat} {Φ : Phi} {ρ : Rho} {σ : Store} {n nb : Nat} {X : PyData} {z x : Int}
theorem wrap_step {i j : Nat} {R : List Row} (h : Wb n nb i R) (hi : i ≤ 8) (h13 : Φ 13 [.dat X, .dat (.int 41)] σ = some (.ret (.dat (.int z)), σ)) (h14 : Φ 14 [.dat (.int (z.fdiv 36)), .dat (.int j)] σ = some (.ret (.dat (.int x)), σ)) (q16 : ρ 16 = some (.dat X)) (q17 : ρ 17 = some (.dat (.int j))) (q55 : ρ 55 = some (.dat (zeroE n nb 0).d)) (q36 : ρ 36 = some (.dat (.tuple (rowsD R)))) :
    ∃ t R', Wb n nb (i + 1) R' ∧ evSs N Φ wrapS ρ σ = some (.next ((ρ.set 20 (.dat (.int t))).set 36 (.dat (.tuple (rowsD R')))), σ) := by
  obtain ⟨t, ht, et⟩ := fmod_nat (x.fdiv 5) (b := 5) (by decide)
  obtain ⟨m, hm, em⟩ := fmod_nat (t : Int) (b := 3) (by decide)
  have hlen : (rowsD R).length ≤ 1000000 := by
    have h1 := len_sz R
    have h2 := h.sz
    have h3 : 2 ^ i ≤ 2 ^ 8 := Nat.pow_le_pow_right (by decide) hi
    rw [rowsD_len]
    omega
  have hsl : rowsD (R.take 1) = (rowsD R).take 1 := by rw [rowsD_map, rowsD_map, List.map_take]
  have hR : ∃ R', Wb n nb (i + 1) R' ∧ [PyData.tuple (rowsD [.times t R]), .tuple (rowsD [.ask (zeroE n nb 0) [] R]), .tuple (rowsD [.ask (zeroE n nb 0) R (R.take 1)])][m]? = some (.tuple (rowsD R')) := by
    match m, hm with
    | 0, _ => exact ⟨_, wb_times h (by omega), rfl⟩
    | 1, _ => exact ⟨_, wb_ask0 h, rfl⟩
    | 2, _ => exact ⟨_, wb_ask1 h, rfl⟩
  obtain ⟨R', hR', hq⟩ := hR
  have hc13 : evE Φ (.call 13 [(.var 16), (.const (.int (41)))]) ρ σ = some (.dat (.int z), σ) := ev_callR (vs := [.dat X, .dat (.int 41)]) (el_var (v := .dat X) q16 (el_one (v := .dat (.int 41)) rfl rfl)) h13
  have hc14 : evE Φ (.call 14 [(.bin .FloorDiv (.call 13 [(.var 16), (.const (.int (41)))]) (.const (.int (36)))), (.var 17)]) ρ σ = some (.dat (.int x), σ) := ev_callR (vs := [.dat (.int (z.fdiv 36)), .dat (.int j)]) (el_one (v := .dat (.int (z.fdiv 36))) (ev_divR hc13 (by decide) (by decide)) (el_var (v := .dat (.int j)) q17 rfl)) h14
  have h20 : evE Φ (.bin .Mod (.bin .FloorDiv (.call 14 [(.bin .FloorDiv (.call 13 [(.var 16), (.const (.int (41)))]) (.const (.int (36)))), (.var 17)]) (.const (.int (5)))) (.const (.int (5)))) ρ σ = some (.dat (.int t), σ) := by
    have := ev_modR (m := 5) (ev_divR (m := 5) hc14 (by decide) (by decide)) (by decide)
    have et' : (x.fdiv 5).fmod 5 = (t : Int) := et
    rw [et'] at this
    exact this
  refine ⟨t, R', hR', Eq.trans (r_assign h20) (Eq.trans (r_assign (v := .dat (.tuple (rowsD R'))) (σ₁ := σ) (ev_idxR (x := .fresh [.tuple (rowsD [.times t R]), .tuple (rowsD [.ask (zeroE n nb 0) [] R]), .tuple (rowsD [.ask (zeroE n nb 0) R (R.take 1)])]) (y := .dat (.int m)) (ev_L ?_) (ev_modE rfl (by decide) em) rfl rfl (ix_list (Nat.lt_trans hm (by decide)) hq))) es_nil)⟩
  refine edd (ev_T (edd (ev_T (edd rfl (edd (evV rfl) (edd (evV (by exact q36)) ed0)))) ed0)) (edd (ev_T (edd (ev_T (edd rfl (edd (evV (by exact q55)) (edd rfl (edd (evV (by exact q36)) ed0))))) ed0)) (edd (ev_T (edd (ev_T (edd rfl (edd (evV (by exact q55)) (edd (evV (by exact q36)) (edd (d := .tuple (rowsD (R.take 1))) ?_ ed0))))) ed0)) ed0))
  rw [hsl]
  exact ev_sl (dx := .tuple (rowsD R)) (dl := .none) (du := .int (1 : Nat)) (evV (by exact q36)) rfl rfl (sl_tA hlen (by decide))
theorem wraps_ok {R : List Row} (m : Nat) (hm : m ≤ 8) (h : Wb n nb 0 R) (h13 : Φ 13 [.dat X, .dat (.int 41)] σ = some (.ret (.dat (.int z)), σ)) (h14 : ∀ j : Nat, j < 9 → ∃ x, Φ 14 [.dat (.int (z.fdiv 36)), .dat (.int j)] σ = some (.ret (.dat (.int x)), σ)) (q16 : ρ 16 = some (.dat X)) (q55 : ρ 55 = some (.dat (zeroE n nb 0).d)) (q36 : ρ 36 = some (.dat (.tuple (rowsD R)))) :
    ∃ ρ' R', Wb n nb m R' ∧ forGo (.one 17) (fun ρ' σ' => evSs N Φ wrapS ρ' σ') ((List.range m).map fun k => PyData.int (k : Nat)) ρ σ = some (.next ρ', σ) ∧ ρ' 36 = some (.dat (.tuple (rowsD R'))) ∧ ∀ j, j ≠ 17 → j ≠ 20 → j ≠ 36 → ρ' j = ρ j := by
  obtain ⟨ρ', σ', e, ⟨rfl, hs, R', hw, hq⟩⟩ := forGo_cnt (t := .one 17) (body := fun ρ' σ' => evSs N Φ wrapS ρ' σ') (fun i ρ' σ' => σ' = σ ∧ (∀ j, j ≠ 17 → j ≠ 20 → j ≠ 36 → ρ' j = ρ j) ∧ ∃ R', Wb n nb i R' ∧ ρ' 36 = some (.dat (.tuple (rowsD R')))) ((List.range m).map fun k => PyData.int (k : Nat)) 0 ρ σ (fun j d hd ρ₀ σ₀ hP => by
    obtain ⟨rfl, hs, R₁, hw, hq⟩ := hP
    have hj : j < m := by
      have := (List.getElem?_eq_some_iff.mp hd).1
      rwa [List.length_map, List.length_range] at this
    rw [List.getElem?_map, List.getElem?_range hj] at hd
    cases hd
    rw [Nat.zero_add] at hw ⊢
    obtain ⟨x, hx⟩ := h14 j (by omega)
    obtain ⟨t, R₂, hw2, e2⟩ := wrap_step (N := N) (ρ := ρ₀.set 17 (.dat (.int j))) hw (by omega) h13 hx ((hs 16 (by decide) (by decide) (by decide)).trans q16) rfl ((hs 55 (by decide) (by decide) (by decide)).trans q55) (by exact hq)
    exact ⟨_, _, σ₀, rfl, e2, rfl, fun i a b c => ((if_neg c).trans ((if_neg b).trans (if_neg a))).trans (hs i a b c), R₂, hw2, rfl⟩) ⟨rfl, fun _ _ _ _ => rfl, R, h, q36⟩
  rw [List.length_map, List.length_range, Nat.zero_add] at hw
  exact ⟨ρ', R', hw, e, hq, hs⟩
end
theorem rowsD_repl (k : Nat) (r : Row) : rowsD (List.replicate k r) = List.replicate k r.d := by rw [rowsD_map, List.map_replicate]
theorem rep_ok {ni nb : Nat} {r : Row} (h : r.ok ni nb) : ∀ k, rowsOk ni nb (List.replicate k r)
  | 0 => trivial
  | k + 1 => ⟨h, rep_ok h k⟩
noncomputable def put0 (n nb : Nat) : Row := .put 0 (zeroE n nb 1)
theorem rep_sz (n nb : Nat) : ∀ k, rowsSz (List.replicate k (put0 n nb)) = k
  | 0 => rfl
  | k + 1 => by show 1 + rowsSz (List.replicate k (put0 n nb)) = k + 1; rw [rep_sz n nb k, Nat.add_comm]
theorem rep_dp (n nb : Nat) : ∀ k, rowsDp (List.replicate k (put0 n nb)) ≤ 1
  | 0 => Nat.le_refl _
  | k + 1 => Nat.max_le.mpr ⟨Nat.le_refl _, rep_dp n nb k⟩
noncomputable def heavy (n nb t : Nat) : List Row := .times 8 (List.replicate 24 (put0 n nb)) :: List.replicate (6 + t) (put0 n nb)
theorem heavy_wb {n nb t : Nat} (hb : 1 ≤ nb) (ht : t < 4) : Wb n nb 8 (heavy n nb t) := by
  have h0 : (put0 n nb).ok n nb := ⟨hb, zeroE_ok n nb 1⟩
  refine ⟨⟨⟨Nat.le_refl _, rep_ok h0 24⟩, rep_ok h0 _⟩, ?_, ?_⟩
  · show 1 + rowsSz (List.replicate 24 (put0 n nb)) + rowsSz (List.replicate (6 + t) (put0 n nb)) + 1 ≤ 61 * 2 ^ 8
    rw [rep_sz, rep_sz]
    omega
  · exact Nat.max_le.mpr ⟨Nat.succ_le_succ (Nat.le_trans (rep_dp n nb 24) (by decide)), Nat.le_trans (rep_dp n nb _) (by decide)⟩
section
variable {N : Nat} {Φ : Phi} {ρ : Rho} {σ : Store}
theorem ev_repD {a b : CE} {d : PyData} {n : Nat} (ha : evE Φ a ρ σ = some (.dat d, σ)) (hb : evE Φ b ρ σ = some (.dat (.int n), σ)) (hn : n ≤ 1000) : evE Φ (.bin .Mult (.tup [a]) b) ρ σ = some (.dat (.tuple (List.replicate n d)), σ) := by
  refine ev_binR (x := .dat (.tuple [d])) (y := .dat (.int n)) (ev_T (edd ha ed0)) hb rfl rfl ?_
  show (if (n : Int).natAbs * 1 ≤ 65536 ∧ (n : Int).natAbs ≤ 65536 then some (AV.dat (.tuple ((List.replicate (n : Int).toNat [d]).flatten))) else none) = _
  rw [if_pos (by omega), Int.toNat_natCast, flat_rep]
noncomputable def heavyS : List CS := [.assign 38 (.tup [(.const (.str (Str.ofString "put"))), (.const (.int (0))), (.tup [(.const (.int (1))), (.bin .Mult (.tup [(.const (.int (0)))]) (.prim .len [(.idx (.var 46) (.const (.int (0))))])), (.bin .Mult (.tup [(.const (.int (0)))]) (.idx (.var 46) (.const (.int (1)))))])]), .assign 36 (.bin .Add (.tup [(.tup [(.const (.str (Str.ofString "times"))), (.const (.int (8))), (.bin .Mult (.tup [(.var 38)]) (.const (.int (24))))])]) (.bin .Mult (.tup [(.var 38)]) (.bin .Add (.const (.int (6))) (.bin .Mod (.bin .FloorDiv (.call 13 [(.var 16), (.const (.int (41)))]) (.const (.int (16)))) (.const (.int (4)))))))]
theorem heavy_ok {rs : List (Int × Int)} {nb : Nat} {R X : PyData} {z : Int} (h3 : rs.length ≤ 3) (b6 : nb ≤ 6) (q46 : ρ 46 = some (.dat (.tuple [.tuple (rs.map pairD), .int nb, R]))) (q16 : ρ 16 = some (.dat X)) (h13 : Φ 13 [.dat X, .dat (.int 41)] σ = some (.ret (.dat (.int z)), σ)) :
    ∃ t, t < 4 ∧ evSs N Φ heavyS ρ σ = some (.next ((ρ.set 38 (.dat (put0 rs.length nb).d)).set 36 (.dat (.tuple (rowsD (heavy rs.length nb t))))), σ) := by
  obtain ⟨t, ht, et⟩ := fmod_nat (z.fdiv 16) (b := 4) (by decide)
  have et' : (z.fdiv 16).fmod 4 = (t : Int) := et
  refine ⟨t, ht, Eq.trans (r_assign (v := .dat (put0 rs.length nb).d) (σ₁ := σ) (ev_T (edd rfl (edd rfl (edd (ev_good q46 h3 b6 1) ed0))))) (Eq.trans (r_assign (v := .dat (.tuple (rowsD (heavy rs.length nb t)))) (σ₁ := σ) ?_) es_nil)⟩
  rw [show rowsD (heavy rs.length nb t) = [PyData.tuple [sTimes, .int 8, .tuple (List.replicate 24 (put0 rs.length nb).d)]] ++ List.replicate (6 + t) (put0 rs.length nb).d from by
    rw [← rowsD_repl, ← rowsD_repl]
    rfl]
  refine ev_binR (x := .dat (.tuple [.tuple [sTimes, .int 8, .tuple (List.replicate 24 (put0 rs.length nb).d)]])) (y := .dat (.tuple (List.replicate (6 + t) (put0 rs.length nb).d))) (ev_T (edd (ev_T (edd rfl (edd rfl (edd (ev_repD (n := 24) (evV rfl) rfl (by decide)) ed0)))) ed0)) (ev_repD (n := 6 + t) (evV rfl) ?_ (by omega)) rfl rfl (bi_addT (le_lim (m := 100) (by rw [List.length_replicate]; show 1 + (6 + t) ≤ 100; omega) (by decide)))
  rw [show ((6 + t : Nat) : Int) = 6 + (z.fdiv 16).fmod 4 from by rw [et']; omega]
  exact ev_addI rfl (ev_modR (ev_divR (ev_callR (vs := [.dat X, .dat (.int 41)]) (el_var (v := .dat X) (by exact q16) (el_one (v := .dat (.int 41)) rfl rfl)) h13) (by decide) (by decide)) (by decide))
theorem ev_cmpG {op : CmpOp} {a b : CE} {x y : AV} {dx dy : PyData} {r : Bool} (h1 : evE Φ a ρ σ = some (x, σ)) (h2 : evE Φ b ρ σ = some (y, σ)) (h3 : rd σ x = some dx) (h4 : rd σ y = some dy) (h5 : cmpD op dx dy = some r) : evE Φ (.cmp op a b) ρ σ = some (.dat (.bool r), σ) := by
  rw [ev_cmp, h1, Option.bind_some, h2, Option.bind_some, h3, Option.bind_some, h4, Option.bind_some, h5]
  rfl
theorem ne_int (i : Int) : cmpD .NotEq (.int i) (.int i) = some false := by rw [cm_nei, beq_self_eq_true]; rfl
theorem ne_none : cmpD .NotEq (.list [.none]) (.list [.none]) = some false := by decide +kernel
theorem ne_great : cmpD .NotEq (.str (Str.ofString "great")) (.str (Str.ofString "great")) = some false := by decide +kernel
theorem ne_bad : cmpD .NotEq (.str (Str.ofString "bad")) (.str (Str.ofString "bad")) = some false := by decide +kernel
theorem c1 {f i : Nat} {d e : PyData} (q : ρ i = some (.dat d)) (h : Φ f [.dat d] σ = some (.ret (.dat e), σ)) : evE Φ (.call f [(.var i)]) ρ σ = some (.dat e, σ) := ev_callR (vs := [.dat d]) (el_var (v := .dat d) q rfl) h
theorem same_ok {f g : Nat} {d : PyData} {w : Int} {cs : List CS} (q36 : ρ 36 = some (.dat d)) (hf : Φ f [.dat d] σ = some (.ret (.dat (.int w)), σ)) (hg : Φ g [.dat d] σ = some (.ret (.dat (.int w)), σ)) (h15 : Φ 15 [.dat (.int w)] σ = some (.ret (.dat (.bool true)), σ)) :
    evSs N Φ (.ite (.bop .Or [(.nott (.call 15 [(.call f [(.var 36)])])), (.cmp .NotEq (.call f [(.var 36)]) (.call g [(.var 36)]))]) [.ret (.const (.bool false))] [] :: cs) ρ σ = evSs N Φ cs ρ σ :=
  r_skip (ev_orF (ev_notT (p := true) (ev_callR (vs := [.dat (.int w)]) (el_one (v := .dat (.int w)) (c1 q36 hf) rfl) h15)) (ev_or1 (ev_cmpR (c1 q36 hf) (c1 q36 hg) (ne_int w))))
noncomputable def badLoop : List CS := [.ite (.cmp .NotEq (.call 24 [(.call 27 [(.var 47), (.call 14 [(.call 13 [(.var 16), (.const (.int (42)))]), (.var 17)])])]) (.const (.str (Str.ofString "bad")))) [.ret (.const (.bool false))] []]
theorem law_end {X D G : PyData} {w dp : Nat} {z : Int} (q16 : ρ 16 = some (.dat X)) (q36 : ρ 36 = some (.dat D)) (q47 : ρ 47 = some (.dat G)) (hw : Φ 11 [.dat D] σ = some (.ret (.dat (.int w)), σ)) (hlw : Φ 22 [.dat D] σ = some (.ret (.dat (.int w)), σ)) (hd : Φ 10 [.dat D] σ = some (.ret (.dat (.int dp)), σ)) (hld : Φ 23 [.dat D] σ = some (.ret (.dat (.int dp)), σ)) (h15 : ∀ i : Int, Φ 15 [.dat (.int i)] σ = some (.ret (.dat (.bool true)), σ))
    (h0 : Φ 11 [.dat (.tuple [])] σ = some (.ret (.dat (.int 0)), σ)) (h1 : Φ 10 [.dat (.tuple [])] σ = some (.ret (.dat (.int 1)), σ)) (ht1 : w ≤ 200 ∧ dp ≤ 6 → Φ 24 [.dat G] σ = some (.ret (.fresh [.none]), σ)) (ht2 : ¬ (w ≤ 200 ∧ dp ≤ 6) → Φ 24 [.dat G] σ = some (.ret (.dat (.str (Str.ofString "great"))), σ))
    (h13 : Φ 13 [.dat X, .dat (.int 42)] σ = some (.ret (.dat (.int z)), σ)) (hsp : ∀ j : Nat, j < 8 → ∃ x d, Φ 14 [.dat (.int z), .dat (.int j)] σ = some (.ret (.dat (.int x)), σ) ∧ Φ 27 [.dat G, .dat (.int x)] σ = some (.ret (.dat d), σ) ∧ Φ 24 [.dat d] σ = some (.ret (.dat (.str (Str.ofString "bad"))), σ)) :
    evSs N Φ (c_law.drop 5) ρ σ = some (.ret (.dat (.bool true)), σ) := by
  have loop : ∀ ρ : Rho, ρ 16 = some (.dat X) → ρ 47 = some (.dat G) → evSs N Φ (c_law.drop 10) ρ σ = some (.ret (.dat (.bool true)), σ) := fun ρ p16 p47 => by
    obtain ⟨ρ', σ', e, ⟨rfl, _⟩⟩ := forGo_cnt (t := .one 17) (body := fun ρ' σ' => evSs N Φ badLoop ρ' σ') (fun _ ρ' σ' => σ' = σ ∧ ρ' 16 = some (.dat X) ∧ ρ' 47 = some (.dat G)) ((List.range 8).map fun k => PyData.int (k : Nat)) 0 ρ σ (fun j d hdd ρ₀ σ₀ hP => by
      obtain ⟨rfl, r16, r47⟩ := hP
      have hj : j < 8 := by
        have := (List.getElem?_eq_some_iff.mp hdd).1
        rwa [List.length_map, List.length_range] at this
      rw [List.getElem?_map, List.getElem?_range hj] at hdd
      cases hdd
      obtain ⟨x, d, e1, e2, e3⟩ := hsp j hj
      refine ⟨_, _, σ₀, rfl, Eq.trans (r_skip (ev_cmpR (ev_callR (vs := [.dat d]) (el_one (v := .dat d) (ev_callR (vs := [.dat G, .dat (.int x)]) (el_var (v := .dat G) (by exact r47) (el_one (v := .dat (.int x)) (ev_callR (vs := [.dat (.int z), .dat (.int j)]) (el_one (v := .dat (.int z)) (ev_callR (vs := [.dat X, .dat (.int 42)]) (el_var (v := .dat X) (by exact r16) (el_one (v := .dat (.int 42)) rfl rfl)) h13) (el_var (v := .dat (.int j)) rfl rfl)) e1) rfl)) e2) rfl) e3) rfl ne_bad)) es_nil, rfl, r16, r47⟩) ⟨rfl, p16, p47⟩
    exact Eq.trans (r_forS (vs := [.dat (.int (8 : Nat))]) (ds := [.int (8 : Nat)]) rfl rfl rfl (range_it (by decide)) e) (r_ret rfl)
  have last : ∀ (ρ : Rho) (v : AV) (u : PyData), ρ 16 = some (.dat X) → ρ 47 = some (.dat G) → ρ 56 = some (.dat u) → Φ 24 [.dat G] σ = some (.ret v, σ) → rd σ v = some u → cmpD .NotEq u u = some false → evSs N Φ (c_law.drop 9) ρ σ = some (.ret (.dat (.bool true)), σ) := fun ρ v u p16 p47 p56 e1 e2 e3 =>
    Eq.trans (r_skip (σ₁ := σ) (ev_orF (ev_cmpG (ev_callR (vs := [.dat G]) (el_var (v := .dat G) p47 rfl) e1) (evV p56) e2 rfl e3) (ev_orF (ev_cmpR (ev_callR (vs := [.dat (.tuple [])]) rfl h0) rfl (ne_int 0)) (ev_or1 (ev_cmpR (ev_callR (vs := [.dat (.tuple [])]) rfl h1) rfl (ne_int 1)))))) (loop ρ p16 p47)
  refine Eq.trans (same_ok q36 hw hlw (h15 _)) (Eq.trans (same_ok q36 hd hld (h15 _)) (Eq.trans (r_assign (v := .fresh [.none]) (σ₁ := σ) rfl) ?_))
  have hor : evE Φ (.bop .Or [(.cmp .Gt (.call 22 [(.var 36)]) (.const (.int (200)))), (.cmp .Gt (.call 23 [(.var 36)]) (.const (.int (6))))]) (ρ.set 56 (.dat (.list [.none]))) σ = some (.dat (.bool (decide (200 < (w : Int)) || decide (6 < (dp : Int)))), σ) := ev_orN (ev_cmpR (c1 (by exact q36) hlw) rfl (cm_gt _ _)) fun _ => ev_or1 (ev_cmpR (c1 (by exact q36) hld) rfl (cm_gt _ _))
  by_cases hq : w ≤ 200 ∧ dp ≤ 6
  · rw [decide_eq_false (by omega : ¬ 200 < (w : Int)), decide_eq_false (by omega : ¬ 6 < (dp : Int))] at hor
    exact Eq.trans (r_skip hor) (last _ _ (.list [.none]) (by exact q16) (by exact q47) rfl (ht1 hq) rfl ne_none)
  · rw [show (decide (200 < (w : Int)) || decide (6 < (dp : Int))) = true from by
      rw [Bool.or_eq_true, decide_eq_true_iff, decide_eq_true_iff]
      omega] at hor
    exact Eq.trans (r_next ((r_true hor).trans ((r_assign (v := .dat (.str (Str.ofString "great"))) (σ₁ := σ) rfl).trans es_nil))) (last _ _ (.str (Str.ofString "great")) (by exact q16) (by exact q47) rfl (ht2 hq) rfl ne_great)
end
theorem Wb.po {rs : List (Int × Int)} {nb i : Nat} {rows R : List Row} (B : PB rs nb rows) (h : Wb rs.length nb i R) (hi : i ≤ 8) : PO rs nb R := by
  have h3 : 2 ^ i ≤ 2 ^ 8 := Nat.pow_le_pow_right (by decide) hi
  have h1 := h.sz
  have h2 := h.dp
  exact ⟨B.h3, B.hr, B.b1, B.b6, h.ok, by omega, by omega⟩
section
variable {N : Nat} {Φ : Phi} {σ : Store} {X : PyData} {z : Int} {rs : List (Int × Int)} {nb : Nat} {rows : List Row}
theorem wraps_if {ρ : Rho} (B : PB rs nb rows) (h13 : Φ 13 [.dat X, .dat (.int 41)] σ = some (.ret (.dat (.int z)), σ)) (h14 : ∀ j : Nat, j < 9 → ∃ x, Φ 14 [.dat (.int (z.fdiv 36)), .dat (.int j)] σ = some (.ret (.dat (.int x)), σ)) (q16 : ρ 16 = some (.dat X)) (q46 : ρ 46 = some (.dat (progD rs nb rows))) (q36 : ρ 36 = some (.dat (.tuple (rowsD rows)))) :
    ∃ ρ' i R, i ≤ 8 ∧ Wb rs.length nb i R ∧ (evSs N Φ (c_law.drop 2) ρ σ = evSs N Φ (c_law.drop 3) ρ' σ) ∧ ρ' 36 = some (.dat (.tuple (rowsD R))) ∧ ρ' 16 = ρ 16 ∧ ρ' 46 = ρ 46 := by
  have w0 : Wb rs.length nb 0 rows := ⟨B.ok, Nat.succ_le_succ B.sz, B.dp⟩
  have hc13 : ∀ ρ : Rho, ρ 16 = some (.dat X) → evE Φ (.call 13 [(.var 16), (.const (.int (41)))]) ρ σ = some (.dat (.int z), σ) := fun ρ q => ev_callR (vs := [.dat X, .dat (.int 41)]) (el_var (v := .dat X) q (el_one (v := .dat (.int 41)) rfl rfl)) h13
  obtain ⟨i, hi, ei⟩ := fmod_nat z (b := 4) (by decide)
  obtain ⟨m, hm, em⟩ := fmod_nat (z.fdiv 4) (b := 9) (by decide)
  have ei' : z.fmod 4 = (i : Int) := ei
  have em' : (z.fdiv 4).fmod 9 = (m : Int) := em
  have k4 : evE Φ (.cmp .Eq (.bin .Mod (.call 13 [(.var 16), (.const (.int (41)))]) (.const (.int (4)))) (.const (.int (1)))) ρ σ = some (.dat (.bool (decide (i = 1))), σ) := ev_eqN 1 (by rw [← ei']; exact ev_modR (hc13 ρ q16) (by decide))
  by_cases c : i = 1
  · rw [decide_eq_true c] at k4
    obtain ⟨ρ', R, hw, e, p36, hs⟩ := wraps_ok (N := N) (ρ := ρ.set 55 (.dat (zeroE rs.length nb 0).d)) m (by omega) w0 h13 h14 q16 rfl q36
    refine ⟨ρ', m, R, by omega, hw, r_next ((r_true k4).trans ((r_assign (v := .dat (zeroE rs.length nb 0).d) (σ₁ := σ) (ev_good q46 B.h3 B.b6 0)).trans ((r_forS (vs := [.dat (.int m)]) (ds := [.int m]) ?_ rfl rfl (range_it (by omega)) e).trans es_nil))), p36, (hs 16 (by decide) (by decide) (by decide)).trans rfl, (hs 46 (by decide) (by decide) (by decide)).trans rfl⟩
    refine el_one (v := .dat (.int m)) ?_ rfl
    rw [← em']
    exact ev_modR (ev_divR (hc13 _ (by exact q16)) (by decide) (by decide)) (by decide)
  · rw [decide_eq_false c] at k4
    exact ⟨ρ, 0, rows, by decide, w0, r_skip k4, q36, rfl, rfl⟩
theorem heavy_if {ρ : Rho} {i : Nat} {R : List Row} (B : PB rs nb rows) (hi : i ≤ 8) (hw : Wb rs.length nb i R) (h13 : Φ 13 [.dat X, .dat (.int 41)] σ = some (.ret (.dat (.int z)), σ)) (q16 : ρ 16 = some (.dat X)) (q46 : ρ 46 = some (.dat (progD rs nb rows))) (q36 : ρ 36 = some (.dat (.tuple (rowsD R)))) :
    ∃ ρ' R', PO rs nb R' ∧ (evSs N Φ (c_law.drop 3) ρ σ = evSs N Φ (c_law.drop 5) ρ' σ) ∧ ρ' 36 = some (.dat (.tuple (rowsD R'))) ∧ ρ' 16 = some (.dat X) ∧ ρ' 47 = some (.dat (progD rs nb R')) := by
  have hc13 : evE Φ (.call 13 [(.var 16), (.const (.int (41)))]) ρ σ = some (.dat (.int z), σ) := ev_callR (vs := [.dat X, .dat (.int 41)]) (el_var (v := .dat X) q16 (el_one (v := .dat (.int 41)) rfl rfl)) h13
  obtain ⟨m, hm, em⟩ := fmod_nat z (b := 16) (by decide)
  have em' : z.fmod 16 = (m : Int) := em
  have k4 : evE Φ (.cmp .Eq (.bin .Mod (.call 13 [(.var 16), (.const (.int (41)))]) (.const (.int (16)))) (.const (.int (3)))) ρ σ = some (.dat (.bool (decide (m = 3))), σ) := ev_eqN 3 (by rw [← em']; exact ev_modR hc13 (by decide))
  have fin : ∀ (ρ : Rho) (R : List Row), ρ 46 = some (.dat (progD rs nb rows)) → ρ 36 = some (.dat (.tuple (rowsD R))) → evSs N Φ (c_law.drop 4) ρ σ = evSs N Φ (c_law.drop 5) (ρ.set 47 (.dat (progD rs nb R))) σ := fun ρ R p46 p36 => r_assign (v := .dat (progD rs nb R)) (σ₁ := σ) (ev_T (edd (ev_ixD p46 rfl) (edd (ev_ixD p46 rfl) (edd (evV p36) ed0))))
  by_cases c : m = 3
  · rw [decide_eq_true c] at k4
    obtain ⟨t, ht, e⟩ := heavy_ok (N := N) (Φ := Φ) (ρ := ρ) (σ := σ) B.h3 B.b6 q46 q16 h13
    exact ⟨_, heavy rs.length nb t, (heavy_wb B.b1 ht).po B (Nat.le_refl _), (r_next ((r_true k4).trans e)).trans (fin _ _ (by exact q46) rfl), rfl, q16, rfl⟩
  · rw [decide_eq_false c] at k4
    exact ⟨_, R, hw.po B hi, (r_skip k4).trans (fin _ _ q46 q36), q36, q16, rfl⟩
theorem law_start {ρ : Rho} (B : PB rs nb rows) (h21 : Φ 21 [.dat X, .dat (.int 0)] σ = some (.ret (.dat (progD rs nb rows)), σ)) (h13 : Φ 13 [.dat X, .dat (.int 41)] σ = some (.ret (.dat (.int z)), σ)) (h14 : ∀ j : Nat, j < 9 → ∃ x, Φ 14 [.dat (.int (z.fdiv 36)), .dat (.int j)] σ = some (.ret (.dat (.int x)), σ)) (q16 : ρ 16 = some (.dat X)) :
    ∃ ρ' R, PO rs nb R ∧ (evSs N Φ c_law ρ σ = evSs N Φ (c_law.drop 5) ρ' σ) ∧ ρ' 36 = some (.dat (.tuple (rowsD R))) ∧ ρ' 16 = some (.dat X) ∧ ρ' 47 = some (.dat (progD rs nb R)) := by
  obtain ⟨ρ1, i, R, hi, hw, e1, p36, p16, p46⟩ := wraps_if (N := N) (ρ := (ρ.set 46 (.dat (progD rs nb rows))).set 36 (.dat (.tuple (rowsD rows)))) B h13 h14 (by exact q16) rfl rfl
  obtain ⟨ρ2, R', P, e2, r36, r16, r47⟩ := heavy_if (N := N) (ρ := ρ1) B hi hw h13 (p16.trans q16) (p46.trans rfl) p36
  exact ⟨ρ2, R', P, (r_assign (v := .dat (progD rs nb rows)) (σ₁ := σ) (ev_callR (vs := [.dat X, .dat (.int 0)]) (el_var (v := .dat X) q16 (el_one (v := .dat (.int 0)) rfl rfl)) h21)).trans ((r_assign (v := .dat (.tuple (rowsD rows))) (σ₁ := σ) (ev_ixD rfl rfl)).trans (e1.trans e2)), r36, r16, r47⟩
end
theorem law2 (N k : Nat) (hN : 1000000 < N) (xs : List Int) (hx : xs.length ≤ 63) : tabAt tab2 N (k + 15) 28 [.dat (.list (xs.map .int))] [] = some (.ret (.dat (.bool true)), []) := by
  rw [tab_step (by rfl : tab2[28]? = some ([16], c_law))]
  obtain ⟨rs, nb, rows, B, ep⟩ := s_program N (k + 6) xs hx []
  have hc41 := s_cell_at N (k + 13) xs hx 41 (by decide) []
  have hc42 := s_cell_at N (k + 13) xs hx 42 (by decide) []
  have hm := fun (c : Int) (j : Nat) (hj : j < 9) => s_mixed N (k + 13) c j (Nat.lt_trans hj (by decide)) []
  obtain ⟨ρ', R, P, e, p36, p16, p47⟩ := law_start (N := N) (Φ := tabAt tab2 N (k + 14)) (σ := []) (X := .list (xs.map .int)) (z := cellAt xs 41) (ρ := Rho.set (fun _ => none) 16 (.dat (.list (xs.map .int)))) B ep hc41 (fun j hj => ⟨_, hm _ j hj⟩) rfl
  have hn := s_need_good (k := k) hN P []
  refine r_runD rfl (e.trans (law_end (Φ := tabAt tab2 N (k + 14)) (w := rowsWt R) (dp := rowsDp R) p16 p36 p47 (s_weight N rs.length nb [] (k + 14) R (Nat.le_trans P.dp (by omega)) P.ok) (s_lweight N rs.length nb [] (k + 14) R (Nat.le_trans P.dp (by omega)) P.ok) (s_depth N (k + 12) hN R (Nat.le_trans (rows_ls R) (by have := P.sz; omega)) []) (s_ldepth N [] (k + 14) R (Nat.le_trans P.dp (by omega))) (fun i => s_whole N (k + 13) (.int i) []) (s_weight N rs.length nb [] (k + 14) [] (by show 1 ≤ k + 14; omega) trivial) (s_depth N (k + 12) hN [] (by decide) []) (fun hq => s_told_ok (by rw [hn, if_pos hq])) (fun hq => s_told_exc (by decide) (by rw [hn, if_neg hq]) fun ρ h => h_great h) hc42 (fun j hj => ?_)))
  obtain ⟨d, hd1, hd2, hd3⟩ := s_spoilt (N := N) (k := k + 11) P (mixed (cellAt xs 42) j) []
  exact ⟨_, d, hm _ j (by omega), hd3, s_told_exc (by decide) (s_need_bad N (k + 6) hN d hd2 hd1 []) fun ρ h => h_bad h⟩
noncomputable def cstV : Value → Option PyData
  | .int i _ => some (.int i)
  | .str x _ => some (.str x)
  | _ => none
theorem cst_rd {v : Value} {d : PyData} (e : cstV v = some d) : ∀ h S, Rd h S v d := by
  cases v with
  | int i t => cases e; exact fun _ _ => .int i t
  | str x t => cases e; exact fun _ _ => .str x t
  | _ => exact nsm e
open PySem.Calls PySem.W PyProof.Rows in
theorem cst_of {K : Frag} {x : Str} {d : PyData} (e : ((nsIn K mainGlobals x).bind fun o => o.bind cstV) = some d) : ∃ v, nsIn K mainGlobals x = some (some v) ∧ ∀ h S, Rd h S v d :=
  ob e fun o h1 e => ob e fun v h2 e => ⟨v, h1.trans (congrArg some h2), cst_rd e⟩
noncomputable def V2 : List Str := [("thing" : Str), ("least" : Str), ("most" : Str), ("many" : Str), ("one" : Str), ("inputs" : Str), ("boxes" : Str), ("sign" : Str), ("word" : Str), ("row" : Str), ("waiting" : Str), ("rows" : Str), ("layer" : Str), ("below" : Str), ("some" : Str), ("found" : Str), ("_law_script" : Str), ("_law_k" : Str), ("_law_cell" : Str), ("_law_found" : Str), ("_law_many" : Str), ("_law_ranges_here" : Str), ("_law_more" : Str), ("_law_low" : Str), ("_law_wide" : Str), ("_law_sizes" : Str), ("_law_factors" : Str), ("_law_others" : Str), ("_law_const" : Str), ("_law_letters" : Str), ("_law_at" : Str), ("_law_deep" : Str), ("_law_way" : Str), ("_law_e" : Str), ("_law_yes" : Str), ("_law_first" : Str), ("_law_rows_here" : Str), ("_law_zeros" : Str), ("_law_put" : Str), ("_law_ask" : Str), ("_law_total" : Str), ("_law_one" : Str), ("_law_most" : Str), ("_law_part" : Str), ("_law_thing" : Str), ("_law_words" : Str), ("_law_program_here" : Str), ("_law_good" : Str), ("_law_both" : Str), ("_law_odd" : Str), ("_law_some" : Str), ("_law_letter" : Str), ("_law_boxes" : Str), ("_law_word" : Str), ("_law_four" : Str), ("_law_zero" : Str), ("_law_due" : Str)]
noncomputable def G2 : Cfg := { V := V2, fns := [("is_whole", 82), ("is_among", 89), ("are_wholes", 94), ("is_range", 101), ("is_expression", 108), ("is_word", 113), ("is_statement", 120), ("inner_rows", 127), ("are_rows", 134), ("is_program", 139), ("depth", 146), ("weight", 153), ("need_program", 160), ("_law_cell_at", 167), ("_law_mixed", 174), ("_law_whole", 181), ("_law_ranges", 188), ("_law_expression", 193), ("_law_word_by", 198), ("_law_statement", 205), ("_law_rows", 210), ("_law_program", 217), ("_law_weight", 224), ("_law_depth", 231), ("_law_told", 238), ("_law_no_expression", 245), ("_law_no_statement", 252), ("_law_spoilt", 259), ("law", 266)], excs := [("CaseError", 0), ("BadProgram", 1), ("TooGreat", 2), ("BadInputs", 3), ("TooMany", 4)], consts := [("MOST_INPUTS", .int 3), ("MOST_WIDE", .int 20), ("MOST_BOXES", .int 6), ("MOST_TIMES", .int 8), ("MOST_LETTERS", .int 8), ("MOST_WEIGHT", .int 200), ("MOST_DEPTH", .int 6), ("LETTERS", .str "abcdefghijklmnopqrstuvwxyz")], cells := ["waiting", "layer", "below", "_law_ranges_here", "_law_at", "_law_some"] }
noncomputable def ec2 : ExcCls := fun c => [24,37,49,61,73].getD c 0
end Mine
namespace Mine
noncomputable def top2.tw10024549698656676880 : Nat := 0
noncomputable def top2.tw10126359153252137550 : Nat := 0
noncomputable def top2.tw10240561454116825719 : Nat := 0
noncomputable def top2.tw10315230763516117805 : Nat := 0
noncomputable def top2.tw10413868130181656287 : Nat := 0
noncomputable def top2.tw10418352339866980325 : Nat := 0
noncomputable def top2.tw10492634283962323287 : Nat := 0
noncomputable def top2.tw10578131973993964784 : Nat := 0
noncomputable def top2.tw10633238439278191814 : Nat := 0
noncomputable def top2.tw10725206884457614781 : Nat := 0
noncomputable def top2.tw10761407393779870446 : Nat := 0
noncomputable def top2.tw10791359290735590701 : Nat := 0
noncomputable def top2.tw10810515439766235445 : Nat := 0
noncomputable def top2.tw10848348005034809484 : Nat := 0
noncomputable def top2.tw10885370963470338981 : Nat := 0
noncomputable def top2.tw10891756249137701554 : Nat := 0
noncomputable def top2.tw10910608045353841914 : Nat := 0
noncomputable def top2.tw11088758602228754403 : Nat := 0
noncomputable def top2.tw11127790954331021610 : Nat := 0
noncomputable def top2.tw11153087090091022386 : Nat := 0
noncomputable def top2.tw11162350525848409342 : Nat := 0
noncomputable def top2.tw11164803678468681383 : Nat := 0
noncomputable def top2.tw11386230416215779909 : Nat := 0
noncomputable def top2.tw11387222641884621928 : Nat := 0
noncomputable def top2.tw11430155648715252981 : Nat := 0
noncomputable def top2.tw11430435839929572114 : Nat := 0
noncomputable def top2.tw11433774094584497924 : Nat := 0
noncomputable def top2.tw11461542517103305561 : Nat := 0
noncomputable def top2.tw11781598708838120145 : Nat := 0
noncomputable def top2.tw11949588920338631272 : Nat := 0
noncomputable def top2.tw12069123125240437524 : Nat := 0
noncomputable def top2.tw12184530441401704618 : Nat := 0
noncomputable def top2.tw1233383522511344432 : Nat := 0
noncomputable def top2.tw12335804787536401039 : Nat := 0
noncomputable def top2.tw12338189432634737121 : Nat := 0
noncomputable def top2.tw12346934702724786911 : Nat := 0
noncomputable def top2.tw12499571846542017430 : Nat := 0
noncomputable def top2.tw12526594541775708729 : Nat := 0
noncomputable def top2.tw1263725835080021544 : Nat := 0
noncomputable def top2.tw12749351449873030719 : Nat := 0
noncomputable def top2.tw12853287639963338740 : Nat := 0
noncomputable def top2.tw1292072685591600408 : Nat := 0
noncomputable def top2.tw12958141398559406129 : Nat := 0
noncomputable def top2.tw1300877563190688883 : Nat := 0
noncomputable def top2.tw1307329437057374068 : Nat := 0
noncomputable def top2.tw13219991880368484023 : Nat := 0
noncomputable def top2.tw13304964057319132774 : Nat := 0
noncomputable def top2.tw13312626118149932977 : Nat := 0
noncomputable def top2.tw13438912726338590853 : Nat := 0
noncomputable def top2.tw13457428893659106900 : Nat := 0
noncomputable def top2.tw13521590026164968593 : Nat := 0
noncomputable def top2.tw13587727088376669832 : Nat := 0
noncomputable def top2.tw13591226058594472359 : Nat := 0
noncomputable def top2.tw13611318588410528990 : Nat := 0
noncomputable def top2.tw13648322149328129736 : Nat := 0
noncomputable def top2.tw1371483896987453604 : Nat := 0
noncomputable def top2.tw13813769051251339439 : Nat := 0
noncomputable def top2.tw13865527725059217905 : Nat := 0
noncomputable def top2.tw13911022453679983553 : Nat := 0
noncomputable def top2.tw13934748319586619350 : Nat := 0
noncomputable def top2.tw13999704084816675710 : Nat := 0
noncomputable def top2.tw14004390162999235009 : Nat := 0
noncomputable def top2.tw14015152583273843551 : Nat := 0
noncomputable def top2.tw14048348092787373389 : Nat := 0
noncomputable def top2.tw14186464667554252455 : Nat := 0
noncomputable def top2.tw14217463252591407037 : Nat := 0
noncomputable def top2.tw14258048480783169930 : Nat := 0
noncomputable def top2.tw14351118842451655749 : Nat := 0
noncomputable def top2.tw14512100421961053414 : Nat := 0
noncomputable def top2.tw1461702670417085692 : Nat := 0
noncomputable def top2.tw14689402931770109735 : Nat := 0
noncomputable def top2.tw14728605663816966126 : Nat := 0
noncomputable def top2.tw14764310082542478448 : Nat := 0
noncomputable def top2.tw14794252249276523373 : Nat := 0
noncomputable def top2.tw14801941845005792836 : Nat := 0
noncomputable def top2.tw14810984879408403275 : Nat := 0
noncomputable def top2.tw1485209887560275452 : Nat := 0
noncomputable def top2.tw14899433775841543309 : Nat := 0
noncomputable def top2.tw14911380811674681059 : Nat := 0
noncomputable def top2.tw15122721684370851964 : Nat := 0
noncomputable def top2.tw15161614415992975058 : Nat := 0
noncomputable def top2.tw15210226443707861010 : Nat := 0
noncomputable def top2.tw15529825209386500716 : Nat := 0
noncomputable def top2.tw15580758012307784247 : Nat := 0
noncomputable def top2.tw15803342969543123611 : Nat := 0
noncomputable def top2.tw15803698639573634586 : Nat := 0
noncomputable def top2.tw15939776117268571533 : Nat := 0
noncomputable def top2.tw15992890417560902337 : Nat := 0
noncomputable def top2.tw16033524232328022561 : Nat := 0
noncomputable def top2.tw16193054712594539347 : Nat := 0
noncomputable def top2.tw16217744278714601994 : Nat := 0
noncomputable def top2.tw1624102666216119391 : Nat := 0
noncomputable def top2.tw16283992127482073634 : Nat := 0
noncomputable def top2.tw16352427308379427947 : Nat := 0
noncomputable def top2.tw16387077043561438669 : Nat := 0
noncomputable def top2.tw16402434283051347784 : Nat := 0
noncomputable def top2.tw16409825689644844550 : Nat := 0
noncomputable def top2.tw16451346353362694652 : Nat := 0
noncomputable def top2.tw16635417096060220730 : Nat := 0
noncomputable def top2.tw16669686062590960155 : Nat := 0
noncomputable def top2.tw16715458495989603305 : Nat := 0
noncomputable def top2.tw16731311226629754455 : Nat := 0
noncomputable def top2.tw16750091277955610749 : Nat := 0
noncomputable def top2.tw16750618018027403247 : Nat := 0
noncomputable def top2.tw17019601584798179806 : Nat := 0
noncomputable def top2.tw17138467349805084235 : Nat := 0
noncomputable def top2.tw17184599045883000558 : Nat := 0
noncomputable def top2.tw17191164421630964307 : Nat := 0
noncomputable def top2.tw17331491662221048604 : Nat := 0
noncomputable def top2.tw17385100606478046508 : Nat := 0
noncomputable def top2.tw17442938784538299316 : Nat := 0
noncomputable def top2.tw17459186512881382903 : Nat := 0
noncomputable def top2.tw17483161650486176083 : Nat := 0
noncomputable def top2.tw17521081785978129762 : Nat := 0
noncomputable def top2.tw17572569931325009354 : Nat := 0
noncomputable def top2.tw17616694597397119491 : Nat := 0
noncomputable def top2.tw17619100027094328053 : Nat := 0
noncomputable def top2.tw17620136320213103142 : Nat := 0
noncomputable def top2.tw17683488200187883652 : Nat := 0
noncomputable def top2.tw17728912728303105971 : Nat := 0
noncomputable def top2.tw17891243689651871312 : Nat := 0
noncomputable def top2.tw17931803060624105272 : Nat := 0
noncomputable def top2.tw1804515798091075406 : Nat := 0
noncomputable def top2.tw18091942781144765298 : Nat := 0
noncomputable def top2.tw1815630126235555677 : Nat := 0
noncomputable def top2.tw18203797075714422723 : Nat := 0
noncomputable def top2.tw18250123071429655677 : Nat := 0
noncomputable def top2.tw1828313271312115324 : Nat := 0
noncomputable def top2.tw18385388793257014449 : Nat := 0
noncomputable def top2.tw18386444029996952337 : Nat := 0
noncomputable def top2.tw183867887548664399 : Nat := 0
noncomputable def top2.tw18438318853721450382 : Nat := 0
noncomputable def top2.tw1847990567791520667 : Nat := 0
noncomputable def top2.tw188815392953327319 : Nat := 0
noncomputable def top2.tw1916559136455276515 : Nat := 0
noncomputable def top2.tw1956267287036548933 : Nat := 0
noncomputable def top2.tw2136211117258395587 : Nat := 0
noncomputable def top2.tw2190421061024496364 : Nat := 0
noncomputable def top2.tw2302650913323818760 : Nat := 0
noncomputable def top2.tw2358611340893692071 : Nat := 0
noncomputable def top2.tw2381395776303417225 : Nat := 0
noncomputable def top2.tw2383243275810439436 : Nat := 0
noncomputable def top2.tw2450530405678295224 : Nat := 0
noncomputable def top2.tw2560135057337443971 : Nat := 0
noncomputable def top2.tw256066655247562450 : Nat := 0
noncomputable def top2.tw2622973533048730156 : Nat := 0
noncomputable def top2.tw2669190927547026606 : Nat := 0
noncomputable def top2.tw2684855036426321286 : Nat := 0
noncomputable def top2.tw2721337214481972745 : Nat := 0
noncomputable def top2.tw278448961037037351 : Nat := 0
noncomputable def top2.tw2897065453297217382 : Nat := 0
noncomputable def top2.tw2973388081500469014 : Nat := 0
noncomputable def top2.tw3091617115034399464 : Nat := 0
noncomputable def top2.tw3113884474177543979 : Nat := 0
noncomputable def top2.tw3226605779425284887 : Nat := 0
noncomputable def top2.tw3326991577154601524 : Nat := 0
noncomputable def top2.tw3342654734446480040 : Nat := 0
noncomputable def top2.tw3349132609748612459 : Nat := 0
noncomputable def top2.tw3413306217300515309 : Nat := 0
noncomputable def top2.tw3464755252183491764 : Nat := 0
noncomputable def top2.tw3548093130518196974 : Nat := 0
noncomputable def top2.tw355697396078200693 : Nat := 0
noncomputable def top2.tw3566469776641809437 : Nat := 0
noncomputable def top2.tw3847210581701209039 : Nat := 0
noncomputable def top2.tw3881777415463978510 : Nat := 0
noncomputable def top2.tw3966758228306918052 : Nat := 0
noncomputable def top2.tw4071258294159827497 : Nat := 0
noncomputable def top2.tw4073390399404631328 : Nat := 0
noncomputable def top2.tw4307507250646206029 : Nat := 0
noncomputable def top2.tw432771977784648933 : Nat := 0
noncomputable def top2.tw4371532013241080368 : Nat := 0
noncomputable def top2.tw4392620059162142076 : Nat := 0
noncomputable def top2.tw4497756896424045770 : Nat := 0
noncomputable def top2.tw4551642579138521210 : Nat := 0
noncomputable def top2.tw461727260767309730 : Nat := 0
noncomputable def top2.tw4653679504846768310 : Nat := 0
noncomputable def top2.tw468664928215706091 : Nat := 0
noncomputable def top2.tw4787888976099377214 : Nat := 0
noncomputable def top2.tw4799426135968135317 : Nat := 0
noncomputable def top2.tw4864709729733325230 : Nat := 0
noncomputable def top2.tw4912325485204135177 : Nat := 0
noncomputable def top2.tw5025687759878671794 : Nat := 0
noncomputable def top2.tw520367301191598197 : Nat := 0
noncomputable def top2.tw5240670842703639839 : Nat := 0
noncomputable def top2.tw5273282969620833206 : Nat := 0
noncomputable def top2.tw5282338479292772915 : Nat := 0
noncomputable def top2.tw5366509316707721875 : Nat := 0
noncomputable def top2.tw5387586532036908919 : Nat := 0
noncomputable def top2.tw5413984853670045819 : Nat := 0
noncomputable def top2.tw5468844149017271980 : Nat := 0
noncomputable def top2.tw5516738035777296229 : Nat := 0
noncomputable def top2.tw5518108802469793900 : Nat := 0
noncomputable def top2.tw5555736072825420021 : Nat := 0
noncomputable def top2.tw5557499516559323901 : Nat := 0
noncomputable def top2.tw5829197808934594349 : Nat := 0
noncomputable def top2.tw5898399514054298994 : Nat := 0
noncomputable def top2.tw591852793714964076 : Nat := 0
noncomputable def top2.tw5998376399403638812 : Nat := 0
noncomputable def top2.tw6047542774263962460 : Nat := 0
noncomputable def top2.tw6059006333612651795 : Nat := 0
noncomputable def top2.tw6084513802298526108 : Nat := 0
noncomputable def top2.tw6132090398769025326 : Nat := 0
noncomputable def top2.tw6343111988144163074 : Nat := 0
noncomputable def top2.tw6357962363994641765 : Nat := 0
noncomputable def top2.tw6513871709212804841 : Nat := 0
noncomputable def top2.tw6518740448239810635 : Nat := 0
noncomputable def top2.tw6580398903028198322 : Nat := 0
noncomputable def top2.tw6646183153814356085 : Nat := 0
noncomputable def top2.tw6747208551092707830 : Nat := 0
noncomputable def top2.tw6802152714523319304 : Nat := 0
noncomputable def top2.tw6908086162541783063 : Nat := 0
noncomputable def top2.tw6995603428981271944 : Nat := 0
noncomputable def top2.tw7007445382196921267 : Nat := 0
noncomputable def top2.tw7018873685996807154 : Nat := 0
noncomputable def top2.tw7057524859593760609 : Nat := 0
noncomputable def top2.tw7239981393912696005 : Nat := 0
noncomputable def top2.tw7254375939246168993 : Nat := 0
noncomputable def top2.tw7293784712959509174 : Nat := 0
noncomputable def top2.tw7301122048939922332 : Nat := 0
noncomputable def top2.tw7354330818367933552 : Nat := 0
noncomputable def top2.tw7364185602872199256 : Nat := 0
noncomputable def top2.tw7418434917990800010 : Nat := 0
noncomputable def top2.tw7445455923203699970 : Nat := 0
noncomputable def top2.tw7471985715972803748 : Nat := 0
noncomputable def top2.tw7474232096775245620 : Nat := 0
noncomputable def top2.tw7491624232402395484 : Nat := 0
noncomputable def top2.tw7551980113679456483 : Nat := 0
noncomputable def top2.tw7772506221259849773 : Nat := 0
noncomputable def top2.tw77763385984172459 : Nat := 0
noncomputable def top2.tw7797632301245806464 : Nat := 0
noncomputable def top2.tw7812739624662517316 : Nat := 0
noncomputable def top2.tw7859672423921703869 : Nat := 0
noncomputable def top2.tw7877674247718550000 : Nat := 0
noncomputable def top2.tw7958765436754063441 : Nat := 0
noncomputable def top2.tw8134613905598690726 : Nat := 0
noncomputable def top2.tw8139975393667993188 : Nat := 0
noncomputable def top2.tw8299637488540773143 : Nat := 0
noncomputable def top2.tw841712513774364424 : Nat := 0
noncomputable def top2.tw8451343236681104215 : Nat := 0
noncomputable def top2.tw861763521972723955 : Nat := 0
noncomputable def top2.tw8708655170370688208 : Nat := 0
noncomputable def top2.tw872098743017108940 : Nat := 0
noncomputable def top2.tw8748249819663967133 : Nat := 0
noncomputable def top2.tw8784743638098777097 : Nat := 0
noncomputable def top2.tw8842480394617665948 : Nat := 0
noncomputable def top2.tw887203175519919025 : Nat := 0
noncomputable def top2.tw9018771835968772785 : Nat := 0
noncomputable def top2.tw9169272775528229384 : Nat := 0
noncomputable def top2.tw9332603168935387129 : Nat := 0
noncomputable def top2.tw9531960232342710916 : Nat := 0
noncomputable def top2.tw9597185056696188380 : Nat := 0
noncomputable def top2.tw9630015837896986010 : Nat := 0
noncomputable def top2.tw9645234842980218238 : Nat := 0
noncomputable def top2.tw982504698168838249 : Nat := 0
noncomputable def top2.tw9845462220727547573 : Nat := 0
noncomputable def top2.tw9855340777016982460 : Nat := 0
noncomputable def top2.tw9954496832745358288 : Nat := 0
end Mine
open PySem PySem.Spec PySem.Calls PySem.W PyProof.Rows Mine in
set_option Elab.async true in
set_option maxHeartbeats 16000000 in
theorem Mine.top2 : PySem.Challenge.rw_uf010029_02.Holds := by
  w_on; o_law; k_head; (case hw => w_witness2)
  intro w s₀ s₁ mg mb G Y fa o pm cd doc dV kV ho hd hcd hD hmg hg args vals as hpre hlay hrd hwl hlo
  have KX := kIn_of Y
  have fn_is_whole : FnIn (Mine.top2.heap_1_39 w.params) G2 "is_whole" 82 [0] c_is_whole := ⟨by kernel_rfl, _, _, _, _, _, _, _, ["thing"], rfl, rfl, rfl, rfl, rfl, rfl, rfl, rfl, rfl, rfl, rfl, rfl, rfl, (fun vals h => by rcases vals with _ | ⟨a, _ | ⟨q, r⟩⟩ <;> first | rfl | (simp at h)), by kernel_rfl, by kernel_rfl, by kernel_rfl, by kernel_rfl⟩
  have fn_is_among : FnIn (Mine.top2.heap_1_39 w.params) G2 "is_among" 89 [0, 1, 2] c_is_among := ⟨by kernel_rfl, _, _, _, _, _, _, _, ["thing", "least", "most"], rfl, rfl, rfl, rfl, rfl, rfl, rfl, rfl, rfl, rfl, rfl, rfl, rfl, (fun vals h => by rcases vals with _ | ⟨a, _ | ⟨b, _ | ⟨c, _ | ⟨q, r⟩⟩⟩⟩ <;> first | rfl | (simp at h)), by kernel_rfl, by kernel_rfl, by kernel_rfl, by kernel_rfl⟩
  have fn_are_wholes : FnIn (Mine.top2.heap_1_39 w.params) G2 "are_wholes" 94 [0, 3] c_are_wholes := ⟨by kernel_rfl, _, _, _, _, _, _, _, ["thing", "many"], rfl, rfl, rfl, rfl, rfl, rfl, rfl, rfl, rfl, rfl, rfl, rfl, rfl, (fun vals h => by rcases vals with _ | ⟨a, _ | ⟨b, _ | ⟨q, r⟩⟩⟩ <;> first | rfl | (simp at h)), by kernel_rfl, by kernel_rfl, by kernel_rfl, by kernel_rfl⟩
  have fn_is_range : FnIn (Mine.top2.heap_1_39 w.params) G2 "is_range" 101 [0] c_is_range := ⟨by kernel_rfl, _, _, _, _, _, _, _, ["thing"], rfl, rfl, rfl, rfl, rfl, rfl, rfl, rfl, rfl, rfl, rfl, rfl, rfl, (fun vals h => by rcases vals with _ | ⟨a, _ | ⟨q, r⟩⟩ <;> first | rfl | (simp at h)), by kernel_rfl, by kernel_rfl, by kernel_rfl, by kernel_rfl⟩
  have fn_is_expression : FnIn (Mine.top2.heap_1_39 w.params) G2 "is_expression" 108 [0, 5, 6] c_is_expression := ⟨by kernel_rfl, _, _, _, _, _, _, _, ["thing", "inputs", "boxes"], rfl, rfl, rfl, rfl, rfl, rfl, rfl, rfl, rfl, rfl, rfl, rfl, rfl, (fun vals h => by rcases vals with _ | ⟨a, _ | ⟨b, _ | ⟨c, _ | ⟨q, r⟩⟩⟩⟩ <;> first | rfl | (simp at h)), by kernel_rfl, by kernel_rfl, by kernel_rfl, by kernel_rfl⟩
  have fn_is_word : FnIn (Mine.top2.heap_1_39 w.params) G2 "is_word" 113 [0] c_is_word := ⟨by kernel_rfl, _, _, _, _, _, _, _, ["thing"], rfl, rfl, rfl, rfl, rfl, rfl, rfl, rfl, rfl, rfl, rfl, rfl, rfl, (fun vals h => by rcases vals with _ | ⟨a, _ | ⟨q, r⟩⟩ <;> first | rfl | (simp at h)), by kernel_rfl, by kernel_rfl, by kernel_rfl, by kernel_rfl⟩
  have fn_is_statement : FnIn (Mine.top2.heap_1_39 w.params) G2 "is_statement" 120 [0, 5, 6] c_is_statement := ⟨by kernel_rfl, _, _, _, _, _, _, _, ["thing", "inputs", "boxes"], rfl, rfl, rfl, rfl, rfl, rfl, rfl, rfl, rfl, rfl, rfl, rfl, rfl, (fun vals h => by rcases vals with _ | ⟨a, _ | ⟨b, _ | ⟨c, _ | ⟨q, r⟩⟩⟩⟩ <;> first | rfl | (simp at h)), by kernel_rfl, by kernel_rfl, by kernel_rfl, by kernel_rfl⟩
  have fn_inner_rows : FnIn (Mine.top2.heap_1_39 w.params) G2 "inner_rows" 127 [9] c_inner_rows := ⟨by kernel_rfl, _, _, _, _, _, _, _, ["row"], rfl, rfl, rfl, rfl, rfl, rfl, rfl, rfl, rfl, rfl, rfl, rfl, rfl, (fun vals h => by rcases vals with _ | ⟨a, _ | ⟨q, r⟩⟩ <;> first | rfl | (simp at h)), by kernel_rfl, by kernel_rfl, by kernel_rfl, by kernel_rfl⟩
  have fn_are_rows : FnIn (Mine.top2.heap_1_39 w.params) G2 "are_rows" 134 [0, 5, 6] c_are_rows := ⟨by kernel_rfl, _, _, _, _, _, _, _, ["thing", "inputs", "boxes"], rfl, rfl, rfl, rfl, rfl, rfl, rfl, rfl, rfl, rfl, rfl, rfl, rfl, (fun vals h => by rcases vals with _ | ⟨a, _ | ⟨b, _ | ⟨c, _ | ⟨q, r⟩⟩⟩⟩ <;> first | rfl | (simp at h)), by kernel_rfl, by kernel_rfl, by kernel_rfl, by kernel_rfl⟩
  have fn_is_program : FnIn (Mine.top2.heap_1_39 w.params) G2 "is_program" 139 [0] c_is_program := ⟨by kernel_rfl, _, _, _, _, _, _, _, ["thing"], rfl, rfl, rfl, rfl, rfl, rfl, rfl, rfl, rfl, rfl, rfl, rfl, rfl, (fun vals h => by rcases vals with _ | ⟨a, _ | ⟨q, r⟩⟩ <;> first | rfl | (simp at h)), by kernel_rfl, by kernel_rfl, by kernel_rfl, by kernel_rfl⟩
  have fn_depth : FnIn (Mine.top2.heap_1_39 w.params) G2 "depth" 146 [11] c_depth := ⟨by kernel_rfl, _, _, _, _, _, _, _, ["rows"], rfl, rfl, rfl, rfl, rfl, rfl, rfl, rfl, rfl, rfl, rfl, rfl, rfl, (fun vals h => by rcases vals with _ | ⟨a, _ | ⟨q, r⟩⟩ <;> first | rfl | (simp at h)), by kernel_rfl, by kernel_rfl, by kernel_rfl, by kernel_rfl⟩
  have fn_weight : FnIn (Mine.top2.heap_1_39 w.params) G2 "weight" 153 [11] c_weight := ⟨by kernel_rfl, _, _, _, _, _, _, _, ["rows"], rfl, rfl, rfl, rfl, rfl, rfl, rfl, rfl, rfl, rfl, rfl, rfl, rfl, (fun vals h => by rcases vals with _ | ⟨a, _ | ⟨q, r⟩⟩ <;> first | rfl | (simp at h)), by kernel_rfl, by kernel_rfl, by kernel_rfl, by kernel_rfl⟩
  have fn_need_program : FnIn (Mine.top2.heap_1_39 w.params) G2 "need_program" 160 [0] c_need_program := ⟨by kernel_rfl, _, _, _, _, _, _, _, ["thing"], rfl, rfl, rfl, rfl, rfl, rfl, rfl, rfl, rfl, rfl, rfl, rfl, rfl, (fun vals h => by rcases vals with _ | ⟨a, _ | ⟨q, r⟩⟩ <;> first | rfl | (simp at h)), by kernel_rfl, by kernel_rfl, by kernel_rfl, by kernel_rfl⟩
  have fn__law_cell_at : FnIn (Mine.top2.heap_1_39 w.params) G2 "_law_cell_at" 167 [16, 17] c__law_cell_at := ⟨by kernel_rfl, _, _, _, _, _, _, _, ["_law_script", "_law_k"], rfl, rfl, rfl, rfl, rfl, rfl, rfl, rfl, rfl, rfl, rfl, rfl, rfl, (fun vals h => by rcases vals with _ | ⟨a, _ | ⟨b, _ | ⟨q, r⟩⟩⟩ <;> first | rfl | (simp at h)), by kernel_rfl, by kernel_rfl, by kernel_rfl, by kernel_rfl⟩
  have fn__law_mixed : FnIn (Mine.top2.heap_1_39 w.params) G2 "_law_mixed" 174 [18, 17] c__law_mixed := ⟨by kernel_rfl, _, _, _, _, _, _, _, ["_law_cell", "_law_k"], rfl, rfl, rfl, rfl, rfl, rfl, rfl, rfl, rfl, rfl, rfl, rfl, rfl, (fun vals h => by rcases vals with _ | ⟨a, _ | ⟨b, _ | ⟨q, r⟩⟩⟩ <;> first | rfl | (simp at h)), by kernel_rfl, by kernel_rfl, by kernel_rfl, by kernel_rfl⟩
  have fn__law_whole : FnIn (Mine.top2.heap_1_39 w.params) G2 "_law_whole" 181 [19] c__law_whole := ⟨by kernel_rfl, _, _, _, _, _, _, _, ["_law_found"], rfl, rfl, rfl, rfl, rfl, rfl, rfl, rfl, rfl, rfl, rfl, rfl, rfl, (fun vals h => by rcases vals with _ | ⟨a, _ | ⟨q, r⟩⟩ <;> first | rfl | (simp at h)), by kernel_rfl, by kernel_rfl, by kernel_rfl, by kernel_rfl⟩
  have fn__law_ranges : FnIn (Mine.top2.heap_1_39 w.params) G2 "_law_ranges" 188 [18] c__law_ranges := ⟨by kernel_rfl, _, _, _, _, _, _, _, ["_law_cell"], rfl, rfl, rfl, rfl, rfl, rfl, rfl, rfl, rfl, rfl, rfl, rfl, rfl, (fun vals h => by rcases vals with _ | ⟨a, _ | ⟨q, r⟩⟩ <;> first | rfl | (simp at h)), by kernel_rfl, by kernel_rfl, by kernel_rfl, by kernel_rfl⟩
  have fn__law_expression : FnIn (Mine.top2.heap_1_39 w.params) G2 "_law_expression" 193 [18, 25, 21] c__law_expression := ⟨by kernel_rfl, _, _, _, _, _, _, _, ["_law_cell", "_law_sizes", "_law_ranges_here"], rfl, rfl, rfl, rfl, rfl, rfl, rfl, rfl, rfl, rfl, rfl, rfl, rfl, (fun vals h => by rcases vals with _ | ⟨a, _ | ⟨b, _ | ⟨c, _ | ⟨q, r⟩⟩⟩⟩ <;> first | rfl | (simp at h)), by kernel_rfl, by kernel_rfl, by kernel_rfl, by kernel_rfl⟩
  have fn__law_word_by : FnIn (Mine.top2.heap_1_39 w.params) G2 "_law_word_by" 198 [18] c__law_word_by := ⟨by kernel_rfl, _, _, _, _, _, _, _, ["_law_cell"], rfl, rfl, rfl, rfl, rfl, rfl, rfl, rfl, rfl, rfl, rfl, rfl, rfl, (fun vals h => by rcases vals with _ | ⟨a, _ | ⟨q, r⟩⟩ <;> first | rfl | (simp at h)), by kernel_rfl, by kernel_rfl, by kernel_rfl, by kernel_rfl⟩
  have fn__law_statement : FnIn (Mine.top2.heap_1_39 w.params) G2 "_law_statement" 205 [16, 30, 31, 25, 21] c__law_statement := ⟨by kernel_rfl, _, _, _, _, _, _, _, ["_law_script", "_law_at", "_law_deep", "_law_sizes", "_law_ranges_here"], rfl, rfl, rfl, rfl, rfl, rfl, rfl, rfl, rfl, rfl, rfl, rfl, rfl, (fun vals h => by rcases vals with _ | ⟨a, _ | ⟨b, _ | ⟨c, _ | ⟨d, _ | ⟨e, _ | ⟨q, r⟩⟩⟩⟩⟩⟩ <;> first | rfl | (simp at h)), by kernel_rfl, by kernel_rfl, by kernel_rfl, by kernel_rfl⟩
  have fn__law_rows : FnIn (Mine.top2.heap_1_39 w.params) G2 "_law_rows" 210 [16, 30, 31, 25, 21] c__law_rows := ⟨by kernel_rfl, _, _, _, _, _, _, _, ["_law_script", "_law_at", "_law_deep", "_law_sizes", "_law_ranges_here"], rfl, rfl, rfl, rfl, rfl, rfl, rfl, rfl, rfl, rfl, rfl, rfl, rfl, (fun vals h => by rcases vals with _ | ⟨a, _ | ⟨b, _ | ⟨c, _ | ⟨d, _ | ⟨e, _ | ⟨q, r⟩⟩⟩⟩⟩⟩ <;> first | rfl | (simp at h)), by kernel_rfl, by kernel_rfl, by kernel_rfl, by kernel_rfl⟩
  have fn__law_program : FnIn (Mine.top2.heap_1_39 w.params) G2 "_law_program" 217 [16, 35] c__law_program := ⟨by kernel_rfl, _, _, _, _, _, _, _, ["_law_script", "_law_first"], rfl, rfl, rfl, rfl, rfl, rfl, rfl, rfl, rfl, rfl, rfl, rfl, rfl, (fun vals h => by rcases vals with _ | ⟨a, _ | ⟨b, _ | ⟨q, r⟩⟩⟩ <;> first | rfl | (simp at h)), by kernel_rfl, by kernel_rfl, by kernel_rfl, by kernel_rfl⟩
  have fn__law_weight : FnIn (Mine.top2.heap_1_39 w.params) G2 "_law_weight" 224 [36] c__law_weight := ⟨by kernel_rfl, _, _, _, _, _, _, _, ["_law_rows_here"], rfl, rfl, rfl, rfl, rfl, rfl, rfl, rfl, rfl, rfl, rfl, rfl, rfl, (fun vals h => by rcases vals with _ | ⟨a, _ | ⟨q, r⟩⟩ <;> first | rfl | (simp at h)), by kernel_rfl, by kernel_rfl, by kernel_rfl, by kernel_rfl⟩
  have fn__law_depth : FnIn (Mine.top2.heap_1_39 w.params) G2 "_law_depth" 231 [36] c__law_depth := ⟨by kernel_rfl, _, _, _, _, _, _, _, ["_law_rows_here"], rfl, rfl, rfl, rfl, rfl, rfl, rfl, rfl, rfl, rfl, rfl, rfl, rfl, (fun vals h => by rcases vals with _ | ⟨a, _ | ⟨q, r⟩⟩ <;> first | rfl | (simp at h)), by kernel_rfl, by kernel_rfl, by kernel_rfl, by kernel_rfl⟩
  have fn__law_told : FnIn (Mine.top2.heap_1_39 w.params) G2 "_law_told" 238 [44] c__law_told := ⟨by kernel_rfl, _, _, _, _, _, _, _, ["_law_thing"], rfl, rfl, rfl, rfl, rfl, rfl, rfl, rfl, rfl, rfl, rfl, rfl, rfl, (fun vals h => by rcases vals with _ | ⟨a, _ | ⟨q, r⟩⟩ <;> first | rfl | (simp at h)), by kernel_rfl, by kernel_rfl, by kernel_rfl, by kernel_rfl⟩
  have fn__law_no_expression : FnIn (Mine.top2.heap_1_39 w.params) G2 "_law_no_expression" 245 [46, 18] c__law_no_expression := ⟨by kernel_rfl, _, _, _, _, _, _, _, ["_law_program_here", "_law_cell"], rfl, rfl, rfl, rfl, rfl, rfl, rfl, rfl, rfl, rfl, rfl, rfl, rfl, (fun vals h => by rcases vals with _ | ⟨a, _ | ⟨b, _ | ⟨q, r⟩⟩⟩ <;> first | rfl | (simp at h)), by kernel_rfl, by kernel_rfl, by kernel_rfl, by kernel_rfl⟩
  have fn__law_no_statement : FnIn (Mine.top2.heap_1_39 w.params) G2 "_law_no_statement" 252 [46, 18] c__law_no_statement := ⟨by kernel_rfl, _, _, _, _, _, _, _, ["_law_program_here", "_law_cell"], rfl, rfl, rfl, rfl, rfl, rfl, rfl, rfl, rfl, rfl, rfl, rfl, rfl, (fun vals h => by rcases vals with _ | ⟨a, _ | ⟨b, _ | ⟨q, r⟩⟩⟩ <;> first | rfl | (simp at h)), by kernel_rfl, by kernel_rfl, by kernel_rfl, by kernel_rfl⟩
  have fn__law_spoilt : FnIn (Mine.top2.heap_1_39 w.params) G2 "_law_spoilt" 259 [46, 18] c__law_spoilt := ⟨by kernel_rfl, _, _, _, _, _, _, _, ["_law_program_here", "_law_cell"], rfl, rfl, rfl, rfl, rfl, rfl, rfl, rfl, rfl, rfl, rfl, rfl, rfl, (fun vals h => by rcases vals with _ | ⟨a, _ | ⟨b, _ | ⟨q, r⟩⟩⟩ <;> first | rfl | (simp at h)), by kernel_rfl, by kernel_rfl, by kernel_rfl, by kernel_rfl⟩
  have fn_law : FnIn (Mine.top2.heap_1_39 w.params) G2 "law" 266 [16] c_law := ⟨by kernel_rfl, _, _, _, _, _, _, _, ["_law_script"], rfl, rfl, rfl, rfl, rfl, rfl, rfl, rfl, rfl, rfl, rfl, rfl, rfl, (fun vals h => by rcases vals with _ | ⟨a, _ | ⟨q, r⟩⟩ <;> first | rfl | (simp at h)), by kernel_rfl, by kernel_rfl, by kernel_rfl, by kernel_rfl⟩
  have Tfn : ∀ (k : Nat) f a, G2.fns[k]? = some (f, a) → ∃ is cs, tab2[k]? = some (is, cs) ∧ FnIn (Mine.top2.heap_1_39 w.params) G2 f a is cs := by
    intro k f a e
    match k, e with
    | 0, e => cases e; exact ⟨_, _, rfl, fn_is_whole⟩
    | 1, e => cases e; exact ⟨_, _, rfl, fn_is_among⟩
    | 2, e => cases e; exact ⟨_, _, rfl, fn_are_wholes⟩
    | 3, e => cases e; exact ⟨_, _, rfl, fn_is_range⟩
    | 4, e => cases e; exact ⟨_, _, rfl, fn_is_expression⟩
    | 5, e => cases e; exact ⟨_, _, rfl, fn_is_word⟩
    | 6, e => cases e; exact ⟨_, _, rfl, fn_is_statement⟩
    | 7, e => cases e; exact ⟨_, _, rfl, fn_inner_rows⟩
    | 8, e => cases e; exact ⟨_, _, rfl, fn_are_rows⟩
    | 9, e => cases e; exact ⟨_, _, rfl, fn_is_program⟩
    | 10, e => cases e; exact ⟨_, _, rfl, fn_depth⟩
    | 11, e => cases e; exact ⟨_, _, rfl, fn_weight⟩
    | 12, e => cases e; exact ⟨_, _, rfl, fn_need_program⟩
    | 13, e => cases e; exact ⟨_, _, rfl, fn__law_cell_at⟩
    | 14, e => cases e; exact ⟨_, _, rfl, fn__law_mixed⟩
    | 15, e => cases e; exact ⟨_, _, rfl, fn__law_whole⟩
    | 16, e => cases e; exact ⟨_, _, rfl, fn__law_ranges⟩
    | 17, e => cases e; exact ⟨_, _, rfl, fn__law_expression⟩
    | 18, e => cases e; exact ⟨_, _, rfl, fn__law_word_by⟩
    | 19, e => cases e; exact ⟨_, _, rfl, fn__law_statement⟩
    | 20, e => cases e; exact ⟨_, _, rfl, fn__law_rows⟩
    | 21, e => cases e; exact ⟨_, _, rfl, fn__law_program⟩
    | 22, e => cases e; exact ⟨_, _, rfl, fn__law_weight⟩
    | 23, e => cases e; exact ⟨_, _, rfl, fn__law_depth⟩
    | 24, e => cases e; exact ⟨_, _, rfl, fn__law_told⟩
    | 25, e => cases e; exact ⟨_, _, rfl, fn__law_no_expression⟩
    | 26, e => cases e; exact ⟨_, _, rfl, fn__law_no_statement⟩
    | 27, e => cases e; exact ⟨_, _, rfl, fn__law_spoilt⟩
    | 28, e => cases e; exact ⟨_, _, rfl, fn_law⟩
    | k + 29, e => simp [G2] at e
  have Tblt : ∀ f v, (f, v) ∈ bltL → nsIn (Mine.top2.heap_1_39 w.params) mainGlobals f = some none ∧ bootBuiltins f = some v ∧ f ≠ "__name__" := by
    intro f v h
    simp only [bltL, primL, tyL, restL, primP, tyP, List.map, List.cons_append, List.nil_append, List.mem_cons, List.not_mem_nil, or_false, Prod.mk.injEq] at h
    rcases h with ⟨rfl, rfl⟩ | ⟨rfl, rfl⟩ | ⟨rfl, rfl⟩ | ⟨rfl, rfl⟩ | ⟨rfl, rfl⟩ | ⟨rfl, rfl⟩ | ⟨rfl, rfl⟩ | ⟨rfl, rfl⟩ | ⟨rfl, rfl⟩ | ⟨rfl, rfl⟩ | ⟨rfl, rfl⟩ | ⟨rfl, rfl⟩ | ⟨rfl, rfl⟩ | ⟨rfl, rfl⟩ | ⟨rfl, rfl⟩ | ⟨rfl, rfl⟩ | ⟨rfl, rfl⟩ <;> exact ⟨by kernel_rfl, by decide +kernel, by decide +kernel⟩
  have Tcst : ∀ x d, G2.consts.lookup x = some d → ∃ v, nsIn (Mine.top2.heap_1_39 w.params) mainGlobals x = some (some v) ∧ ∀ h S, Rd h S v d := by
    intro x d h
    have h := mem_lookup h
    simp only [G2, List.mem_cons, List.not_mem_nil, or_false, Prod.mk.injEq] at h
    rcases h with ⟨rfl, rfl⟩ | ⟨rfl, rfl⟩ | ⟨rfl, rfl⟩ | ⟨rfl, rfl⟩ | ⟨rfl, rfl⟩ | ⟨rfl, rfl⟩ | ⟨rfl, rfl⟩ | ⟨rfl, rfl⟩
    all_goals exact cst_of (by kernel_rfl)
  have T : TabIn (Mine.top2.heap_1_39 w.params) G2 tab2 := ⟨Tfn, Tblt, Tcst⟩
  have Tx : ∀ x c, G2.excs.lookup x = some c → nsIn (Mine.top2.heap_1_39 w.params) mainGlobals x = some (some (.ref (ec2 c))) ∧ excIn (Mine.top2.heap_1_39 w.params) (ec2 c) vMro "ValueError.__new__" = true := by
    intro x c h
    have h := mem_lookup h
    simp only [G2, List.mem_cons, List.not_mem_nil, or_false, Prod.mk.injEq] at h
    rcases h with ⟨rfl, rfl⟩ | ⟨rfl, rfl⟩ | ⟨rfl, rfl⟩ | ⟨rfl, rfl⟩ | ⟨rfl, rfl⟩ <;> exact ⟨by kernel_rfl, by kernel_rfl⟩
  have Tcl : ∀ c, c < 5 → findObj (Mine.top2.heap_1_39 w.params) (ec2 c) none "__class__" = some (.bind (.builtin "getset_descriptor.__get__") (.builtin "object.__class__")) := by
    intro c hc
    match c, hc with
    | 0, _ => kernel_rfl
    | 1, _ => kernel_rfl
    | 2, _ => kernel_rfl
    | 3, _ => kernel_rfl
    | 4, _ => kernel_rfl
  have TX : XK (Mine.top2.heap_1_39 w.params) ⟨s₁.heap, fun _ => False, false⟩ ec2 := xk_of KX (by kernel_rfl) Tcl
  have TW : ExcIn ⟨s₁.heap, fun _ => False, false⟩ ec2 G2 := fun x c e => ⟨mg, G.T.g, own_of_in KX (topRead_of G.T) (Tx x c e).1 (Tx x c e).2⟩
  obtain ⟨is, rfl, hlen⟩ := Mine.law_args rfl rfl hpre
  obtain ⟨l, vs, rfl, hl, hv⟩ := Mine.well_list hwl
  have hfa : fa = 266 := by
    have e := hmg.symm.trans (mg_of KX G.T.g fn_law.glob)
    cases e
    rfl
  subst hfa
  exact Mine.run_law (ec := ec2) (N := 1000001) (k := 15) (f := 28) KX G.T.g G.T.b G.T.builtins G.T.nolimit T (fun x c e => (Tx x c e).1) TX TW (by decide) rfl hl hv (Mine.law2 1000001 0 (by decide) is hlen) fun h' tk hk => Mine.law_good hg hk
theorem PySem.Challenge.cw_uf010029_02_holds : PySem.Challenge.rw_uf010029_02.Holds :=
  Mine.top2
