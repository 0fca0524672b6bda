import PyProof.Rows.All
import Wide.All
import OpenK.AllK
import Wide.FinOn
import PySem.Challenge.RW_changedalike_k85_whole_turners
import HandS.ForMost
import KE.DataMinMax
import KE.SortKeyHeap
import KE.DataIsa
import KE.DataCmp
import HandS.Evl
import HandS.Deep
import HandS.IsInst
import HandS.Rev
import HandS.Zip
import HandS.TupAny
import HandS.TupMul
import HandS.SetFor
import HandS.SortInts
import HandS.SortKw
import HandS.Wide
import KE.KIndexOf
import KE.GoesZip
import KE.GoesEnum
import KE.SortData
import HandS.HeadHook2
import HandS.Words
import KE.KStateDown
import HandS.Base
import HandS.Call
import HandS.Ends
import HandS.More
import HandS.WordsExc
import HandS.Defaults
import HandS.Head0
import HandS.Head1
import HandS.Head2
import HandS.HeadEnd
import HandS.HeadHook1
import KE.DatumOrd
set_option Elab.async false
set_option linter.all false
set_option maxRecDepth 100000
/-! Vm: a small language over pure data, its meaning as a computable function, and the way from the text's own terms to it. -/
namespace Vm
open PySem

abbrev D := PyData
abbrev Rho := List (Option D)

/-- what an expression gives: a value that stands still, a list that nobody else holds, or a place of the frame -/
inductive R where
  | val (d : D) | own (d : D) | slot (i : Nat)
inductive BOp where
  | add | sub | mul | mod | fdiv | pow
  deriving DecidableEq
inductive COp where
  | eq | ne | lt | le | gt | ge | isin | notin
  deriving DecidableEq
inductive Ty where
  | int | bool | str | tuple | list
  deriving DecidableEq
inductive Fn where
  | len | abs | int | str | tuple | list | all | any | min | max | sorted | sortlen | lenset | isi (t : Ty)
  deriving DecidableEq
inductive G where
  | name (i : Nat) | tup (is : List Nat)
  deriving DecidableEq

mutual
inductive E where
  | var (i : Nat) | mvar (i : Nat) | mv (i : Nat)
  | int (k : Int) | bl (b : Bool) | non | str (s : Str)
  | bin (o : BOp) (a b : E) | neg (a : E)
  | cmp (o : COp) (a b : E) | isn (ng : Bool) (a : E) | chain (o p : COp) (a b c : E)
  | and (a b : E) | or (a b : E) | not (a : E) | ife (t : T) (a b : E)
  | tup (as : As) | lst (as : As) | dict0
  | ix (a i : E) | sl (a : E) (lo hi : O)
  | call (k : Nat) (m : List Nat) (as : As) | callk (k : Nat) (perm : List Nat) (as : As) | blt (f : Fn) (as : As) | din (ng : Bool) (e : E) (i : Nat)
  | pop (i : Nat) | popAt (i : Nat) (e : E) | index (a b : E)
  | lc (own : List Nat) (g : G) (it : It) (t : T) (e : E)
inductive As where
  | nil | cons (e : E) (r : As)
inductive O where
  | none | some (e : E)
inductive T where
  | yes | ofE (e : E) | and (a b : T) | or (a b : T) | not (a : T)
inductive It where
  | seq (e : E) | range (as : As) | enum (e : E) | zip (as : As) | rev (e : E)
end
mutual
inductive S where
  | asg (g : G) (e : E) | masg (i : Nat) (e : E) | setix (i : Nat) (k e : E) | dput (i : Nat) (k e : E) | aug (i : Nat) (e : E)
  | expr (e : E) | append (i : Nat) (e : E) | ite (t : T) (a b : Ss) | loop (g : G) (it : It) (b : Ss) | whl (t : T) (b : Ss)
  | ret (e : E) | brk | cont | pass
inductive Ss where
  | nil | cons (s : S) (r : Ss)
end
inductive Fl where
  | nx | br | ct | rt (r : R)

/-! ### values -/
def lim : Nat := 100000
def nodict : D → Option D
  | .dict _ => none
  | d => some d
def isNonD : D → Bool
  | .none => true
  | _ => false
def res (ρ : Rho) : R → Option D
  | .val d => some d
  | .own d => nodict d
  | .slot i => match ρ[i]? with
    | some (some d) => nodict d
    | _ => none
def val? : R → Option D
  | .val d => some d
  | .own d => nodict d
  | .slot _ => none
def mulOk (i j : Int) : Bool := (decide (-(2 ^ 64) < i) && decide (i < 2 ^ 64)) || (decide (-(2 ^ 64) < j) && decide (j < 2 ^ 64))
def binD : BOp → D → D → Option R
  | .add, .int i, .int j => some (.val (.int (i + j)))
  | .add, .tuple xs, .tuple ys => if xs.length + ys.length ≤ lim then some (.val (.tuple (xs ++ ys))) else none
  | .add, .list xs, .list ys => if xs.length + ys.length ≤ lim then some (.own (.list (xs ++ ys))) else none
  | .sub, .int i, .int j => some (.val (.int (i - j)))
  | .mul, .int i, .int j => if mulOk i j then some (.val (.int (i * j))) else none
  | .mul, .tuple xs, .int k => if (1 ≤ k ∧ k ≤ 1000) ∧ xs.length ≤ 1000 ∧ xs.isEmpty = false then some (.val (.tuple (List.replicate k.toNat xs).flatten)) else none
  | .mod, .int i, .int j => if j ≠ 0 then some (.val (.int (i.fmod j))) else none
  | .fdiv, .int i, .int j => if j ≠ 0 ∧ j.natAbs < 1073741824 then some (.val (.int (i.fdiv j))) else none
  | .pow, .int i, .int j => if 0 ≤ j ∧ j ≤ 1000000 ∧ i.natAbs < 2 ^ 64 then some (.val (.int (i ^ j.toNat))) else none
  | _, _, _ => none
/-- whether a dict with int keys has one -/
def keyAt (k : Int) : D → Bool
  | .int j => decide (j = k)
  | _ => false
def hasP (k : Int) (q : List (D × D)) : Bool := q.any fun p => keyAt k p.1
def putP (k : Int) (v : D) (q : List (D × D)) : List (D × D) :=
  if hasP k q then q.map fun p => if keyAt k p.1 then (p.1, v) else p else q ++ [(.int k, v)]
def ltOk (x y : D) : Bool := W.alike x y && decide (x.depth ≤ 60) && (match x with | .none => false | _ => true)
def cmpD : COp → D → D → Option Bool
  | .eq, x, y => if SeqAt.shaped x && SeqAt.shaped y then some (PyData.eqv x y) else none
  | .ne, x, y => if SeqAt.shaped x && SeqAt.shaped y then some (!PyData.eqv x y) else none
  | .lt, .int i, .int j => some (decide (i < j))
  | .lt, x, y => if ltOk x y then some (W.dataLt x y) else none
  | .le, .int i, .int j => some (decide (i ≤ j))
  | .gt, .int i, .int j => some (decide (j < i))
  | .ge, .int i, .int j => some (decide (j ≤ i))
  | .isin, x, .list ys => if SeqAt.shaped x && SeqAt.shaped (.list ys) then some (ys.any fun z => PyData.eqv z x) else none
  | .notin, x, .list ys => if SeqAt.shaped x && SeqAt.shaped (.list ys) then some (!ys.any fun z => PyData.eqv z x) else none
  | _, _, _ => none
def truthD : D → Option Bool
  | .none => some false
  | .bool b => some b
  | .int i => some (i != 0)
  | .list xs => some (!xs.isEmpty)
  | .tuple xs => some (!xs.isEmpty)
  | _ => none
def ixD : D → D → Option D
  | .list xs, .int i => L2.atI xs i
  | .tuple xs, .int i => L2.atI xs i
  | _, _ => none
def cutL {α : Type} (xs : List α) (lo hi : Option Int) : List α := (xs.drop (HT.sIx xs.length 0 lo)).take (HT.sIx xs.length xs.length hi - HT.sIx xs.length 0 lo)
def slD (d : D) (lo hi : Option Int) : Option R :=
  match d with
  | .list xs => some (.own (.list (cutL xs lo hi)))
  | .tuple xs => some (.val (.tuple (cutL xs lo hi)))
  | _ => none
def ints? : List D → Option (List Int)
  | [] => some []
  | .int i :: r => (ints? r).map (i :: ·)
  | _ :: _ => none
def bools? : List D → Option (List Bool)
  | [] => some []
  | .bool b :: r => (bools? r).map (b :: ·)
  | _ :: _ => none
/-- the lengths of lists -/
def lens? : List D → Option (List (List D))
  | [] => some []
  | .list xs :: r => (lens? r).map (xs :: ·)
  | _ :: _ => none
def isTy : Ty → D → Bool
  | .int, .int _ => true
  | .int, .bool _ => true
  | .bool, .bool _ => true
  | .str, .str _ => true
  | .tuple, .tuple _ => true
  | .list, .list _ => true
  | _, _ => false
def alikeB (xs : List D) : Bool := (xs.all fun x => xs.all fun y => W.alike x y) && xs.all fun x => match x with | .none => false | _ => true
/-- each int once -/
def dedup : List Int → List Int
  | [] => []
  | x :: r => if x ∈ r then dedup r else x :: dedup r
def bltD : Fn → List D → Option R
  | .len, [.list xs] => some (.val (.int xs.length))
  | .len, [.tuple xs] => some (.val (.int xs.length))
  | .abs, [.int i] => some (.val (.int (if i < 0 then -i else i)))
  | .int, [.int i] => some (.val (.int i))
  | .str, [.int i] => if i.natAbs.log2 < 1920 then some (.val (.str (toString i))) else none
  | .tuple, [.list xs] => some (.val (.tuple xs))
  | .tuple, [.tuple xs] => some (.val (.tuple xs))
  | .list, [.list xs] => some (.own (.list xs))
  | .list, [.tuple xs] => some (.own (.list xs))
  | .all, [.list xs] => (bools? xs).map fun bs => .val (.bool (bs.all id))
  | .any, [.list xs] => (bools? xs).map fun bs => .val (.bool (bs.any id))
  | .min, [.list (x :: xs)] => if alikeB (x :: xs) && decide (PyData.depthAll (x :: xs) ≤ 60) then some (.val (W.minD x xs)) else none
  | .max, [.int i, .int j] => some (.val (.int (if j > i then j else i)))
  | .sorted, [.list xs] => (ints? xs).map fun ns => .own (.list ((ns.mergeSort (fun a b => decide (a ≤ b))).map .int))
  | .sortlen, [.list xs] => (lens? xs).map fun ls => .own (.list ((ls.mergeSort (fun a b => decide (a.length ≤ b.length))).map .list))
  | .lenset, [.tuple xs] => (ints? xs).bind fun ns => if ns.length ≤ 4000 then some (.val (.int (dedup ns).length)) else none
  | .isi t, [d] => some (.val (.bool (isTy t d)))
  | _, _ => none
def popAtD (k : Int) (xs : List D) : Option (D × List D) :=
  match seqIndex? k xs.length with
  | some j => match xs[j]? with
    | some d => some (d, xs.eraseIdx j)
    | none => none
  | none => none
def assignAll : List Nat → List D → Rho → Option Rho
  | [], [], ρ => some ρ
  | i :: is, d :: ds, ρ => if i < ρ.length then assignAll is ds (ρ.set i (some d)) else none
  | _, _, _ => none
def assignG : G → D → Rho → Option Rho
  | .name i, d, ρ => if i < ρ.length then some (ρ.set i (some d)) else none
  | .tup is, .tuple ds, ρ => if ds.length = is.length then assignAll is ds ρ else none
  | _, _, _ => none
def clear : List Nat → Rho → Rho
  | [], ρ => ρ
  | i :: is, ρ => (clear is ρ).set i none
/-- the places is as ρ₀ has them, the others as ρ -/
def restore (ρ₀ : Rho) : List Nat → Rho → Rho
  | [], ρ => ρ
  | i :: is, ρ => match ρ₀[i]? with
    | some o => (restore ρ₀ is ρ).set i o
    | none => restore ρ₀ is ρ
def slotPos : Nat → List R → List Nat
  | _, [] => []
  | k, .slot _ :: r => k :: slotPos (k + 1) r
  | k, _ :: r => slotPos (k + 1) r
def slotIds : List R → List Nat
  | [] => []
  | .slot i :: r => i :: slotIds r
  | _ :: r => slotIds r
def nodupB : List Nat → Bool
  | [] => true
  | i :: r => !r.contains i && nodupB r
def setAll : Rho → List Nat → List D → Rho
  | ρ, i :: is, d :: ds => setAll (ρ.set i (some d)) is ds
  | ρ, _, _ => ρ
def resAll (ρ : Rho) : List R → Option (List D)
  | [] => some []
  | r :: rs => match res ρ r, resAll ρ rs with
    | some d, some ds => some (d :: ds)
    | _, _ => none
def valAll : List R → Option (List D)
  | [] => some []
  | r :: rs => match val? r, valAll rs with
    | some d, some ds => some (d :: ds)
    | _, _ => none
def picks (ds : List D) : List Nat → Option (List D)
  | [] => some []
  | i :: is => match ds[i]?, picks ds is with
    | some d, some r => some (d :: r)
    | _, _ => none
def zipD2 : List D → List D → List D
  | x :: xs, y :: ys => .tuple [x, y] :: zipD2 xs ys
  | _, _ => []
def zipD3 : List D → List D → List D → List D
  | x :: xs, y :: ys, z :: zs => .tuple [x, y, z] :: zipD3 xs ys zs
  | _, _, _ => []
def enumD (k : Nat) : List D → List D
  | [] => []
  | x :: xs => .tuple [.int (k : Int), x] :: enumD (k + 1) xs
def rangeD (lo : Int) (n : Nat) : List D := (List.range n).map fun (i : Nat) => .int (lo + (i : Int))
def small62 (i : Int) : Bool := decide (-(2 ^ 62) ≤ i) && decide (i < 2 ^ 62)
def seqOf : D → Option (List D)
  | .list xs => some xs
  | .tuple xs => some xs
  | _ => none
def tupOf : D → Option (List D)
  | .tuple xs => some xs
  | _ => none

def isListAt (ρ : Rho) (i : Nat) : Bool := match ρ[i]? with
  | some (some (.list _)) => true
  | _ => false
def isDictAt (ρ : Rho) (i : Nat) : Bool := match ρ[i]? with
  | some (some (.dict _)) => true
  | _ => false
/-! ### loops -/
def lcLoop (t : Rho → Option (Bool × Rho)) (f : Rho → Option (R × Rho)) (g : G) (own : List Nat) : List D → Rho → List D → Option (List D × Rho)
  | [], ρ, acc => some (acc, ρ)
  | d :: ds, ρ, acc => do
    let ρ1 ← assignG g d ρ
    let (b, ρ2) ← t ρ1
    if b then
      let (r, ρ3) ← f ρ2
      let x ← val? r
      if acc.length < lim then lcLoop t f g own ds (clear own ρ3) (acc ++ [x]) else none
    else lcLoop t f g own ds (clear own ρ2) acc
def forLoop (f : Rho → Option (Fl × Rho)) (g : G) : List D → Rho → Option (Fl × Rho)
  | [], ρ => some (.nx, ρ)
  | d :: ds, ρ => do
    let ρ1 ← assignG g d ρ
    let (fl, ρ2) ← f ρ1
    match fl with
    | .nx => forLoop f g ds ρ2
    | .ct => forLoop f g ds ρ2
    | .br => some (.nx, ρ2)
    | .rt r => some (.rt r, ρ2)
def whileN (t : Rho → Option (Bool × Rho)) (f : Rho → Option (Fl × Rho)) : Nat → Rho → Option (Fl × Rho)
  | 0, _ => none
  | n + 1, ρ => do
    let (b, ρ1) ← t ρ
    if b then
      let (fl, ρ2) ← f ρ1
      match fl with
      | .nx => whileN t f n ρ2
      | .ct => whileN t f n ρ2
      | .br => some (.nx, ρ2)
      | .rt r => some (.rt r, ρ2)
    else some (.nx, ρ1)
def wfuel : Nat := 100000

/-! ### the meaning -/
abbrev Fs := Nat → List D → Option (R × List D)
mutual
def evalE (Φ : Fs) : E → Rho → Option (R × Rho)
  | .var i, ρ => match ρ[i]? with
    | some (some d) => some (.val d, ρ)
    | _ => none
  | .mvar i, ρ => match ρ[i]? with
    | some (some _) => some (.slot i, ρ)
    | _ => none
  | .mv i, ρ => match ρ[i]? with
    | some (some d) => some (.own d, ρ.set i none)
    | _ => none
  | .int k, ρ => some (.val (.int k), ρ)
  | .bl b, ρ => some (.val (.bool b), ρ)
  | .non, ρ => some (.val .none, ρ)
  | .str s, ρ => some (.val (.str s), ρ)
  | .bin o a b, ρ => do
    let (ra, ρ1) ← evalE Φ a ρ
    let (rb, ρ2) ← evalE Φ b ρ1
    let x ← res ρ2 ra
    let y ← res ρ2 rb
    let r ← binD o x y
    some (r, ρ2)
  | .neg a, ρ => do
    let (ra, ρ1) ← evalE Φ a ρ
    match ra with
    | .val (.int i) => some (.val (.int (-i)), ρ1)
    | _ => none
  | .cmp o a b, ρ => do
    let (ra, ρ1) ← evalE Φ a ρ
    let (rb, ρ2) ← evalE Φ b ρ1
    let x ← res ρ2 ra
    let y ← res ρ2 rb
    let c ← cmpD o x y
    some (.val (.bool c), ρ2)
  | .isn ng a, ρ => do
    let (ra, ρ1) ← evalE Φ a ρ
    let x ← val? ra
    some (.val (.bool (if ng then !isNonD x else isNonD x)), ρ1)
  | .chain o p a b c, ρ => do
    let (ra, ρ1) ← evalE Φ a ρ
    let (rb, ρ2) ← evalE Φ b ρ1
    let x ← val? ra
    let y ← val? rb
    let k ← cmpD o x y
    if k then
      let (rc, ρ3) ← evalE Φ c ρ2
      let z ← res ρ3 rc
      let k2 ← cmpD p y z
      some (.val (.bool k2), ρ3)
    else some (.val (.bool false), ρ2)
  | .and a b, ρ => do
    let (ra, ρ1) ← evalE Φ a ρ
    match ra with
    | .val (.bool k) => if k then evalE Φ b ρ1 else some (.val (.bool false), ρ1)
    | _ => none
  | .or a b, ρ => do
    let (ra, ρ1) ← evalE Φ a ρ
    match ra with
    | .val (.bool k) => if k then some (.val (.bool true), ρ1) else evalE Φ b ρ1
    | _ => none
  | .not a, ρ => do
    let (ra, ρ1) ← evalE Φ a ρ
    match ra with
    | .val (.bool k) => some (.val (.bool (!k)), ρ1)
    | _ => none
  | .ife t a b, ρ => do
    let (k, ρ1) ← evalT Φ t ρ
    if k then evalE Φ a ρ1 else evalE Φ b ρ1
  | .tup as, ρ => do
    let (rs, ρ1) ← evalAs Φ as ρ
    let ds ← valAll rs
    if ds.length ≤ lim then some (.val (.tuple ds), ρ1) else none
  | .lst as, ρ => do
    let (rs, ρ1) ← evalAs Φ as ρ
    let ds ← valAll rs
    if ds.length ≤ lim then some (.own (.list ds), ρ1) else none
  | .dict0, ρ => some (.own (.dict []), ρ)
  | .ix a i, ρ => do
    let (ra, ρ1) ← evalE Φ a ρ
    let (ri, ρ2) ← evalE Φ i ρ1
    let x ← res ρ2 ra
    let y ← res ρ2 ri
    let d ← ixD x y
    some (.val d, ρ2)
  | .sl a lo hi, ρ => do
    let (ra, ρ1) ← evalE Φ a ρ
    let (l, ρ2) ← evalO Φ lo ρ1
    let (h, ρ3) ← evalO Φ hi ρ2
    let x ← res ρ3 ra
    let r ← slD x l h
    some (r, ρ3)
  | .call k m as, ρ => do
    let (rs, ρ1) ← evalAs Φ as ρ
    let ds ← resAll ρ1 rs
    if slotPos 0 rs = m ∧ nodupB (slotIds rs) = true then do
      let (r, outs) ← Φ k ds
      some (r, setAll ρ1 (slotIds rs) outs)
    else none
  | .callk k perm as, ρ => do
    let (rs, ρ1) ← evalAs Φ as ρ
    let ds ← valAll rs
    let es ← picks ds perm
    let (r, outs) ← Φ k es
    match outs with
    | [] => some (r, ρ1)
    | _ => none
  | .blt f as, ρ => do
    let (rs, ρ1) ← evalAs Φ as ρ
    let ds ← resAll ρ1 rs
    let r ← bltD f ds
    some (r, ρ1)
  | .din ng e i, ρ => do
    let (r, ρ1) ← evalE Φ e ρ
    match r, ρ1[i]? with
    | .val (.int k), some (some (.dict ps)) => some (.val (.bool (if ng then !hasP k ps else hasP k ps)), ρ1)
    | _, _ => none
  | .pop i, ρ => match ρ[i]? with
    | some (some (.list xs)) => match xs.getLast? with
      | some d => some (.val d, ρ.set i (some (.list xs.dropLast)))
      | none => none
    | _ => none
  | .popAt i e, ρ => if isListAt ρ i then do
    let (r, ρ1) ← evalE Φ e ρ
    match r, ρ1[i]? with
    | .val (.int k), some (some (.list xs)) => (if small62 k then (popAtD k xs).map fun p => (.val p.1, ρ1.set i (some (.list p.2))) else none)
    | _, _ => none
    else none
  | .index a b, ρ => do
    let (ra, ρ1) ← evalE Φ a ρ
    let (rb, ρ2) ← evalE Φ b ρ1
    match ra, rb with
    | .val (.tuple xs), .val (.int k) => match ints? xs with
      | some ns => if k ∈ ns then some (.val (.int (ns.idxOf k : Nat)), ρ2) else none
      | none => none
    | _, _ => none
  | .lc own g it t e, ρ => do
    let (items, ρ1) ← evalI Φ it ρ
    let (acc, ρ2) ← lcLoop (fun r => evalT Φ t r) (fun r => evalE Φ e r) g own items (clear own ρ1) []
    some (.own (.list acc), restore ρ1 own ρ2)
def evalAs (Φ : Fs) : As → Rho → Option (List R × Rho)
  | .nil, ρ => some ([], ρ)
  | .cons e r, ρ => do
    let (x, ρ1) ← evalE Φ e ρ
    let (xs, ρ2) ← evalAs Φ r ρ1
    some (x :: xs, ρ2)
def evalO (Φ : Fs) : O → Rho → Option (Option Int × Rho)
  | .none, ρ => some (none, ρ)
  | .some e, ρ => do
    let (r, ρ1) ← evalE Φ e ρ
    match r with
    | .val (.int i) => some (some i, ρ1)
    | _ => none
def evalT (Φ : Fs) : T → Rho → Option (Bool × Rho)
  | .yes, ρ => some (true, ρ)
  | .ofE e, ρ => do
    let (r, ρ1) ← evalE Φ e ρ
    let d ← res ρ1 r
    let b ← truthD d
    some (b, ρ1)
  | .and a b, ρ => do
    let (k, ρ1) ← evalT Φ a ρ
    if k then evalT Φ b ρ1 else some (false, ρ1)
  | .or a b, ρ => do
    let (k, ρ1) ← evalT Φ a ρ
    if k then some (true, ρ1) else evalT Φ b ρ1
  | .not a, ρ => do
    let (k, ρ1) ← evalT Φ a ρ
    some (!k, ρ1)
def evalI (Φ : Fs) : It → Rho → Option (List D × Rho)
  | .seq e, ρ => do
    let (r, ρ1) ← evalE Φ e ρ
    let d ← val? r
    let xs ← seqOf d
    some (xs, ρ1)
  | .range as, ρ => do
    let (rs, ρ1) ← evalAs Φ as ρ
    let ds ← valAll rs
    match ds with
    | [.int n] => if small62 n then some (rangeD 0 n.toNat, ρ1) else none
    | [.int a, .int b] => if small62 a && small62 b then some (rangeD a (b - a).toNat, ρ1) else none
    | _ => none
  | .enum e, ρ => do
    let (r, ρ1) ← evalE Φ e ρ
    let d ← val? r
    let xs ← seqOf d
    some (enumD 0 xs, ρ1)
  | .zip as, ρ => do
    let (rs, ρ1) ← evalAs Φ as ρ
    let ds ← valAll rs
    match ds with
    | [.tuple xs, .tuple ys] => some (zipD2 xs ys, ρ1)
    | [.list xs, .list ys] => some (zipD2 xs ys, ρ1)
    | [.tuple xs, .tuple ys, .tuple zs] => some (zipD3 xs ys zs, ρ1)
    | _ => none
  | .rev e, ρ => do
    let (r, ρ1) ← evalE Φ e ρ
    let d ← val? r
    let xs ← seqOf d
    some (xs.reverse, ρ1)
end
mutual
def exec (Φ : Fs) : S → Rho → Option (Fl × Rho)
  | .asg g e, ρ => do
    let (r, ρ1) ← evalE Φ e ρ
    let d ← val? r
    let ρ2 ← assignG g d ρ1
    some (.nx, ρ2)
  | .masg i e, ρ => do
    let (r, ρ1) ← evalE Φ e ρ
    match r with
    | .own d => if i < ρ1.length then some (.nx, ρ1.set i (some d)) else none
    | _ => none
  | .setix i k e, ρ => do
    let (r, ρ1) ← evalE Φ e ρ
    let d ← val? r
    if isListAt ρ1 i then do
    let (rk, ρ2) ← evalE Φ k ρ1
    match rk, ρ2[i]? with
    | .val (.int j), some (some (.list xs)) => match L2.ixN xs.length j with
      | some n => some (.nx, ρ2.set i (some (.list (xs.set n d))))
      | none => none
    | _, _ => none
    else none
  | .dput i k e, ρ => do
    let (r, ρ1) ← evalE Φ e ρ
    let d ← val? r
    if isDictAt ρ1 i then do
    let (rk, ρ2) ← evalE Φ k ρ1
    match rk, ρ2[i]? with
    | .val (.int j), some (some (.dict ps)) => if ps.length < lim then some (.nx, ρ2.set i (some (.dict (putP j d ps)))) else none
    | _, _ => none
    else none
  | .aug i e, ρ => match ρ[i]? with
    | some (some (.int x)) => do
      let (r, ρ1) ← evalE Φ e ρ
      match r with
      | .val (.int y) => some (.nx, ρ1.set i (some (.int (x + y))))
      | _ => none
    | _ => none
  | .expr e, ρ => do
    let (_, ρ1) ← evalE Φ e ρ
    some (.nx, ρ1)
  | .append i e, ρ => if isListAt ρ i then do
    let (r, ρ1) ← evalE Φ e ρ
    let d ← val? r
    match ρ1[i]? with
    | some (some (.list xs)) => if xs.length < lim then some (.nx, ρ1.set i (some (.list (xs ++ [d])))) else none
    | _ => none
    else none
  | .ite t a b, ρ => do
    let (k, ρ1) ← evalT Φ t ρ
    if k then execs Φ a ρ1 else execs Φ b ρ1
  | .loop g it b, ρ => do
    let (items, ρ1) ← evalI Φ it ρ
    forLoop (fun r => execs Φ b r) g items ρ1
  | .whl t b, ρ => whileN (fun r => evalT Φ t r) (fun r => execs Φ b r) wfuel ρ
  | .ret e, ρ => do
    let (r, ρ1) ← evalE Φ e ρ
    match r with
    | .slot _ => none
    | _ => some (.rt r, ρ1)
  | .brk, ρ => some (.br, ρ)
  | .cont, ρ => some (.ct, ρ)
  | .pass, ρ => some (.nx, ρ)
def execs (Φ : Fs) : Ss → Rho → Option (Fl × Rho)
  | .nil, ρ => some (.nx, ρ)
  | .cons s r, ρ => do
    let (fl, ρ1) ← exec Φ s ρ
    match fl with
    | .nx => execs Φ r ρ1
    | f => some (f, ρ1)
end

/-- a def: how many parameters, how many places, which places hold lists that change, which parameters do, its body -/
structure FD where
  np : Nat
  ns : Nat
  M : List Nat
  mps : List Nat
  body : Ss
def outsOf (ρ : Rho) : List Nat → Option (List D)
  | [] => some []
  | i :: is => match ρ[i]?, outsOf ρ is with
    | some (some d), some ds => some (d :: ds)
    | _, _ => none
def runFD (Φ : Fs) (f : FD) (ds : List D) : Option (R × List D) :=
  if ds.length = f.np then do
    let (fl, ρ) ← execs Φ f.body (ds.map some ++ List.replicate (f.ns - f.np) none)
    let outs ← outsOf ρ f.mps
    match fl with
    | .rt (.val d) => some (.val d, outs)
    | .rt (.own d) => some (.own d, outs)
    | .nx => some (.val .none, outs)
    | _ => none
  else none
/-- the program's defs, calls n deep -/
def phi (prog : Nat → Option FD) : Nat → Fs
  | 0, _, _ => none
  | n + 1, k, ds => match prog k with
    | some f => runFD (phi prog n) f ds
    | none => none
end Vm
set_option Elab.async false
set_option linter.all false
set_option maxRecDepth 100000
/-! VmC: from the text's terms to the small language. -/
namespace Vm
open PySem
/-- what is known ahead of a def: its places, those that hold lists that change, of these the parameters and the dicts; the text's defs by name, which of their parameters change, their parameters' names -/
structure Cp where
  N : List Str
  M : List Nat
  mps : List Nat
  dm : List Nat
  fns : List (Str × List Nat × List Str)
  kwl : List (Nat × List Str)
def Cp.ix (c : Cp) (x : Str) : Option Nat := if c.N.contains x then some (c.N.idxOf x) else none
def nameOk (x : Str) : Bool := !(x == ("__debug__" : Str)) && !(x == ("__classdict__" : Str)) && !(x == ("__name__" : Str))
def visB (sc : Scope) (x : Str) : Bool := match sc.names.lookup x with
  | some .local => true
  | some .cell => true
  | some .free => true
  | _ => false
def locB (sc : Scope) (x : Str) : Bool := match sc.names.lookup x with
  | some .local => true
  | some .cell => true
  | _ => false
def glB (sc : Scope) (x : Str) : Bool := match sc.names.lookup x with
  | some .globalImplicit => true
  | _ => false
def noStar : Expr → Bool
  | .Starred .. => false
  | _ => true
def noSet : Expr → Bool
  | .Set .. => false
  | _ => true
def noComp : Expr → Bool
  | .ListComp .. => false
  | .SetComp .. => false
  | .DictComp .. => false
  | _ => true
def plainT : Expr → Bool
  | .UnaryOp .. => false
  | .BoolOp .. => false
  | .IfExp .. => false
  | .Compare .. => false
  | _ => true
def noSlice : Expr → Bool
  | .Slice .. => false
  | _ => true
def noPack : Expr → Bool
  | .Tuple .. => false
  | .List .. => false
  | _ => true
def bopOf : Operator → Option BOp
  | .Add => some .add
  | .Sub => some .sub
  | .Mult => some .mul
  | .Mod => some .mod
  | .FloorDiv => some .fdiv
  | .Pow => some .pow
  | _ => none
def copOf : CmpOp → Option COp
  | .Eq => some .eq
  | .NotEq => some .ne
  | .Lt => some .lt
  | .LtE => some .le
  | .Gt => some .gt
  | .GtE => some .ge
  | .In => some .isin
  | .NotIn => some .notin
  | _ => none
def tyOf : Str → Option Ty := fun x =>
  if x = ("int" : Str) then some .int else if x = ("bool" : Str) then some .bool else if x = ("str" : Str) then some .str
  else if x = ("tuple" : Str) then some .tuple else if x = ("list" : Str) then some .list else none
/-- the built-ins that are called, by name -/
def fnOf : Str → Option Fn := fun x =>
  if x = ("len" : Str) then some .len else if x = ("abs" : Str) then some .abs else if x = ("int" : Str) then some .int else if x = ("str" : Str) then some .str
  else if x = ("tuple" : Str) then some .tuple else if x = ("list" : Str) then some .list else if x = ("all" : Str) then some .all else if x = ("any" : Str) then some .any
  else if x = ("min" : Str) then some .min else if x = ("max" : Str) then some .max else if x = ("sorted" : Str) then some .sorted else none
def isMvar : E → Bool
  | .mvar _ => true
  | _ => false
def fnIx (c : Cp) (f : Str) : Option (Nat × List Nat × List Str) :=
  let i := (c.fns.map (·.1)).idxOf f
  match c.fns[i]? with
  | some (_, m, ps) => some (i, m, ps)
  | none => none
def tnames : List Expr → Option (List Str)
  | [] => some []
  | .Name x _ :: r => (tnames r).map (x :: ·)
  | _ :: _ => none
def locL (sc : Scope) (dl : Bool) (x : Str) : Bool := match sc.names.lookup x with
  | some .local => true
  | some .cell => dl
  | _ => false
/-- a target: names of the scope, not among those that change -/
def compG (c : Cp) (sc : Scope) (dl : Bool) : Expr → Option G
  | .Name x _ => match c.ix x with
    | some i => if locL sc dl x && !c.M.contains i then some (.name i) else none
    | none => none
  | .Tuple es _ _ => match tnames es with
    | some xs => if xs.all (fun x => locL sc dl x && match c.ix x with | some i => !c.M.contains i | none => false) then some (.tup (xs.map fun x => c.N.idxOf x)) else none
    | none => none
  | _ => none
def ownOf (c : Cp) : Expr → List (Str × Nat)
  | .Name x _ => [(x, c.N.idxOf x)]
  | .Tuple es _ _ => match tnames es with
    | some xs => xs.map fun x => (x, c.N.idxOf x)
    | none => []
  | _ => []
def isTup : Expr → Bool
  | .Tuple .. => true
  | _ => false
def kwNames : List Keyword → Option (List Str)
  | [] => some []
  | ⟨some x, _, _⟩ :: r => (kwNames r).map (x :: ·)
  | ⟨none, _, _⟩ :: _ => none
/-- a dict of the frame, by name -/
def dname (c : Cp) (sc : Scope) : Expr → Option Nat
  | .Name x _ => match c.ix x with
    | some i => if c.dm.contains i && visB sc x && nameOk x && c.M.contains i then some i else none
    | none => none
  | _ => none
mutual
def compE (c : Cp) : Nat → Scope → Bool → Expr → Option E
  | 0, _, _, _ => none
  | n + 1, sc, b, ex => match ex with
    | .Name x _ => match c.ix x with
      | some i => if visB sc x && nameOk x then (if c.M.contains i then (if b then some (.mvar i) else if c.mps.contains i then none else some (.mv i)) else some (.var i)) else none
      | none => none
    | .Constant k _ _ => match k with
      | .none => some .non
      | .bool v => some (.bl v)
      | .int v => some (.int v)
      | .str v => some (.str v)
      | _ => none
    | .BinOp x o y _ => do
      let f ← bopOf o
      let p ← compE c n sc true x
      let q ← compE c n sc true y
      some (.bin f p q)
    | .UnaryOp .USub x _ => (compE c n sc false x).map .neg
    | .UnaryOp .Not x _ => (compE c n sc false x).map .not
    | .BoolOp _ [x] _ => compE c n sc false x
    | .BoolOp .And (x :: r) p => do
      let a ← compE c n sc false x
      let d ← compE c n sc false (.BoolOp .And r p)
      some (.and a d)
    | .BoolOp .Or (x :: r) p => do
      let a ← compE c n sc false x
      let d ← compE c n sc false (.BoolOp .Or r p)
      some (.or a d)
    | .Compare x [.Is] [.Constant .none _ _] _ => (compE c n sc false x).map (.isn false)
    | .Compare x [.IsNot] [.Constant .none _ _] _ => (compE c n sc false x).map (.isn true)
    | .Compare x [o] [y] _ => do
      let f ← copOf o
      match dname c sc y with
      | some i => do
        let p ← compE c n sc false x
        match f with
        | .isin => some (.din false p i)
        | .notin => some (.din true p i)
        | _ => none
      | none => do
        let p ← compE c n sc true x
        let q ← compE c n sc true y
        if noSet y then some (.cmp f p q) else none
    | .Compare x [o1, o2] [y, z] _ => do
      let f ← copOf o1
      let g ← copOf o2
      let p ← compE c n sc false x
      let q ← compE c n sc false y
      let r ← compE c n sc true z
      if noSet y && noSet z then some (.chain f g p q r) else none
    | .IfExp t x y _ => do
      let k ← compT c n sc t
      let p ← compE c n sc false x
      let q ← compE c n sc false y
      some (.ife k p q)
    | .Tuple es _ _ => (compAs c n sc false es).map .tup
    | .List es _ => (compAs c n sc false es).map .lst
    | .Dict [] [] _ => some .dict0
    | .Subscript x (.Slice lo hi none _) _ => do
      let p ← compE c n sc true x
      let l ← compO c n sc lo
      let h ← compO c n sc hi
      some (.sl p l h)
    | .Subscript x i _ => do
      let p ← compE c n sc true x
      let q ← compE c n sc false i
      if noSlice i then some (.ix p q) else none
    | .Call (.Name f _) (a :: as) [] _ =>
      if glB sc f && nameOk f then
        if f = ("isinstance" : Str) then match as with
          | [.Name t _] => do
            let ty ← tyOf t
            let p ← compE c n sc true a
            if glB sc t && nameOk t && noStar a then some (.blt (.isi ty) (.cons p .nil)) else none
          | _ => none
        else match fnOf f with
        | some fn => (match fn, a, as with
          | .len, .Call (.Name s _) [x] [] _, [] => if s = ("set" : Str) then do
              let p ← compE c n sc true x
              if glB sc s && noStar x then some (.blt .lenset (.cons p .nil)) else none
            else do
              let ps ← compAs c n sc true (a :: as)
              some (.blt fn ps)
          | _, _, _ => do
            let ps ← compAs c n sc true (a :: as)
            some (.blt fn ps))
        | none => do
          let (k, m, _) ← fnIx c f
          let ps ← compAs c n sc true (a :: as)
          some (.call k m ps)
      else none
    | .Call (.Name f _) [a] [⟨some kw, .Name l _, _⟩] _ =>
      if f = ("sorted" : Str) && kw = ("key" : Str) && l = ("len" : Str) && glB sc f && glB sc l && noStar a then (compE c n sc true a).map fun p => .blt .sortlen (.cons p .nil) else none
    | .Call (.Name f _) [] kws _ =>
      if glB sc f && nameOk f then do
        let (k, m, ps) ← fnIx c f
        let ks ← kwNames kws
        let as ← compAs c n sc false (kws.map (·.value))
        if m.isEmpty && ps.all (fun x => ks.contains x) && ks.length = ps.length && !kws.isEmpty && c.kwl.contains (k, ks) then some (.callk k (ps.map fun x => ks.idxOf x) as) else none
      else none
    | .Call (.Attribute (.Name x _) at_ apos) [] [] cpos => match c.ix x with
      | some i => if at_ = ("pop" : Str) && visB sc x && nameOk x && c.M.contains i && !c.dm.contains i && (apos.endLine == cpos.line) then some (.pop i) else none
      | none => none
    | .Call (.Attribute (.Name x _) at_ apos) [a] [] cpos => match c.ix x with
      | some i => if visB sc x && nameOk x && (apos.endLine == cpos.line) && noStar a then
          (if at_ = ("pop" : Str) && c.M.contains i && !c.dm.contains i then (compE c n sc false a).map (.popAt i)
          else if at_ = ("index" : Str) && !c.M.contains i then (compE c n sc false a).map (.index (.var i)) else none) else none
      | none => none
    | .ListComp elt [⟨tg, it, ifs, 0⟩] scope _ => do
      let g ← compG c (relS' scope sc) false tg
      let i ← compI c n sc tg it
      let t ← (match ifs with
        | [] => some T.yes
        | [x] => compT c n (relS' scope sc) x
        | _ => none)
      let e ← compE c n (relS' scope sc) false elt
      if L2.blkC c.N sc scope (ownOf c tg) && (ownOf c tg).all (fun p => !c.M.contains p.2) && noSet it then some (.lc ((ownOf c tg).map (·.2)) g i t e) else none
    | _ => none
def compAs (c : Cp) : Nat → Scope → Bool → List Expr → Option As
  | 0, _, _, _ => none
  | _ + 1, _, _, [] => some .nil
  | n + 1, sc, b, e :: r => do
    let p ← compE c n sc b e
    let q ← compAs c n sc b r
    if noStar e then some (.cons p q) else none
def compO (c : Cp) : Nat → Scope → Option Expr → Option O
  | 0, _, _ => none
  | _ + 1, _, none => some .none
  | n + 1, sc, some e => (compE c n sc false e).map .some
def compT (c : Cp) : Nat → Scope → Expr → Option T
  | 0, _, _ => none
  | n + 1, sc, ex => match ex with
    | .UnaryOp .Not x _ => (compT c n sc x).map .not
    | .BoolOp _ [x] _ => compT c n sc x
    | .BoolOp .And (x :: r) p => do
      let a ← compT c n sc x
      let d ← compT c n sc (.BoolOp .And r p)
      some (.and a d)
    | .BoolOp .Or (x :: r) p => do
      let a ← compT c n sc x
      let d ← compT c n sc (.BoolOp .Or r p)
      some (.or a d)
    | .Compare x os ys p => (compE c n sc false (.Compare x os ys p)).map .ofE
    | x => if plainT x then (compE c n sc true x).map .ofE else none
def compI (c : Cp) : Nat → Scope → Expr → Expr → Option It
  | 0, _, _, _ => none
  | n + 1, sc, tg, ex => match ex with
    | .Call (.Name f _) args [] _ =>
      if f = ("range" : Str) then (if glB sc f then (match args with
        | [_] => (compAs c n sc true args).map .range
        | [_, _] => (compAs c n sc true args).map .range
        | _ => none) else none)
      else if f = ("enumerate" : Str) then (if glB sc f && isTup tg then (match args with
        | [a] => if noStar a then (compE c n sc false a).map .enum else none
        | _ => none) else none)
      else if f = ("zip" : Str) then (if glB sc f && isTup tg then (match args with
        | [_, _] => (compAs c n sc false args).map .zip
        | [_, _, _] => (compAs c n sc false args).map .zip
        | _ => none) else none)
      else if f = ("reversed" : Str) then (if glB sc f then (match args with
        | [a] => if noStar a then (compE c n sc false a).map .rev else none
        | _ => none) else none)
      else (compE c n sc false ex).map .seq
    | _ => (compE c n sc false ex).map .seq
/-- the scope of a block within a scope -/
def relS' (scope sc : Scope) : Scope := L2.relS scope sc
end
mutual
def compS (c : Cp) : Nat → Scope → Stmt → Option S
  | 0, _, _ => none
  | n + 1, sc, st => match st with
    | .Assign [.Name x _] e _ => match c.ix x with
      | some i => if locB sc x then (if c.M.contains i then (if c.mps.contains i then none else (compE c n sc false e).map (.masg i)) else (compE c n sc false e).map (.asg (.name i))) else none
      | none => none
    | .Assign [.Tuple es k p] e _ => do
      let g ← compG c sc true (.Tuple es k p)
      let q ← compE c n sc false e
      if noPack e then some (.asg g q) else none
    | .Assign [.Subscript (.Name x _) k _] e _ => match c.ix x with
      | some i => if visB sc x && nameOk x && c.M.contains i && noSlice k && noComp e then do
          let p ← compE c n sc false k
          let q ← compE c n sc false e
          if c.dm.contains i then some (.dput i p q) else some (.setix i p q)
        else none
      | none => none
    | .AugAssign (.Name x _) .Add e _ => match c.ix x with
      | some i => if locB sc x && !c.M.contains i then (compE c n sc false e).map (.aug i) else none
      | none => none
    | .Expr (.Call (.Attribute (.Name x xp) at_ apos) [a] [] cpos) p => match c.ix x with
      | some i => if at_ = ("append" : Str) then (if visB sc x && nameOk x && c.M.contains i && !c.dm.contains i && (apos.endLine == cpos.line) && noStar a then (compE c n sc false a).map (.append i) else none)
        else (compE c n sc false (.Call (.Attribute (.Name x xp) at_ apos) [a] [] cpos)).map .expr
      | none => none
    | .Expr e _ => if noComp e then (compE c n sc false e).map .expr else none
    | .If t a b _ => do
      let k ← compT c n sc t
      let p ← compSs c n sc a
      let q ← compSs c n sc b
      some (.ite k p q)
    | .For tg it body [] _ => do
      let g ← compG c sc true tg
      let i ← compI c n sc tg it
      let b ← compSs c n sc body
      if noSet it then some (.loop g i b) else none
    | .While t body [] _ => do
      let k ← compT c n sc t
      let b ← compSs c n sc body
      some (.whl k b)
    | .Return (some e) _ => (compE c n sc false e).map .ret
    | .Return none _ => some (.ret .non)
    | .Break _ => some .brk
    | .Continue _ => some .cont
    | .Pass _ => some .pass
    | _ => none
def compSs (c : Cp) : Nat → Scope → List Stmt → Option Ss
  | 0, _, _ => none
  | _ + 1, _, [] => some .nil
  | n + 1, sc, s :: r => do
    let p ← compS c n sc s
    let q ← compSs c n sc r
    some (.cons p q)
end
end Vm
set_option Elab.async false
set_option linter.all false
set_option maxRecDepth 100000
set_option maxHeartbeats 4000000
/-! VmR: what of the heap stands for pure data; the rules of the hand layer told over pure data. -/
namespace Vm
open PySem L2 Evl

/-- a tuple that is known to have no names of its own -/
def FzT (H : Hp) (a : Addr) (xs : List V) : Prop := ∃ o : Obj, H a = some (.frz o (.tup xs)) ∧ o.dict = none
theorem FzT.sq {K : PySem.W.Frag} {H : Hp} {a : Addr} {xs : List V} (h : FzT H a xs) : SqT K H a xs := let ⟨o, e, _⟩ := h; .inl (.inr ⟨o, e⟩)
theorem fz_mono {H H' : Hp} (e : Ex H H') {a : Addr} {xs : List V} (h : FzT H a xs) : FzT H' a xs := let ⟨o, q, d⟩ := h; ⟨o, e a _ q, d⟩
mutual
/-- what stands for pure data -/
inductive Rp (K : PySem.W.Frag) (H : Hp) : V → D → Prop
  | non : Rp K H .non .none
  | bl (b : Bool) : Rp K H (.bl b) (.bool b)
  | int (i : Int) : Rp K H (.int i) (.int i)
  | str (x : Str) : Rp K H (.str x) (.str x)
  | lst {a : Addr} {xs : List V} {ds : List D} : SqL K H a xs → RpAll K H xs ds → Rp K H (.ref a) (.list ds)
  | tup {a : Addr} {xs : List V} {ds : List D} : FzT H a xs → RpAll K H xs ds → Rp K H (.ref a) (.tuple ds)
inductive RpAll (K : PySem.W.Frag) (H : Hp) : List V → List D → Prop
  | nil : RpAll K H [] []
  | cons {v : V} {vs : List V} {d : D} {ds : List D} : Rp K H v d → RpAll K H vs ds → RpAll K H (v :: vs) (d :: ds)
end
variable {K : PySem.W.Frag}
mutual
theorem Rp.dp {H : Hp} : ∀ {v : V} {d : D}, Rp K H v d → L2.Dp K H v d
  | _, _, .non => .non
  | _, _, .bl b => .bl b
  | _, _, .int i => .int i
  | _, _, .str x => .str x
  | _, _, .lst h r => .lst h (RpAll.dp r)
  | _, _, .tup h r => .tup h.sq (RpAll.dp r)
theorem RpAll.dp {H : Hp} : ∀ {vs : List V} {ds : List D}, RpAll K H vs ds → L2.DpAll K H vs ds
  | _, _, .nil => .nil
  | _, _, .cons h r => .cons (Rp.dp h) (RpAll.dp r)
end
mutual
theorem dp_mono {H H' : Hp} (e : Ex H H') : ∀ {v : V} {d : D}, Rp K H v d → Rp K H' v d
  | _, _, .non => .non
  | _, _, .bl b => .bl b
  | _, _, .int i => .int i
  | _, _, .str x => .str x
  | _, _, .lst h r => .lst (ex_l e h) (dps_mono e r)
  | _, _, .tup h r => .tup (fz_mono e h) (dps_mono e r)
theorem dps_mono {H H' : Hp} (e : Ex H H') : ∀ {vs : List V} {ds : List D}, RpAll K H vs ds → RpAll K H' vs ds
  | _, _, .nil => .nil
  | _, _, .cons h r => .cons (dp_mono e h) (dps_mono e r)
end
theorem dps_len {H : Hp} : ∀ {vs : List V} {ds : List D}, RpAll K H vs ds → vs.length = ds.length
  | _, _, .nil => rfl
  | _, _, .cons _ r => by simp [dps_len r]
theorem dps_get {H : Hp} : ∀ {vs : List V} {ds : List D}, RpAll K H vs ds → ∀ (i : Nat) {d : D}, ds[i]? = some d → ∃ v, vs[i]? = some v ∧ Rp K H v d
  | _, _, .nil, _, _, h => by simp at h
  | _, _, .cons h r, 0, d, e => by
    simp at e
    subst e
    exact ⟨_, rfl, h⟩
  | _, _, .cons h r, i + 1, d, e => by
    obtain ⟨v, a, b⟩ := dps_get r i (d := d) (by simpa using e)
    exact ⟨v, by simpa using a, b⟩
theorem dps_at {H : Hp} : ∀ {vs : List V} {ds : List D}, RpAll K H vs ds → ∀ (i : Nat) {v : V}, vs[i]? = some v → ∃ d, ds[i]? = some d ∧ Rp K H v d
  | _, _, .nil, _, _, h => by simp at h
  | _, _, .cons h r, 0, d, e => by
    simp at e
    subst e
    exact ⟨_, rfl, h⟩
  | _, _, .cons h r, i + 1, d, e => by
    obtain ⟨v, a, b⟩ := dps_at r i (v := d) (by simpa using e)
    exact ⟨v, by simpa using a, b⟩
theorem dps_append {H : Hp} : ∀ {vs ws : List V} {ds es : List D}, RpAll K H vs ds → RpAll K H ws es → RpAll K H (vs ++ ws) (ds ++ es)
  | _, _, _, _, .nil, s => s
  | _, _, _, _, .cons h r, s => .cons h (dps_append r s)
theorem dps_take {H : Hp} : ∀ (n : Nat) {vs : List V} {ds : List D}, RpAll K H vs ds → RpAll K H (vs.take n) (ds.take n)
  | 0, _, _, _ => by simp only [List.take_zero]; exact .nil
  | _ + 1, _, _, .nil => .nil
  | n + 1, _, _, .cons h r => .cons h (dps_take n r)
theorem dps_drop {H : Hp} : ∀ (n : Nat) {vs : List V} {ds : List D}, RpAll K H vs ds → RpAll K H (vs.drop n) (ds.drop n)
  | 0, _, _, r => r
  | _ + 1, _, _, .nil => .nil
  | n + 1, _, _, .cons _ r => dps_drop n r
theorem dps_set {H : Hp} {v : V} {d : D} (hd : Rp K H v d) : ∀ (n : Nat) {vs : List V} {ds : List D}, RpAll K H vs ds → RpAll K H (vs.set n v) (ds.set n d)
  | _, _, _, .nil => .nil
  | 0, _, _, .cons _ r => .cons hd r
  | n + 1, _, _, .cons h r => .cons h (dps_set hd n r)
theorem dps_erase {H : Hp} : ∀ (n : Nat) {vs : List V} {ds : List D}, RpAll K H vs ds → RpAll K H (vs.eraseIdx n) (ds.eraseIdx n)
  | _, _, _, .nil => .nil
  | 0, _, _, .cons _ r => r
  | n + 1, _, _, .cons h r => .cons h (dps_erase n r)
theorem dps_dropLast {H : Hp} {vs : List V} {ds : List D} (h : RpAll K H vs ds) : RpAll K H vs.dropLast ds.dropLast := by
  rw [List.dropLast_eq_take, List.dropLast_eq_take, dps_len h]
  exact dps_take _ h
theorem dps_rev {H : Hp} : ∀ {vs : List V} {ds : List D}, RpAll K H vs ds → RpAll K H vs.reverse ds.reverse
  | _, _, .nil => .nil
  | _, _, .cons h r => by
    rw [List.reverse_cons, List.reverse_cons]
    exact dps_append (dps_rev r) (.cons h .nil)
theorem dps_rep {H : Hp} {vs : List V} {ds : List D} (h : RpAll K H vs ds) : ∀ n : Nat, RpAll K H (List.replicate n vs).flatten (List.replicate n ds).flatten
  | 0 => .nil
  | n + 1 => by
    rw [List.replicate_succ, List.replicate_succ, List.flatten_cons, List.flatten_cons]
    exact dps_append h (dps_rep h n)

/-- the heap grows; of what stood only what P tells may change; what is frozen grows by new things alone -/
structure Grow (P : Addr → Prop) (F H F' H' : Hp) : Prop where
  ff : Ex F F'
  fh : Ex F' H'
  fr : ∀ a o, H a = some o → ¬ P a → H' a = some o
  nw : ∀ a, F' a ≠ none → F a ≠ none ∨ H a = none ∨ P a
  dm : ∀ a, H a ≠ none → H' a ≠ none
theorem Grow.refl {P : Addr → Prop} {F H : Hp} (e : Ex F H) : Grow P F H F H := ⟨Ex.refl F, e, fun _ _ h _ => h, fun _ h => .inl h, fun _ h => h⟩
theorem Grow.trans {P P1 : Addr → Prop} {F H F1 H1 F2 H2 : Hp} (a : Grow P F H F1 H1) (b : Grow P1 F1 H1 F2 H2) (hp : ∀ x, P1 x → P x ∨ H x = none) : Grow P F H F2 H2 where
  ff := a.ff.trans b.ff
  fh := b.fh
  fr := fun x o h np => b.fr x o (a.fr x o h np) fun h1 => (hp x h1).elim np fun z => by rw [z] at h; cases h
  nw := fun x h => by
    rcases b.nw x h with h1 | h1 | h1
    · exact a.nw x h1
    · by_cases z : H x = none
      · exact .inr (.inl z)
      · exact absurd h1 (a.dm x z)
    · rcases hp x h1 with y | y
      · exact .inr (.inr y)
      · exact .inr (.inl y)
  dm := fun x h => b.dm x (a.dm x h)
abbrev New (F H F' H' : Hp) : Prop := Grow (fun _ => False) F H F' H'
theorem New.keep {F H F' H' : Hp} (g : New F H F' H') : Ex H H' := fun a o h => g.fr a o h id
/-- a new thing is laid and frozen -/
theorem New.one {F H : Hp} {p : Addr} {o : HO} (e : Ex F H) (hp : H p = none) : New F H (upd F p o) (upd H p o) where
  ff := Ex.new (fresh_back e hp)
  fh := fun a u h => by
    by_cases z : a = p
    · subst z; rw [upd_same] at h ⊢; exact h
    · rw [upd_ne z] at h ⊢; exact e a u h
  fr := fun a u h _ => by rw [upd_ne (ne_of_none h hp)]; exact h
  nw := fun a h => by
    by_cases z : a = p
    · subst z; exact .inr (.inl hp)
    · rw [upd_ne z] at h; exact .inl h
  dm := fun a h => by
    by_cases z : a = p
    · subst z; exact absurd hp h
    · rw [upd_ne z]; exact h
/-- a new thing is laid, not frozen -/
theorem New.own {F H : Hp} {p : Addr} {o : HO} (e : Ex F H) (hp : H p = none) : New F H F (upd H p o) where
  ff := Ex.refl F
  fh := fun a u h => by rw [upd_ne (ne_of_none (e a u h) hp)]; exact e a u h
  fr := fun a u h _ => by rw [upd_ne (ne_of_none h hp)]; exact h
  nw := fun a h => .inl h
  dm := fun a h => by
    by_cases z : a = p
    · subst z; exact absurd hp h
    · rw [upd_ne z]; exact h

/-- a dict with int keys -/
inductive KvR (K : PySem.W.Frag) (F : Hp) : List (Key × V) → List (D × D) → Prop
  | nil : KvR K F [] []
  | cons {k : Int} {v : V} {d : D} {r : List (Key × V)} {q : List (D × D)} : Rp K F v d → KvR K F r q → KvR K F ((Sum.inl k, v) :: r) ((.int k, d) :: q)
theorem kv_mono {F F' : Hp} (e : Ex F F') : ∀ {r : List (Key × V)} {q : List (D × D)}, KvR K F r q → KvR K F' r q
  | _, _, .nil => .nil
  | _, _, .cons h r => .cons (dp_mono e h) (kv_mono e r)
theorem kv_len {F : Hp} : ∀ {r : List (Key × V)} {q : List (D × D)}, KvR K F r q → r.length = q.length
  | _, _, .nil => rfl
  | _, _, .cons _ r => by simp [kv_len r]
/-- what an object that changes holds -/
inductive Hold (K : PySem.W.Frag) (F : Hp) : HO → D → Prop
  | lst {vs : List V} {ds : List D} : RpAll K F vs ds → Hold K F (.lst vs) (.list ds)
  | dct {r : List (Key × V)} {q : List (D × D)} : KvR K F r q → Hold K F (.dK r) (.dict q)
theorem Hold.mono {F F' : Hp} (e : Ex F F') {o : HO} {d : D} : Hold K F o d → Hold K F' o d
  | .lst h => .lst (dps_mono e h)
  | .dct h => .dct (kv_mono e h)
/-- a list (a dict) at a that is not frozen -/
structure OwnAt (K : PySem.W.Frag) (F H : Hp) (a : Addr) (d : D) : Prop where
  nf : F a = none
  hd : ∃ o, H a = some o ∧ Hold K F o d
theorem OwnAt.some {F H : Hp} {a : Addr} {d : D} (h : OwnAt K F H a d) : H a ≠ none := by
  obtain ⟨o, e, _⟩ := h.hd
  rw [e]
  exact fun z => nomatch z
/-- what an operand may be -/
def Bd (K : PySem.W.Frag) (F H : Hp) (v : V) (d : D) : Prop := Rp K F v d ∨ ∃ a, v = .ref a ∧ OwnAt K F H a d
theorem Bd.list {F H : Hp} (e : Ex F H) {v : V} {ds : List D} (h : Bd K F H v (.list ds)) : ∃ a vs, v = .ref a ∧ SqL K H a vs ∧ RpAll K F vs ds := by
  rcases h with h | ⟨a, rfl, _, o, ho, hh⟩
  · cases h with
    | lst h r => exact ⟨_, _, rfl, ex_l e h, r⟩
  · cases hh with
    | lst r => exact ⟨a, _, rfl, SqL.of ho, r⟩
theorem Bd.tup {F H : Hp} (e : Ex F H) {v : V} {ds : List D} (h : Bd K F H v (.tuple ds)) : ∃ a vs, v = .ref a ∧ SqT K H a vs ∧ FzT F a vs ∧ RpAll K F vs ds := by
  rcases h with h | ⟨a, rfl, _, o, ho, hh⟩
  · cases h with
    | tup h r => exact ⟨_, _, rfl, (fz_mono e h).sq, h, r⟩
  · cases hh
theorem Bd.dp {F H : Hp} (e : Ex F H) {v : V} {d : D} (h : Bd K F H v d) (nd : ∀ q, d ≠ .dict q) : L2.Dp K H v d := by
  rcases h with h | ⟨a, rfl, _, o, ho, hh⟩
  · exact (dp_mono e h).dp
  · cases hh with
    | lst r => exact .lst (SqL.of ho) (dps_mono e r).dp
    | dct r => exact absurd rfl (nd _)
theorem Bd.int {F H : Hp} {v : V} {i : Int} (h : Bd K F H v (.int i)) : v = .int i := by
  rcases h with h | ⟨a, rfl, _, o, ho, hh⟩
  · cases h; rfl
  · cases hh
theorem Bd.bool {F H : Hp} {v : V} {i : Bool} (h : Bd K F H v (.bool i)) : v = .bl i := by
  rcases h with h | ⟨a, rfl, _, o, ho, hh⟩
  · cases h; rfl
  · cases hh
theorem Bd.str {F H : Hp} {v : V} {i : Str} (h : Bd K F H v (.str i)) : v = .str i := by
  rcases h with h | ⟨a, rfl, _, o, ho, hh⟩
  · cases h; rfl
  · cases hh
theorem Bd.non {F H : Hp} {v : V} (h : Bd K F H v .none) : v = .non := by
  rcases h with h | ⟨a, rfl, _, o, ho, hh⟩
  · cases h; rfl
  · cases hh
inductive BdAll (K : PySem.W.Frag) (F H : Hp) : List V → List D → Prop
  | nil : BdAll K F H [] []
  | cons {v : V} {d : D} {vs : List V} {ds : List D} : Bd K F H v d → BdAll K F H vs ds → BdAll K F H (v :: vs) (d :: ds)
/-- what comes of it -/
def RV (K : PySem.W.Frag) (F' H H' : Hp) (v : V) : R → Prop
  | .val d => Rp K F' v d
  | .own d => ∃ a, v = .ref a ∧ OwnAt K F' H' a d ∧ H a = none
  | .slot _ => False
/-- what is wanted behind an operation on values -/
def Fin (K : PySem.W.Frag) (F H : Hp) (r : R) (Q : VK) : Prop := ∀ v H' F', New F H F' H' → RV K F' H H' v r → Q v H'
theorem Fin.int {F H : Hp} {i : Int} {Q : VK} (e : Ex F H) (h : Fin K F H (.val (.int i)) Q) : Q (.int i) H := h _ H F (Grow.refl e) (Rp.int i)
theorem Fin.bl {F H : Hp} {i : Bool} {Q : VK} (e : Ex F H) (h : Fin K F H (.val (.bool i)) Q) : Q (.bl i) H := h _ H F (Grow.refl e) (Rp.bl i)
theorem Fin.str {F H : Hp} {i : Str} {Q : VK} (e : Ex F H) (h : Fin K F H (.val (.str i)) Q) : Q (.str i) H := h _ H F (Grow.refl e) (Rp.str i)
theorem Fin.old {F H : Hp} {v : V} {d : D} {Q : VK} (e : Ex F H) (hv : Rp K F v d) (h : Fin K F H (.val d) Q) : Q v H := h _ H F (Grow.refl e) hv
theorem Fin.tup {F H : Hp} {vs : List V} {ds : List D} {Q : VK} (e : Ex F H) (hv : RpAll K F vs ds) (h : Fin K F H (.val (.tuple ds)) Q) : ∀ p (ob : Obj), H p = none → ob.dict = none → Q (.ref p) (upd H p (.frz ob (.tup vs))) := fun p ob hp hd =>
  h _ _ _ (New.one e hp) (Rp.tup ⟨ob, upd_same, hd⟩ (dps_mono (New.one (o := .frz ob (.tup vs)) e hp).ff hv))
theorem Fin.lst {F H : Hp} {vs : List V} {ds : List D} {Q : VK} (e : Ex F H) (hv : RpAll K F vs ds) (h : Fin K F H (.own (.list ds)) Q) : ∀ p, H p = none → Q (.ref p) (upd H p (.lst vs)) := fun p hp =>
  h _ _ _ (New.own e hp) ⟨p, rfl, ⟨fresh_back e hp, _, upd_same, .lst hv⟩, hp⟩

/-! ### two-place operators -/
def oOf : BOp → Operator
  | .add => .Add
  | .sub => .Sub
  | .mul => .Mult
  | .mod => .Mod
  | .fdiv => .FloorDiv
  | .pow => .Pow
def rBin (K : PySem.W.Frag) (o : BOp) : R2 := fun x y H Q => ∃ F d e r, Ex F H ∧ Bd K F H x d ∧ Bd K F H y e ∧ binD o d e = some r ∧ Fin K F H r Q
theorem lim_line {n : Nat} (h : n ≤ lim) : n ≤ sizeLine := Nat.le_trans h (by decide)
theorem lim_lt {n : Nat} (h : n < lim) : n < sizeLine := Nat.lt_of_lt_of_le h (by decide)
section
variable {X : Cx}
/-- a new tuple, known -/
theorem Inv.tnew {pins : List (Addr × Obj)} {σ : L2.St} {H : Hp} {s : Shared} {its : List Value} {xs : List V} {t' : Nat} (I : Inv X pins σ H s) (hv : Vals xs its) (hz : xs.length ≤ sizeLine) :
    Inv X pins σ (upd H s.heap.objs.size (.frz { cls := .type "tuple", data := .seq its.toArray } (.tup xs))) { s with heap := s.heap.push { cls := .type "tuple", data := .seq its.toArray }, toks := t' } :=
  I.laid (fun _ _ q => Heap.get?_push_of_some _ q) (Nat.le_refl _) ⟨Heap.get?_push_size _ rfl, hz, its, hv, _, Heap.get?_push_size _ rfl, rfl, _, rfl⟩
/-- a tuple of written items -/
def tTupF (t : TA) : TE := fun σ H Q => t σ H fun xs H1 => xs.length ≤ sizeLine ∧ ∀ p (ob : Obj), H1 p = none → ob.dict = none → Q (.ref p) (upd H1 p (.frz ob (.tup xs)))
theorem pe_tupF {es : List Expr} {k : Nat} {pos : Pos} {t : TA} (h : PA X es t) : PE X (.Tuple es k pos) (tTupF t) := by
  constructor
  intro pins s σ H Q I hq
  have run := h.run pos pins s σ H _ I hq
  refine wpAny_Tuple_spliced (thn run ?_)
  rintro us s1 ⟨xs, H1, I1, r, z, q⟩
  have z2 : us.length ≤ sizeLine := r.length ▸ z
  exact ⟨z2, .ref s1.heap.objs.size, _, Inv.tnew (t' := s1.toks) I1 r z, rfl, q _ _ I1.fresh rfl⟩
/-- t + u -/
def rCatF (K : PySem.W.Frag) : R2 := fun x y H Q => ∃ a b xs ys, x = .ref a ∧ y = .ref b ∧ SqT K H a xs ∧ SqT K H b ys ∧ xs.length + ys.length ≤ sizeLine ∧
  (xs = [] → Q (.ref b) H) ∧ (xs ≠ [] → ys = [] → Q (.ref a) H) ∧ ∀ p (ob : Obj), H p = none → ob.dict = none → Q (.ref p) (upd H p (.frz ob (.tup (xs ++ ys))))
theorem op_catF : OpR X (binaryOp .Add) (rCatF X.K) := by
  intro pins s σ H x y v u Q I rx ry ⟨a, b, xs, ys, ex, ey, ha, hb, hz, q0, q1, q2⟩
  subst ex ey
  cases rx
  cases ry
  obtain ⟨its, r1, p1, _⟩ := I.tuple ha
  obtain ⟨its2, r2, p2, _⟩ := I.tuple hb
  by_cases hx : xs = []
  · subst hx
    cases r1
    exact cat_tup0 p1 p2 ⟨.ref b, H, I, rfl, q0 rfl⟩
  · refine HT.cat_tup p1 p2 (fun z => hx (r1.nil_iff.mp z)) (fun z => ⟨.ref a, H, I, rfl, q1 hx (r2.nil_iff.mp z)⟩) (fun _ => ?_) (by rw [← r1.length, ← r2.length]; exact hz)
    exact ⟨.ref s.heap.objs.size, _, Inv.tnew (t' := s.toks) I (r1.append r2) (by rw [List.length_append]; exact hz), rfl, q2 _ _ I.fresh rfl⟩
/-- list + list, whoever holds them -/
theorem op_catS : OpR X (binaryOp .Add) (fun x y H Q => ∃ l b xs zs, x = .ref l ∧ y = .ref b ∧ SqL X.K H l xs ∧ SqL X.K H b zs ∧ xs.length + zs.length ≤ sizeLine ∧ ∀ p, H p = none → Q (.ref p) (upd H p (.lst (xs ++ zs)))) := by
  intro pins s σ H x y v u Q I rx ry ⟨l, b, xs, zs, ex, ey, hl, hb, hz, q⟩
  subst ex ey
  cases rx
  cases ry
  obtain ⟨i1, r1, p1, _⟩ := I.list hl
  obtain ⟨i2, r2, p2, _⟩ := I.list hb
  have w1 := r1.length
  have w2 := r2.length
  obtain ⟨⟨oc, dd, dt, sl⟩, g1, c1, n1, t1⟩ := p1.isList
  obtain ⟨⟨pc, dd2, dt2, sl2⟩, g2, c2, n2, t2⟩ := p2.isList
  simp only at c1 t1 c2 t2
  subst c1 t1 c2 t2
  have e : i1.toArray ++ i2.toArray = (i1 ++ i2).toArray := by simp
  refine concat_meets ⟨_, g1, rfl⟩ ⟨_, g2, rfl⟩ noFill_list_add seq_list_add PySem.F.slot_list_add PySem.F.entry_list_add (PySem.F.args_list_add_2 _ _) (PyProof.Rows.list_addW l b i1.toArray i2.toArray n1 n2 dd dd2 sl sl2 (by simp only [List.size_toArray]; omega)) ⟨g1, g2, ?_⟩
  rw [e]
  exact ⟨.ref _, _, I.lnew (t' := s.toks) (r1.append r2) (by rw [List.length_append]; exact hz), rfl, q _ I.fresh⟩
theorem tuple_mul1 (l : Addr) (items : Array Value) (n : Nat) (dd : Option Addr) (sl : Array (Option Value)) (x : Int) (u : Tok) (c0 : (decide (x < -(2 ^ 63)) || decide (x ≥ 2 ^ 63)) = false) (c1 : (items.isEmpty || x == 1) = true) :
    Meets (Builtin.«tuple.__mul__» ⟨[.ref l, .int x u], []⟩) (fun _ R s => s.heap.get? l = some { cls := .type "tuple", dict := dd, data := .seq items n, slots := sl } ∧
      R (.ok (.ret (Value.ref l))) s) :=
  .of_wp fun prog w A R s h => by
    obtain ⟨hp, g, d, tk, os⟩ := s
    obtain ⟨hl, h⟩ := h
    have f1 := AutoSeq1.idx_int
    wp_walk using wpAny_loadPart' hl
    repeat (first
      | (refine wpAny_ite_false (decide_eq_false (by rw [c0]; exact Bool.false_ne_true)) ?_; wp_walk using wpAny_loadPart' hl)
      | (refine wpAny_ite_true (decide_eq_true c1) ?_; wp_walk using wpAny_loadPart' hl))
    exact ⟨_, rfl, h⟩
theorem mulOk_ok {i j : Int} (h : mulOk i j = true) : CMul i j := by
  unfold mulOk at h
  unfold CMul
  simpa using h
/-- t * k, a new tuple, or t itself -/
def rRepF (K : PySem.W.Frag) : R2 := fun x y H Q => ∃ l k xs, x = .ref l ∧ y = .int k ∧ SqT K H l xs ∧ xs ≠ [] ∧ 1 ≤ k ∧ k ≤ 1000 ∧ xs.length ≤ 1000 ∧ (k = 1 → Q (.ref l) H) ∧ ∀ p (ob : Obj), H p = none → ob.dict = none → Q (.ref p) (upd H p (.frz ob (.tup (List.replicate k.toNat xs).flatten)))
theorem op_repF : OpR X (binaryOp .Mult) (rRepF X.K) := by
  intro pins s σ H x y v u Q I rx ry h
  obtain ⟨l, k, xs, rfl, rfl, hT, hne, h1, h2, hz, q1, q⟩ := h
  cases rx
  obtain ⟨t, rfl⟩ := ry
  obtain ⟨its, r, ⟨⟨cls, dd, data, sl⟩, ho, hc, n, hd⟩, hs⟩ := I.tuple hT
  simp only at hc hd
  subst hc hd
  have hle : its.length = xs.length := r.length.symm
  have hn : its ≠ [] := fun e => hne (by
    rw [e] at hle
    exact List.eq_nil_of_length_eq_zero hle.symm)
  have hi : its.toArray.isEmpty = false := by
    cases its with
    | nil => exact absurd rfl hn
    | cons a b => rfl
  have hsz0 : its.toArray.size = xs.length := by rw [List.size_toArray, hle]
  have c0 : (decide (k < -(2 ^ 63)) || decide (k ≥ 2 ^ 63)) = false := by
    rw [decide_eq_false (by omega), decide_eq_false (by omega)] <;> rfl
  by_cases hk : k = 1
  · have c1 : (its.toArray.isEmpty || k == 1) = true := by rw [hk]; simp
    refine wpAny_binaryOp_repeat_ref (T := "tuple") (U := "int") (by decide) ⟨_, ho, rfl⟩ (fun s' => typeIs_int s' k t) noFill_tuple_mul F.fills_int_mul F.slot_int_rmul repeat_tuple F.slot_int_index.lookup
      (call_meets F.slot_int_rmul (typeIs_int s k t) F.entry_int_rmul (F.args_int_rmul_2 _ _) (int_rmul_tuple k t l its.toArray n dd sl)
        ⟨ho, rfl, ⟨_, ho, rfl⟩, call_meets F.slot_tuple_mul ⟨_, ho, rfl⟩ F.entry_tuple_mul (F.args_tuple_mul_2 _ _) (tuple_mul1 l its.toArray n dd sl k t c0 c1) ⟨ho, ?_⟩⟩)
    exact ⟨.ref l, H, I, rfl, q1 hk⟩
  · have hm : ((its.toArray.size : Nat) : Int) * k ≤ 1000000 := by
      rw [hsz0]
      have a1 : ((xs.length : Nat) : Int) * k ≤ 1000 * k := Int.mul_le_mul_of_nonneg_right (by omega) (by omega)
      omega
    have flen : (List.replicate k.toNat its).flatten.length ≤ sizeLine := by
      rw [PyProof.Rows.lm_len_rep_flat, hle, sizeLine_eq]
      have a1 : k.toNat * xs.length ≤ 1000 * 1000 := Nat.mul_le_mul (by omega) hz
      omega
    have c1 : (its.toArray.isEmpty || k == 1) = false := by
      rw [hi, Bool.false_or]
      exact beq_eq_false_iff_ne.mpr hk
    have c2 : (decide (k ≤ 0) || its.toArray.isEmpty) = false := by
      rw [hi, Bool.or_false]
      exact decide_eq_false (by omega)
    have c4 : Builtin.Tuple.tupleTooMany (((its.toArray.size : Nat) : Int) * k) = false := by
      unfold Builtin.Tuple.tupleTooMany
      rw [sizeLine_eq]
      exact decide_eq_false (by omega)
    refine wpAny_binaryOp_repeat_ref (T := "tuple") (U := "int") (by decide) ⟨_, ho, rfl⟩ (fun s' => typeIs_int s' k t) noFill_tuple_mul F.fills_int_mul F.slot_int_rmul repeat_tuple F.slot_int_index.lookup
      (call_meets F.slot_int_rmul (typeIs_int s k t) F.entry_int_rmul (F.args_int_rmul_2 _ _) (int_rmul_tuple k t l its.toArray n dd sl)
        ⟨ho, rfl, ⟨_, ho, rfl⟩, call_meets F.slot_tuple_mul ⟨_, ho, rfl⟩ F.entry_tuple_mul (F.args_tuple_mul_2 _ _) (tuple_mulW l its.toArray n dd sl k t c0 c1 c2 (by omega) c4 (by rw [size_rep, List.size_toArray]; exact flen)) ⟨ho, ?_⟩⟩)
    rw [size_rep]
    refine ⟨.ref s.heap.objs.size, _, Inv.tnew (t' := s.toks) I (r.rep k.toNat) ?_, rfl, q _ _ I.fresh rfl⟩
    rw [PyProof.Rows.lm_len_rep_flat, sizeLine_eq]
    have a1 : k.toNat * xs.length ≤ 1000 * 1000 := Nat.mul_le_mul (by omega) hz
    omega
theorem op_bin (o : BOp) : OpR X (binaryOp (oOf o)) (rBin X.K o) := by
  intro pins s σ H x y v u Q I rx ry ⟨F, d, e, r, ex, bx, be, hb, q⟩
  cases o with
  | add =>
    unfold binD at hb
    split at hb
    all_goals first | contradiction | (exfalso; simp at hb; done) | skip
    · cases hb
      cases bx.int
      cases be.int
      exact op_add pins s σ H _ _ v u Q I rx ry ⟨_, _, rfl, rfl, q.int ex⟩
    · split at hb
      · cases hb
        rename_i hz
        obtain ⟨a, vs, rfl, h1, h2, h3⟩ := bx.tup ex
        obtain ⟨b, ws, rfl, g1, g2, g3⟩ := be.tup ex
        refine op_catF pins s σ H _ _ v u Q I rx ry ⟨a, b, vs, ws, rfl, rfl, h1, g1, ?_, fun z => ?_, fun _ z => ?_, q.tup ex (dps_append h3 g3)⟩
        · rw [dps_len h3, dps_len g3]; exact lim_line hz
        · subst z
          cases h3
          exact q.old ex (Rp.tup g2 g3)
        · subst z
          cases g3
          rw [List.append_nil] at q
          exact q.old ex (Rp.tup h2 h3)
      · cases hb
    · split at hb
      · cases hb
        rename_i hz
        obtain ⟨a, vs, rfl, h1, h3⟩ := bx.list ex
        obtain ⟨b, ws, rfl, g1, g3⟩ := be.list ex
        exact op_catS pins s σ H _ _ v u Q I rx ry ⟨a, b, vs, ws, rfl, rfl, h1, g1, by rw [dps_len h3, dps_len g3]; exact lim_line hz, q.lst ex (dps_append h3 g3)⟩
      · cases hb
  | sub =>
    unfold binD at hb
    split at hb
    all_goals first | contradiction | (exfalso; simp at hb; done) | skip
    · cases hb
      cases bx.int
      cases be.int
      exact op_sub pins s σ H _ _ v u Q I rx ry ⟨_, _, rfl, rfl, q.int ex⟩
  | mul =>
    unfold binD at hb
    split at hb
    all_goals first | contradiction | (exfalso; simp at hb; done) | skip
    · split at hb
      · cases hb
        rename_i hz
        cases bx.int
        cases be.int
        exact op_mul pins s σ H _ _ v u Q I rx ry ⟨_, _, rfl, rfl, mulOk_ok hz, q.int ex⟩
      · cases hb
    · split at hb
      · cases hb
        rename_i hz
        obtain ⟨a, vs, rfl, h1, h2, h3⟩ := bx.tup ex
        cases be.int
        have hl := dps_len h3
        refine op_repF pins s σ H _ _ v u Q I rx ry ⟨a, _, vs, rfl, rfl, h1, ?_, hz.1.1, hz.1.2, by rw [hl]; exact hz.2.1, fun z => ?_, q.tup ex (dps_rep h3 _)⟩
        · rintro rfl
          cases h3
          exact absurd hz.2.2 (by simp)
        · subst z
          simp only [Int.toNat_one, List.replicate_one, List.flatten_cons, List.flatten_nil, List.append_nil] at q
          exact q.old ex (Rp.tup h2 h3)
      · cases hb
  | mod =>
    unfold binD at hb
    split at hb
    all_goals first | contradiction | (exfalso; simp at hb; done) | skip
    · split at hb
      · cases hb
        rename_i hz
        cases bx.int
        cases be.int
        exact op_modN pins s σ H _ _ v u Q I rx ry ⟨_, _, rfl, rfl, hz, q.int ex⟩
      · cases hb
  | fdiv =>
    unfold binD at hb
    split at hb
    all_goals first | contradiction | (exfalso; simp at hb; done) | skip
    · split at hb
      · cases hb
        rename_i hz
        cases bx.int
        cases be.int
        exact op_fdivN pins s σ H _ _ v u Q I rx ry ⟨_, _, rfl, rfl, hz, q.int ex⟩
      · cases hb
  | pow =>
    unfold binD at hb
    split at hb
    all_goals first | contradiction | (exfalso; simp at hb; done) | skip
    · split at hb
      · cases hb
        rename_i hz
        cases bx.int
        cases be.int
        exact op_pow pins s σ H _ _ v u Q I rx ry ⟨_, _, rfl, rfl, hz, q.int ex⟩
      · cases hb
end
end Vm
set_option Elab.async false
set_option linter.all false
set_option maxRecDepth 100000
set_option maxHeartbeats 4000000
/-! VmR2: comparisons, subscripts, slices, built-in functions over pure data. -/
namespace Vm
open PySem L2 Evl
def cOf : COp → CmpOp
  | .eq => .Eq
  | .ne => .NotEq
  | .lt => .Lt
  | .le => .LtE
  | .gt => .Gt
  | .ge => .GtE
  | .isin => .In
  | .notin => .NotIn
def rCmp (K : PySem.W.Frag) (o : COp) : R2 := fun x y H Q => ∃ F d e b, Ex F H ∧ Bd K F H x d ∧ Bd K F H y e ∧ cmpD o d e = some b ∧ Q (.bl b) H
theorem shaped_nd {d : D} (h : SeqAt.shaped d = true) : ∀ q, d ≠ .dict q := by
  intro q e
  subst e
  have := SeqAt.canLay_of_shaped h
  simp [PyData.canLay0] at this
section
variable {X : Cx}
theorem op_cmp (hu : X.A.units + 65 < cLine) (o : COp) : OpR X (compareOp (cOf o)) (rCmp X.K o) := by
  intro pins s σ H x y v u Q I rx ry ⟨F, d, e, b, ex, bx, be, hb, q⟩
  cases o with
  | eq =>
    simp only [cmpD] at hb
    split at hb
    · rename_i h
      rw [Bool.and_eq_true] at h
      cases hb
      exact op_eqD (by omega) pins s σ H x y v u Q I rx ry ⟨d, e, bx.dp ex (shaped_nd h.1), be.dp ex (shaped_nd h.2), h.1, h.2, q⟩
    · cases hb
  | ne =>
    simp only [cmpD] at hb
    split at hb
    · rename_i h
      rw [Bool.and_eq_true] at h
      cases hb
      exact op_neD (by omega) pins s σ H x y v u Q I rx ry ⟨d, e, bx.dp ex (shaped_nd h.1), be.dp ex (shaped_nd h.2), h.1, h.2, q⟩
    · cases hb
  | lt =>
    by_cases hi : ∃ i j, d = .int i ∧ e = .int j
    · obtain ⟨i, j, rfl, rfl⟩ := hi
      simp only [cmpD] at hb
      cases hb
      cases bx.int
      cases be.int
      exact op_lt pins s σ H _ _ v u Q I rx ry ⟨_, _, rfl, rfl, q⟩
    · have hb2 : (if ltOk d e then some (W.dataLt d e) else none) = some b := by
        rw [← hb]
        cases d <;> cases e <;> first | exact absurd ⟨_, _, rfl, rfl⟩ hi | rfl
      split at hb2
      · rename_i h
        cases hb2
        simp only [ltOk, Bool.and_eq_true, decide_eq_true_eq] at h
        obtain ⟨⟨h1, h2⟩, h3⟩ := h
        have nn : d ≠ .none := fun z => by subst z; simp at h3
        have nd : ∀ q, d ≠ .dict q := fun q z => by
          subst z
          cases e <;> simp [W.alike] at h1
        have ne : ∀ q, e ≠ .dict q := fun q z => by
          subst z
          cases d <;> simp [W.alike] at h1
        obtain ⟨as, r1⟩ := L2.Dp.reads I d x v (bx.dp ex nd) rx
        obtain ⟨bs, r2⟩ := L2.Dp.reads I e y u (be.dp ex ne) ry
        refine W.lt_data r1 r2 h1 nn ?_ ⟨.bl _, H, I, rfl, q⟩
        have := Nat.min_le_left d.depth e.depth
        omega
      · cases hb2
  | le =>
    unfold cmpD at hb
    split at hb
    all_goals first | contradiction | (exfalso; simp at hb; done) | skip
    · cases hb
      cases bx.int
      cases be.int
      exact op_le pins s σ H _ _ v u Q I rx ry ⟨_, _, rfl, rfl, q⟩
  | gt =>
    unfold cmpD at hb
    split at hb
    all_goals first | contradiction | (exfalso; simp at hb; done) | skip
    · cases hb
      cases bx.int
      cases be.int
      exact op_gt pins s σ H _ _ v u Q I rx ry ⟨_, _, rfl, rfl, q⟩
  | ge =>
    unfold cmpD at hb
    split at hb
    all_goals first | contradiction | (exfalso; simp at hb; done) | skip
    · cases hb
      cases bx.int
      cases be.int
      exact op_ge pins s σ H _ _ v u Q I rx ry ⟨_, _, rfl, rfl, q⟩
  | isin =>
    unfold cmpD at hb
    split at hb
    all_goals first | contradiction | (exfalso; simp at hb; done) | skip
    · split at hb
      · rename_i h
        rw [Bool.and_eq_true] at h
        cases hb
        exact op_inD hu pins s σ H x y v u Q I rx ry ⟨_, _, bx.dp ex (shaped_nd h.1), be.dp ex (shaped_nd h.2), h.1, h.2, q⟩
      · cases hb
  | notin =>
    unfold cmpD at hb
    split at hb
    all_goals first | contradiction | (exfalso; simp at hb; done) | skip
    · split at hb
      · rename_i h
        rw [Bool.and_eq_true] at h
        cases hb
        exact op_notInD hu pins s σ H x y v u Q I rx ry ⟨_, _, bx.dp ex (shaped_nd h.1), be.dp ex (shaped_nd h.2), h.1, h.2, q⟩
      · cases hb

/-! ### subscripts, slices -/
def rIxD (K : PySem.W.Frag) : R2 := fun x y H Q => ∃ F d e r, Ex F H ∧ Bd K F H x d ∧ Bd K F H y e ∧ ixD d e = some r ∧ ∀ v, Rp K F v r → Q v H
theorem dps_atI {K : PySem.W.Frag} {F : Hp} {vs : List V} {ds : List D} {i : Int} {r : D} (h : RpAll K F vs ds) (e : atI ds i = some r) : ∃ v, atI vs i = some v ∧ Rp K F v r := by
  unfold atI at e ⊢
  rw [dps_len h]
  obtain ⟨j, e1, e2⟩ := Option.bind_eq_some_iff.mp e
  obtain ⟨v, h1, h2⟩ := dps_get h j e2
  exact ⟨v, by rw [e1]; exact h1, h2⟩
theorem ix_D : IxR X (rIxD X.K) := by
  intro va sl pins s σ H x y v u Q I rx ry ⟨F, d, e, r, ex, bx, be, hb, q⟩ hs
  unfold ixD at hb
  split at hb
  all_goals first | (exfalso; simp at hb; done) | skip
  · obtain ⟨a, vs, rfl, h1, h2⟩ := bx.list ex
    cases be.int
    obtain ⟨w, e1, e2⟩ := dps_atI h2 hb
    exact ix_list va sl pins s σ H _ _ v u Q I rx ry ⟨a, vs, _, w, rfl, rfl, h1, e1, q w e2⟩ hs
  · obtain ⟨a, vs, rfl, h1, _, h2⟩ := bx.tup ex
    cases be.int
    obtain ⟨w, e1, e2⟩ := dps_atI h2 hb
    exact ix_tup va sl pins s σ H _ _ v u Q I rx ry ⟨a, vs, _, w, rfl, rfl, h1, e1, q w e2⟩ hs
def rSlD (K : PySem.W.Frag) : V → Option Int → Option Int → Hp → VK → Prop := fun x lo hi H Q => ∃ F d r, Ex F H ∧ Bd K F H x d ∧ slD d lo hi = some r ∧ Fin K F H r Q
theorem dps_cut {K : PySem.W.Frag} {F : Hp} {vs : List V} {ds : List D} (h : RpAll K F vs ds) (lo hi : Option Int) : RpAll K F (cutV vs lo hi) (cutL ds lo hi) := by
  unfold cutV cutL
  rw [dps_len h]
  exact dps_take _ (dps_drop _ h)
theorem sl_D : SlR X (rSlD X.K) := by
  intro pins s σ H x v vl vu lo hi sl Q I rx hs pl pu ⟨F, d, r, ex, bx, hb, q⟩
  cases d with
  | list ds =>
    simp only [slD] at hb
    cases hb
    obtain ⟨a, vs, rfl, h1, h2⟩ := bx.list ex
    exact sl_list pins s σ H _ v vl vu lo hi sl Q I rx hs pl pu ⟨a, vs, rfl, h1, q.lst ex (dps_cut h2 lo hi)⟩
  | tuple ds =>
    simp only [slD] at hb
    cases hb
    obtain ⟨a, vs, rfl, h1, h0, h2⟩ := bx.tup ex
    cases rx
    obtain ⟨its, rr, ht, hz⟩ := I.tuple h1
    have hlen : its.toArray.size = vs.length := by rw [List.size_toArray]; exact rr.length.symm
    refine ⟨"tuple", _, PyProof.Rows.slot_tuple_getitem.lookup, ht.typeIs, ?_⟩
    by_cases hw : HT.sIx vs.length 0 lo = 0 ∧ HT.sIx vs.length vs.length hi = vs.length
    · have e : cutL ds lo hi = ds := by
        unfold cutL
        rw [← dps_len h2, hw.1, hw.2]
        simp [dps_len h2]
      rw [e] at q
      exact getItem_tuple_whole ht hs pl pu (by rw [hlen]; exact hw) ⟨.ref a, H, I, rfl, q.old ex (Rp.tup h0 h2)⟩
    · refine HT.getItem_tuple_cut ht hs pl pu (by rw [hlen]; exact hw) ?_ (by rw [hlen]; exact hz)
      rw [hlen]
      have cz : (cutV vs lo hi).length ≤ sizeLine := Nat.le_trans (cutV_length vs lo hi) hz
      exact ⟨.ref s.heap.objs.size, _, Inv.tnew (t' := s.toks) I ((rr.drop (HT.sIx vs.length 0 lo)).take (HT.sIx vs.length vs.length hi - HT.sIx vs.length 0 lo)) cz, rfl, q.tup ex (dps_cut h2 lo hi) _ _ I.fresh rfl⟩
  | none => simp [slD] at hb
  | bool b => simp [slD] at hb
  | int b => simp [slD] at hb
  | str b => simp [slD] at hb
  | dict b => simp [slD] at hb

/-! ### built-in functions -/
def rFn (K : PySem.W.Frag) (f : Fn) : List V → Hp → VK → Prop := fun vs H Q => ∃ F ds r, Ex F H ∧ BdAll K F H vs ds ∧ bltD f ds = some r ∧ Fin K F H r Q
theorem vals_back : ∀ {xs : List V} {us : List Value}, Vals xs us → ∀ (i : Nat) {u : Value}, us[i]? = some u → ∃ x, xs[i]? = some x ∧ RelV x u
  | _, _, .nil, _, _, e => by simp at e
  | _, _, .cons r _, 0, _, e => by
    simp at e
    subst e
    exact ⟨_, rfl, r⟩
  | _, _, .cons _ t, i + 1, _, e => by
    obtain ⟨x, h1, h2⟩ := vals_back t i (by simpa using e)
    exact ⟨x, by simpa using h1, h2⟩
theorem minD_mem : ∀ (xs : List D) (x : D), W.minD x xs ∈ x :: xs
  | [], x => List.mem_cons_self
  | y :: ys, x => by
    have ih := minD_mem ys (if W.dataLt y x then y else x)
    show W.minD (if W.dataLt y x then y else x) ys ∈ _
    rcases List.mem_cons.mp ih with e | e
    · rw [e]
      split
      · exact List.mem_cons_of_mem _ List.mem_cons_self
      · exact List.mem_cons_self
    · exact List.mem_cons_of_mem _ (List.mem_cons_of_mem _ e)
theorem alikeB_ok {xs : List D} (h : alikeB xs = true) : W.AlikeAll xs := by
  unfold alikeB at h
  rw [Bool.and_eq_true, List.all_eq_true, List.all_eq_true] at h
  refine ⟨fun x hx y hy => ?_, fun x hx e => ?_⟩
  · have := h.1 x hx
    rw [List.all_eq_true] at this
    exact this y hy
  · have := h.2 x hx
    subst e
    cases this
def fOf : Fn → Option Value
  | .len => some (.builtin "len")
  | .abs => some (.builtin "abs")
  | .int => some (.type "int")
  | .str => some (.type "str")
  | .tuple => some (.type "tuple")
  | .list => some (.type "list")
  | .all => some (.builtin "all")
  | .any => some (.builtin "any")
  | .min => some (.builtin "min")
  | .max => some (.builtin "max")
  | .sorted => some (.builtin "sorted")
  | _ => none
theorem bd1 {K : PySem.W.Frag} {F H : Hp} {vs : List V} {d : D} (h : BdAll K F H vs [d]) : ∃ v, vs = [v] ∧ Bd K F H v d := by
  cases h with
  | cons a b => cases b; exact ⟨_, rfl, a⟩
theorem bd2 {K : PySem.W.Frag} {F H : Hp} {vs : List V} {d e : D} (h : BdAll K F H vs [d, e]) : ∃ v w, vs = [v, w] ∧ Bd K F H v d ∧ Bd K F H w e := by
  cases h with
  | cons a b => obtain ⟨w, rfl, c⟩ := bd1 b; exact ⟨_, _, rfl, a, c⟩
theorem dps_bools {K : PySem.W.Frag} {F : Hp} : ∀ {ds : List D} {bs : List Bool} {vs : List V}, bools? ds = some bs → RpAll K F vs ds → vs = bs.map V.bl
  | [], _, _, h, .nil => by
    simp only [bools?] at h
    cases h
    rfl
  | d :: ds, bs, _, h, .cons a b => by
    cases d <;> simp only [bools?] at h <;> try cases h
    obtain ⟨r, e, rfl⟩ := Option.map_eq_some_iff.mp h
    rw [dps_bools e b]
    cases a
    rfl
theorem dps_ints {K : PySem.W.Frag} {F : Hp} : ∀ {ds : List D} {bs : List Int} {vs : List V}, ints? ds = some bs → RpAll K F vs ds → vs = bs.map V.int ∧ ds = bs.map .int
  | [], _, _, h, .nil => by
    simp only [ints?] at h
    cases h
    exact ⟨rfl, rfl⟩
  | d :: ds, bs, _, h, .cons a b => by
    cases d <;> simp only [ints?] at h <;> try cases h
    obtain ⟨r, e, rfl⟩ := Option.map_eq_some_iff.mp h
    obtain ⟨e1, e2⟩ := dps_ints e b
    rw [e1, e2]
    cases a
    exact ⟨rfl, rfl⟩
theorem dps_ofInts {K : PySem.W.Frag} {F : Hp} : ∀ (ns : List Int), RpAll K F (ns.map V.int) (ns.map .int)
  | [] => .nil
  | n :: ns => .cons (.int n) (dps_ofInts ns)
theorem sort_uniq {a b : List Int} (p : List.Perm a b) (h : a.Pairwise (· ≤ ·)) : a = b.mergeSort (fun x y => decide (x ≤ y)) := by
  have s : (b.mergeSort (fun x y => decide (x ≤ y))).Pairwise (fun x y => x ≤ y) := by
    have := List.pairwise_mergeSort (le := fun (x y : Int) => decide (x ≤ y)) (fun a b c h1 h2 => by simp only [decide_eq_true_eq] at *; omega) (fun a b => by simp only [Bool.or_eq_true, decide_eq_true_eq]; omega) b
    exact this.imp fun {x y} h => by simpa using h
  refine List.Perm.eq_of_pairwise (le := fun x y => x ≤ y) (fun x y _ _ h1 h2 => by omega) h s (p.trans (List.mergeSort_perm b _).symm)
theorem cr_fn (hc : X.calm = true) (hu : X.A.units + 100 < cLine) {f : Fn} {v : Value} (hf : fOf f = some v) : CallR X v (rFn X.K f) := by
  intro pins s σ H xs us Q I rx ⟨F, ds, r, ex, bx, hb, q⟩
  cases f <;> simp only [fOf] at hf <;> cases hf
  · unfold bltD at hb
    split at hb
    all_goals first | contradiction | (exfalso; simp at hb; done) | skip
    · cases hb
      obtain ⟨w, rfl, b⟩ := bd1 bx
      obtain ⟨a, vs, rfl, h1, h2⟩ := b.list ex
      refine call_len_seq pins s σ H _ us Q I rx ⟨a, vs, rfl, .inl h1, ?_⟩
      rw [dps_len h2]
      exact q.int ex
    · cases hb
      obtain ⟨w, rfl, b⟩ := bd1 bx
      obtain ⟨a, vs, rfl, h1, _, h2⟩ := b.tup ex
      refine call_len_seq pins s σ H _ us Q I rx ⟨a, vs, rfl, .inr h1, ?_⟩
      rw [dps_len h2]
      exact q.int ex
  · unfold bltD at hb
    split at hb
    all_goals first | contradiction | (exfalso; simp at hb; done) | skip
    · cases hb
      obtain ⟨w, rfl, b⟩ := bd1 bx
      cases b.int
      exact call_abs pins s σ H _ us Q I rx ⟨_, rfl, q.int ex⟩
  · unfold bltD at hb
    split at hb
    all_goals first | contradiction | (exfalso; simp at hb; done) | skip
    · cases hb
      obtain ⟨w, rfl, b⟩ := bd1 bx
      cases b.int
      exact call_int1 pins s σ H _ us Q I rx (.inl ⟨_, rfl, q.int ex⟩)
  · unfold bltD at hb
    split at hb
    all_goals first | contradiction | (exfalso; simp at hb; done) | skip
    · split at hb
      · cases hb
        rename_i hz
        obtain ⟨w, rfl, b⟩ := bd1 bx
        cases b.int
        exact call_str_int pins s σ H _ us Q I rx ⟨_, rfl, hz, q.str ex⟩
      · cases hb
  · unfold bltD at hb
    split at hb
    all_goals first | contradiction | (exfalso; simp at hb; done) | skip
    · cases hb
      obtain ⟨w, rfl, b⟩ := bd1 bx
      obtain ⟨a, vs, rfl, h1, h2⟩ := b.list ex
      obtain ⟨u1, rfl, ru⟩ := vals1 rx
      cases ru
      obtain ⟨its, r', pl, hz⟩ := I.list h1
      have hlen := r'.length
      refine call_tuple_list pl.isList (fun h' kp => ?_) (by simp only [List.size_toArray] <;> omega)
      have I1 : Inv X pins σ H { s with heap := h' } := I.kept (t' := s.toks) kp
      exact ⟨.ref h'.objs.size, _, Inv.tnew (t' := s.toks) I1 r' hz, rfl, q.tup ex h2 _ _ I1.fresh rfl⟩
    · cases hb
      obtain ⟨w, rfl, b⟩ := bd1 bx
      obtain ⟨a, vs, rfl, h1, h0, h2⟩ := b.tup ex
      exact call_tuple_of pins s σ H _ us Q I rx ⟨a, vs, rfl, .inr ⟨h1, q.old ex (Rp.tup h0 h2)⟩⟩
  · unfold bltD at hb
    split at hb
    all_goals first | contradiction | (exfalso; simp at hb; done) | skip
    · cases hb
      obtain ⟨w, rfl, b⟩ := bd1 bx
      obtain ⟨a, vs, rfl, h1, h2⟩ := b.list ex
      exact call_list_of pins s σ H _ us Q I rx ⟨a, vs, rfl, .inl h1, q.lst ex h2⟩
    · cases hb
      obtain ⟨w, rfl, b⟩ := bd1 bx
      obtain ⟨a, vs, rfl, h1, h0, h2⟩ := b.tup ex
      exact call_list_of pins s σ H _ us Q I rx ⟨a, vs, rfl, .inr h1, q.lst ex h2⟩
  · unfold bltD at hb
    split at hb
    all_goals first | contradiction | (exfalso; simp at hb; done) | skip
    · obtain ⟨bs, e, rfl⟩ := Option.map_eq_some_iff.mp hb
      obtain ⟨w, rfl, b⟩ := bd1 bx
      obtain ⟨a, vs, rfl, h1, h2⟩ := b.list ex
      rw [dps_bools e h2] at h1
      exact cr_all hc pins s σ H _ us Q I rx ⟨a, bs, rfl, h1, q.bl ex⟩
  · unfold bltD at hb
    split at hb
    all_goals first | contradiction | (exfalso; simp at hb; done) | skip
    · obtain ⟨bs, e, rfl⟩ := Option.map_eq_some_iff.mp hb
      obtain ⟨w, rfl, b⟩ := bd1 bx
      obtain ⟨a, vs, rfl, h1, h2⟩ := b.list ex
      rw [dps_bools e h2] at h1
      exact cr_any hc pins s σ H _ us Q I rx ⟨a, bs, rfl, h1, q.bl ex⟩
  · unfold bltD at hb
    split at hb
    all_goals first | contradiction | (exfalso; simp at hb; done) | skip
    · split at hb
      · cases hb
        rename_i hz
        rw [Bool.and_eq_true, decide_eq_true_eq] at hz
        obtain ⟨w, rfl, b⟩ := bd1 bx
        obtain ⟨a, vs, rfl, h1, h2⟩ := b.list ex
        obtain ⟨u, rfl, ru⟩ := vals1 rx
        cases ru
        obtain ⟨its, rv, pl, hl⟩ := I.list h1
        obtain ⟨as, hr⟩ := L2.Dp.readsAll I _ _ its (dps_mono ex h2).dp rv
        refine W.min_list_data (I.ok.hd hc) pl.isList (by simpa using hr) (alikeB_ok hz.1) (by omega) fun i v h' tk bs hv rr kp => ?_
        have hv' : its[i]? = some v := by simpa using hv
        obtain ⟨y, hy, ry⟩ := vals_back rv i hv'
        obtain ⟨d, hd, rd⟩ := dps_at h2 i hy
        obtain ⟨bs2, r2⟩ := L2.Dp.reads I d y v (dp_mono ex rd).dp ry
        have hal := (alikeB_ok hz.1).1 _ (minD_mem _ _) d (List.mem_of_getElem? hd)
        have e := W.alike_unique _ _ _ _ _ hal rr (W.reads_keeps kp r2)
        have I2 : L2.Inv X pins σ H { s with heap := h', toks := tk } := I.kept fun b o e => kp b o e
        rw [e] at q
        exact ⟨y, H, I2, ry, q.old ex rd⟩
      · cases hb
  · unfold bltD at hb
    split at hb
    all_goals first | contradiction | (exfalso; simp at hb; done) | skip
    · cases hb
      obtain ⟨w, z, rfl, b1, b2⟩ := bd2 bx
      cases b1.int
      cases b2.int
      exact call_max2 hc pins s σ H _ us Q I rx ⟨_, _, rfl, q.int ex⟩
  · unfold bltD at hb
    split at hb
    all_goals first | contradiction | (exfalso; simp at hb; done) | skip
    · obtain ⟨ns, e, rfl⟩ := Option.map_eq_some_iff.mp hb
      obtain ⟨w, rfl, b⟩ := bd1 bx
      obtain ⟨a, vs, rfl, h1, h2⟩ := b.list ex
      rw [(dps_ints e h2).1] at h1
      refine cr_sortedI pins s σ H _ us Q I rx ⟨a, ns, rfl, h1, fun ns' p pm so hp => ?_⟩
      rw [sort_uniq pm so]
      exact q.lst ex (dps_ofInts _) p hp
end
end Vm
set_option Elab.async false
set_option linter.all false
set_option maxRecDepth 100000
set_option maxHeartbeats 4000000
/-! VmI: enumerate of a tuple, zip of three tuples, as things that are walked. -/
namespace Vm
open PySem L2 Evl
open AutoSeq1 (wpAny_loadPart')
/-- enumerate(v) of anything that begins an iterator -/
theorem enum_meets {v : Value} {ob : Obj} {G : Heap → Prop} (B : Begins v ob G) : Meets (Builtin.«enumerate.__new__» ⟨[.type "enumerate", v], []⟩) (fun _ R s => G s.heap ∧
      R (.ok (.ret (.ref (s.heap.push ob).objs.size))) { s with heap := (s.heap.push ob).push { cls := .type "enumerate", data := .fields #[.none, .bool false, .ref s.heap.objs.size, rawInt 0, .none, .none] } }) :=
  .of_wp fun prog w A R s h => by
    obtain ⟨hp, gn, dr, tk, os⟩ := s
    obtain ⟨hG, hR⟩ := h
    have isub := sub_enumerate
    have go : ∀ {A2 : Around} {E Q : Value → Shared → Prop}, Q (.ref hp.objs.size) ⟨hp.push ob, gn, dr, tk, os⟩ → wpAny (model prog w) A2 (pyIter v) Q E ⟨hp, gn, dr, tk, os⟩ := fun {A2 E Q} q => B.iter prog w A2 E ⟨hp, gn, dr, tk, os⟩ Q hG q
    wp_walk using go
    refine wpAny_stack_any fun st => wpAny_pure ?_
    split
    · rename_i cl _ _ _ _ _
      cases (cl == Value.type "enumerate") <;> (wp_walk using go; exact ⟨_, rfl, hR⟩)
    · wp_walk using go
      exact ⟨_, rfl, hR⟩
section
variable {prog : Program} {w : World} {A : Around} {E : Value → Shared → Prop} {s : Shared}
theorem enum_one {v : Value} {ob : Obj} {G : Heap → Prop} {Q : Value → Shared → Prop} (B : Begins v ob G) (hG : G s.heap)
    (h : ∀ h', IsEnum h' (s.heap.objs.size + 1) s.heap.objs.size 0 .none → h'.get? s.heap.objs.size = some ob → (∀ b o, s.heap.get? b = some o → h'.get? b = some o) → Q (.ref (s.heap.objs.size + 1)) { s with heap := h' }) :
    wpAny (model prog w) A (call (.type "enumerate") [v]) Q E s := by
  refine callType_new F.called_enumerate (by decide) (F.typeCall_enumerate_1 _) (F.newCall_enumerate_1 _) (fun obj => F.args_object_init_2 obj _) F.entry_enumerate_new (enum_meets B) ⟨hG, ?_⟩
  have sz : (s.heap.push ob).objs.size = s.heap.objs.size + 1 := Heap.size_push ..
  have at1 := Heap.get?_push_size (s.heap.push ob) (o := { cls := .type "enumerate", data := .fields #[.none, .bool false, .ref s.heap.objs.size, rawInt 0, .none, .none] }) rfl
  show _ ∧ _
  rw [sz] at at1 ⊢
  exact ⟨⟨_, at1, rfl⟩, h _ at1 (Heap.get?_push_of_some _ (Heap.get?_push_size _ B.free)) fun b o x => Heap.get?_push_of_some _ (Heap.get?_push_of_some _ x)⟩
end
/-- the tuple at a as it stands, its items with their numbers in new pairs -/
def IeT (K : PySem.W.Frag) (a : Addr) : L2.It where
  go i H := ∃ xs x, SqT K H a xs ∧ xs[i]? = some x
  yld i H v H' := ∃ T x, v = .ref T ∧ H T = none ∧ H' = upd H T (.tup [.int (i : Nat), x]) ∧ ∀ xs, SqT K H a xs → xs[i]? = some x
  stop i H := ∃ xs, SqT K H a xs ∧ i = xs.length
theorem turn_eT {P : Program} {w : World} {K : PySem.W.Frag} {elts : List Expr} {kk : Nat} {tpos : Pos} (a e it : Addr) :
    Turn P w K (.Tuple elts kk tpos) (IeT K a) [e, it] e (fun i h => (∃ old, IsEnum h e it ((i : Nat) : Int) old) ∧ h.IsTupleIter it a i ∧ e ≠ it ∧ e ≠ a ∧ a ≠ it) where
  mem := List.mem_cons_self
  obj := by
    rintro i h ⟨⟨old, he⟩, ⟨o, ho, hc, hd⟩, _⟩ b hb
    rcases List.mem_cons.mp hb with rfl | hb
    · exact ⟨_, he, fun v q => nomatch q⟩
    · rcases List.mem_cons.mp hb with rfl | hb
      · exact ⟨o, ho, fun v q => by rw [hd] at q; cases q⟩
      · cases hb
  keep := by
    rintro i h h' ⟨⟨old, he⟩, hi, ne⟩ k
    exact ⟨⟨old, k e List.mem_cons_self _ he⟩, hi.at fun o q => k it (List.mem_cons_of_mem _ List.mem_cons_self) o q, ne⟩
  item := by
    intro X hP hw hK hc i pins s σ H E I hf st hg
    subst hP hw hK
    obtain ⟨⟨old, he⟩, hit, ne1, ne2, ne3⟩ := st
    obtain ⟨xs, x, hq, hx⟩ := hg
    obtain ⟨its, rv, pl, hz⟩ := I.tuple hq
    have el : e < s.heap.objs.size := Heap.lt_size he
    have il : it < s.heap.objs.size := by obtain ⟨_, q, _⟩ := hit; exact Heap.lt_size q
    have hlt : i < its.toArray.size := by
      rw [List.size_toArray, ← rv.length]
      exact (List.getElem?_eq_some_iff.mp hx).1
    have D := Draws.tuple (prog := X.prog) (w := X.w) (A := X.A.in1) (I.ok.hd hc) it a ne3 its.toArray
    have nef : e ∉ [it, a] := fun z => by
      rcases List.mem_cons.mp z with z | z
      · exact ne1 z
      · exact ne2 (List.mem_singleton.mp z)
    refine wpAny_pyNext_enum_itemC D he ⟨hit, pl⟩ hlt ne1 nef fun u h' tk hu ho st' hT hsz hk => ?_
    obtain ⟨u2, hu2, ru⟩ := rv.get hx
    have eu : u = u2 := by
      have : its[i]? = some u := by simpa using hu
      rw [hu2] at this
      exact (Option.some.inj this).symm
    subst eu
    refine ⟨_, rfl, wpAny_letOwnedTupleGo_enum (s := { s with heap := h', toks := tk + 1 }) ho fun h2 he2 sb => ?_⟩
    have hT2 : h2.get? s.heap.objs.size = some { cls := .type "tuple", data := .seq #[.int (i : Nat) tk, u] } := (sb.2 _ (Nat.ne_of_gt el)).trans hT
    have new : ObjOk X.prog X.w (upd H s.heap.objs.size (.tup [.int (i : Nat), x])) h2 s.heap.objs.size (.tup [.int (i : Nat), x]) :=
      ⟨by show 2 ≤ sizeLine; decide, [.int (i : Nat) tk, u], .cons ⟨_, rfl⟩ (.cons ru .nil), ⟨_, hT2, rfl, _, rfl⟩⟩
    have old2 : ∀ b ob, b ∉ [e, it] → s.heap.get? b = some ob → h2.get? b = some ob := fun b ob hb q => by
      have b1 : b ≠ e := fun z => hb (z ▸ List.mem_cons_self)
      have b2 : b ≠ it := fun z => hb (z ▸ List.mem_cons_of_mem _ List.mem_cons_self)
      exact (sb.2 b b1).trans (hk b ob b1 b2 q)
    refine ⟨.ref s.heap.objs.size, _, I.turnedNew (t' := tk + 1) (ch := [e, it]) old2 hf (Nat.le_refl _) new, rfl, ⟨_, x, rfl, I.fresh, rfl, fun ys hy => by rw [I.tuple_inj hy hq]; exact hx⟩, ⟨⟨u, ?_⟩, st'.1.at fun o q => (sb.2 it (Ne.symm ne1)).trans q, ne1, ne2, ne3⟩, fun b hb => ?_⟩
    · have ei : ((i + 1 : Nat) : Int) = (i : Int) + 1 := by omega
      rw [ei]; exact he2
    · have bl : b < s.heap.objs.size := by
        rcases List.mem_cons.mp hb with rfl | hb
        · exact el
        · rw [List.mem_singleton.mp hb]; exact il
      rw [upd_ne (Nat.ne_of_lt bl)]
      exact (hf b hb).1
  done := by
    intro X hP hw hK hc i pins s σ H E I hf st hg
    subst hP hw hK
    obtain ⟨⟨old, he⟩, hit, ne1, ne2, ne3⟩ := st
    obtain ⟨xs, hq, hx⟩ := hg
    obtain ⟨its, rv, pl, hz⟩ := I.tuple hq
    obtain ⟨f0, f1, f2, f3, f4, f5⟩ := hf it (List.mem_cons_of_mem _ List.mem_cons_self)
    have D := Draws.tuple (prog := X.prog) (w := X.w) (A := X.A.in1) (I.ok.hd hc) it a ne3 its.toArray
    have ei : i = its.toArray.size := by rw [List.size_toArray, ← rv.length]; exact hx
    subst ei
    exact wpAny_pyNext_enum_endD D he ⟨hit, pl⟩ fun h' eb => ⟨rfl, I.turned (t' := s.toks) (fun b o hb q => eb b o hb q) f0 f1 f3 f4 f5⟩
  self := by
    rintro A i s Q E ⟨⟨_, he⟩, _⟩ h
    exact wpAny_pyIter_enum he h
def iEnT (K : PySem.W.Frag) (ta : TA) : TI := fun σ H R => ta σ H fun vs H1 => ∃ (a : Addr) (xs : List V), vs = [.ref a] ∧ SqT K H1 a xs ∧ R (IeT K a) H1
theorem pi_enT {X : Cx} {e : Expr} {ta : TA} {p pos tpos : Pos} {elts : List Expr} {kk : Nat} (hg : Gl X "enumerate") (hm : X.mg "enumerate" = none) (ha : PA X [e] ta) (hs : starEach [e] X.env = [(false, eval e X.env)]) :
    PI X (.Tuple elts kk tpos) (.Call (.Name "enumerate" p) [e] [] pos) (iEnT X.K ta) := by
  constructor
  intro pins s σ H R I h
  refine PyProof.Rows.Call_ (ld_blt I hg hm PyProof.Rows.boot_enumerate (PyProof.Rows.callWith_type1 (thn (ha.run pos pins s σ H _ I h) ?_) hs rfl))
  rintro us s1 ⟨vs, H1, I1, r1, a, xs, rfl, hq, q⟩
  obtain ⟨u, rfl, ru⟩ := vals1 r1
  cases ru
  obtain ⟨its, rv, pl, hz⟩ := I1.tuple hq
  have la : a < s1.heap.objs.size := pl.lt
  refine enum_one (begins_tuple a its.toArray) pl fun h' he hit hk => wpAny_pyIter_enum he ?_
  have I2 : L2.Inv X pins σ H1 { s1 with heap := h' } := I1.kept (t' := s1.toks) hk
  refine ⟨s1.heap.objs.size + 1, [s1.heap.objs.size + 1, s1.heap.objs.size], _, _, H1, rfl, I2, turn_eT a (s1.heap.objs.size + 1) s1.heap.objs.size, ⟨⟨.none, he⟩, ⟨_, hit, rfl, rfl⟩, Nat.succ_ne_self _, Nat.ne_of_gt (Nat.lt_succ_of_lt la), Nat.ne_of_lt la⟩, fun b hb => ?_, q⟩
  have hle : s1.heap.objs.size ≤ b := by
    rcases List.mem_cons.mp hb with rfl | hb
    · exact Nat.le_succ _
    · rw [List.mem_singleton.mp hb]; exact Nat.le_refl _
  exact I1.fpOk hle (I1.hok.fresh hle)
/-- three tuples side by side, their items in new triples -/
def Iz3 (K : PySem.W.Frag) (a b c : Addr) : L2.It where
  go i H := ∃ xs ys zs x y z, SqT K H a xs ∧ SqT K H b ys ∧ SqT K H c zs ∧ xs[i]? = some x ∧ ys[i]? = some y ∧ zs[i]? = some z
  yld i H v H' := ∃ T x y z, v = .ref T ∧ H T = none ∧ H' = upd H T (.tup [x, y, z]) ∧ (∀ xs, SqT K H a xs → xs[i]? = some x) ∧ (∀ xs, SqT K H b xs → xs[i]? = some y) ∧ ∀ xs, SqT K H c xs → xs[i]? = some z
  stop i H := ∃ xs ys zs, SqT K H a xs ∧ SqT K H b ys ∧ SqT K H c zs ∧ i = min (min xs.length ys.length) zs.length
/-- the cells of such a zip lie apart -/
structure Ap3 (a b c z TI TO i1 i2 i3 : Addr) : Prop where
  S : ZipSep3 z TI TO i1 i2 i3 [i1, a] [i2, b] [i3, c]
  a1 : a ≠ i1
  b1 : b ≠ i2
  c1 : c ≠ i3
theorem turn_z3 {P : Program} {w : World} {K : PySem.W.Frag} {elts : List Expr} {kk : Nat} {tpos : Pos} {a b c z TI TO i1 i2 i3 : Addr} (Ap : Ap3 a b c z TI TO i1 i2 i3) :
    Turn P w K (.Tuple elts kk tpos) (Iz3 K a b c) [z, TI, TO, i1, i2, i3] z (fun i h => IsZip h z TI TO .none ∧ IsTupOf3 h TI (.ref i1) (.ref i2) (.ref i3) ∧ (∃ x y u, IsTupOf3 h TO x y u) ∧ h.IsTupleIter i1 a i ∧ h.IsTupleIter i2 b i ∧ h.IsTupleIter i3 c i) where
  mem := List.mem_cons_self
  obj := by
    rintro i h ⟨hz, hTI, ⟨x, y, u, hTO⟩, ⟨o1, e1, _, d1⟩, ⟨o2, e2, _, d2⟩, ⟨o3, e3, _, d3⟩⟩ b hb
    simp only [List.mem_cons, List.not_mem_nil, or_false] at hb
    rcases hb with q | q | q | q | q | q <;> rw [q]
    · exact ⟨_, hz, fun v q => nomatch q⟩
    · exact ⟨_, hTI, fun v q => nomatch q⟩
    · exact ⟨_, hTO, fun v q => nomatch q⟩
    · exact ⟨o1, e1, fun v q => by rw [d1] at q; cases q⟩
    · exact ⟨o2, e2, fun v q => by rw [d2] at q; cases q⟩
    · exact ⟨o3, e3, fun v q => by rw [d3] at q; cases q⟩
  keep := by
    rintro i h h' ⟨hz, hTI, ⟨x, y, u, hTO⟩, h1, h2, h3⟩ k
    exact ⟨k z (by simp) _ hz, k TI (by simp) _ hTI, ⟨x, y, u, k TO (by simp) _ hTO⟩, h1.at fun o q => k i1 (by simp) o q, h2.at fun o q => k i2 (by simp) o q, h3.at fun o q => k i3 (by simp) o q⟩
  item := by
    intro X hP hw hK hc i pins s σ H E I hf st hg
    subst hP hw hK
    obtain ⟨hz, hTI, ⟨x0, y0, u0, hTO⟩, h1, h2, h3⟩ := st
    obtain ⟨xs, ys, zs, x, y, u, q1, q2, q3, g1, g2, g3⟩ := hg
    obtain ⟨t1, r1, p1, _⟩ := I.tuple q1
    obtain ⟨t2, r2, p2, _⟩ := I.tuple q2
    obtain ⟨t3, r3, p3, _⟩ := I.tuple q3
    have lt : ∀ {vs : List V} {ts : List Value} {v : V}, Vals vs ts → vs[i]? = some v → i < ts.toArray.size := fun {vs ts v} r e => by
      rw [List.size_toArray, ← r.length]
      exact (List.getElem?_eq_some_iff.mp e).1
    have D1 := Draws.tuple (prog := X.prog) (w := X.w) (A := X.A.in1) (I.ok.hd hc) i1 a Ap.a1 t1.toArray
    have D2 := Draws.tuple (prog := X.prog) (w := X.w) (A := X.A.in1) (I.ok.hd hc) i2 b Ap.b1 t2.toArray
    have D3 := Draws.tuple (prog := X.prog) (w := X.w) (A := X.A.in1) (I.ok.hd hc) i3 c Ap.c1 t3.toArray
    have zl : z < s.heap.objs.size := Heap.lt_size hz
    refine wpAny_pyNext_zipD3_item Ap.S D1 D2 D3 hz hTI hTO ⟨h1, p1⟩ ⟨h2, p2⟩ ⟨h3, p3⟩ (lt r1 g1) (lt r2 g2) (lt r3 g3) fun v1 v2 v3 h' tk w1 w2 w3 z' TO' s1 s2 s3 hT hsz hk => ?_
    obtain ⟨m1, e1, k1⟩ := r1.get g1
    obtain ⟨m2, e2, k2⟩ := r2.get g2
    obtain ⟨m3, e3, k3⟩ := r3.get g3
    have same : ∀ {ts : List Value} {v m : Value}, ts.toArray[i]? = some v → ts[i]? = some m → v = m := fun {ts v m} p q => by
      have p' : ts[i]? = some v := by simpa using p
      rw [q] at p'
      exact (Option.some.inj p').symm
    cases same w1 e1
    cases same w2 e2
    cases same w3 e3
    refine ⟨_, rfl, wpAny_letOwnedTupleGo_zip (s := { s with heap := h', toks := tk }) z' fun h'' z'' sb => ?_⟩
    have hT2 : h''.get? s.heap.objs.size = some { cls := .type "tuple", data := .seq #[v1, v2, v3] } := (sb.2 _ (Nat.ne_of_gt zl)).trans hT
    have new : ObjOk X.prog X.w (upd H s.heap.objs.size (.tup [x, y, u])) h'' s.heap.objs.size (.tup [x, y, u]) :=
      ⟨by show 3 ≤ sizeLine; decide, [v1, v2, v3], .cons k1 (.cons k2 (.cons k3 .nil)), ⟨_, hT2, rfl, _, rfl⟩⟩
    have old : ∀ b ob, b ∉ [z, TI, TO, i1, i2, i3] → s.heap.get? b = some ob → h''.get? b = some ob := fun b ob hb q => by
      simp only [List.mem_cons, List.not_mem_nil, or_false, not_or] at hb
      obtain ⟨b1, b2, b3, b4, b5, b6⟩ := hb
      exact (sb.2 b b1).trans (hk b ob b1 b3 b4 b5 b6 q)
    refine ⟨.ref s.heap.objs.size, _, I.turnedNew (t' := tk) (ch := [z, TI, TO, i1, i2, i3]) old hf (Nat.le_refl _) new, rfl, ⟨_, x, y, u, rfl, I.fresh, rfl, fun l hl => by rw [I.tuple_inj hl q1]; exact g1, fun l hl => by rw [I.tuple_inj hl q2]; exact g2, fun l hl => by rw [I.tuple_inj hl q3]; exact g3⟩, ⟨z'', ?_, ⟨v1, v2, v3, ?_⟩, ?_, ?_, ?_⟩, fun d hd => ?_⟩
    · exact (sb.2 _ Ap.S.TIz).trans (hk _ _ Ap.S.TIz Ap.S.TITO Ap.S.TIi1 Ap.S.TIi2 Ap.S.TIi3 hTI)
    · exact (sb.2 _ Ap.S.TOz).trans TO'
    · exact s1.1.at fun o q => (sb.2 _ (Ne.symm Ap.S.zi1)).trans q
    · exact s2.1.at fun o q => (sb.2 _ (Ne.symm Ap.S.zi2)).trans q
    · exact s3.1.at fun o q => (sb.2 _ (Ne.symm Ap.S.zi3)).trans q
    · have dl : d < s.heap.objs.size := by
        simp only [List.mem_cons, List.not_mem_nil, or_false] at hd
        rcases hd with q | q | q | q | q | q <;> rw [q]
        · exact zl
        · exact Heap.lt_size hTI
        · exact Heap.lt_size hTO
        · obtain ⟨_, e1, _⟩ := h1; exact Heap.lt_size e1
        · obtain ⟨_, e2, _⟩ := h2; exact Heap.lt_size e2
        · obtain ⟨_, e3, _⟩ := h3; exact Heap.lt_size e3
      rw [upd_ne (Nat.ne_of_lt dl)]
      exact (hf d hd).1
  done := by
    intro X hP hw hK hc i pins s σ H E I hf st hg
    subst hP hw hK
    obtain ⟨hz, hTI, ⟨x0, y0, u0, hTO⟩, h1, h2, h3⟩ := st
    obtain ⟨xs, ys, zs, q1, q2, q3, hi⟩ := hg
    obtain ⟨t1, r1, p1, _⟩ := I.tuple q1
    obtain ⟨t2, r2, p2, _⟩ := I.tuple q2
    obtain ⟨t3, r3, p3, _⟩ := I.tuple q3
    have D1 := Draws.tuple (prog := X.prog) (w := X.w) (A := X.A.in1) (I.ok.hd hc) i1 a Ap.a1 t1.toArray
    have D2 := Draws.tuple (prog := X.prog) (w := X.w) (A := X.A.in1) (I.ok.hd hc) i2 b Ap.b1 t2.toArray
    have D3 := Draws.tuple (prog := X.prog) (w := X.w) (A := X.A.in1) (I.ok.hd hc) i3 c Ap.c1 t3.toArray
    have l1 : t1.toArray.size = xs.length := by rw [List.size_toArray, ← r1.length]
    have l2 : t2.toArray.size = ys.length := by rw [List.size_toArray, ← r2.length]
    have l3 : t3.toArray.size = zs.length := by rw [List.size_toArray, ← r3.length]
    refine wpAny_pyNext_zipD3_end Ap.S D1 D2 D3 hz hTI hTO ⟨h1, p1⟩ ⟨h2, p2⟩ ⟨h3, p3⟩ (by omega) (by omega) (by omega) (by omega) fun h' tk hk => ⟨rfl, I.turnedL (t' := tk) (ch := [z, TI, TO, i1, i2, i3]) (fun b ob hb q => ?_) hf⟩
    simp only [List.mem_cons, List.not_mem_nil, or_false, not_or] at hb
    obtain ⟨b1, b2, b3, b4, b5, b6⟩ := hb
    exact hk b ob b1 b3 b4 b5 b6 q
  self := by
    rintro A i s Q E st h
    exact wpAny_pyIter_zip st.1 h
def iZ3 (K : PySem.W.Frag) (ta : TA) : TI := fun σ H R => ta σ H fun vs H1 => ∃ (a b c : Addr) (xs ys zs : List V), vs = [.ref a, .ref b, .ref c] ∧ SqT K H1 a xs ∧ SqT K H1 b ys ∧ SqT K H1 c zs ∧ R (Iz3 K a b c) H1
theorem pi_z3 {X : Cx} {e e2 e3 : Expr} {ta : TA} {p pos tpos : Pos} {elts : List Expr} {kk : Nat} (hg : Gl X "zip") (hm : X.mg "zip" = none) (ha : PA X [e, e2, e3] ta) (hs : starEach [e, e2, e3] X.env = (false, eval e X.env) :: starEach [e2, e3] X.env) (hpl : (backTo pos (starEach [e2, e3] X.env)).any (·.1) = false) :
    PI X (.Tuple elts kk tpos) (.Call (.Name "zip" p) [e, e2, e3] [] pos) (iZ3 X.K ta) := by
  constructor
  intro pins s σ H R I h
  refine PyProof.Rows.Call_ (ld_blt I hg hm PyProof.Rows.boot_zip (PyProof.Rows.callWith_type1 (thn (ha.run pos pins s σ H _ I h) ?_) hs hpl))
  rintro us s1 ⟨vs, H1, I1, r1, a, b, c, xs, ys, zs, rfl, q1, q2, q3, q⟩
  cases r1 with
  | cons k1 r1 =>
    obtain ⟨u2, u3, rfl, k2, k3⟩ := vals2 r1
    cases k1
    cases k2
    cases k3
    obtain ⟨t1, r1, p1, _⟩ := I1.tuple q1
    obtain ⟨t2, r2, p2, _⟩ := I1.tuple q2
    obtain ⟨t3, r3, p3, _⟩ := I1.tuple q3
    have la : a < s1.heap.objs.size := p1.lt
    have lb : b < s1.heap.objs.size := p2.lt
    have lc : c < s1.heap.objs.size := p3.lt
    refine zip_begins3 (begins_tuple a t1.toArray) (begins_tuple b t2.toArray) (begins_tuple c t3.toArray) p1 p2 p3 fun h' hz hTI hTO g1 g2 g3 hsz hk => wpAny_pyIter_zip hz ?_
    have I2 : L2.Inv X pins σ H1 { s1 with heap := h' } := I1.kept (t' := s1.toks) hk
    have one : ∀ {x : Addr}, x < s1.heap.objs.size → ∀ b ∈ [x], b < s1.heap.objs.size := fun {x} hx b hb => by rw [List.mem_singleton.mp hb]; exact hx
    have sep := zip_sep3 (N := s1.heap.objs.size) (one la) (one lb) (one lc)
    have ap : Ap3 a b c (s1.heap.objs.size + 5) (s1.heap.objs.size + 3) (s1.heap.objs.size + 4) s1.heap.objs.size (s1.heap.objs.size + 1) (s1.heap.objs.size + 2) :=
      ⟨sep, Nat.ne_of_lt la, Nat.ne_of_lt (Nat.lt_of_lt_of_le lb (Nat.le_add_right _ _)), Nat.ne_of_lt (Nat.lt_of_lt_of_le lc (Nat.le_add_right _ _))⟩
    refine ⟨s1.heap.objs.size + 5, [s1.heap.objs.size + 5, s1.heap.objs.size + 3, s1.heap.objs.size + 4, s1.heap.objs.size, s1.heap.objs.size + 1, s1.heap.objs.size + 2], _, _, H1, rfl, I2, turn_z3 ap, ⟨hz, hTI, ⟨_, _, _, hTO⟩, ⟨_, g1, rfl, rfl⟩, ⟨_, g2, rfl, rfl⟩, ⟨_, g3, rfl, rfl⟩⟩, fun d hd => ?_, q⟩
    have hle : s1.heap.objs.size ≤ d := by
      simp only [List.mem_cons, List.not_mem_nil, or_false] at hd
      rcases hd with q | q | q | q | q | q <;> rw [q] <;> first | exact Nat.le_refl _ | exact Nat.le_add_right _ _
    exact I1.fpOk hle (I1.hok.fresh hle)
end Vm
set_option Elab.async false
set_option linter.all false
set_option maxRecDepth 100000
set_option maxHeartbeats 4000000
/-! VmS: the small language's meaning is the text's: expressions. -/
namespace Vm
open PySem L2 Evl

/-! ### the best reading of a piece of the text -/
def we (X : Cx) (e : Expr) : TE := fun σ H Q => ∃ t, PE X e t ∧ t σ H Q
def wa (X : Cx) (es : List Expr) : TA := fun σ H Q => ∃ t, PA X es t ∧ t σ H Q
def wt (X : Cx) (e : Expr) : TT := fun σ H Q => ∃ t, PT X e t ∧ t σ H Q
def wo (X : Cx) (o : Option Expr) : TO := fun σ H Q => ∃ t, PO X o t ∧ t σ H Q
theorem pe_we {X : Cx} {e : Expr} : PE X e (we X e) := ⟨fun pins s σ H Q I ⟨_, p, h⟩ => p.run pins s σ H Q I h⟩
theorem pa_wa {X : Cx} {es : List Expr} : PA X es (wa X es) := ⟨fun pos pins s σ H Q I ⟨_, p, h⟩ => p.run pos pins s σ H Q I h⟩
theorem pt_wt {X : Cx} {e : Expr} : PT X e (wt X e) := ⟨fun pins s σ H Q I ⟨_, p, h⟩ => p.run pins s σ H Q I h⟩
theorem we_of {X : Cx} {e : Expr} {t : TE} {σ : L2.St} {H : Hp} {Q : VK} (p : PE X e t) (h : t σ H Q) : we X e σ H Q := ⟨t, p, h⟩
theorem wt_of {X : Cx} {e : Expr} {t : TT} {σ : L2.St} {H : Hp} {Q : Bool → Hp → Prop} (p : PT X e t) (h : t σ H Q) : wt X e σ H Q := ⟨t, p, h⟩

/-! ### the frame, pure and laid -/
structure Fx where
  K : PySem.W.Frag
  M : List Nat
  mps : List Nat
  ad0 : Nat → Addr
  P : Addr → Prop
  F0 : Hp
  H0 : Hp
structure Sr (c : Fx) (F H : Hp) (σ : L2.St) (ρ : Rho) (ad : Nat → Addr) : Prop where
  gr : Grow c.P c.F0 c.H0 F H
  len : σ.length = ρ.length
  fro : ∀ i d, ρ[i]? = some (some d) → i ∉ c.M → ∃ x, σ[i]? = some (some x) ∧ Rp c.K F x d
  own : ∀ i d, ρ[i]? = some (some d) → i ∈ c.M → σ[i]? = some (some (.ref (ad i))) ∧ OwnAt c.K F H (ad i) d ∧ (c.P (ad i) ∨ c.H0 (ad i) = none)
  sep : ∀ i j di dj, ρ[i]? = some (some di) → ρ[j]? = some (some dj) → i ∈ c.M → j ∈ c.M → i ≠ j → ad i ≠ ad j
  par : ∀ i ∈ c.mps, (∃ d, ρ[i]? = some (some d)) ∧ i ∈ c.M ∧ ad i = c.ad0 i
theorem Sr.ex {c : Fx} {F H : Hp} {σ : L2.St} {ρ : Rho} {ad : Nat → Addr} (s : Sr c F H σ ρ ad) : Ex F H := s.gr.fh
/-- what an expression has given, where it stands -/
def RR (c : Fx) (F H : Hp) (ρ : Rho) (ad : Nat → Addr) (v : V) : R → Prop
  | .val d => Rp c.K F v d
  | .own d => ∃ a, v = .ref a ∧ OwnAt c.K F H a d ∧ (c.P a ∨ c.H0 a = none) ∧ ∀ j dj, j ∈ c.M → ρ[j]? = some (some dj) → ad j ≠ a
  | .slot i => v = .ref (ad i) ∧ i ∈ c.M
section
variable {c : Fx} {F H F' H' : Hp} {σ : L2.St} {ρ ρ' : Rho} {ad : Nat → Addr}
theorem OwnAt.new {K : PySem.W.Frag} {a : Addr} {d : D} (h : OwnAt K F H a d) (g : New F H F' H') : OwnAt K F' H' a d where
  nf := by
    by_cases z : F' a = none
    · exact z
    · rcases g.nw a z with y | y | y
      · exact absurd h.nf y
      · exact absurd y h.some
      · exact y.elim
  hd := by
    obtain ⟨o, e, r⟩ := h.hd
    exact ⟨o, g.keep a o e, r.mono g.ff⟩
/-- only new things -/
theorem Sr.new (s : Sr c F H σ ρ ad) (g : New F H F' H') : Sr c F' H' σ ρ ad where
  gr := s.gr.trans g fun _ h => h.elim
  len := s.len
  fro := fun i d h m => by
    obtain ⟨x, a, b⟩ := s.fro i d h m
    exact ⟨x, a, dp_mono g.ff b⟩
  own := fun i d h m => by
    obtain ⟨a, b, e⟩ := s.own i d h m
    exact ⟨a, b.new g, e⟩
  sep := s.sep
  par := s.par
theorem H0_none (s : Sr c F H σ ρ ad) {a : Addr} (h : H a = none) : c.H0 a = none := by
  by_cases z : c.H0 a = none
  · exact z
  · exact absurd h (s.gr.dm a z)
theorem RV.rr (s : Sr c F H σ ρ ad) {v : V} {r : R} (h : RV c.K F' H H' v r) : RR c F' H' ρ ad v r := by
  cases r with
  | val d => exact h
  | own d =>
    obtain ⟨a, e, o, n⟩ := h
    refine ⟨a, e, o, .inr (H0_none s n), fun j dj m hj z => ?_⟩
    obtain ⟨_, w, _⟩ := s.own j dj hj m
    exact w.some (by rw [z]; exact n)
  | slot i => exact h.elim
/-- a list that nobody else holds is frozen -/
theorem Sr.freeze (s : Sr c F H σ ρ ad) {a : Addr} {d : D} (o : OwnAt c.K F H a d) (nh : c.P a ∨ c.H0 a = none) (ap : ∀ j dj, j ∈ c.M → ρ[j]? = some (some dj) → ad j ≠ a) (nd : ∀ q, d ≠ .dict q) :
    ∃ F', Sr c F' H σ ρ ad ∧ Ex F F' ∧ Rp c.K F' (.ref a) d := by
  obtain ⟨ho, eo, hh⟩ := o.hd
  have ef : Ex F (upd F a ho) := Ex.new o.nf
  refine ⟨upd F a ho, ?_, ef, ?_⟩
  · refine ⟨⟨s.gr.ff.trans ef, fun b u h => ?_, s.gr.fr, fun b h => ?_, s.gr.dm⟩, s.len, fun i d h m => ?_, fun i d h m => ?_, s.sep, s.par⟩
    · by_cases z : b = a
      · subst z; rw [upd_same] at h; rw [← h]; exact eo
      · rw [upd_ne z] at h; exact s.ex b u h
    · by_cases z : b = a
      · subst z; exact .inr nh.symm
      · rw [upd_ne z] at h; exact s.gr.nw b h
    · obtain ⟨x, a1, b⟩ := s.fro i d h m
      exact ⟨x, a1, dp_mono ef b⟩
    · obtain ⟨a1, b, e⟩ := s.own i d h m
      refine ⟨a1, ⟨?_, ?_⟩, e⟩
      · rw [upd_ne (ap i d m h)]; exact b.nf
      · obtain ⟨o2, e2, r2⟩ := b.hd
        exact ⟨o2, e2, r2.mono ef⟩
  · cases hh with
    | lst h => exact .lst (SqL.of upd_same) (dps_mono ef h)
    | dct h => exact absurd rfl (nd _)
theorem nodict_eq {d d' : D} (h : nodict d = some d') : d' = d ∧ ∀ q, d ≠ .dict q := by
  cases d <;> simp [nodict] at h <;> exact ⟨h.symm, fun q z => nomatch z⟩
/-- whatever it gave, but a place: frozen -/
theorem Sr.val (s : Sr c F H σ ρ ad) {v : V} {r : R} {d : D} (h : RR c F H ρ ad v r) (e : val? r = some d) : ∃ F', Sr c F' H σ ρ ad ∧ Ex F F' ∧ Rp c.K F' v d := by
  cases r with
  | val d' =>
    simp only [val?] at e
    cases e
    exact ⟨F, s, Ex.refl F, h⟩
  | own d' =>
    simp only [val?] at e
    obtain ⟨rfl, nd⟩ := nodict_eq e
    obtain ⟨a, rfl, o, n, ap⟩ := h
    exact s.freeze o n ap nd
  | slot i => simp [val?] at e
/-- an operand that waits -/
def OB (c : Fx) (F : Hp) (ad : Nat → Addr) (v : V) : R → Prop
  | .val d => Rp c.K F v d
  | .own d => ∀ d', nodict d = some d' → Rp c.K F v d'
  | .slot i => v = .ref (ad i) ∧ i ∈ c.M
theorem Sr.wait (s : Sr c F H σ ρ ad) {v : V} {r : R} (h : RR c F H ρ ad v r) : ∃ F', Sr c F' H σ ρ ad ∧ Ex F F' ∧ OB c F' ad v r := by
  cases r with
  | val d => exact ⟨F, s, Ex.refl F, h⟩
  | own d =>
    cases e : nodict d with
    | none => exact ⟨F, s, Ex.refl F, fun d' z => by rw [e] at z; cases z⟩
    | some d1 =>
      obtain ⟨F', s', x, dp⟩ := s.val (r := .own d) (d := d1) h e
      exact ⟨F', s', x, fun d' z => by rw [e] at z; cases z; exact dp⟩
  | slot i => exact ⟨F, s, Ex.refl F, h⟩
theorem OB.bd (s : Sr c F' H' σ ρ' ad) (x : Ex F F') {v : V} {r : R} {d : D} (o : OB c F ad v r) (e : res ρ' r = some d) : Bd c.K F' H' v d := by
  cases r with
  | val d' =>
    simp only [res] at e
    cases e
    exact .inl (dp_mono x o)
  | own d' =>
    simp only [res] at e
    exact .inl (dp_mono x (o _ e))
  | slot i =>
    simp only [res] at e
    split at e
    · rename_i d' h
      obtain ⟨rfl, _⟩ := nodict_eq e
      obtain ⟨rfl, m⟩ := o
      obtain ⟨_, w, _⟩ := s.own i _ h m
      exact .inr ⟨_, rfl, w⟩
    · cases e
theorem rp_nd {K : PySem.W.Frag} {v : V} {d : D} (h : Rp K F v d) : ∀ q, d ≠ .dict q := by
  intro q e
  subst e
  cases h
theorem OB.nd {v : V} {r : R} {d : D} (o : OB c F ad v r) (e : res ρ' r = some d) : ∀ q, d ≠ .dict q := by
  cases r with
  | val d' =>
    simp only [res] at e
    cases e
    exact rp_nd o
  | own d' =>
    simp only [res] at e
    obtain ⟨rfl, nd⟩ := nodict_eq e
    exact nd
  | slot i =>
    simp only [res] at e
    split at e
    · obtain ⟨rfl, nd⟩ := nodict_eq e
      exact nd
    · cases e
end

/-! ### where a piece of the text stands -/
structure Gl0 where
  P : Program
  w : World
  K : PySem.W.Frag
  mg : Str → Option Value
  base : Heap
structure Cok (g : Gl0) (lv : Nat) (N : List Str) (sc : Scope) (dl : Bool) (X : Cx) : Prop where
  calm : X.calm = true
  nn : X.N = N
  nd : N.Nodup
  sc : X.env.scope = sc
  room : Room lv X.A
  hP : X.prog = g.P
  hw : X.w = g.w
  hK : X.K = g.K
  hm : X.mg = g.mg
  hb : X.base = g.base
  xe : X.xe = fun _ _ => False
  fn : dl = true → ∀ x, X.fn x = true
/-- what a def's promise says over the small language -/
def spOf (K : PySem.W.Frag) (mps : List Nat) (run : List D → Option (R × List D)) : Sp := fun vs H Q _ => ∃ (F : Hp) (ds : List D) (r : R) (outs : List D) (ad : Nat → Addr),
  vs.length = ds.length ∧ Ex F H ∧ (∀ i d, ds[i]? = some d → i ∉ mps → ∃ x, vs[i]? = some x ∧ Rp K F x d) ∧
  (∀ i ∈ mps, ∃ d, ds[i]? = some d ∧ vs[i]? = some (.ref (ad i)) ∧ OwnAt K F H (ad i) d) ∧
  (∀ i j, i ∈ mps → j ∈ mps → i ≠ j → ad i ≠ ad j) ∧ run ds = some (r, outs) ∧
  ∀ v H' F', Grow (fun a => ∃ i ∈ mps, a = ad i) F H F' H' → outs.length = mps.length → (∀ (k i : Nat), mps[k]? = some i → ∃ d, outs[k]? = some d ∧ OwnAt K F' H' (ad i) d) → RV K F' H H' v r → Q v H'
def bnames : List Str := ["len", "isinstance", "abs", "int", "bool", "str", "tuple", "list", "all", "any", "min", "max", "sorted", "set", "range", "enumerate", "zip", "reversed"]
structure Funs (g : Gl0) (lv : Nat) (Φ : Fs) (fns : List (Str × List Nat × List Str)) (kwl : List (Nat × List Str)) : Prop where
  ok : ∀ k nm m ps, fns[k]? = some (nm, m, ps) → ∃ f fd, g.mg nm = some (.ref f) ∧ PySem.W.keepIn g.K (.ref f) = true ∧ Binds g.K fd ps [] ∧ FnOk g.P g.w g.K g.mg g.base CX0 lv f fd ps (spOf g.K m (Φ k)) ∧
    ∀ ks, (k, ks) ∈ kwl → ∀ (s : Shared) (ws : List Value), g.K.In s.heap → ws.length = ks.length → BindsTo s fd ⟨[], ks.zip ws⟩ (ps.zip (ps.map fun x => ws.getD (ks.idxOf x) .none))
  bt : ∀ x ∈ bnames, g.mg x = none

def SE (c : Fx) (Φ : Fs) (X : Cx) (e : Expr) (t : E) : Prop := ∀ F H σ ρ ad r ρ' Q, Sr c F H σ ρ ad → evalE Φ t ρ = some (r, ρ') →
  (∀ v H' F', Sr c F' H' σ ρ' ad → Ex F F' → RR c F' H' ρ' ad v r → Q v H') → we X e σ H Q
/-- the arguments: those that are no places are frozen -/
inductive RAs (c : Fx) (F : Hp) (ad : Nat → Addr) : List V → List R → Prop
  | nil : RAs c F ad [] []
  | cons {v : V} {r : R} {vs : List V} {rs : List R} : OB c F ad v r → RAs c F ad vs rs → RAs c F ad (v :: vs) (r :: rs)
def SA (c : Fx) (Φ : Fs) (X : Cx) (es : List Expr) (t : As) : Prop := ∀ F H σ ρ ad rs ρ' Q, Sr c F H σ ρ ad → evalAs Φ t ρ = some (rs, ρ') →
  (∀ vs H' F', Sr c F' H' σ ρ' ad → Ex F F' → RAs c F' ad vs rs → Q vs H') → wa X es σ H Q
def ST (c : Fx) (Φ : Fs) (X : Cx) (e : Expr) (t : T) : Prop := ∀ F H σ ρ ad b ρ' Q, Sr c F H σ ρ ad → evalT Φ t ρ = some (b, ρ') →
  (∀ H' F', Sr c F' H' σ ρ' ad → Ex F F' → Q b H') → wt X e σ H Q
def SO (c : Fx) (Φ : Fs) (X : Cx) (e : Option Expr) (t : O) : Prop := ∀ F H σ ρ ad o ρ' Q, Sr c F H σ ρ ad → evalO Φ t ρ = some (o, ρ') →
  (∀ H' F', Sr c F' H' σ ρ' ad → Ex F F' → Q o H') → wo X e σ H Q
section
variable {c : Fx} {Φ : Fs} {X : Cx} {g : Gl0} {lv : Nat} {N : List Str} {sc : Scope} {dl : Bool} {a b d : Expr} {ta tb td : E} {pos : Pos}
/-- (do ..) = some: what each step gave -/
theorem bindE {α β : Type} {x : Option α} {f : α → Option β} {z : β} (h : (x >>= f) = some z) : ∃ y, x = some y ∧ f y = some z := Option.bind_eq_some_iff.mp h

/-! ### names and constants -/
theorem se_var (k : Cok g lv N sc dl X) {i : Nat} {x : Str} (hi : N[i]? = some x) (hv : Vis sc x) (hn : nameOk x = true) (hm : i ∉ c.M) : SE c Φ X (.Name x pos) (.var i) := by
  intro F H σ ρ ad r ρ' Q s ev q
  simp only [evalE] at ev
  split at ev
  · rename_i d e
    cases ev
    obtain ⟨v, e1, dp⟩ := s.fro i d e hm
    simp only [nameOk, Bool.and_eq_true, Bool.not_eq_true'] at hn
    refine we_of (pe_var (by rw [k.nn]; exact hi) (by rw [k.sc]; exact hv) hn.1.1 hn.1.2) ⟨v, e1, q v H F s (Ex.refl F) dp⟩
  · cases ev
theorem se_mvar (k : Cok g lv N sc dl X) {i : Nat} {x : Str} (hi : N[i]? = some x) (hv : Vis sc x) (hn : nameOk x = true) (hm : i ∈ c.M) : SE c Φ X (.Name x pos) (.mvar i) := by
  intro F H σ ρ ad r ρ' Q s ev q
  simp only [evalE] at ev
  split at ev
  · rename_i d e
    cases ev
    obtain ⟨e1, _, _⟩ := s.own i d e hm
    simp only [nameOk, Bool.and_eq_true, Bool.not_eq_true'] at hn
    refine we_of (pe_var (by rw [k.nn]; exact hi) (by rw [k.sc]; exact hv) hn.1.1 hn.1.2) ⟨_, e1, q _ H F s (Ex.refl F) ⟨rfl, hm⟩⟩
  · cases ev
theorem set_none {ρ : Rho} {i j : Nat} {d : D} (h : (ρ.set i none)[j]? = some (some d)) : ρ[j]? = some (some d) ∧ j ≠ i := by
  by_cases z : i = j
  · subst z
    by_cases y : i < ρ.length
    · rw [List.getElem?_set_self y] at h; cases h
    · rw [List.getElem?_eq_none (by simpa using y)] at h; cases h
  · rw [List.getElem?_set_ne z] at h
    exact ⟨h, fun e => z e.symm⟩
theorem Sr.drop {F H : Hp} {σ : L2.St} {ρ : Rho} {ad : Nat → Addr} (s : Sr c F H σ ρ ad) {i : Nat} (hp : i ∉ c.mps) : Sr c F H σ (ρ.set i none) ad where
  gr := s.gr
  len := by rw [List.length_set]; exact s.len
  fro := fun j d h m => s.fro j d (set_none h).1 m
  own := fun j d h m => s.own j d (set_none h).1 m
  sep := fun j k dj dk h1 h2 => s.sep j k dj dk (set_none h1).1 (set_none h2).1
  par := fun j hj => by
    obtain ⟨⟨d, h⟩, m, e⟩ := s.par j hj
    refine ⟨⟨d, ?_⟩, m, e⟩
    rw [List.getElem?_set_ne (fun z : i = j => hp (by rw [z]; exact hj))]
    exact h
theorem se_mv (k : Cok g lv N sc dl X) {i : Nat} {x : Str} (hi : N[i]? = some x) (hv : Vis sc x) (hn : nameOk x = true) (hm : i ∈ c.M) (hp : i ∉ c.mps) : SE c Φ X (.Name x pos) (.mv i) := by
  intro F H σ ρ ad r ρ' Q s ev q
  simp only [evalE] at ev
  split at ev
  · rename_i d e
    cases ev
    obtain ⟨e1, w, z⟩ := s.own i d e hm
    simp only [nameOk, Bool.and_eq_true, Bool.not_eq_true'] at hn
    refine we_of (pe_var (by rw [k.nn]; exact hi) (by rw [k.sc]; exact hv) hn.1.1 hn.1.2) ⟨_, e1, q _ H F (s.drop hp) (Ex.refl F) ⟨_, rfl, w, z, fun j dj mj hj => ?_⟩⟩
    obtain ⟨h1, h2⟩ := set_none hj
    exact s.sep j i dj d h1 e mj hm h2
  · cases ev
theorem se_int {v : Int} {j : Nat} : SE c Φ X (.Constant (.int v) j pos) (.int v) := by
  intro F H σ ρ ad r ρ' Q s ev q
  simp only [evalE] at ev
  cases ev
  exact we_of pe_int (q _ H F s (Ex.refl F) (Rp.int v))
theorem se_bl {v : Bool} {j : Nat} : SE c Φ X (.Constant (.bool v) j pos) (.bl v) := by
  intro F H σ ρ ad r ρ' Q s ev q
  simp only [evalE] at ev
  cases ev
  exact we_of pe_bl (q _ H F s (Ex.refl F) (Rp.bl v))
theorem se_non {j : Nat} : SE c Φ X (.Constant .none j pos) .non := by
  intro F H σ ρ ad r ρ' Q s ev q
  simp only [evalE] at ev
  cases ev
  exact we_of pe_non (q _ H F s (Ex.refl F) Rp.non)
theorem se_str {v : Str} {j : Nat} : SE c Φ X (.Constant (.str v) j pos) (.str v) := by
  intro F H σ ρ ad r ρ' Q s ev q
  simp only [evalE] at ev
  cases ev
  exact we_of pe_str (q _ H F s (Ex.refl F) (Rp.str v))
/-! ### operators -/
theorem se_bin (hK : X.K = c.K) (o : BOp) (ha : SE c Φ X a ta) (hb : SE c Φ X b tb) : SE c Φ X (.BinOp a (oOf o) b pos) (.bin o ta tb) := by
  intro F H σ ρ ad r ρ' Q s ev q
  simp only [evalE] at ev
  obtain ⟨⟨ra, ρ1⟩, e1, ev⟩ := bindE ev
  obtain ⟨⟨rb, ρ2⟩, e2, ev⟩ := bindE ev
  obtain ⟨x, e3, ev⟩ := bindE ev
  obtain ⟨y, e4, ev⟩ := bindE ev
  obtain ⟨r', e5, ev⟩ := bindE ev
  cases ev
  refine we_of (pe_op (op_bin o) pe_we pe_we) ?_
  refine ha F H σ ρ ad ra ρ1 _ s e1 fun v1 H1 F1 s1 x1 w1 => ?_
  obtain ⟨F2, s2, x2, o2⟩ := s1.wait w1
  refine hb F2 H1 σ ρ1 ad rb _ _ s2 e2 fun v2 H2 F3 s3 x3 w3 => ?_
  obtain ⟨F4, s4, x4, o4⟩ := s3.wait w3
  refine ⟨F4, x, y, _, s4.ex, by rw [hK]; exact o2.bd s4 (x3.trans x4) e3, by rw [hK]; exact o4.bd s4 (Ex.refl _) e4, e5, fun v H' F' gg rv => ?_⟩
  rw [hK] at rv
  exact q v H' F' (s4.new gg) ((((x1.trans x2).trans x3).trans x4).trans gg.ff) (rv.rr s4)
theorem dp_int {K : PySem.W.Frag} {F : Hp} {v : V} {i : Int} (h : Rp K F v (.int i)) : v = .int i := by cases h; rfl
theorem dp_bl {K : PySem.W.Frag} {F : Hp} {v : V} {i : Bool} (h : Rp K F v (.bool i)) : v = .bl i := by cases h; rfl
theorem se_neg (ha : SE c Φ X a ta) : SE c Φ X (.UnaryOp .USub a pos) (.neg ta) := by
  intro F H σ ρ ad r ρ' Q s ev q
  simp only [evalE] at ev
  obtain ⟨⟨ra, ρ1⟩, e1, ev⟩ := bindE ev
  dsimp only at ev
  split at ev
  · cases ev
    refine we_of (pe_un un_neg pe_we) ?_
    refine ha F H σ ρ ad _ ρ' _ s e1 fun v1 H1 F1 s1 x1 w1 => ?_
    cases dp_int w1
    exact ⟨_, rfl, q _ H1 F1 s1 x1 (Rp.int _)⟩
  · cases ev
theorem se_isn (hK : X.K = c.K) (ng : Bool) (ha : SE c Φ X a ta) {j : Nat} {p2 : Pos} : SE c Φ X (.Compare a [if ng then .IsNot else .Is] [.Constant .none j p2] pos) (.isn ng ta) := by
  intro F H σ ρ ad r ρ' Q s ev q
  simp only [evalE] at ev
  obtain ⟨⟨ra, ρ1⟩, e1, ev⟩ := bindE ev
  obtain ⟨x, e2, ev⟩ := bindE ev
  cases ev
  have key : ∀ v1 F2, Rp c.K F2 v1 x → decide (v1 = V.non) = isNonD x := fun v1 F2 h => by
    cases h <;> simp [isNonD]
  have go : we X a σ H fun v1 H1 => Q (.bl (if ng then !decide (v1 = V.non) else decide (v1 = V.non))) H1 := by
    refine ha F H σ ρ ad ra _ _ s e1 fun v1 H1 F1 s1 x1 w1 => ?_
    obtain ⟨F2, s2, x2, dp⟩ := s1.val w1 e2
    rw [key v1 F2 dp]
    exact q _ H1 F2 s2 (x1.trans x2) (Rp.bl _)
  cases ng with
  | true => exact we_of (pe_cmp (pc_notN pe_we) rfl) go
  | false => exact we_of (pe_cmp (pc_isN pe_we) rfl) go
theorem se_and (ha : SE c Φ X a ta) {rest : List Expr} (hb : SE c Φ X (.BoolOp .And (b :: rest) pos) tb) : SE c Φ X (.BoolOp .And (a :: b :: rest) pos) (.and ta tb) := by
  intro F H σ ρ ad r ρ' Q s ev q
  simp only [evalE] at ev
  obtain ⟨⟨ra, ρ1⟩, e1, ev⟩ := bindE ev
  dsimp only at ev
  split at ev
  · rename_i k
    refine we_of (pe_and pe_we pe_we) ?_
    refine ha F H σ ρ ad _ ρ1 _ s e1 fun v1 H1 F1 s1 x1 w1 => ?_
    cases dp_bl w1
    refine ⟨k, rfl, ?_⟩
    cases k with
    | true =>
      rw [if_pos rfl] at ev ⊢
      exact hb F1 H1 σ ρ1 ad r ρ' _ s1 ev fun v2 H2 F2 s2 x2 w2 => q v2 H2 F2 s2 (x1.trans x2) w2
    | false =>
      rw [if_neg Bool.false_ne_true] at ev ⊢
      cases ev
      exact q _ H1 F1 s1 x1 (Rp.bl _)
  · cases ev
theorem se_or (ha : SE c Φ X a ta) {rest : List Expr} (hb : SE c Φ X (.BoolOp .Or (b :: rest) pos) tb) : SE c Φ X (.BoolOp .Or (a :: b :: rest) pos) (.or ta tb) := by
  intro F H σ ρ ad r ρ' Q s ev q
  simp only [evalE] at ev
  obtain ⟨⟨ra, ρ1⟩, e1, ev⟩ := bindE ev
  dsimp only at ev
  split at ev
  · rename_i k
    refine we_of (pe_or pe_we pe_we) ?_
    refine ha F H σ ρ ad _ ρ1 _ s e1 fun v1 H1 F1 s1 x1 w1 => ?_
    cases dp_bl w1
    refine ⟨k, rfl, ?_⟩
    cases k with
    | false =>
      rw [if_neg Bool.false_ne_true] at ev ⊢
      exact hb F1 H1 σ ρ1 ad r ρ' _ s1 ev fun v2 H2 F2 s2 x2 w2 => q v2 H2 F2 s2 (x1.trans x2) w2
    | true =>
      rw [if_pos rfl] at ev ⊢
      cases ev
      exact q _ H1 F1 s1 x1 (Rp.bl _)
  · cases ev
theorem se_one {op : BoolOp} (ha : SE c Φ X a ta) : SE c Φ X (.BoolOp op [a] pos) ta := by
  intro F H σ ρ ad r ρ' Q s ev q
  exact we_of (pe_one pe_we) (ha F H σ ρ ad r ρ' Q s ev q)
theorem se_not (ha : SE c Φ X a ta) : SE c Φ X (.UnaryOp .Not a pos) (.not ta) := by
  intro F H σ ρ ad r ρ' Q s ev q
  simp only [evalE] at ev
  obtain ⟨⟨ra, ρ1⟩, e1, ev⟩ := bindE ev
  dsimp only at ev
  split at ev
  · cases ev
    refine we_of (pe_not pe_we) ?_
    refine ha F H σ ρ ad _ ρ' _ s e1 fun v1 H1 F1 s1 x1 w1 => ?_
    cases dp_bl w1
    exact ⟨_, rfl, q _ H1 F1 s1 x1 (Rp.bl _)⟩
  · cases ev
theorem se_ife {t : Expr} {tt : T} (ht : ST c Φ X t tt) (ha : SE c Φ X a ta) (hb : SE c Φ X b tb) : SE c Φ X (.IfExp t a b pos) (.ife tt ta tb) := by
  intro F H σ ρ ad r ρ' Q s ev q
  simp only [evalE] at ev
  obtain ⟨⟨k, ρ1⟩, e1, ev⟩ := bindE ev
  dsimp only at ev
  refine we_of (pe_ifExp pt_wt pe_we pe_we) ?_
  refine ht F H σ ρ ad k ρ1 _ s e1 fun H1 F1 s1 x1 => ?_
  cases k with
  | true =>
    rw [if_pos rfl] at ev ⊢
    exact ha F1 H1 σ ρ1 ad r ρ' _ s1 ev fun v2 H2 F2 s2 x2 w2 => q v2 H2 F2 s2 (x1.trans x2) w2
  | false =>
    rw [if_neg Bool.false_ne_true] at ev ⊢
    exact hb F1 H1 σ ρ1 ad r ρ' _ s1 ev fun v2 H2 F2 s2 x2 w2 => q v2 H2 F2 s2 (x1.trans x2) w2
/-! ### rows of arguments -/
theorem RAs.mono {F F' : Hp} {ad : Nat → Addr} (e : Ex F F') : ∀ {vs : List V} {rs : List R}, RAs c F ad vs rs → RAs c F' ad vs rs
  | _, _, .nil => .nil
  | _, _, .cons (r := r) h t => .cons (by
      cases r with
      | val d => exact dp_mono e h
      | own d => exact fun d' z => dp_mono e (h d' z)
      | slot i => exact h) (RAs.mono e t)
theorem sa_nil : SA c Φ X [] .nil := by
  intro F H σ ρ ad rs ρ' Q s ev q
  simp only [evalAs] at ev
  cases ev
  exact ⟨_, pa_nil, q _ H F s (Ex.refl F) .nil⟩
theorem star_ok {e : Expr} {es : List Expr} {env : Env} (h : noStar e = true) : starEach (e :: es) env = (false, eval e env) :: starEach es env := by
  cases e <;> first | rfl | (simp [noStar] at h)
theorem sa_cons {es : List Expr} {t : As} (hs : noStar a = true) (ha : SE c Φ X a ta) (hr : SA c Φ X es t) : SA c Φ X (a :: es) (.cons ta t) := by
  intro F H σ ρ ad rs ρ' Q s ev q
  simp only [evalAs] at ev
  obtain ⟨⟨ra, ρ1⟩, e1, ev⟩ := bindE ev
  obtain ⟨⟨rb, ρ2⟩, e2, ev⟩ := bindE ev
  cases ev
  refine ⟨_, pa_cons pe_we pa_wa (star_ok hs), ?_⟩
  refine ha F H σ ρ ad ra ρ1 _ s e1 fun v1 H1 F1 s1 x1 w1 => ?_
  obtain ⟨F2, s2, x2, o2⟩ := s1.wait w1
  refine hr F2 H1 σ ρ1 ad rb _ _ s2 e2 fun vs H2 F3 s3 x3 w3 => ?_
  exact q _ H2 F3 s3 ((x1.trans x2).trans x3) (.cons ((RAs.cons o2 .nil).mono x3 |> fun | .cons h _ => h) w3)
/-- all are no places -/
theorem RAs.vals {F : Hp} {ad : Nat → Addr} : ∀ {vs : List V} {rs : List R} {ds : List D}, RAs c F ad vs rs → valAll rs = some ds → RpAll c.K F vs ds
  | _, _, _, .nil, h => by
    simp only [valAll] at h
    cases h
    exact .nil
  | _, _, _, .cons (r := r) (rs := rs) o t, h => by
    simp only [valAll] at h
    split at h
    · rename_i d ds e1 e2
      cases h
      refine .cons ?_ (RAs.vals t e2)
      cases r with
      | val d' => simp only [val?] at e1; cases e1; exact o
      | own d' => simp only [val?] at e1; exact o _ e1
      | slot i => simp [val?] at e1
    · cases h
theorem RAs.bds {F H : Hp} {σ : L2.St} {ρ : Rho} {ad : Nat → Addr} (s : Sr c F H σ ρ ad) : ∀ {vs : List V} {rs : List R} {ds : List D}, RAs c F ad vs rs → resAll ρ rs = some ds → BdAll c.K F H vs ds
  | _, _, _, .nil, h => by
    simp only [resAll] at h
    cases h
    exact .nil
  | _, _, _, .cons (r := r) (rs := rs) o t, h => by
    simp only [resAll] at h
    split at h
    · rename_i d ds e1 e2
      cases h
      exact .cons (o.bd s (Ex.refl F) e1) (RAs.bds s t e2)
    · cases h
theorem se_tup {es : List Expr} {t : As} {k : Nat} (h : SA c Φ X es t) : SE c Φ X (.Tuple es k pos) (.tup t) := by
  intro F H σ ρ ad r ρ' Q s ev q
  simp only [evalE] at ev
  obtain ⟨⟨rs, ρ1⟩, e1, ev⟩ := bindE ev
  obtain ⟨ds, e2, ev⟩ := bindE ev
  dsimp only at ev
  split at ev
  · rename_i hz
    cases ev
    refine we_of (pe_tupF pa_wa) ?_
    refine h F H σ ρ ad rs ρ' _ s e1 fun vs H1 F1 s1 x1 w1 => ?_
    have dv := w1.vals e2
    refine ⟨by rw [dps_len dv]; exact lim_line hz, fun p ob hp hd => ?_⟩
    have gg : New F1 H1 (upd F1 p (.frz ob (.tup vs))) (upd H1 p (.frz ob (.tup vs))) := New.one s1.ex hp
    exact q _ _ _ (s1.new gg) (x1.trans gg.ff) (Rp.tup ⟨ob, upd_same, hd⟩ (dps_mono gg.ff dv))
  · cases ev
theorem se_lst {es : List Expr} {t : As} (h : SA c Φ X es t) : SE c Φ X (.List es pos) (.lst t) := by
  intro F H σ ρ ad r ρ' Q s ev q
  simp only [evalE] at ev
  obtain ⟨⟨rs, ρ1⟩, e1, ev⟩ := bindE ev
  obtain ⟨ds, e2, ev⟩ := bindE ev
  dsimp only at ev
  split at ev
  · rename_i hz
    cases ev
    refine we_of (pe_lst pa_wa) ?_
    refine h F H σ ρ ad rs ρ' _ s e1 fun vs H1 F1 s1 x1 w1 => ?_
    have dv := w1.vals e2
    refine ⟨by rw [dps_len dv]; exact lim_line hz, fun p hp => ?_⟩
    have gg : New F1 H1 F1 (upd H1 p (.lst vs)) := New.own s1.ex hp
    exact q _ _ _ (s1.new gg) x1 (RV.rr s1 (r := .own (.list ds)) (F' := F1) ⟨p, rfl, ⟨fresh_back s1.ex hp, _, upd_same, .lst dv⟩, hp⟩)
  · cases ev
theorem se_dict0 : SE c Φ X (.Dict [] [] pos) .dict0 := by
  intro F H σ ρ ad r ρ' Q s ev q
  simp only [evalE] at ev
  cases ev
  refine we_of pe_dnewK fun p hp => ?_
  have gg : New F H F (upd H p (.dK [])) := New.own s.ex hp
  exact q _ _ _ (s.new gg) (Ex.refl F) (RV.rr s (r := .own (.dict [])) (F' := F) ⟨p, rfl, ⟨fresh_back s.ex hp, _, upd_same, .dct .nil⟩, hp⟩)
end
end Vm
set_option Elab.async false
set_option linter.all false
set_option maxRecDepth 100000
set_option maxHeartbeats 4000000
/-! VmS2: comparisons, subscripts, calls, tests. -/
namespace Vm
open PySem L2 Evl
section
variable {c : Fx} {Φ : Fs} {X : Cx} {g : Gl0} {lv : Nat} {N : List Str} {sc : Scope} {dl : Bool} {a b d : Expr} {ta tb td : E} {pos : Pos}
theorem set_ok {e : Expr} {o : COp} (h : noSet e = true) : behindInMarks (cOf o) e = false := by
  cases e <;> first | rfl | (simp [noSet] at h)
theorem units_ok (k : Cok g lv N sc dl X) : X.A.units + 150 < cLine := by have := k.room.un; omega
/-- both sides of an operator, waiting -/
theorem two_ok (hK : X.K = c.K) (ha : SE c Φ X a ta) (hb : SE c Φ X b tb) {F H : Hp} {σ : L2.St} {ρ ρ1 ρ2 : Rho} {ad : Nat → Addr} {ra rb : R} {x y : D} {W : V → V → Hp → Prop} (s : Sr c F H σ ρ ad)
    (e1 : evalE Φ ta ρ = some (ra, ρ1)) (e2 : evalE Φ tb ρ1 = some (rb, ρ2)) (e3 : res ρ2 ra = some x) (e4 : res ρ2 rb = some y)
    (q : ∀ v1 v2 H' F', Sr c F' H' σ ρ2 ad → Ex F F' → Bd c.K F' H' v1 x → Bd c.K F' H' v2 y → W v1 v2 H') : we X a σ H fun v1 H1 => we X b σ H1 fun v2 H2 => W v1 v2 H2 := by
  refine ha F H σ ρ ad ra ρ1 _ s e1 fun v1 H1 F1 s1 x1 w1 => ?_
  obtain ⟨F2, s2, x2, o2⟩ := s1.wait w1
  refine hb F2 H1 σ ρ1 ad rb _ _ s2 e2 fun v2 H2 F3 s3 x3 w3 => ?_
  obtain ⟨F4, s4, x4, o4⟩ := s3.wait w3
  exact q v1 v2 H2 F4 s4 (((x1.trans x2).trans x3).trans x4) (o2.bd s4 (x3.trans x4) e3) (o4.bd s4 (Ex.refl _) e4)
theorem cmp_core (hK : X.K = c.K) (o : COp) (ha : SE c Φ X a ta) (hb : SE c Φ X b tb) {F H : Hp} {σ : L2.St} {ρ ρ' : Rho} {ad : Nat → Addr} {r : R} {Q : VK} (s : Sr c F H σ ρ ad)
    (ev : evalE Φ (.cmp o ta tb) ρ = some (r, ρ')) (q : ∀ k, r = .val (.bool k) → ∀ H' F', Sr c F' H' σ ρ' ad → Ex F F' → Q (.bl k) H') : tOp (rCmp X.K o) (we X a) (we X b) σ H Q := by
  simp only [evalE] at ev
  obtain ⟨⟨ra, ρ1⟩, e1, ev⟩ := bindE ev
  obtain ⟨⟨rb, ρ2⟩, e2, ev⟩ := bindE ev
  obtain ⟨x, e3, ev⟩ := bindE ev
  obtain ⟨y, e4, ev⟩ := bindE ev
  obtain ⟨k, e5, ev⟩ := bindE ev
  cases ev
  exact two_ok (W := fun v1 v2 H2 => rCmp X.K o v1 v2 H2 Q) hK ha hb s e1 e2 e3 e4 fun v1 v2 H' F' s' x' b1 b2 => ⟨F', x, y, k, s'.ex, by rw [hK]; exact b1, by rw [hK]; exact b2, e5, q k rfl H' F' s' x'⟩
theorem se_cmp (k : Cok g lv N sc dl X) (hK : X.K = c.K) (o : COp) (ha : SE c Φ X a ta) (hb : SE c Φ X b tb) (hs : noSet b = true) : SE c Φ X (.Compare a [cOf o] [b] pos) (.cmp o ta tb) := by
  intro F H σ ρ ad r ρ' Q s ev q
  have hu := units_ok k
  refine we_of (pe_cmpR (op_cmp (by omega) o) pe_we pe_we (set_ok hs)) (cmp_core hK o ha hb s ev fun k hr H' F' s' x' => ?_)
  subst hr
  exact q _ H' F' s' x' (Rp.bl k)
theorem st_cmp (k : Cok g lv N sc dl X) (hK : X.K = c.K) (o : COp) (ha : SE c Φ X a ta) (hb : SE c Φ X b tb) (hs : noSet b = true) : ST c Φ X (.Compare a [cOf o] [b] pos) (.ofE (.cmp o ta tb)) := by
  intro F H σ ρ ad bb ρ' Q s ev q
  have hu := units_ok k
  simp only [evalT] at ev
  obtain ⟨⟨r, ρ1⟩, e1, ev⟩ := bindE ev
  obtain ⟨d, e2, ev⟩ := bindE ev
  obtain ⟨b', e3, ev⟩ := bindE ev
  cases ev
  refine wt_of (pt_cmpR (op_cmp (by omega) o) pe_we pe_we (set_ok hs)) (cmp_core (Q := fun x H' => ∃ k, x = .bl k ∧ Q k H') hK o ha hb s e1 fun k hr H' F' s' x' => ⟨k, rfl, ?_⟩)
  subst hr
  simp only [res] at e2
  cases e2
  simp only [truthD] at e3
  cases e3
  exact q H' F' s' x'
theorem chain_core (hK : X.K = c.K) (o p : COp) (ha : SE c Φ X a ta) (hb : SE c Φ X b tb) (hd : SE c Φ X d td) {F H : Hp} {σ : L2.St} {ρ ρ' : Rho} {ad : Nat → Addr} {r : R} {Q : VK} (s : Sr c F H σ ρ ad)
    (ev : evalE Φ (.chain o p ta tb td) ρ = some (r, ρ')) (q : ∀ k, r = .val (.bool k) → ∀ H' F', Sr c F' H' σ ρ' ad → Ex F F' → Q (.bl k) H') : tChain (rCmp X.K o) (rCmp X.K p) (we X a) (we X b) (we X d) σ H Q := by
  simp only [evalE] at ev
  obtain ⟨⟨ra, ρ1⟩, e1, ev⟩ := bindE ev
  obtain ⟨⟨rb, ρ2⟩, e2, ev⟩ := bindE ev
  obtain ⟨x, e3, ev⟩ := bindE ev
  obtain ⟨y, e4, ev⟩ := bindE ev
  obtain ⟨k, e5, ev⟩ := bindE ev
  refine ha F H σ ρ ad ra ρ1 _ s e1 fun v1 H1 F1 s1 x1 w1 => ?_
  obtain ⟨F2, s2, x2, o2⟩ := s1.val w1 e3
  refine hb F2 H1 σ ρ1 ad rb _ _ s2 e2 fun v2 H2 F3 s3 x3 w3 => ?_
  obtain ⟨F4, s4, x4, o4⟩ := s3.val w3 e4
  have x14 := (((x1.trans x2).trans x3).trans x4)
  refine ⟨F4, x, y, k, s4.ex, by rw [hK]; exact .inl (dp_mono (x3.trans x4) o2), by rw [hK]; exact .inl o4, e5, k, rfl, ?_⟩
  cases k with
  | true =>
    dsimp only at ev
    rw [if_pos rfl] at ev ⊢
    obtain ⟨⟨rc, ρ3⟩, e6, ev⟩ := bindE ev
    obtain ⟨z, e7, ev⟩ := bindE ev
    obtain ⟨k2, e8, ev⟩ := bindE ev
    cases ev
    refine hd F4 H2 σ ρ2 ad rc _ _ s4 e6 fun v5 H5 F5 s5 x5 w5 => ?_
    obtain ⟨F6, s6, x6, o6⟩ := s5.wait w5
    exact ⟨F6, y, z, k2, s6.ex, by rw [hK]; exact .inl (dp_mono (x5.trans x6) o4), by rw [hK]; exact o6.bd s6 (Ex.refl _) e7, e8, q k2 rfl H5 F6 s6 ((x14.trans x5).trans x6)⟩
  | false =>
    dsimp only at ev
    rw [if_neg Bool.false_ne_true] at ev ⊢
    cases ev
    exact q false rfl H2 F4 s4 x14
theorem se_chain (k : Cok g lv N sc dl X) (hK : X.K = c.K) (o p : COp) (ha : SE c Φ X a ta) (hb : SE c Φ X b tb) (hd : SE c Φ X d td) (hs : noSet b = true) (ht : noSet d = true) : SE c Φ X (.Compare a [cOf o, cOf p] [b, d] pos) (.chain o p ta tb td) := by
  intro F H σ ρ ad r ρ' Q s ev q
  have hu := units_ok k
  refine we_of (pe_chain (op_cmp (by omega) o) (op_cmp (by omega) p) pe_we pe_we pe_we (set_ok ht)) (chain_core hK o p ha hb hd s ev fun k hr H' F' s' x' => ?_)
  subst hr
  exact q _ H' F' s' x' (Rp.bl k)
theorem st_chain (k : Cok g lv N sc dl X) (hK : X.K = c.K) (o p : COp) (ha : SE c Φ X a ta) (hb : SE c Φ X b tb) (hd : SE c Φ X d td) (hs : noSet b = true) (ht : noSet d = true) : ST c Φ X (.Compare a [cOf o, cOf p] [b, d] pos) (.ofE (.chain o p ta tb td)) := by
  intro F H σ ρ ad bb ρ' Q s ev q
  have hu := units_ok k
  simp only [evalT] at ev
  obtain ⟨⟨r, ρ1⟩, e1, ev⟩ := bindE ev
  obtain ⟨d, e2, ev⟩ := bindE ev
  obtain ⟨b', e3, ev⟩ := bindE ev
  cases ev
  refine wt_of (pt_chain (op_cmp (by omega) o) (op_cmp (by omega) p) pe_we pe_we pe_we (set_ok ht)) (chain_core (Q := fun x H' => ∃ k, x = .bl k ∧ Q k H') hK o p ha hb hd s e1 fun k hr H' F' s' x' => ⟨k, rfl, ?_⟩)
  subst hr
  simp only [res] at e2
  cases e2
  simp only [truthD] at e3
  cases e3
  exact q H' F' s' x'
/-! ### subscripts, slices -/
theorem plainIx {e : Expr} (h : noSlice e = true) : PlainIx e := by
  intro o i
  cases e <;> first | rfl | (simp [noSlice] at h)
theorem se_ix (hK : X.K = c.K) (ha : SE c Φ X a ta) (hb : SE c Φ X b tb) (hs : noSlice b = true) : SE c Φ X (.Subscript a b pos) (.ix ta tb) := by
  intro F H σ ρ ad r ρ' Q s ev q
  simp only [evalE] at ev
  obtain ⟨⟨ra, ρ1⟩, e1, ev⟩ := bindE ev
  obtain ⟨⟨rb, ρ2⟩, e2, ev⟩ := bindE ev
  obtain ⟨x, e3, ev⟩ := bindE ev
  obtain ⟨y, e4, ev⟩ := bindE ev
  obtain ⟨k, e5, ev⟩ := bindE ev
  cases ev
  refine we_of (pe_ix ix_D pe_we pe_we (plainIx hs)) ?_
  exact two_ok (W := fun v1 v2 H2 => rIxD X.K v1 v2 H2 Q) hK ha hb s e1 e2 e3 e4 fun v1 v2 H' F' s' x' b1 b2 => ⟨F', x, y, k, s'.ex, by rw [hK]; exact b1, by rw [hK]; exact b2, e5, fun v dv => q v H' F' s' x' (by rw [hK] at dv; exact dv)⟩
theorem so_none : SO c Φ X none .none := by
  intro F H σ ρ ad o ρ' Q s ev q
  simp only [evalO] at ev
  cases ev
  exact ⟨_, po_none, q H F s (Ex.refl F)⟩
theorem so_some (ha : SE c Φ X a ta) : SO c Φ X (some a) (.some ta) := by
  intro F H σ ρ ad o ρ' Q s ev q
  simp only [evalO] at ev
  obtain ⟨⟨ra, ρ1⟩, e1, ev⟩ := bindE ev
  dsimp only at ev
  split at ev
  · cases ev
    refine ⟨_, po_some pe_we, ?_⟩
    refine ha F H σ ρ ad _ _ _ s e1 fun v1 H1 F1 s1 x1 w1 => ?_
    cases dp_int w1
    exact ⟨_, rfl, q H1 F1 s1 x1⟩
  · cases ev
theorem po_wo {X : Cx} {o : Option Expr} : PO X o (wo X o) := ⟨fun pins s σ H Q I ⟨_, p, h⟩ => p.run pins s σ H Q I h⟩
theorem se_sl (hK : X.K = c.K) (ha : SE c Φ X a ta) {lo hi : Option Expr} {tl th : O} {p2 : Pos} (hl : SO c Φ X lo tl) (hh : SO c Φ X hi th) : SE c Φ X (.Subscript a (.Slice lo hi none p2) pos) (.sl ta tl th) := by
  intro F H σ ρ ad r ρ' Q s ev q
  simp only [evalE] at ev
  obtain ⟨⟨ra, ρ1⟩, e1, ev⟩ := bindE ev
  obtain ⟨⟨l, ρ2⟩, e2, ev⟩ := bindE ev
  obtain ⟨⟨h, ρ3⟩, e3, ev⟩ := bindE ev
  obtain ⟨x, e4, ev⟩ := bindE ev
  obtain ⟨r', e5, ev⟩ := bindE ev
  cases ev
  refine we_of (pe_slice sl_D pe_we po_wo po_wo) ?_
  refine ha F H σ ρ ad ra ρ1 _ s e1 fun v1 H1 F1 s1 x1 w1 => ?_
  obtain ⟨F2, s2, x2, o2⟩ := s1.wait w1
  refine hl F2 H1 σ ρ1 ad l ρ2 _ s2 e2 fun H3 F3 s3 x3 => ?_
  refine hh F3 H3 σ ρ2 ad h _ _ s3 e3 fun H4 F4 s4 x4 => ?_
  refine ⟨F4, x, _, s4.ex, by rw [hK]; exact o2.bd s4 (x3.trans x4) e4, e5, fun v H' F' gg rv => ?_⟩
  rw [hK] at rv
  exact q v H' F' (s4.new gg) (((((x1.trans x2).trans x3).trans x4)).trans gg.ff) (rv.rr s4)
/-! ### built-ins -/
theorem star_all : ∀ {es : List Expr} {env : Env} {p : Pos}, es.all noStar = true → (backTo p (starEach es env)).any (·.1) = false
  | [], _, _, _ => rfl
  | e :: es, env, p, h => by
    rw [List.all_cons, Bool.and_eq_true] at h
    rw [star_ok h.1]
    show (false || (backTo p (starEach es env)).any (·.1)) = false
    rw [star_all h.2]
    rfl
theorem gl_ok (k : Cok g lv N sc dl X) {x : Str} (h : glB sc x = true) : Gl X x := by
  unfold Gl Env.kindOf
  rw [k.sc]
  unfold glB at h
  split at h
  · assumption
  · cases h
theorem blt_core {F H : Hp} {σ : L2.St} {ρ ρ' : Rho} {ad : Nat → Addr} {r : R} {Q : VK} {f : Fn} {es : List Expr} {t : As} (hK : X.K = c.K) (h : SA c Φ X es t) (s : Sr c F H σ ρ ad) (ev : evalE Φ (.blt f t) ρ = some (r, ρ'))
    (q : ∀ v H' F', Sr c F' H' σ ρ' ad → Ex F F' → RR c F' H' ρ' ad v r → Q v H') : wa X es σ H fun vs H1 => rFn X.K f vs H1 Q := by
  simp only [evalE] at ev
  obtain ⟨⟨rs, ρ1⟩, e1, ev⟩ := bindE ev
  obtain ⟨ds, e2, ev⟩ := bindE ev
  obtain ⟨r', e3, ev⟩ := bindE ev
  cases ev
  refine h F H σ ρ ad rs _ _ s e1 fun vs H1 F1 s1 x1 w1 => ?_
  refine ⟨F1, ds, _, s1.ex, by rw [hK]; exact w1.bds s1 e2, e3, fun v H' F' gg rv => ?_⟩
  rw [hK] at rv
  exact q v H' F' (s1.new gg) (x1.trans gg.ff) (rv.rr s1)
theorem se_fnB (k : Cok g lv N sc dl X) (hK : X.K = c.K) {f : Fn} {x : Str} {id : String} {es : List Expr} {t : As} {p : Pos} (hf : fOf f = some (.builtin id)) (hx : bootBuiltins x = some (.builtin id)) (hm : X.mg x = none) (hg : glB sc x = true) (hn : nameOk x = true)
    (ha : noStar a = true) (hs : es.all noStar = true) (h : SA c Φ X (a :: es) t) : SE c Φ X (.Call (.Name x p) (a :: es) [] pos) (.blt f t) := by
  intro F H σ ρ ad r ρ' Q s ev q
  have hu := units_ok k
  simp only [nameOk, Bool.and_eq_true, Bool.not_eq_true'] at hn
  refine we_of (pe_callB (cr_fn k.calm (by omega) hf) (gl_ok k hg) hm hx pa_wa (by simpa using hn.2) hn.1.1 (star_ok ha) (star_all hs)) (blt_core hK h s ev q)
theorem se_fnT (k : Cok g lv N sc dl X) (hK : X.K = c.K) {f : Fn} {x : Str} {id : String} {es : List Expr} {t : As} {p : Pos} (hf : fOf f = some (.type id)) (hx : bootBuiltins x = some (.type id)) (hm : X.mg x = none) (hg : glB sc x = true) (hn : nameOk x = true)
    (ha : noStar a = true) (hs : es.all noStar = true) (h : SA c Φ X (a :: es) t) : SE c Φ X (.Call (.Name x p) (a :: es) [] pos) (.blt f t) := by
  intro F H σ ρ ad r ρ' Q s ev q
  have hu := units_ok k
  simp only [nameOk, Bool.and_eq_true, Bool.not_eq_true'] at hn
  refine we_of (pe_callTy (cr_fn k.calm (by omega) hf) (gl_ok k hg) hm hx pa_wa (by simpa using hn.2) hn.1.1 (star_ok ha) (star_all hs)) (blt_core hK h s ev q)
/-! ### tests -/
theorem truth_ok {F H : Hp} (ex : Ex F H) {K : PySem.W.Frag} {v : V} {d : D} {k : Bool} (b : Bd K F H v d) (h : truthD d = some k) : TruV K v H k := by
  cases d with
  | none => cases b.non; simp only [truthD] at h; cases h; rfl
  | bool b' => cases b.bool; simp only [truthD] at h; cases h; rfl
  | int i => cases b.int; simp only [truthD] at h; cases h; rfl
  | str x => simp [truthD] at h
  | list xs =>
    simp only [truthD] at h
    cases h
    obtain ⟨a, vs, rfl, h1, h2⟩ := b.list ex
    refine .inl ⟨vs, h1, ?_⟩
    cases h2 <;> rfl
  | tuple xs =>
    simp only [truthD] at h
    cases h
    obtain ⟨a, vs, rfl, h1, _, h2⟩ := b.tup ex
    refine .inr (.inl ⟨vs, h1, ?_⟩)
    cases h2 <;> rfl
  | dict q => simp [truthD] at h
theorem st_plain (hK : X.K = c.K) (hp : plainT a = true) (ha : SE c Φ X a ta) : ST c Φ X a (.ofE ta) := by
  intro F H σ ρ ad bb ρ' Q s ev q
  simp only [evalT] at ev
  obtain ⟨⟨r, ρ1⟩, e1, ev⟩ := bindE ev
  obtain ⟨d, e2, ev⟩ := bindE ev
  obtain ⟨b', e3, ev⟩ := bindE ev
  cases ev
  refine wt_of (pt_truth pe_we (fun whole => by cases a <;> first | rfl | (simp [plainT] at hp))) ?_
  refine ha F H σ ρ ad r _ _ s e1 fun v1 H1 F1 s1 x1 w1 => ?_
  obtain ⟨F2, s2, x2, o2⟩ := s1.wait w1
  exact ⟨_, truth_ok s2.ex (by rw [hK]; exact o2.bd s2 (Ex.refl _) e2) e3, q H1 F2 s2 (x1.trans x2)⟩
theorem st_not {t : T} (ha : ST c Φ X a t) : ST c Φ X (.UnaryOp .Not a pos) (.not t) := by
  intro F H σ ρ ad bb ρ' Q s ev q
  simp only [evalT] at ev
  obtain ⟨⟨k, ρ1⟩, e1, ev⟩ := bindE ev
  cases ev
  exact wt_of (pt_not pt_wt) (ha F H σ ρ ad k _ _ s e1 fun H1 F1 s1 x1 => q H1 F1 s1 x1)
/-- and, or: whatever the whole is -/
def SW (c : Fx) (Φ : Fs) (X : Cx) (e : Expr) (t : T) : Prop := ∀ F H σ ρ ad b ρ' Q, Sr c F H σ ρ ad → evalT Φ t ρ = some (b, ρ') →
  (∀ H' F', Sr c F' H' σ ρ' ad → Ex F F' → Q b H') → ∃ tt, PW X e tt ∧ tt σ H Q
def ww (X : Cx) (e : Expr) : TT := fun σ H Q => ∃ t, PW X e t ∧ t σ H Q
theorem pw_ww {X : Cx} {e : Expr} : PW X e (ww X e) := ⟨fun wh pins s σ H Q I ⟨_, p, h⟩ => p.run wh pins s σ H Q I h⟩
theorem SW.st {e : Expr} {t : T} (h : SW c Φ X e t) : ST c Φ X e t := fun F H σ ρ ad b ρ' Q s ev q => by
  obtain ⟨tt, p, w⟩ := h F H σ ρ ad b ρ' Q s ev q
  exact ⟨tt, p.pt, w⟩
theorem sw_one {op : BoolOp} {t : T} (ha : ST c Φ X a t) : SW c Φ X (.BoolOp op [a] pos) t := fun F H σ ρ ad b ρ' Q s ev q => by
  cases op with
  | And => exact ⟨_, pw_and1 pt_wt, ha F H σ ρ ad b ρ' Q s ev q⟩
  | Or => exact ⟨_, pw_or1 pt_wt, ha F H σ ρ ad b ρ' Q s ev q⟩
theorem sw_and {t u : T} {rest : List Expr} (ha : ST c Φ X a t) (hb : SW c Φ X (.BoolOp .And (b :: rest) pos) u) : SW c Φ X (.BoolOp .And (a :: b :: rest) pos) (.and t u) := by
  intro F H σ ρ ad bb ρ' Q s ev q
  simp only [evalT] at ev
  obtain ⟨⟨k, ρ1⟩, e1, ev⟩ := bindE ev
  refine ⟨_, pw_and pt_wt pw_ww, ha F H σ ρ ad k ρ1 _ s e1 fun H1 F1 s1 x1 => ?_⟩
  cases k with
  | true =>
    dsimp only at ev
    rw [if_pos rfl] at ev ⊢
    exact hb F1 H1 σ ρ1 ad bb ρ' _ s1 ev fun H2 F2 s2 x2 => q H2 F2 s2 (x1.trans x2)
  | false =>
    dsimp only at ev
    rw [if_neg Bool.false_ne_true] at ev ⊢
    cases ev
    exact q H1 F1 s1 x1
theorem sw_or {t u : T} {rest : List Expr} (ha : ST c Φ X a t) (hb : SW c Φ X (.BoolOp .Or (b :: rest) pos) u) : SW c Φ X (.BoolOp .Or (a :: b :: rest) pos) (.or t u) := by
  intro F H σ ρ ad bb ρ' Q s ev q
  simp only [evalT] at ev
  obtain ⟨⟨k, ρ1⟩, e1, ev⟩ := bindE ev
  refine ⟨_, pw_or pt_wt pw_ww, ha F H σ ρ ad k ρ1 _ s e1 fun H1 F1 s1 x1 => ?_⟩
  cases k with
  | false =>
    dsimp only at ev
    rw [if_neg Bool.false_ne_true] at ev ⊢
    exact hb F1 H1 σ ρ1 ad bb ρ' _ s1 ev fun H2 F2 s2 x2 => q H2 F2 s2 (x1.trans x2)
  | true =>
    dsimp only at ev
    rw [if_pos rfl] at ev ⊢
    cases ev
    exact q H1 F1 s1 x1
/-- (is None, k in d: their value is a truth value) -/
theorem st_isn (hK : X.K = c.K) (ng : Bool) (ha : SE c Φ X a ta) {j : Nat} {p2 : Pos} : ST c Φ X (.Compare a [if ng then .IsNot else .Is] [.Constant .none j p2] pos) (.ofE (.isn ng ta)) := by
  intro F H σ ρ ad bb ρ' Q s ev q
  simp only [evalT, evalE] at ev
  obtain ⟨⟨r, ρ1⟩, e1, ev⟩ := bindE ev
  obtain ⟨d, e2, ev⟩ := bindE ev
  obtain ⟨b', e3, ev⟩ := bindE ev
  cases ev
  obtain ⟨⟨ra, ρ2⟩, e4, e1⟩ := bindE e1
  obtain ⟨x, e5, e1⟩ := bindE e1
  cases e1
  simp only [res] at e2
  cases e2
  simp only [truthD] at e3
  cases e3
  have key : ∀ v1 F2, Rp c.K F2 v1 x → decide (v1 = V.non) = isNonD x := fun v1 F2 h => by
    cases h <;> simp [isNonD]
  have go : we X a σ H fun v1 H1 => ∃ k, V.bl (if ng then !decide (v1 = V.non) else decide (v1 = V.non)) = .bl k ∧ Q k H1 := by
    refine ha F H σ ρ ad ra _ _ s e4 fun v1 H1 F1 s1 x1 w1 => ?_
    obtain ⟨F2, s2, x2, dp⟩ := s1.val w1 e5
    rw [key v1 F2 dp]
    exact ⟨_, rfl, q H1 F2 s2 (x1.trans x2)⟩
  cases ng with
  | true => exact wt_of (pt_cmp (pc_notN pe_we) rfl) go
  | false => exact wt_of (pt_cmp (pc_isN pe_we) rfl) go
end
end Vm
set_option Elab.async false
set_option linter.all false
set_option maxRecDepth 100000
set_option maxHeartbeats 4000000
/-! VmS3: calls of the text's own defs, lists that change. -/
namespace Vm
open PySem L2 Evl
/-! ### the frame's places that a call changes -/
theorem setAll_len : ∀ (is : List Nat) (ds : List D) (ρ : Rho), (setAll ρ is ds).length = ρ.length
  | [], _, _ => rfl
  | _ :: _, [], _ => rfl
  | i :: is, d :: ds, ρ => by
    unfold setAll
    rw [setAll_len is ds, List.length_set]
theorem setAll_out : ∀ (is : List Nat) (ds : List D) (ρ : Rho) {j : Nat}, j ∉ is → (setAll ρ is ds)[j]? = ρ[j]?
  | [], _, _, _, _ => rfl
  | _ :: _, [], _, _, _ => rfl
  | i :: is, d :: ds, ρ, j, h => by
    unfold setAll
    rw [List.mem_cons, not_or] at h
    rw [setAll_out is ds _ h.2, List.getElem?_set_ne (fun z => h.1 z.symm)]
theorem nodupB_ok : ∀ {is : List Nat}, nodupB is = true → is.Nodup
  | [], _ => List.nodup_nil
  | i :: is, h => by
    unfold nodupB at h
    rw [Bool.and_eq_true, Bool.not_eq_true', List.contains_eq_mem] at h
    exact List.nodup_cons.mpr ⟨by simpa using h.1, nodupB_ok h.2⟩
theorem setAll_in : ∀ (is : List Nat) (ds : List D) (ρ : Rho) (k : Nat) {j : Nat} {d : D}, is.Nodup → is[k]? = some j → ds[k]? = some d → j < ρ.length → (setAll ρ is ds)[j]? = some (some d)
  | [], _, _, _, _, _, _, h, _, _ => by simp at h
  | _ :: _, [], _, _, _, _, _, _, h, _ => by simp at h
  | i :: is, d :: ds, ρ, 0, j, d', nd, h1, h2, hl => by
    unfold setAll
    simp at h1 h2
    subst h1 h2
    rw [setAll_out is ds _ (List.nodup_cons.mp nd).1, List.getElem?_set_self hl]
  | i :: is, d :: ds, ρ, k + 1, j, d', nd, h1, h2, hl => by
    unfold setAll
    exact setAll_in is ds _ k (List.nodup_cons.mp nd).2 (by simpa using h1) (by simpa using h2) (by rw [List.length_set]; exact hl)
/-- the k-th place of a call -/
theorem slotPos_at : ∀ (rs : List R) (b k i : Nat), (slotPos b rs)[k]? = some i → b ≤ i ∧ ∃ j, rs[i - b]? = some (.slot j) ∧ (slotIds rs)[k]? = some j
  | [], _, _, _, h => by simp [slotPos] at h
  | .slot j :: rs, b, 0, i, h => by
    simp [slotPos] at h
    subst h
    exact ⟨Nat.le_refl _, j, by simp, by simp [slotIds]⟩
  | .slot j :: rs, b, k + 1, i, h => by
    simp [slotPos] at h
    obtain ⟨h1, j', h2, h3⟩ := slotPos_at rs (b + 1) k i h
    refine ⟨by omega, j', ?_, by simpa [slotIds] using h3⟩
    rw [show i - b = (i - (b + 1)) + 1 by omega]
    simpa using h2
  | .val d :: rs, b, k, i, h => by
    simp [slotPos] at h
    obtain ⟨h1, j', h2, h3⟩ := slotPos_at rs (b + 1) k i h
    refine ⟨by omega, j', ?_, by simpa [slotIds] using h3⟩
    rw [show i - b = (i - (b + 1)) + 1 by omega]
    simpa using h2
  | .own d :: rs, b, k, i, h => by
    simp [slotPos] at h
    obtain ⟨h1, j', h2, h3⟩ := slotPos_at rs (b + 1) k i h
    refine ⟨by omega, j', ?_, by simpa [slotIds] using h3⟩
    rw [show i - b = (i - (b + 1)) + 1 by omega]
    simpa using h2
theorem slotPos_mem : ∀ (rs : List R) (b i : Nat) (j : Nat), rs[i]? = some (.slot j) → b + i ∈ slotPos b rs
  | [], _, _, _, h => by simp at h
  | .slot j' :: rs, b, 0, j, h => by simp [slotPos]
  | .slot j' :: rs, b, i + 1, j, h => by
    simp only [slotPos]
    refine List.mem_cons_of_mem _ ?_
    have := slotPos_mem rs (b + 1) i j (by simpa using h)
    rw [show b + (i + 1) = b + 1 + i by omega]
    exact this
  | .val d :: rs, b, 0, j, h => by simp at h
  | .own d :: rs, b, 0, j, h => by simp at h
  | .val d :: rs, b, i + 1, j, h => by
    simp only [slotPos]
    have := slotPos_mem rs (b + 1) i j (by simpa using h)
    rw [show b + (i + 1) = b + 1 + i by omega]
    exact this
  | .own d :: rs, b, i + 1, j, h => by
    simp only [slotPos]
    have := slotPos_mem rs (b + 1) i j (by simpa using h)
    rw [show b + (i + 1) = b + 1 + i by omega]
    exact this
theorem slotPos_len : ∀ (rs : List R) (b : Nat), (slotPos b rs).length = (slotIds rs).length
  | [], _ => rfl
  | .slot _ :: rs, b => by simp [slotPos, slotIds, slotPos_len rs (b + 1)]
  | .val _ :: rs, b => by simp [slotPos, slotIds, slotPos_len rs (b + 1)]
  | .own _ :: rs, b => by simp [slotPos, slotIds, slotPos_len rs (b + 1)]
theorem resAll_get : ∀ {rs : List R} {ρ : Rho} {ds : List D}, resAll ρ rs = some ds → ∀ (i : Nat) {r : R}, rs[i]? = some r → ∃ d, ds[i]? = some d ∧ res ρ r = some d
  | [], _, _, _, _, _, h => by simp at h
  | r :: rs, ρ, ds, e, i, r', h => by
    simp only [resAll] at e
    split at e
    · rename_i d ds' e1 e2
      cases e
      cases i with
      | zero => simp at h; subst h; exact ⟨d, rfl, e1⟩
      | succ i =>
        obtain ⟨d', a, b⟩ := resAll_get e2 i (r := r') (by simpa using h)
        exact ⟨d', by simpa using a, b⟩
    · cases e
theorem resAll_len : ∀ {rs : List R} {ρ : Rho} {ds : List D}, resAll ρ rs = some ds → ds.length = rs.length
  | [], _, _, e => by
    simp only [resAll] at e
    cases e
    rfl
  | r :: rs, ρ, ds, e => by
    simp only [resAll] at e
    split at e
    · rename_i d ds' e1 e2
      cases e
      simp [resAll_len e2]
    · cases e
section
variable {c : Fx} {Φ : Fs} {X : Cx} {g : Gl0} {lv : Nat} {N : List Str} {sc : Scope} {dl : Bool} {a b d : Expr} {ta tb td : E} {pos : Pos}
theorem RAs.get {F : Hp} {ad : Nat → Addr} : ∀ {vs : List V} {rs : List R}, RAs c F ad vs rs → ∀ (i : Nat) {r : R}, rs[i]? = some r → ∃ v, vs[i]? = some v ∧ OB c F ad v r
  | _, _, .nil, _, _, h => by simp at h
  | _, _, .cons o t, 0, r, h => by
    simp at h
    subst h
    exact ⟨_, rfl, o⟩
  | _, _, .cons o t, i + 1, r, h => by
    obtain ⟨v, a, b⟩ := RAs.get t i (r := r) (by simpa using h)
    exact ⟨v, by simpa using a, b⟩
theorem RAs.len {F : Hp} {ad : Nat → Addr} : ∀ {vs : List V} {rs : List R}, RAs c F ad vs rs → vs.length = rs.length
  | _, _, .nil => rfl
  | _, _, .cons _ t => by simp [RAs.len t]
/-- the slot at a call's position -/
def posSlot (rs : List R) (i : Nat) : Nat := match rs[i]? with
  | some (.slot j) => j
  | _ => 0
/-- behind a call: the frame again -/
theorem call_back {F H F' H' : Hp} {σ : L2.St} {ρ : Rho} {ad : Nat → Addr} {vs : List V} {rs : List R} {ds outs : List D} {r : R} {v : V} {m : List Nat} (s : Sr c F H σ ρ ad) (w : RAs c F ad vs rs) (e : resAll ρ rs = some ds) (hm : slotPos 0 rs = m) (hn : nodupB (slotIds rs) = true)
    (gg : Grow (fun a => ∃ i ∈ m, a = ad (posSlot rs i)) F H F' H') (ho : outs.length = m.length) (oo : ∀ (k i : Nat), m[k]? = some i → ∃ d, outs[k]? = some d ∧ OwnAt c.K F' H' (ad (posSlot rs i)) d) (rv : RV c.K F' H H' v r) :
    Sr c F' H' σ (setAll ρ (slotIds rs) outs) ad ∧ RR c F' H' (setAll ρ (slotIds rs) outs) ad v r := by
  subst hm
  -- a place of the call
  have at_ : ∀ i ∈ slotPos 0 rs, rs[i]? = some (.slot (posSlot rs i)) ∧ posSlot rs i ∈ c.M ∧ posSlot rs i ∈ slotIds rs ∧ ∃ d, ρ[posSlot rs i]? = some (some d) := fun i hi => by
    obtain ⟨k, hk⟩ := List.getElem?_of_mem hi
    obtain ⟨_, j, h1, h2⟩ := slotPos_at rs 0 k i hk
    have h1' : rs[i]? = some (.slot j) := by simpa using h1
    have pj : posSlot rs i = j := by unfold posSlot; rw [h1']
    rw [pj]
    obtain ⟨v, _, ob⟩ := w.get i h1'
    obtain ⟨d, _, hr⟩ := resAll_get e i h1'
    refine ⟨h1', ob.2, List.mem_of_getElem? h2, ?_⟩
    simp only [res] at hr
    split at hr
    · rename_i d' h
      exact ⟨d', h⟩
    · cases hr
  -- live behind is live ahead
  have live : ∀ j d', (setAll ρ (slotIds rs) outs)[j]? = some (some d') → ∃ d, ρ[j]? = some (some d) := fun j d' h => by
    by_cases hj : j ∈ slotIds rs
    · obtain ⟨k, hk⟩ := List.getElem?_of_mem hj
      have hkl : k < (slotPos 0 rs).length := by
        rw [slotPos_len]
        exact (List.getElem?_eq_some_iff.mp hk).1
      obtain ⟨_, j2, h1, h2⟩ := slotPos_at rs 0 k _ (List.getElem?_eq_getElem hkl)
      rw [hk] at h2
      cases h2
      obtain ⟨a1, _, _, d, hd⟩ := at_ _ (List.getElem_mem hkl)
      have : posSlot rs (slotPos 0 rs)[k] = j := by unfold posSlot; rw [show rs[(slotPos 0 rs)[k]]? = some (.slot j) by simpa using h1]
      rw [this] at hd
      exact ⟨d, hd⟩
    · rw [setAll_out _ _ _ hj] at h
      exact ⟨d', h⟩
  have sr : Sr c F' H' σ (setAll ρ (slotIds rs) outs) ad := by
    refine ⟨s.gr.trans gg fun x ⟨i, hi, ex⟩ => ?_, by rw [setAll_len]; exact s.len, fun i d h hi => ?_, fun j d h hj => ?_, fun i j di dj h1 h2 m1 m2 ne => ?_, fun j hj => ?_⟩
    · obtain ⟨_, m1, _, d, hd⟩ := at_ i hi
      subst ex
      exact (s.own _ d hd m1).2.2
    · have hn' : i ∉ slotIds rs := fun z => by
        obtain ⟨k, hk⟩ := List.getElem?_of_mem z
        have hkl : k < (slotPos 0 rs).length := by
          rw [slotPos_len]
          exact (List.getElem?_eq_some_iff.mp hk).1
        obtain ⟨_, j2, h1, h2⟩ := slotPos_at rs 0 k _ (List.getElem?_eq_getElem hkl)
        rw [hk] at h2
        cases h2
        have := w.get _ (show rs[(slotPos 0 rs)[k]]? = some (.slot i) by simpa using h1)
        obtain ⟨_, _, ob⟩ := this
        exact hi ob.2
      rw [setAll_out _ _ _ hn'] at h
      obtain ⟨x, a1, b1⟩ := s.fro i d h hi
      exact ⟨x, a1, dp_mono gg.ff b1⟩
    · by_cases hs : j ∈ slotIds rs
      · obtain ⟨k, hk⟩ := List.getElem?_of_mem hs
        have hkl : k < (slotPos 0 rs).length := by
          rw [slotPos_len]
          exact (List.getElem?_eq_some_iff.mp hk).1
        obtain ⟨_, j2, h1, h2⟩ := slotPos_at rs 0 k _ (List.getElem?_eq_getElem hkl)
        rw [hk] at h2
        cases h2
        have pj : posSlot rs (slotPos 0 rs)[k] = j := by unfold posSlot; rw [show rs[(slotPos 0 rs)[k]]? = some (.slot j) by simpa using h1]
        obtain ⟨d0, hd0⟩ := live j d h
        obtain ⟨o1, o2, o3⟩ := s.own j d0 hd0 hj
        obtain ⟨d1, e1, w1⟩ := oo k _ (List.getElem?_eq_getElem hkl)
        rw [pj] at w1
        have := setAll_in (slotIds rs) outs ρ k (nodupB_ok hn) hk e1 (List.getElem?_eq_some_iff.mp hd0).1
        rw [this] at h
        cases h
        exact ⟨o1, w1, o3⟩
      · rw [setAll_out _ _ _ hs] at h
        obtain ⟨o1, o2, o3⟩ := s.own j d h hj
        refine ⟨o1, ⟨?_, ?_⟩, o3⟩
        · by_cases z : F' (ad j) = none
          · exact z
          · rcases gg.nw _ z with y | y | ⟨i, hi, ei⟩
            · exact absurd o2.nf y
            · exact absurd y o2.some
            · obtain ⟨_, m1, m2, d2, hd2⟩ := at_ i hi
              exact absurd ei (s.sep j (posSlot rs i) d d2 h hd2 hj m1 (fun z => hs (z ▸ m2)))
        · obtain ⟨o, eo, ro⟩ := o2.hd
          refine ⟨o, gg.fr _ _ eo ?_, ro.mono gg.ff⟩
          rintro ⟨i, hi, ei⟩
          obtain ⟨_, m1, m2, d2, hd2⟩ := at_ i hi
          exact s.sep j (posSlot rs i) d d2 h hd2 hj m1 (fun z => hs (z ▸ m2)) ei
    · obtain ⟨d1, e1⟩ := live i di h1
      obtain ⟨d2, e2⟩ := live j dj h2
      exact s.sep i j d1 d2 e1 e2 m1 m2 ne
    · obtain ⟨⟨d, hd⟩, m1, e1⟩ := s.par j hj
      refine ⟨?_, m1, e1⟩
      by_cases hs : j ∈ slotIds rs
      · obtain ⟨k, hk⟩ := List.getElem?_of_mem hs
        have hkl : k < (slotPos 0 rs).length := by
          rw [slotPos_len]
          exact (List.getElem?_eq_some_iff.mp hk).1
        obtain ⟨d1, e1, w1⟩ := oo k _ (List.getElem?_eq_getElem hkl)
        exact ⟨d1, setAll_in (slotIds rs) outs ρ k (nodupB_ok hn) hk e1 (List.getElem?_eq_some_iff.mp hd).1⟩
      · rw [setAll_out _ _ _ hs]
        exact ⟨d, hd⟩
  refine ⟨sr, ?_⟩
  cases r with
  | val d => exact rv
  | own d =>
    obtain ⟨a1, e1, o1, n1⟩ := rv
    refine ⟨a1, e1, o1, .inr (H0_none s n1), fun j dj m1 hj z => ?_⟩
    obtain ⟨d1, hd1⟩ := live j dj hj
    obtain ⟨_, w1, _⟩ := s.own j d1 hd1 m1
    exact w1.some (by rw [z]; exact n1)
  | slot i => exact rv.elim
theorem se_call (k : Cok g lv N sc dl X) (hK : X.K = c.K) {fns : List (Str × List Nat × List Str)} {kwl : List (Nat × List Str)} (fu : Funs g lv Φ fns kwl) {i : Nat} {x : Str} {m : List Nat} {ps : List Str} {es : List Expr} {t : As} {p : Pos} (hf : fns[i]? = some (x, m, ps)) (hg : glB sc x = true) (hn : nameOk x = true)
    (ha : noStar a = true) (hs : es.all noStar = true) (h : SA c Φ X (a :: es) t) : SE c Φ X (.Call (.Name x p) (a :: es) [] pos) (.call i m t) := by
  intro F H σ ρ ad r ρ' Q s ev q
  simp only [evalE] at ev
  obtain ⟨⟨rs, ρ1⟩, e1, ev⟩ := bindE ev
  obtain ⟨ds, e2, ev⟩ := bindE ev
  dsimp only at ev
  split at ev
  · rename_i hm
    obtain ⟨⟨r', outs⟩, e3, ev⟩ := bindE ev
    cases ev
    obtain ⟨f, fd, g1, g2, g3, g4, _⟩ := fu.ok i x m ps hf
    simp only [nameOk, Bool.and_eq_true, Bool.not_eq_true'] at hn
    refine we_of (pe_call (CX := CX0) (E := E0) (sp := spOf g.K m (Φ i)) (dvs := []) (ds := []) (by rw [k.hP, k.hw, k.hK, k.hm, k.hb]; exact g4) k.room (gl_ok k hg) (by rw [k.hm]; exact g1) (by rw [k.hK]; exact g2) (by rw [k.hK]; exact g3) .nil pass0 pa_wa hn.1.1 (star_ok ha) (star_all hs)) ?_
    refine h F H σ ρ ad rs _ _ s e1 fun vs H1 F1 s1 x1 w1 => ?_
    have gK : g.K = c.K := by rw [← k.hK]; exact hK
    show spOf g.K m (Φ i) (vs ++ []) H1 Q E0
    rw [List.append_nil, gK]
    refine ⟨F1, ds, _, outs, fun j => ad (posSlot rs j), ?_, s1.ex, fun j d hd hj => ?_, fun j hj => ?_, fun j1 j2 h1 h2 ne => ?_, e3, fun v H' F' gg ho oo rv => ?_⟩
    · rw [w1.len, resAll_len e2]
    · have hjl : j < rs.length := by rw [← resAll_len e2]; exact (List.getElem?_eq_some_iff.mp hd).1
      have hr := List.getElem?_eq_getElem hjl
      obtain ⟨v, hv, ob⟩ := w1.get j hr
      obtain ⟨d', hd', er⟩ := resAll_get e2 j hr
      rw [hd] at hd'
      cases hd'
      refine ⟨v, hv, ?_⟩
      cases er' : rs[j] with
      | val d2 =>
        rw [er'] at ob er
        simp only [res] at er
        cases er
        exact ob
      | own d2 =>
        rw [er'] at ob er
        simp only [res] at er
        exact ob _ er
      | slot j2 =>
        exfalso
        rw [er'] at hr
        have := slotPos_mem rs 0 j j2 hr
        rw [hm.1, Nat.zero_add] at this
        exact hj this
    · rw [← hm.1] at hj
      obtain ⟨kk, hk⟩ := List.getElem?_of_mem hj
      obtain ⟨_, j2, h1, h2⟩ := slotPos_at rs 0 kk j hk
      have h1' : rs[j]? = some (.slot j2) := by simpa using h1
      obtain ⟨v, hv, ob⟩ := w1.get j h1'
      obtain ⟨d, hd, er⟩ := resAll_get e2 j h1'
      have pj : posSlot rs j = j2 := by unfold posSlot; rw [h1']
      simp only [pj]
      refine ⟨d, hd, by rw [hv, ob.1], ?_⟩
      simp only [res] at er
      split at er
      · rename_i d' hd'
        obtain ⟨rfl, _⟩ := nodict_eq er
        exact (s1.own j2 _ hd' ob.2).2.1
      · cases er
    · rw [← hm.1] at h1 h2
      obtain ⟨k1, hk1⟩ := List.getElem?_of_mem h1
      obtain ⟨k2, hk2⟩ := List.getElem?_of_mem h2
      obtain ⟨_, i1, a1, b1⟩ := slotPos_at rs 0 k1 j1 hk1
      obtain ⟨_, i2, a2, b2⟩ := slotPos_at rs 0 k2 j2 hk2
      have a1' : rs[j1]? = some (.slot i1) := by simpa using a1
      have a2' : rs[j2]? = some (.slot i2) := by simpa using a2
      have p1 : posSlot rs j1 = i1 := by unfold posSlot; rw [a1']
      have p2 : posSlot rs j2 = i2 := by unfold posSlot; rw [a2']
      simp only [p1, p2]
      obtain ⟨_, _, ob1⟩ := w1.get j1 a1'
      obtain ⟨_, _, ob2⟩ := w1.get j2 a2'
      obtain ⟨d1, _, er1⟩ := resAll_get e2 j1 a1'
      obtain ⟨d2, _, er2⟩ := resAll_get e2 j2 a2'
      have live : ∀ {i d}, res ρ1 (.slot i) = some d → ∃ d', ρ1[i]? = some (some d') := fun {i d} er => by
        simp only [res] at er
        split at er
        · rename_i d' hd'; exact ⟨d', hd'⟩
        · cases er
      obtain ⟨d1', l1⟩ := live er1
      obtain ⟨d2', l2⟩ := live er2
      refine s1.sep i1 i2 d1' d2' l1 l2 ob1.2 ob2.2 fun z => ne ?_
      subst z
      have nd := nodupB_ok hm.2
      have kk : k1 = k2 := by
        have l1 := (List.getElem?_eq_some_iff.mp b1)
        have l2 := (List.getElem?_eq_some_iff.mp b2)
        obtain ⟨q1, w1⟩ := l1
        obtain ⟨q2, w2⟩ := l2
        exact (List.getElem_inj nd).mp (w1.trans w2.symm)
      subst kk
      rw [hk1] at hk2
      cases hk2
      rfl
    · obtain ⟨s2, r2⟩ := call_back s1 w1 e2 hm.1 hm.2 gg ho oo rv
      exact q v H' F' s2 (x1.trans gg.ff) r2
  · cases ev
end
end Vm
set_option Elab.async false
set_option linter.all false
set_option maxRecDepth 100000
set_option maxHeartbeats 4000000
/-! VmS4: what changes a list or a dict of the frame; isinstance, index, keywords. -/
namespace Vm
open PySem L2 Evl
section
variable {c : Fx} {Φ : Fs} {X : Cx} {g : Gl0} {lv : Nat} {N : List Str} {sc : Scope} {dl : Bool} {a b d : Expr} {ta tb td : E} {pos : Pos}
theorem set_some {ρ : Rho} {i j : Nat} {d d' : D} (h : (ρ.set i (some d'))[j]? = some (some d)) : (j = i ∧ d = d') ∨ (j ≠ i ∧ ρ[j]? = some (some d)) := by
  by_cases z : i = j
  · subst z
    by_cases y : i < ρ.length
    · rw [List.getElem?_set_self y] at h
      cases h
      exact .inl ⟨rfl, rfl⟩
    · rw [List.getElem?_eq_none (by simpa using y)] at h; cases h
  · rw [List.getElem?_set_ne z] at h
    exact .inr ⟨fun e => z e.symm, h⟩
/-- the object at a place changes -/
theorem Sr.put {F H : Hp} {σ : L2.St} {ρ : Rho} {ad : Nat → Addr} (s : Sr c F H σ ρ ad) {i : Nat} {d d' : D} {o : HO} (hi : ρ[i]? = some (some d)) (hm : i ∈ c.M) (ho : Hold c.K F o d') : Sr c F (upd H (ad i) o) σ (ρ.set i (some d')) ad := by
  obtain ⟨e1, w, z⟩ := s.own i d hi hm
  have hil : i < ρ.length := (List.getElem?_eq_some_iff.mp hi).1
  have neF : ∀ b u, F b = some u → b ≠ ad i := fun b u h y => by rw [y, w.nf] at h; cases h
  refine ⟨⟨s.gr.ff, fun b u h => by rw [upd_ne (neF b u h)]; exact s.ex b u h, fun b u h np => ?_, s.gr.nw, fun b h => ?_⟩, by rw [List.length_set]; exact s.len, fun j dj h m => ?_, fun j dj h m => ?_, fun j k dj dk h1 h2 m1 m2 ne => ?_, fun j hj => ?_⟩
  · rw [upd_ne]
    · exact s.gr.fr b u h np
    · rintro rfl
      rcases z with z | z
      · exact np z
      · rw [z] at h; cases h
  · by_cases y : b = ad i
    · subst y; rw [upd_same]; exact fun q => nomatch q
    · rw [upd_ne y]; exact s.gr.dm b h
  · rcases set_some h with ⟨rfl, _⟩ | ⟨_, h⟩
    · exact absurd hm m
    · exact s.fro j dj h m
  · rcases set_some h with ⟨rfl, rfl⟩ | ⟨ne, h⟩
    · exact ⟨e1, ⟨w.nf, o, upd_same, ho⟩, z⟩
    · obtain ⟨a1, a2, a3⟩ := s.own j dj h m
      refine ⟨a1, ⟨a2.nf, ?_⟩, a3⟩
      obtain ⟨u, eu, ru⟩ := a2.hd
      exact ⟨u, by rw [upd_ne (s.sep j i dj d h hi m hm ne)]; exact eu, ru⟩
  · have l : ∀ k dk, (ρ.set i (some d'))[k]? = some (some dk) → ∃ d0, ρ[k]? = some (some d0) := fun k dk h => by
      rcases set_some h with ⟨rfl, _⟩ | ⟨_, h⟩
      · exact ⟨d, hi⟩
      · exact ⟨dk, h⟩
    obtain ⟨x1, y1⟩ := l j dj h1
    obtain ⟨x2, y2⟩ := l k dk h2
    exact s.sep j k x1 x2 y1 y2 m1 m2 ne
  · obtain ⟨⟨dj, h⟩, m, e⟩ := s.par j hj
    refine ⟨?_, m, e⟩
    by_cases y : i = j
    · subst y; exact ⟨d', List.getElem?_set_self hil⟩
    · exact ⟨dj, by rw [List.getElem?_set_ne y]; exact h⟩
/-- the list at a place -/
theorem Sr.list {F H : Hp} {σ : L2.St} {ρ : Rho} {ad : Nat → Addr} (s : Sr c F H σ ρ ad) {i : Nat} {xs : List D} (hi : ρ[i]? = some (some (.list xs))) (hm : i ∈ c.M) : σ[i]? = some (some (.ref (ad i))) ∧ ∃ vs, H (ad i) = some (.lst vs) ∧ RpAll c.K F vs xs := by
  obtain ⟨e1, w, z⟩ := s.own i _ hi hm
  obtain ⟨o, e, h⟩ := w.hd
  cases h with
  | lst h => exact ⟨e1, _, e, h⟩
theorem Sr.dict {F H : Hp} {σ : L2.St} {ρ : Rho} {ad : Nat → Addr} (s : Sr c F H σ ρ ad) {i : Nat} {xs : List (D × D)} (hi : ρ[i]? = some (some (.dict xs))) (hm : i ∈ c.M) : σ[i]? = some (some (.ref (ad i))) ∧ ∃ vs, H (ad i) = some (.dK vs) ∧ KvR c.K F vs xs := by
  obtain ⟨e1, w, z⟩ := s.own i _ hi hm
  obtain ⟨o, e, h⟩ := w.hd
  cases h with
  | dct h => exact ⟨e1, _, e, h⟩
/-- a list is there -/
theorem Sr.recv {F H : Hp} {σ : L2.St} {ρ : Rho} {ad : Nat → Addr} (s : Sr c F H σ ρ ad) (hK : X.K = c.K) {i : Nat} (h : isListAt ρ i = true) (hm : i ∈ c.M) : σ[i]? = some (some (.ref (ad i))) ∧ ∃ ys, SqL X.K H (ad i) ys := by
  unfold isListAt at h
  split at h
  · rename_i xs e
    obtain ⟨e1, vs, h1, h2⟩ := s.list e hm
    exact ⟨e1, vs, SqL.of h1⟩
  · cases h
theorem dps_last {K : PySem.W.Frag} {F : Hp} {vs : List V} {ds : List D} {d : D} (h : RpAll K F vs ds) (e : ds.getLast? = some d) : ∃ v, vs[vs.length - 1]? = some v ∧ Rp K F v d := by
  rw [List.getLast?_eq_getElem?] at e
  rw [dps_len h]
  exact dps_get h _ e
theorem pe_name (k : Cok g lv N sc dl X) {i : Nat} {x : Str} {p : Pos} (hi : N[i]? = some x) (hv : Vis sc x) (hn : nameOk x = true) : PE X (.Name x p) (tVar i) := by
  simp only [nameOk, Bool.and_eq_true, Bool.not_eq_true'] at hn
  exact pe_var (by rw [k.nn]; exact hi) (by rw [k.sc]; exact hv) hn.1.1 hn.1.2
theorem se_pop (k : Cok g lv N sc dl X) (hK : X.K = c.K) {i : Nat} {x : Str} {p apos : Pos} (hi : N[i]? = some x) (hv : Vis sc x) (hn : nameOk x = true) (hm : i ∈ c.M) (hl : (apos.endLine == pos.line) = true) : SE c Φ X (.Call (.Attribute (.Name x p) "pop" apos) [] [] pos) (.pop i) := by
  intro F H σ ρ ad r ρ' Q s ev q
  simp only [evalE] at ev
  split at ev
  · rename_i xs e
    split at ev
    · rename_i d e2
      cases ev
      obtain ⟨e1, vs, h1, h2⟩ := s.list e hm
      obtain ⟨v, hv1, hv2⟩ := dps_last h2 e2
      refine we_of (pe_bm0 PySem.F.plainAttrs_list PySem.F.slot_list_pop PySem.F.type_list_pop mt_pop (pe_name k hi hv hn) rfl hl) ⟨_, e1, .inl ⟨rfl, vs, SqL.of h1⟩, ad i, vs, v, rfl, rfl, h1, hv1, ?_⟩
      exact q v _ F (s.put e hm (.lst (dps_dropLast h2))) (Ex.refl F) hv2
    · cases ev
  · cases ev
theorem small_bound {k : Int} (h : small62 k = true) : -(2 ^ 62) ≤ k ∧ k < 2 ^ 62 := by
  simpa [small62] using h
theorem star1 {env : Env} (h : noStar a = true) : starEach [a] env = [(false, eval a env)] := by
  rw [star_ok h]; rfl
theorem few1 {env : Env} {p : Pos} (h : noStar a = true) : ((backTo p (starEach [a] env)).all (fun x => !x.1) && (backToKw p (keywordEach [] env)).all (fun x => x.1.isSome) && decide ([a].length + ([] : List Keyword).length + (if ([] : List Keyword).isEmpty then 0 else 1) < 30)) = true := by
  rw [star1 h]; rfl
theorem se_popAt (k : Cok g lv N sc dl X) (hK : X.K = c.K) {i : Nat} {x : Str} {p apos : Pos} (hi : N[i]? = some x) (hv : Vis sc x) (hn : nameOk x = true) (hm : i ∈ c.M) (hl : (apos.endLine == pos.line) = true) (hs : noStar a = true) (ha : SE c Φ X a ta) : SE c Φ X (.Call (.Attribute (.Name x p) "pop" apos) [a] [] pos) (.popAt i ta) := by
  intro F H σ ρ ad r ρ' Q s ev q
  simp only [evalE] at ev
  split at ev
  case isFalse => cases ev
  rename_i hl0
  obtain ⟨⟨ra, ρ1⟩, e1, ev⟩ := bindE ev
  dsimp only at ev
  split at ev
  · rename_i kk xs e
    split at ev
    · rename_i hsm
      obtain ⟨pr, e2, ev⟩ := Option.map_eq_some_iff.mp ev
      cases ev
      obtain ⟨h1, h2⟩ := small_bound hsm
      unfold popAtD at e2
      split at e2
      · rename_i j ej
        split at e2
        · rename_i d ed
          cases e2
          -- the receiver is read ahead of the argument
          obtain ⟨e0, ys, hq⟩ := s.recv hK hl0 hm
          refine we_of (pe_bm PySem.F.plainAttrs_list PySem.F.slot_list_pop PySem.F.type_list_pop mt_popAt (pe_name k hi hv hn) (pa_cons pe_we pa_nil (star1 hs)) rfl (few1 hs) hl (star1 hs) rfl) ⟨_, e0, .inl ⟨rfl, ys, hq⟩, ?_⟩
          refine ha F H σ ρ ad _ _ _ s e1 fun v1 H1 F1 s1 x1 w1 => ?_
          cases dp_int w1
          obtain ⟨_, vs, g1, g2⟩ := s1.list e hm
          obtain ⟨v, hv1, hv2⟩ := dps_get g2 j ed
          refine ⟨ad i, vs, kk, j, v, rfl, rfl, g1, by omega, by omega, by rw [dps_len g2]; exact ej, hv1, ?_⟩
          exact q v _ F1 (s1.put e hm (.lst (dps_erase j g2))) x1 hv2
        · cases e2
      · cases e2
    · cases ev
  · cases ev
end
end Vm
set_option Elab.async false
set_option linter.all false
set_option maxRecDepth 100000
set_option maxHeartbeats 4000000
/-! VmS5: dicts, isinstance, index, len(set(..)), sorted by length, keywords. -/
namespace Vm
open PySem L2 Evl
theorem kv_key (k j : Int) : decide ((Sum.inl j : Key) = Sum.inl k) = decide (j = k) := by
  by_cases e : j = k
  · subst e; simp
  · rw [decide_eq_false e, decide_eq_false (fun q => e (Sum.inl.inj q))]
theorem kv_has {K : PySem.W.Frag} {F : Hp} (k : Int) : ∀ {r : List (Key × V)} {q : List (D × D)}, KvR K F r q → (valV r (Sum.inl k)).isSome = hasP k q ∧ (r.any fun kv => decide (kv.1 = Sum.inl k)) = hasP k q
  | _, _, .nil => ⟨rfl, rfl⟩
  | _, _, .cons (k := j) (r := r) (q := q) h t => by
    obtain ⟨h1, h2⟩ := kv_has k t
    have e : ∀ z, hasP k ((.int j, z) :: q) = (decide (j = k) || hasP k q) := fun _ => rfl
    constructor
    · rw [e, ← h1]
      unfold valV
      rw [List.find?_cons]
      simp only [kv_key]
      cases decide (j = k) <;> rfl
    · rw [e, ← h2, List.any_cons]
      simp only [kv_key]
theorem kv_map {K : PySem.W.Frag} {F : Hp} (k : Int) {v : V} {d : D} (hv : Rp K F v d) : ∀ {r : List (Key × V)} {q : List (D × D)}, KvR K F r q → KvR K F (r.map fun kv => if kv.1 = Sum.inl k then (kv.1, v) else kv) (q.map fun p => if keyAt k p.1 then (p.1, d) else p)
  | _, _, .nil => .nil
  | _, _, .cons (k := j) a b => by
    simp only [List.map_cons]
    by_cases e : j = k
    · subst e
      rw [if_pos rfl, if_pos (show keyAt j (.int j) = true from decide_eq_true rfl)]
      exact .cons hv (kv_map j hv b)
    · rw [if_neg (fun z => e (Sum.inl.inj z)), if_neg (show ¬ keyAt k (.int j) = true from fun z => e (of_decide_eq_true z))]
      exact .cons a (kv_map k hv b)
theorem kv_snoc {K : PySem.W.Frag} {F : Hp} (k : Int) {v : V} {d : D} (hv : Rp K F v d) : ∀ {r : List (Key × V)} {q : List (D × D)}, KvR K F r q → KvR K F (r ++ [(Sum.inl k, v)]) (q ++ [(.int k, d)])
  | _, _, .nil => .cons hv .nil
  | _, _, .cons a b => .cons a (kv_snoc k hv b)
theorem kv_put {K : PySem.W.Frag} {F : Hp} (k : Int) {v : V} {d : D} (hv : Rp K F v d) {r : List (Key × V)} {q : List (D × D)} (h : KvR K F r q) : KvR K F (putK r (Sum.inl k) v) (putP k d q) := by
  unfold putK putP
  rw [(kv_has k h).2]
  split
  · exact kv_map k hv h
  · exact kv_snoc k hv h
section
variable {c : Fx} {Φ : Fs} {X : Cx} {g : Gl0} {lv : Nat} {N : List Str} {sc : Scope} {dl : Bool} {a b d : Expr} {ta tb td : E} {pos : Pos}
theorem din_core (k : Cok g lv N sc dl X) (ng : Bool) (ha : SE c Φ X a ta) {i : Nat} (hm : i ∈ c.M) {F H : Hp} {σ : L2.St} {ρ ρ' : Rho} {ad : Nat → Addr} {r : R} {W : Bool → Hp → Prop} (s : Sr c F H σ ρ ad) (ev : evalE Φ (.din ng ta i) ρ = some (r, ρ'))
    (q : ∀ kk, r = .val (.bool kk) → ∀ H' F', Sr c F' H' σ ρ' ad → Ex F F' → W kk H') : we X a σ H fun y H1 => tVar i σ H1 fun x H2 => ∃ b o, x = .ref b ∧ DGet H2 b y o ∧ W (if ng then !o.isSome else o.isSome) H2 := by
  simp only [evalE] at ev
  obtain ⟨⟨ra, ρ1⟩, e1, ev⟩ := bindE ev
  dsimp only at ev
  split at ev
  · rename_i kk ps e
    cases ev
    refine ha F H σ ρ ad _ _ _ s e1 fun v1 H1 F1 s1 x1 w1 => ?_
    cases dp_int w1
    obtain ⟨g1, vs, g2, g3⟩ := s1.dict e hm
    refine ⟨_, g1, ad i, valV vs (Sum.inl kk), rfl, DGet.k (k := Sum.inl kk) g2, ?_⟩
    rw [(kv_has kk g3).1]
    exact q _ rfl H1 F1 s1 x1
  · cases ev
theorem se_din (k : Cok g lv N sc dl X) (ng : Bool) (ha : SE c Φ X a ta) {i : Nat} {x : Str} {p : Pos} (hi : N[i]? = some x) (hv : Vis sc x) (hn : nameOk x = true) (hm : i ∈ c.M) : SE c Φ X (.Compare a [if ng then .NotIn else .In] [.Name x p] pos) (.din ng ta i) := by
  intro F H σ ρ ad r ρ' Q s ev q
  have hu := units_ok k
  have core := din_core (W := fun kk H' => Q (.bl kk) H') k ng ha hm s ev fun kk e H' F' s' x' => q _ H' F' s' x' (by subst e; exact Rp.bl kk)
  cases ng with
  | true =>
    refine we_of (pe_cmp (pc_dnotin (by omega) pe_we (pe_name k hi hv hn)) rfl) core
  | false =>
    refine we_of (pe_cmp (pc_din (by omega) pe_we (pe_name k hi hv hn)) rfl) core
theorem st_din (k : Cok g lv N sc dl X) (ng : Bool) (ha : SE c Φ X a ta) {i : Nat} {x : Str} {p : Pos} (hi : N[i]? = some x) (hv : Vis sc x) (hn : nameOk x = true) (hm : i ∈ c.M) : ST c Φ X (.Compare a [if ng then .NotIn else .In] [.Name x p] pos) (.ofE (.din ng ta i)) := by
  intro F H σ ρ ad bb ρ' Q s ev q
  have hu := units_ok k
  simp only [evalT] at ev
  obtain ⟨⟨r, ρ1⟩, e1, ev⟩ := bindE ev
  obtain ⟨d, e2, ev⟩ := bindE ev
  obtain ⟨b', e3, ev⟩ := bindE ev
  cases ev
  have core := din_core (W := fun kk H' => ∃ z, V.bl kk = .bl z ∧ Q z H') k ng ha hm s e1 fun kk e H' F' s' x' => ⟨kk, rfl, by
    subst e
    simp only [res] at e2
    cases e2
    simp only [truthD] at e3
    cases e3
    exact q H' F' s' x'⟩
  cases ng with
  | true => exact wt_of (pt_cmp (pc_dnotin (by omega) pe_we (pe_name k hi hv hn)) rfl) core
  | false => exact wt_of (pt_cmp (pc_din (by omega) pe_we (pe_name k hi hv hn)) rfl) core
/-! ### isinstance -/
def tyN : Ty → String
  | .int => "int"
  | .bool => "bool"
  | .str => "str"
  | .tuple => "tuple"
  | .list => "list"
def rIsiD (K : PySem.W.Frag) (t : Ty) : List V → Hp → VK → Prop := fun vs H Q => ∃ F x d, Ex F H ∧ vs = [x, .ty (tyN t)] ∧ Bd K F H x d ∧ (∀ q, d ≠ .dict q) ∧ Q (.bl (isTy t d)) H
theorem call_isiD (t : Ty) : CallR X (.builtin "isinstance") (rIsiD X.K t) := by
  intro pins s σ H xs us Q I r h
  obtain ⟨F, x, d, ex, rfl, bx, nd, q⟩ := h
  obtain ⟨u, w, rfl, ru, rw'⟩ := vals2 r
  cases rw'
  obtain ⟨as, rd⟩ := L2.Dp.reads I d x u (bx.dp ex nd) ru
  have fin : ∀ tk, EP X pins σ Q (.bool (isTy t d)) { s with toks := tk } := fun tk => ⟨.bl _, H, I.tok tk, rfl, q⟩
  cases t with
  | int =>
    refine W.isinstance_int_data rd fun tk _ => ?_
    have e : PyData.isInt d = isTy .int d := by cases d <;> rfl
    rw [e]; exact fin tk
  | bool =>
    refine W.isinstance_bool_data rd fun tk _ => ?_
    have e : PyData.isBool d = isTy .bool d := by cases d <;> rfl
    rw [e]; exact fin tk
  | str =>
    refine W.isinstance_str_data rd fun tk _ => ?_
    have e : PyData.isStr d = isTy .str d := by cases d <;> rfl
    rw [e]; exact fin tk
  | tuple =>
    refine W.isinstance_tuple_data rd fun tk _ => ?_
    have e : PyData.isTuple d = isTy .tuple d := by cases d <;> rfl
    rw [e]; exact fin tk
  | list =>
    refine W.isinstance_list_data rd fun tk _ => ?_
    have e : PyData.isList d = isTy .list d := by cases d <;> rfl
    rw [e]; exact fin tk
theorem tyOf_name {t : Str} {ty : Ty} (h : tyOf t = some ty) : bootBuiltins t = some (.type (tyN ty)) := by
  unfold tyOf at h
  split at h
  · rename_i e; subst e; cases h; decide +kernel
  · split at h
    · rename_i e; subst e; cases h; decide +kernel
    · split at h
      · rename_i e; subst e; cases h; decide +kernel
      · split at h
        · rename_i e; subst e; cases h; decide +kernel
        · split at h
          · rename_i e; subst e; cases h; decide +kernel
          · cases h
theorem se_isi (k : Cok g lv N sc dl X) (hK : X.K = c.K) {ty : Ty} {t : Str} {p p2 : Pos} (ht : tyOf t = some ty) (hg : glB sc "isinstance" = true) (hm : X.mg "isinstance" = none) (hg2 : glB sc t = true) (hm2 : X.mg t = none) (hn : nameOk t = true) (hs : noStar a = true) (ha : SE c Φ X a ta) :
    SE c Φ X (.Call (.Name "isinstance" p) [a, .Name t p2] [] pos) (.blt (.isi ty) (.cons ta .nil)) := by
  intro F H σ ρ ad r ρ' Q s ev q
  simp only [evalE] at ev
  obtain ⟨⟨rs, ρ1⟩, e1, ev⟩ := bindE ev
  obtain ⟨ds, e2, ev⟩ := bindE ev
  obtain ⟨r', e3, ev⟩ := bindE ev
  cases ev
  simp only [evalAs] at e1
  obtain ⟨⟨ra, ρ2⟩, e4, e1⟩ := bindE e1
  obtain ⟨⟨rb, ρ3⟩, e5, e1⟩ := bindE e1
  cases e1
  cases e5
  simp only [resAll] at e2
  split at e2
  · rename_i d ds' e6 e7
    cases e7
    cases e2
    simp only [bltD] at e3
    cases e3
    simp only [nameOk, Bool.and_eq_true, Bool.not_eq_true'] at hn
    refine we_of (pe_callB (call_isiD ty) (gl_ok k hg) hm (by decide +kernel) (pa_cons pe_we (pa_cons (pe_bltn (v := .ty (tyN ty)) (gl_ok k hg2) hm2 (tyOf_name ht) rfl (by simpa using hn.2) hn.1.1) pa_nil rfl) (star_ok hs)) (by decide) (by decide) (star_ok hs) rfl) ?_
    refine ha F H σ ρ ad _ _ _ s e4 fun v1 H1 F1 s1 x1 w1 => ?_
    obtain ⟨F2, s2, x2, o2⟩ := s1.wait w1
    exact ⟨F2, v1, d, s2.ex, rfl, by rw [hK]; exact o2.bd s2 (Ex.refl _) e6, o2.nd e6, q _ H1 F2 s2 (x1.trans x2) (Rp.bl _)⟩
  · cases e2
end
end Vm
set_option Elab.async false
set_option linter.all false
set_option maxRecDepth 100000
set_option maxHeartbeats 4000000
/-! VmS6: t.index(k), len(set(t)), sorted(xs, key=len), calls by keywords. -/
namespace Vm
open PySem L2 Evl
theorem ints_are : ∀ {ns : List Int} {us : List Value}, Vals (ns.map V.int) us → PyProof.Rows.IntsAre us ns
  | [], _, .nil => .nil
  | n :: ns, _, .cons r t => by
    obtain ⟨k, rfl⟩ := r
    exact .cons n k (ints_are t)
section
variable {X : Cx}
def tBMF (r : V → List V → Hp → VK → Prop) (to : TE) (t : TA) : TE := fun σ H Q => to σ H fun x H1 => (∃ a xs, x = .ref a ∧ FzT H1 a xs) ∧ t σ H1 fun xs H2 => r x xs H2 Q
/-- a method of a tuple -/
theorem pe_bmF {o e : Expr} {es : List Expr} {to : TE} {t : TA} {name : Str} {apos cpos : Pos} {id : String} {r : V → List V → Hp → VK → Prop} (slot : Slot "tuple" name id) (hty : typeOf (.builtin id) = pure (.type "method_descriptor")) (hm : MtR X id r) (ho : PE X o to) (ha : PA X (e :: es) t)
    (hbase : attributeBase o name X.env (eval o X.env) = eval o X.env)
    (hfew : ((backTo cpos (starEach (e :: es) X.env)).all (fun x => !x.1) && (backToKw cpos (keywordEach [] X.env)).all (fun x => x.1.isSome) && decide ((e :: es).length + ([] : List Keyword).length + (if ([] : List Keyword).isEmpty then 0 else 1) < 30)) = true)
    (hline : (apos.endLine == cpos.line) = true) (hs : starEach (e :: es) X.env = (false, eval e X.env) :: starEach es X.env) (hplain : (backTo cpos (starEach es X.env)).any (·.1) = false) :
    PE X (.Call (.Attribute o name apos) (e :: es) [] cpos) (tBMF r to t) := by
  constructor
  intro pins s σ H Q I h
  refine wpAny_Call_method_late hbase hfew hline rfl (thn (ho.run pins s σ H _ I h) ?_)
  rintro v s1 ⟨x, H1, I1, r1, ⟨a, xs, rfl, ob, eo, dn⟩, q1⟩
  cases r1
  obtain ⟨g1, _, its, rv, o2, g2, cl, n, dt⟩ := I1.hok a _ eo
  refine ⟨"tuple", id, PySem.F.plainAttrs_tuple, slot, hty, ⟨o2, g2, cl⟩, fun b z => ?_, ?_⟩
  · cases z
    exact ⟨ob, g1, dn⟩
  · have hA := ha.run cpos pins s1 σ H1 _ I1 q1
    rw [hs] at hA ⊢
    refine Calls.callWith_builtin (by show (false || (backTo cpos (starEach es X.env)).any (·.1)) = false; rw [hplain]; rfl) (Calls.evalArgs_plain ?_)
    refine thn hA ?_
    rintro us s2 ⟨vs, H2, I2, r2, q2⟩
    exact hm pins s2 σ H2 (.ref a) vs (.ref a) us Q I2 rfl r2 q2
def rTIx (K : PySem.W.Frag) : V → List V → Hp → VK → Prop := fun x vs H Q => ∃ (a : Addr) (ns : List Int) (k : Int), x = .ref a ∧ vs = [.int k] ∧ SqT K H a (ns.map V.int) ∧ k ∈ ns ∧ Q (.int (ns.idxOf k : Nat)) H
theorem mt_tix : MtR X "tuple.index" (rTIx X.K) := by
  intro pins s σ H x xs v us Q I rx rxs h
  obtain ⟨a, ns, k, rfl, rfl, hq, hk, q⟩ := h
  cases rx
  obtain ⟨u, rfl, t, rfl⟩ := vals1 rxs
  obtain ⟨its, r, pl, hz⟩ := I.tuple hq
  exact SeqAt.tuple_index_ints pl (ints_are r) hk ⟨.int _, H, I.tok _, ⟨_, rfl⟩, q⟩
end
section
variable {c : Fx} {Φ : Fs} {X : Cx} {g : Gl0} {lv : Nat} {N : List Str} {sc : Scope} {dl : Bool} {a b d : Expr} {ta tb td : E} {pos : Pos}
theorem se_index (k : Cok g lv N sc dl X) (hK : X.K = c.K) {i : Nat} {x : Str} {p apos : Pos} (hi : N[i]? = some x) (hv : Vis sc x) (hn : nameOk x = true) (hm : i ∉ c.M) (hl : (apos.endLine == pos.line) = true) (hs : noStar a = true) (ha : SE c Φ X a ta) :
    SE c Φ X (.Call (.Attribute (.Name x p) "index" apos) [a] [] pos) (.index (.var i) ta) := by
  intro F H σ ρ ad r ρ' Q s ev q
  simp only [evalE] at ev
  obtain ⟨⟨ra, ρ1⟩, e1, ev⟩ := bindE ev
  obtain ⟨⟨rb, ρ2⟩, e2, ev⟩ := bindE ev
  dsimp only at ev
  split at ev
  · rename_i xs kk _
    split at ev
    · rename_i ns en
      split at ev
      · rename_i hin
        cases ev
        split at e1
        · rename_i dd el
          cases e1
          obtain ⟨v, ev1, dp⟩ := s.fro i _ el hm
          cases dp with
          | tup hf hr =>
            rename_i aa vs
            obtain ⟨z1, z2⟩ := dps_ints en hr
            refine we_of (pe_bmF PySem.F.slot_tuple_index PySem.F.type_tuple_index mt_tix (pe_name k hi hv hn) (pa_cons pe_we pa_nil (star1 hs)) rfl (few1 hs) hl (star1 hs) rfl) ⟨_, ev1, ⟨aa, vs, rfl, fz_mono s.ex hf⟩, ?_⟩
            refine ha F H σ ρ ad _ _ _ s e2 fun v1 H1 F1 s1 x1 w1 => ?_
            cases dp_int w1
            refine ⟨aa, ns, kk, rfl, rfl, ?_, hin, q _ H1 F1 s1 x1 (Rp.int _)⟩
            rw [← z1]
            exact (fz_mono (x1.trans s1.ex) hf).sq
        · cases e1
      · cases ev
    · cases ev
  · cases ev
/-! ### len(set(t)) -/
theorem dedup_mem : ∀ {ns : List Int} {k : Int}, k ∈ dedup ns ↔ k ∈ ns
  | [], _ => Iff.rfl
  | x :: r, k => by
    unfold dedup
    split
    · rename_i h
      rw [dedup_mem, List.mem_cons]
      exact ⟨.inr, fun z => z.elim (fun e => e ▸ h) id⟩
    · rw [List.mem_cons, List.mem_cons, dedup_mem]
theorem dedup_nd : ∀ ns : List Int, (dedup ns).Nodup
  | [] => List.nodup_nil
  | x :: r => by
    unfold dedup
    split
    · exact dedup_nd r
    · rename_i h
      exact List.nodup_cons.mpr ⟨fun z => h (dedup_mem.mp z), dedup_nd r⟩
theorem erase_len {ns ks : List Int} (nd : ks.Nodup) (h : ∀ k, k ∈ ns ↔ k ∈ ks) : ks.length = (dedup ns).length := by
  have p : List.Perm ks (dedup ns) := (List.perm_ext_iff_of_nodup nd (dedup_nd ns)).mpr fun k => by rw [← h k, dedup_mem]
  exact p.length_eq
def tLenSetD (K : PySem.W.Frag) (ta : TE) : TE := fun σ H Q => ta σ H fun x H1 => ∃ (l : Addr) (ns : List Int), x = .ref l ∧ SqT K H1 l (ns.map V.int) ∧ ns.length ≤ 4000 ∧ Q (.int ((dedup ns).length : Nat)) H1
theorem pe_lenSetD (hc : X.calm = true) {p p2 p3 : Pos} {te : TE} (hg : Gl X "len") (hm : X.mg "len" = none) (hg2 : Gl X "set") (hm2 : X.mg "set" = none) (ha : PE X a te) (hs : noStar a = true) :
    PE X (.Call (.Name "len" p) [.Call (.Name "set" p2) [a] [] p3] [] pos) (tLenSetD X.K te) := by
  constructor
  intro pins s σ H Q I h
  refine PyProof.Rows.Call_ (ld_blt I hg hm boot_len ?_)
  refine PyProof.Rows.callWith_builtin1 (PyProof.Rows.args_cons ?_ rfl) rfl rfl
  refine PyProof.Rows.Call_ (ld_blt I hg2 hm2 PyProof.Rows.boot_set ?_)
  refine PyProof.Rows.callWith_type1 (PyProof.Rows.args_cons (thn (ha.run pins s σ H _ I h) ?_) (star1 hs)) (star1 hs) rfl
  rintro v s1 ⟨x, H1, I1, r1, l, ns, rfl, hq, hl, q1⟩
  cases r1
  obtain ⟨its, r, pl, hz⟩ := I1.tuple hq
  refine PyProof.Rows.args_nil ?_
  refine call_set_tupI ns (I1.ok.hd hc) (show s1.heap.IsTuple l its.toArray from pl) (by simpa using ints_are r) (by unfold scanBound; omega) fun h' tk cc hS hcl hk => ?_
  obtain ⟨o, es, ep, t, ho, hex, hd, hge, hnd, hmem, hsb, hf, hn, _, _⟩ := hS
  have I2 : L2.Inv X pins σ H1 { s1 with heap := h', toks := tk } := I1.kept fun b o e => hk b o e
  refine PyProof.Rows.args_nil ?_
  have e : es.size = (dedup ns).length := by
    rw [← erase_len hnd fun k => by rw [← hmem k]; simp, List.length_map, Array.length_toList]
  refine call_len_set ho hex hd hf (by unfold scanBound at hsb; omega) ?_
  exact ⟨.int ((dedup ns).length : Nat), H1, I2.tok _, ⟨_, by rw [e]⟩, q1⟩
end
end Vm
set_option Elab.async false
set_option linter.all false
set_option maxRecDepth 100000
set_option maxHeartbeats 4000000
/-! VmS7: targets, what is walked, list comprehensions. -/
namespace Vm
open PySem L2 Evl
def wI (X : Cx) (tg iter : Expr) : TI := fun σ H R => ∃ t, PI X tg iter t ∧ t σ H R
theorem pi_wI {X : Cx} {tg iter : Expr} : PI X tg iter (wI X tg iter) := ⟨fun pins s σ H R I ⟨_, p, h⟩ => p.run pins s σ H R I h⟩
def wG (X : Cx) (tg : Expr) : TG := fun v σ H Q => ∃ t, PG X tg t ∧ t v σ H Q
theorem pg_wG {X : Cx} {tg : Expr} : PG X tg (wG X tg) := ⟨fun pins s σ H v u Q I r ⟨_, p, h⟩ => p.run pins s σ H v u Q I r h⟩
/-- what a turn hands out: a thing that stands for d, or a tuple of such -/
def Itm (K : PySem.W.Frag) (F H : Hp) (x : V) (d : D) : Prop := Rp K F x d ∨ ∃ a vs es, x = .ref a ∧ SqT K H a vs ∧ d = .tuple es ∧ RpAll K F vs es
/-- J hands out ds while F stands (.. a tuple may be new: only to a target of several names) -/
def Feeds (K : PySem.W.Frag) (J : L2.It) (ds : List D) (F : Hp) (tg : Expr) : Prop := ∀ (i : Nat) (H : Hp), Ex F H →
  (∀ d, ds[i]? = some d → J.go i H ∧ ∀ x H', J.yld i H x H' → (H' = H ∧ Rp K F x d) ∨ (isTup tg = true ∧ ∃ T vs es, x = .ref T ∧ H T = none ∧ H' = upd H T (.tup vs) ∧ d = .tuple es ∧ RpAll K F vs es)) ∧ (i = ds.length → J.stop i H)
section
variable {c : Fx} {Φ : Fs} {X : Cx} {g : Gl0} {lv : Nat} {N : List Str} {sc : Scope} {dl : Bool} {a b d : Expr} {ta tb td : E} {pos : Pos}
def tgts : G → List Nat
  | .name i => [i]
  | .tup is => is
/-- a place of the frame is given a value that stands still -/
theorem Sr.assign {F H : Hp} {σ : L2.St} {ρ : Rho} {ad : Nat → Addr} (s : Sr c F H σ ρ ad) {i : Nat} {x : V} {d : D} (hm : i ∉ c.M) (hx : Rp c.K F x d) : Sr c F H (σ.set i (some x)) (ρ.set i (some d)) ad where
  gr := s.gr
  len := by rw [List.length_set, List.length_set]; exact s.len
  fro := fun j dj h m => by
    rcases set_some h with ⟨rfl, rfl⟩ | ⟨ne, h⟩
    · have hl : j < σ.length := by
        rw [s.len]
        have := (List.getElem?_eq_some_iff.mp h).1
        simpa using this
      exact ⟨x, List.getElem?_set_self hl, hx⟩
    · obtain ⟨y, e, r⟩ := s.fro j dj h m
      exact ⟨y, by rw [List.getElem?_set_ne (fun z => ne z.symm)]; exact e, r⟩
  own := fun j dj h m => by
    rcases set_some h with ⟨rfl, _⟩ | ⟨ne, h⟩
    · exact absurd m hm
    · obtain ⟨e, r⟩ := s.own j dj h m
      exact ⟨by rw [List.getElem?_set_ne (fun z => ne z.symm)]; exact e, r⟩
  sep := fun j k dj dk h1 h2 m1 m2 ne => by
    rcases set_some h1 with ⟨rfl, _⟩ | ⟨_, h1⟩
    · exact absurd m1 hm
    · rcases set_some h2 with ⟨rfl, _⟩ | ⟨_, h2⟩
      · exact absurd m2 hm
      · exact s.sep j k dj dk h1 h2 m1 m2 ne
  par := fun j hj => by
    obtain ⟨⟨dj, h⟩, m, e⟩ := s.par j hj
    have ne : i ≠ j := fun z => hm (z ▸ m)
    exact ⟨⟨dj, by rw [List.getElem?_set_ne ne]; exact h⟩, m, e⟩
def SG (c : Fx) (X : Cx) (tg : Expr) (gg : G) : Prop := ∀ F H σ ρ ad d ρ' x Q, Sr c F H σ ρ ad → assignG gg d ρ = some ρ' → (Rp c.K F x d ∨ (isTup tg = true ∧ ∃ a vs es, x = .ref a ∧ SqT c.K H a vs ∧ d = .tuple es ∧ RpAll c.K F vs es)) →
  (∀ σ', Sr c F H σ' ρ' ad → (∀ j, j ∉ tgts gg → σ'[j]? = σ[j]?) → Q σ' H) → wG X tg x σ H Q
theorem loc_ok (k : Cok g lv N sc dl X) {x : Str} (h : locL sc dl x = true) : L2.Loc X.env.scope x ∧ (X.fn x = true ∨ X.env.scope.names.lookup x = some .local) := by
  unfold L2.Loc
  rw [k.sc]
  unfold locL at h
  split at h
  · rename_i e; exact ⟨.inl e, .inr e⟩
  · rename_i e
    exact ⟨.inr e, .inl (k.fn h x)⟩
  · cases h
theorem sg_name (k : Cok g lv N sc dl X) {i : Nat} {x : Str} (hi : N[i]? = some x) (hl : locL sc dl x = true) (hm : i ∉ c.M) : SG c X (.Name x pos) (.name i) := by
  intro F H σ ρ ad d ρ' v Q s e it q
  simp only [assignG] at e
  split at e
  · cases e
    obtain ⟨h1, h2⟩ := loc_ok k hl
    refine ⟨_, pg_name (by rw [k.nn]; exact k.nd) (by rw [k.nn]; exact hi) h1 h2, ?_⟩
    rcases it with it | ⟨z, _⟩
    · refine q _ (s.assign hm it) fun j hj => ?_
      rw [List.getElem?_set_ne]
      intro z
      exact hj (by rw [← z]; exact List.mem_singleton_self _)
    · cases z
  · cases e
/-- the names of a tuple target -/
theorem assign_row (k : Cok g lv N sc dl X) : ∀ (es : List Expr) (xs : List Str) (is : List Nat) (vs : List V) (ds : List D), tnames es = some xs → is = xs.map (N.idxOf ·) → (∀ x ∈ xs, locL sc dl x = true ∧ x ∈ N ∧ N.idxOf x ∉ c.M) → ∀ F H σ ρ ad ρ' (Q : L2.St → Hp → Prop), Sr c F H σ ρ ad →
    assignAll is ds ρ = some ρ' → RpAll c.K F vs ds → (∀ σ', Sr c F H σ' ρ' ad → (∀ j, j ∉ is → σ'[j]? = σ[j]?) → Q σ' H) → ∃ t, PGs X es t ∧ t vs σ H Q
  | [], xs, is, vs, ds, h1, h2, _, F, H, σ, ρ, ad, ρ', Q, s, e, r, q => by
    simp only [tnames] at h1
    cases h1
    subst h2
    cases r with
    | nil =>
      simp only [List.map_nil, assignAll] at e
      cases e
      exact ⟨_, pgs_nil, rfl, q σ s fun _ _ => rfl⟩
    | cons a b => simp [assignAll] at e
  | e0 :: es, xs, is, vs, ds, h1, h2, h3, F, H, σ, ρ, ad, ρ', Q, s, e, r, q => by
    cases e0 with
    | Name x p =>
      simp only [tnames] at h1
      obtain ⟨ys, ey, rfl⟩ := Option.map_eq_some_iff.mp h1
      subst h2
      cases r with
      | nil => simp [assignAll] at e
      | @cons v vs d ds hv hr =>
        simp only [List.map_cons, assignAll] at e
        split at e
        · rename_i hlt
          obtain ⟨l1, l2, l3⟩ := h3 x List.mem_cons_self
          obtain ⟨a1, a2⟩ := loc_ok k l1
          have hix : N[N.idxOf x]? = some x := by
            rw [List.getElem?_eq_getElem (List.idxOf_lt_length_of_mem l2)]
            simp
          have s1 := s.assign l3 hv
          obtain ⟨t, pt, ht⟩ := assign_row k es ys _ vs ds ey rfl (fun y hy => h3 y (List.mem_cons_of_mem _ hy)) F H _ _ ad ρ' Q s1 e hr fun σ' s' hj => q σ' s' fun j nj => by
            rw [List.map_cons, List.mem_cons, not_or] at nj
            rw [hj j nj.2, List.getElem?_set_ne (fun z => nj.1 z.symm)]
          refine ⟨_, pgs_cons (pg_name (by rw [k.nn]; exact k.nd) (by rw [k.nn]; exact hix) a1 a2) pt rfl, v, vs, rfl, ht⟩
        · cases e
    | _ => simp [tnames] at h1
theorem names_plain : ∀ {es : List Expr} {xs : List Str} {env : Env}, tnames es = some xs → (assignEach es env).findIdx? (·.1) = none ∧ (assignEach es env).length = xs.length
  | [], _, _, h => by
    simp only [tnames] at h
    cases h
    exact ⟨rfl, rfl⟩
  | e :: es, xs, env, h => by
    cases e with
    | Name x p =>
      simp only [tnames] at h
      obtain ⟨ys, ey, rfl⟩ := Option.map_eq_some_iff.mp h
      obtain ⟨h1, h2⟩ := names_plain (env := env) ey
      constructor
      · show List.findIdx? _ ((false, assign (.Name x p) env) :: assignEach es env) = none
        rw [List.findIdx?_cons, h1]
        rfl
      · show ((false, assign (.Name x p) env) :: assignEach es env).length = _
        simp [h2]
    | _ => simp [tnames] at h
theorem sg_tup (k : Cok g lv N sc dl X) {es : List Expr} {xs : List Str} {kk : Nat} (h1 : tnames es = some xs) (h3 : ∀ x ∈ xs, locL sc dl x = true ∧ x ∈ N ∧ N.idxOf x ∉ c.M) (hK : X.K = c.K) : SG c X (.Tuple es kk pos) (.tup (xs.map (N.idxOf ·))) := by
  intro F H σ ρ ad d ρ' v Q s e it q
  have it2 : ∃ a vs ds, v = .ref a ∧ SqT c.K H a vs ∧ d = .tuple ds ∧ RpAll c.K F vs ds := by
    rcases it with it | ⟨_, it⟩
    · cases d with
      | tuple ds =>
        cases it with
        | tup hf hr => exact ⟨_, _, _, rfl, (fz_mono s.ex hf).sq, rfl, hr⟩
      | _ => simp [assignG] at e
    · exact it
  obtain ⟨aa, vs, ds, rfl, hq, rfl, hr⟩ := it2
  simp only [assignG] at e
  split at e
  · rename_i hl
    obtain ⟨n1, n2⟩ := names_plain (env := X.env) h1
    obtain ⟨t, pt, ht⟩ := assign_row k es xs _ vs ds h1 rfl h3 F H σ ρ ad ρ' Q s e hr q
    refine ⟨_, pg_tup k.calm pt (n := (assignEach es X.env).length) rfl n1, aa, vs, rfl, by rw [hK]; exact hq, ?_, ht⟩
    rw [n2, dps_len hr, hl, List.length_map]
  · cases e
def asLen : As → Nat
  | .nil => 0
  | .cons _ r => asLen r + 1
theorem evalAs_len : ∀ (t : As) {ρ ρ' : Rho} {rs : List R}, evalAs Φ t ρ = some (rs, ρ') → rs.length = asLen t
  | .nil, ρ, ρ', rs, h => by
    simp only [evalAs] at h
    cases h
    rfl
  | .cons e r, ρ, ρ', rs, h => by
    simp only [evalAs] at h
    obtain ⟨⟨ra, ρ1⟩, e1, h⟩ := bindE h
    obtain ⟨⟨rb, ρ2⟩, e2, h⟩ := bindE h
    cases h
    simp only [List.length_cons, asLen, evalAs_len r e2]
/-! ### what is walked -/
def SI (c : Fx) (Φ : Fs) (X : Cx) (tg e : Expr) (t : Vm.It) : Prop := ∀ F H σ ρ ad items ρ' R, Sr c F H σ ρ ad → evalI Φ t ρ = some (items, ρ') →
  (∀ J H' F', Sr c F' H' σ ρ' ad → Ex F F' → Feeds c.K J items F' tg → R J H') → wI X tg e σ H R
theorem fz_t {K : PySem.W.Frag} {F H : Hp} {a : Addr} {xs : List V} (h : FzT F a xs) (e : Ex F H) : SqT K H a xs := (fz_mono e h).sq
theorem get_lt {α : Type} {ds : List α} {i : Nat} {d : α} (h : ds[i]? = some d) : i < ds.length := (List.getElem?_eq_some_iff.mp h).1
theorem feeds_list {K : PySem.W.Frag} {F : Hp} {aa : Addr} {xs : List V} {ds : List D} {tg : Expr} (h : SqL K F aa xs) (r : RpAll K F xs ds) : Feeds K (Itl K aa) ds F tg := by
  intro i H ex
  refine ⟨fun d e => ?_, fun e => ⟨xs, ex_l ex h, by rw [dps_len r, e]; exact Nat.le_refl _⟩⟩
  obtain ⟨v, e1, r1⟩ := dps_get r i e
  refine ⟨⟨xs, v, ex_l ex h, e1⟩, fun x H' y => .inl ⟨y.1, ?_⟩⟩
  have e2 := y.2 xs (ex_l ex h)
  rw [e1] at e2
  cases e2
  exact r1
theorem feeds_tup {K : PySem.W.Frag} {F : Hp} {aa : Addr} {xs : List V} {ds : List D} {tg : Expr} (h : FzT F aa xs) (r : RpAll K F xs ds) : Feeds K (Itt K aa) ds F tg := by
  intro i H ex
  refine ⟨fun d e => ?_, fun e => ⟨xs, fz_t h ex, by rw [dps_len r, e]; exact Nat.le_refl _⟩⟩
  obtain ⟨v, e1, r1⟩ := dps_get r i e
  refine ⟨⟨xs, v, fz_t h ex, e1⟩, fun x H' y => .inl ⟨y.1, ?_⟩⟩
  have e2 := y.2 xs (fz_t h ex)
  rw [e1] at e2
  cases e2
  exact r1
theorem feeds_range {K : PySem.W.Frag} {F : Hp} {lo : Int} {n : Nat} {tg : Expr} : Feeds K (Itr lo n) (rangeD lo n) F tg := by
  intro i H ex
  have hl : (rangeD lo n).length = n := by simp [rangeD]
  refine ⟨fun d e => ?_, fun e => by rw [hl] at e; exact Nat.le_of_eq e.symm⟩
  have hi := get_lt e
  rw [hl] at hi
  refine ⟨hi, fun x H' y => .inl ⟨y.1, ?_⟩⟩
  rw [y.2]
  unfold rangeD at e
  rw [List.getElem?_map, List.getElem?_range hi] at e
  cases e
  exact Rp.int _
theorem enumD_get : ∀ (ds : List D) (k i : Nat) (d : D), (enumD k ds)[i]? = some d → ∃ x, ds[i]? = some x ∧ d = .tuple [.int ((k + i : Nat) : Int), x]
  | [], _, _, _, h => by simp [enumD] at h
  | x :: xs, k, 0, d, h => by
    simp only [enumD, List.getElem?_cons_zero] at h
    cases h
    exact ⟨x, rfl, rfl⟩
  | x :: xs, k, i + 1, d, h => by
    simp only [enumD, List.getElem?_cons_succ] at h
    obtain ⟨y, a, b⟩ := enumD_get xs (k + 1) i d h
    exact ⟨y, by simpa using a, by rw [b]; congr 3; omega⟩
theorem enumD_len : ∀ (ds : List D) (k : Nat), (enumD k ds).length = ds.length
  | [], _ => rfl
  | _ :: xs, k => by simp [enumD, enumD_len xs]
theorem feeds_enumL {K : PySem.W.Frag} {F : Hp} {aa : Addr} {xs : List V} {ds : List D} {tg : Expr} (ht : isTup tg = true) (h : SqL K F aa xs) (r : RpAll K F xs ds) : Feeds K (Ite K aa) (enumD 0 ds) F tg := by
  intro i H ex
  refine ⟨fun d e => ?_, fun e => ⟨xs, ex_l ex h, by rw [dps_len r, e, enumD_len]; exact Nat.le_refl _⟩⟩
  obtain ⟨d1, e0, rfl⟩ := enumD_get ds 0 i d e
  obtain ⟨v, e1, r1⟩ := dps_get r i e0
  refine ⟨⟨xs, v, ex_l ex h, e1⟩, fun x H' ⟨T, y, a1, a2, a3, a4⟩ => .inr ⟨ht, T, [.int (i : Nat), y], _, a1, a2, a3, rfl, ?_⟩⟩
  have e2 := a4 xs (ex_l ex h)
  rw [e1] at e2
  cases e2
  rw [Nat.zero_add]
  exact .cons (Rp.int _) (.cons r1 .nil)
theorem feeds_enumT {K : PySem.W.Frag} {F : Hp} {aa : Addr} {xs : List V} {ds : List D} {tg : Expr} (ht : isTup tg = true) (h : FzT F aa xs) (r : RpAll K F xs ds) : Feeds K (IeT K aa) (enumD 0 ds) F tg := by
  intro i H ex
  refine ⟨fun d e => ?_, fun e => ⟨xs, fz_t h ex, by rw [dps_len r, e, enumD_len]⟩⟩
  obtain ⟨d1, e0, rfl⟩ := enumD_get ds 0 i d e
  obtain ⟨v, e1, r1⟩ := dps_get r i e0
  refine ⟨⟨xs, v, fz_t h ex, e1⟩, fun x H' ⟨T, y, a1, a2, a3, a4⟩ => .inr ⟨ht, T, [.int (i : Nat), y], _, a1, a2, a3, rfl, ?_⟩⟩
  have e2 := a4 xs (fz_t h ex)
  rw [e1] at e2
  cases e2
  rw [Nat.zero_add]
  exact .cons (Rp.int _) (.cons r1 .nil)
theorem zipD2_get : ∀ (xs ys : List D) (i : Nat) (d : D), (zipD2 xs ys)[i]? = some d → ∃ x y, xs[i]? = some x ∧ ys[i]? = some y ∧ d = .tuple [x, y]
  | [], _, _, _, h => by simp [zipD2] at h
  | _ :: _, [], _, _, h => by simp [zipD2] at h
  | x :: xs, y :: ys, 0, d, h => by
    simp only [zipD2, List.getElem?_cons_zero] at h
    cases h
    exact ⟨x, y, rfl, rfl, rfl⟩
  | x :: xs, y :: ys, i + 1, d, h => by
    simp only [zipD2, List.getElem?_cons_succ] at h
    obtain ⟨a, b, e1, e2, e3⟩ := zipD2_get xs ys i d h
    exact ⟨a, b, by simpa using e1, by simpa using e2, e3⟩
theorem zipD2_len : ∀ (xs ys : List D), (zipD2 xs ys).length = min xs.length ys.length
  | [], _ => by simp [zipD2]
  | _ :: _, [] => by simp [zipD2]
  | x :: xs, y :: ys => by simp [zipD2, zipD2_len xs ys]
theorem feeds_zipL {K : PySem.W.Frag} {F : Hp} {aa bb : Addr} {xs ys : List V} {ds es : List D} {tg : Expr} (ht : isTup tg = true) (h : SqL K F aa xs) (h2 : SqL K F bb ys) (r : RpAll K F xs ds) (r2 : RpAll K F ys es) : Feeds K (Itz K aa bb) (zipD2 ds es) F tg := by
  intro i H ex
  refine ⟨fun d e => ?_, fun e => ⟨xs, ys, ex_l ex h, ex_l ex h2, by rw [zipD2_len] at e; rw [dps_len r, dps_len r2]; omega⟩⟩
  obtain ⟨d1, d2, e0, e1, rfl⟩ := zipD2_get ds es i d e
  obtain ⟨v, f1, r1⟩ := dps_get r i e0
  obtain ⟨w, f2, r3⟩ := dps_get r2 i e1
  refine ⟨⟨xs, ys, v, w, ex_l ex h, ex_l ex h2, f1, f2⟩, fun x H' ⟨T, y, z, a1, a2, a3, a4, a5⟩ => .inr ⟨ht, T, [y, z], _, a1, a2, a3, rfl, ?_⟩⟩
  have e2 := a4 xs (ex_l ex h)
  have e3 := a5 ys (ex_l ex h2)
  rw [f1] at e2
  rw [f2] at e3
  cases e2
  cases e3
  exact .cons r1 (.cons r3 .nil)
theorem feeds_zipT {K : PySem.W.Frag} {F : Hp} {aa bb : Addr} {xs ys : List V} {ds es : List D} {tg : Expr} (ht : isTup tg = true) (h : FzT F aa xs) (h2 : FzT F bb ys) (r : RpAll K F xs ds) (r2 : RpAll K F ys es) : Feeds K (RZ.ItzT K aa bb) (zipD2 ds es) F tg := by
  intro i H ex
  refine ⟨fun d e => ?_, fun e => ⟨xs, ys, fz_t h ex, fz_t h2 ex, by rw [zipD2_len] at e; rw [dps_len r, dps_len r2]; omega⟩⟩
  obtain ⟨d1, d2, e0, e1, rfl⟩ := zipD2_get ds es i d e
  obtain ⟨v, f1, r1⟩ := dps_get r i e0
  obtain ⟨w, f2, r3⟩ := dps_get r2 i e1
  refine ⟨⟨xs, ys, v, w, fz_t h ex, fz_t h2 ex, f1, f2⟩, fun x H' ⟨T, y, z, a1, a2, a3, a4, a5⟩ => .inr ⟨ht, T, [y, z], _, a1, a2, a3, rfl, ?_⟩⟩
  have e2 := a4 xs (fz_t h ex)
  have e3 := a5 ys (fz_t h2 ex)
  rw [f1] at e2
  rw [f2] at e3
  cases e2
  cases e3
  exact .cons r1 (.cons r3 .nil)
theorem zipD3_get : ∀ (xs ys zs : List D) (i : Nat) (d : D), (zipD3 xs ys zs)[i]? = some d → ∃ x y z, xs[i]? = some x ∧ ys[i]? = some y ∧ zs[i]? = some z ∧ d = .tuple [x, y, z]
  | [], _, _, _, _, h => by simp [zipD3] at h
  | _ :: _, [], _, _, _, h => by simp [zipD3] at h
  | _ :: _, _ :: _, [], _, _, h => by simp [zipD3] at h
  | x :: xs, y :: ys, z :: zs, 0, d, h => by
    simp only [zipD3, List.getElem?_cons_zero] at h
    cases h
    exact ⟨x, y, z, rfl, rfl, rfl, rfl⟩
  | x :: xs, y :: ys, z :: zs, i + 1, d, h => by
    simp only [zipD3, List.getElem?_cons_succ] at h
    obtain ⟨a, b, c, e1, e2, e3, e4⟩ := zipD3_get xs ys zs i d h
    exact ⟨a, b, c, by simpa using e1, by simpa using e2, by simpa using e3, e4⟩
theorem zipD3_len : ∀ (xs ys zs : List D), (zipD3 xs ys zs).length = min (min xs.length ys.length) zs.length
  | [], _, _ => by simp [zipD3]
  | _ :: _, [], _ => by simp [zipD3]
  | _ :: _, _ :: _, [] => by simp [zipD3]
  | x :: xs, y :: ys, z :: zs => by simp only [zipD3, List.length_cons, zipD3_len xs ys zs]; omega
theorem feeds_zip3 {K : PySem.W.Frag} {F : Hp} {aa bb cc : Addr} {xs ys zs : List V} {ds es fs : List D} {tg : Expr} (ht : isTup tg = true) (h : FzT F aa xs) (h2 : FzT F bb ys) (h3 : FzT F cc zs) (r : RpAll K F xs ds) (r2 : RpAll K F ys es) (r3 : RpAll K F zs fs) : Feeds K (Iz3 K aa bb cc) (zipD3 ds es fs) F tg := by
  intro i H ex
  refine ⟨fun d e => ?_, fun e => ⟨xs, ys, zs, fz_t h ex, fz_t h2 ex, fz_t h3 ex, by rw [zipD3_len] at e; rw [dps_len r, dps_len r2, dps_len r3]; exact e⟩⟩
  obtain ⟨d1, d2, d3, e0, e1, e2, rfl⟩ := zipD3_get ds es fs i d e
  obtain ⟨v, f1, q1⟩ := dps_get r i e0
  obtain ⟨w, f2, q2⟩ := dps_get r2 i e1
  obtain ⟨u, f3, q3⟩ := dps_get r3 i e2
  refine ⟨⟨xs, ys, zs, v, w, u, fz_t h ex, fz_t h2 ex, fz_t h3 ex, f1, f2, f3⟩, fun x H' ⟨T, y, z, t, a1, a2, a3, a4, a5, a6⟩ => .inr ⟨ht, T, [y, z, t], _, a1, a2, a3, rfl, ?_⟩⟩
  have g1 := a4 xs (fz_t h ex)
  have g2 := a5 ys (fz_t h2 ex)
  have g3 := a6 zs (fz_t h3 ex)
  rw [f1] at g1
  rw [f2] at g2
  rw [f3] at g3
  cases g1
  cases g2
  cases g3
  exact .cons q1 (.cons q2 (.cons q3 .nil))
theorem rev_get {α : Type} {ds : List α} {i : Nat} {d : α} (h : ds.reverse[i]? = some d) : i < ds.length ∧ ds[ds.length - 1 - i]? = some d := by
  have hi := get_lt h
  rw [List.length_reverse] at hi
  rw [List.getElem?_reverse hi] at h
  exact ⟨hi, h⟩
theorem feeds_revL {K : PySem.W.Frag} {F : Hp} {aa : Addr} {xs : List V} {ds : List D} {tg : Expr} (h : SqL K F aa xs) (r : RpAll K F xs ds) : Feeds K (Itv K aa xs.length) ds.reverse F tg := by
  intro i H ex
  refine ⟨fun d e => ?_, fun e => by show xs.length ≤ i; rw [dps_len r, e, List.length_reverse]; exact Nat.le_refl _⟩
  obtain ⟨hi, e0⟩ := rev_get e
  rw [← dps_len r] at hi e0
  obtain ⟨v, e1, r1⟩ := dps_get r _ e0
  refine ⟨⟨hi, xs, v, ex_l ex h, e1⟩, fun x H' y => .inl ⟨y.1, ?_⟩⟩
  have e2 := y.2 xs (ex_l ex h)
  rw [e1] at e2
  cases e2
  exact r1
theorem feeds_revT {K : PySem.W.Frag} {F : Hp} {aa : Addr} {xs : List V} {ds : List D} {tg : Expr} (h : FzT F aa xs) (r : RpAll K F xs ds) : Feeds K (RT.ItvT K aa xs.length) ds.reverse F tg := by
  intro i H ex
  refine ⟨fun d e => ?_, fun e => by show xs.length ≤ i; rw [dps_len r, e, List.length_reverse]; exact Nat.le_refl _⟩
  obtain ⟨hi, e0⟩ := rev_get e
  rw [← dps_len r] at hi e0
  obtain ⟨v, e1, r1⟩ := dps_get r _ e0
  refine ⟨⟨hi, xs, v, fz_t h ex, e1⟩, fun x H' y => .inl ⟨y.1, ?_⟩⟩
  have e2 := y.2 xs (fz_t h ex)
  rw [e1] at e2
  cases e2
  exact r1
theorem seqOf_cases {d : D} {xs : List D} (h : seqOf d = some xs) : d = .list xs ∨ d = .tuple xs := by
  cases d <;> simp [seqOf] at h
  · exact .inl (by rw [h])
  · exact .inr (by rw [h])
theorem si_seq {tg : Expr} (hK : X.K = c.K) (ha : SE c Φ X a ta) : SI c Φ X tg a (.seq ta) := by
  intro F H σ ρ ad items ρ' R s ev q
  simp only [evalI] at ev
  obtain ⟨⟨ra, ρ1⟩, e1, ev⟩ := bindE ev
  obtain ⟨d, e2, ev⟩ := bindE ev
  obtain ⟨xs, e3, ev⟩ := bindE ev
  cases ev
  rcases seqOf_cases e3 with rfl | rfl
  · refine ⟨_, pi_list pe_we, ha F H σ ρ ad _ _ _ s e1 fun v1 H1 F1 s1 x1 w1 => ?_⟩
    obtain ⟨F2, s2, x2, o2⟩ := s1.val w1 e2
    cases o2 with
    | lst hq hr => exact ⟨_, rfl, ⟨_, by rw [hK]; exact ex_l s2.ex hq⟩, by rw [hK]; exact q _ _ F2 s2 (x1.trans x2) (feeds_list hq hr)⟩
  · refine ⟨_, pi_tup pe_we, ha F H σ ρ ad _ _ _ s e1 fun v1 H1 F1 s1 x1 w1 => ?_⟩
    obtain ⟨F2, s2, x2, o2⟩ := s1.val w1 e2
    cases o2 with
    | tup hq hr => exact ⟨_, rfl, ⟨_, fz_t hq s2.ex⟩, by rw [hK]; exact q _ _ F2 s2 (x1.trans x2) (feeds_tup hq hr)⟩
theorem small62_ok {i : Int} (h : small62 i = true) : -(2 ^ 62) ≤ i ∧ i < 2 ^ 62 := by
  simpa [small62] using h
theorem si_range1 {tg : Expr} {t : As} {p : Pos} (k : Cok g lv N sc dl X) (hg : glB sc "range" = true) (hm : X.mg "range" = none) (hs : noStar a = true) (ha : SA c Φ X [a] t) (hn0 : asLen t = 1) : SI c Φ X tg (.Call (.Name "range" p) [a] [] pos) (.range t) := by
  intro F H σ ρ ad items ρ' R s ev q
  simp only [evalI] at ev
  obtain ⟨⟨ra, ρ1⟩, e1, ev⟩ := bindE ev
  obtain ⟨ds, e2, ev⟩ := bindE ev
  refine ⟨_, pi_range1 (gl_ok k hg) hm pa_wa (by rw [star_ok hs]; rfl), ha F H σ ρ ad _ _ _ s e1 fun vs H1 F1 s1 x1 w1 => ?_⟩
  have dv := w1.vals e2
  have hl : vs.length = 1 := by rw [w1.len, evalAs_len t e1, hn0]
  split at ev
  · rename_i n
    cases dv with
    | cons h1 h2 =>
      cases h2
      cases dp_int h1
      split at ev
      · rename_i hn
        cases ev
        obtain ⟨n1, n2⟩ := small62_ok hn
        exact ⟨n, rfl, n1, n2, q _ _ F1 s1 x1 feeds_range⟩
      · cases ev
  · rename_i i j
    cases dv with
    | cons h1 h2 =>
      cases h2 with
      | cons h2 h3 => cases h3; simp at hl
  · cases ev
theorem si_range2 {tg : Expr} {t : As} {p : Pos} (k : Cok g lv N sc dl X) (hg : glB sc "range" = true) (hm : X.mg "range" = none) (hs : noStar a = true) (hs2 : noStar b = true) (ha : SA c Φ X [a, b] t) (hn0 : asLen t = 2) : SI c Φ X tg (.Call (.Name "range" p) [a, b] [] pos) (.range t) := by
  intro F H σ ρ ad items ρ' R s ev q
  simp only [evalI] at ev
  obtain ⟨⟨ra, ρ1⟩, e1, ev⟩ := bindE ev
  obtain ⟨ds, e2, ev⟩ := bindE ev
  refine ⟨_, pi_range2 (gl_ok k hg) hm pa_wa (by rw [star_ok hs, star_ok hs2]; rfl) (by rw [star_ok hs2]; rfl), ha F H σ ρ ad _ _ _ s e1 fun vs H1 F1 s1 x1 w1 => ?_⟩
  have dv := w1.vals e2
  have hl : vs.length = 2 := by rw [w1.len, evalAs_len t e1, hn0]
  split at ev
  · rename_i n
    cases dv with
    | cons h1 h2 => cases h2; simp at hl
  · rename_i i j
    cases dv with
    | cons h1 h2 =>
      cases h2 with
      | cons h2 h3 =>
        cases h3
        cases dp_int h1
        cases dp_int h2
        split at ev
        · rename_i hn
          cases ev
          rw [Bool.and_eq_true] at hn
          obtain ⟨n1, n2⟩ := small62_ok hn.1
          obtain ⟨n3, n4⟩ := small62_ok hn.2
          exact ⟨i, j, rfl, ⟨n1, n2, n3, n4⟩, q _ _ F1 s1 x1 feeds_range⟩
        · cases ev
  · cases ev
theorem si_enum {tg : Expr} {p : Pos} (k : Cok g lv N sc dl X) (hK : X.K = c.K) (ht : isTup tg = true) (hg : glB sc "enumerate" = true) (hm : X.mg "enumerate" = none) (hs : noStar a = true) (ha : SE c Φ X a ta) : SI c Φ X tg (.Call (.Name "enumerate" p) [a] [] pos) (.enum ta) := by
  intro F H σ ρ ad items ρ' R s ev q
  simp only [evalI] at ev
  obtain ⟨⟨ra, ρ1⟩, e1, ev⟩ := bindE ev
  obtain ⟨d, e2, ev⟩ := bindE ev
  obtain ⟨xs, e3, ev⟩ := bindE ev
  cases ev
  cases tg with
  | Tuple es kk tp =>
    rcases seqOf_cases e3 with rfl | rfl
    · refine ⟨_, pi_enum (gl_ok k hg) hm (pa_cons pe_we pa_nil (star_ok hs)) (by rw [star_ok hs]; rfl), ha F H σ ρ ad _ _ _ s e1 fun v1 H1 F1 s1 x1 w1 => ?_⟩
      obtain ⟨F2, s2, x2, o2⟩ := s1.val w1 e2
      cases o2 with
      | lst hq hr => exact ⟨_, _, rfl, by rw [hK]; exact ex_l s2.ex hq, by rw [hK]; exact q _ _ F2 s2 (x1.trans x2) (feeds_enumL rfl hq hr)⟩
    · refine ⟨_, pi_enT (gl_ok k hg) hm (pa_cons pe_we pa_nil (star_ok hs)) (by rw [star_ok hs]; rfl), ha F H σ ρ ad _ _ _ s e1 fun v1 H1 F1 s1 x1 w1 => ?_⟩
      obtain ⟨F2, s2, x2, o2⟩ := s1.val w1 e2
      cases o2 with
      | tup hq hr => exact ⟨_, _, rfl, fz_t hq s2.ex, by rw [hK]; exact q _ _ F2 s2 (x1.trans x2) (feeds_enumT rfl hq hr)⟩
  | _ => cases ht
theorem si_rev {tg : Expr} {p : Pos} (k : Cok g lv N sc dl X) (hK : X.K = c.K) (hg : glB sc "reversed" = true) (hm : X.mg "reversed" = none) (hs : noStar a = true) (ha : SE c Φ X a ta) : SI c Φ X tg (.Call (.Name "reversed" p) [a] [] pos) (.rev ta) := by
  intro F H σ ρ ad items ρ' R s ev q
  simp only [evalI] at ev
  obtain ⟨⟨ra, ρ1⟩, e1, ev⟩ := bindE ev
  obtain ⟨d, e2, ev⟩ := bindE ev
  obtain ⟨xs, e3, ev⟩ := bindE ev
  cases ev
  refine ⟨_, RT.pi_revA (gl_ok k hg) hm pe_we (star_ok hs), ha F H σ ρ ad _ _ _ s e1 fun v1 H1 F1 s1 x1 w1 => ?_⟩
  obtain ⟨F2, s2, x2, o2⟩ := s1.val w1 e2
  rcases seqOf_cases e3 with rfl | rfl
  · cases o2 with
    | lst hq hr => exact ⟨_, _, rfl, .inl ⟨by rw [hK]; exact ex_l s2.ex hq, by rw [hK]; exact q _ _ F2 s2 (x1.trans x2) (feeds_revL hq hr)⟩⟩
  · cases o2 with
    | tup hq hr => exact ⟨_, _, rfl, .inr ⟨fz_t hq s2.ex, by rw [hK]; exact q _ _ F2 s2 (x1.trans x2) (feeds_revT hq hr)⟩⟩
theorem si_zip2 {tg : Expr} {t : As} {p : Pos} (k : Cok g lv N sc dl X) (hK : X.K = c.K) (ht : isTup tg = true) (hg : glB sc "zip" = true) (hm : X.mg "zip" = none) (hs : noStar a = true) (hs2 : noStar b = true) (ha : SA c Φ X [a, b] t) (hn0 : asLen t = 2) : SI c Φ X tg (.Call (.Name "zip" p) [a, b] [] pos) (.zip t) := by
  intro F H σ ρ ad items ρ' R s ev q
  simp only [evalI] at ev
  obtain ⟨⟨ra, ρ1⟩, e1, ev⟩ := bindE ev
  obtain ⟨ds, e2, ev⟩ := bindE ev
  cases tg with
  | Tuple es kk tp =>
    refine ⟨_, RZ.pi_zipA (gl_ok k hg) hm pa_wa (star_ok hs) (by rw [star_ok hs2]; rfl), ha F H σ ρ ad _ _ _ s e1 fun vs H1 F1 s1 x1 w1 => ?_⟩
    have dv := w1.vals e2
    have hl : vs.length = 2 := by rw [w1.len, evalAs_len t e1, hn0]
    split at ev
    · cases ev
      cases dv with
      | cons h1 h2 =>
        cases h2 with
        | cons h2 h3 =>
          cases h3
          cases h1 with
          | tup hq hr =>
            cases h2 with
            | tup hq2 hr2 => exact ⟨_, _, _, _, rfl, .inr ⟨fz_t hq s1.ex, fz_t hq2 s1.ex, by rw [hK]; exact q _ _ F1 s1 x1 (feeds_zipT rfl hq hq2 hr hr2)⟩⟩
    · cases ev
      cases dv with
      | cons h1 h2 =>
        cases h2 with
        | cons h2 h3 =>
          cases h3
          cases h1 with
          | lst hq hr =>
            cases h2 with
            | lst hq2 hr2 => exact ⟨_, _, _, _, rfl, .inl ⟨by rw [hK]; exact ex_l s1.ex hq, by rw [hK]; exact ex_l s1.ex hq2, by rw [hK]; exact q _ _ F1 s1 x1 (feeds_zipL rfl hq hq2 hr hr2)⟩⟩
    · cases dv with
      | cons h1 h2 =>
        cases h2 with
        | cons h2 h3 =>
          cases h3 with
          | cons h3 h4 => cases h4; simp at hl
    · cases ev
  | _ => cases ht
theorem si_zip3 {tg d : Expr} {t : As} {p : Pos} (k : Cok g lv N sc dl X) (hK : X.K = c.K) (ht : isTup tg = true) (hg : glB sc "zip" = true) (hm : X.mg "zip" = none) (hs : noStar a = true) (hs2 : noStar b = true) (hs3 : noStar d = true) (ha : SA c Φ X [a, b, d] t) (hn0 : asLen t = 3) : SI c Φ X tg (.Call (.Name "zip" p) [a, b, d] [] pos) (.zip t) := by
  intro F H σ ρ ad items ρ' R s ev q
  simp only [evalI] at ev
  obtain ⟨⟨ra, ρ1⟩, e1, ev⟩ := bindE ev
  obtain ⟨ds, e2, ev⟩ := bindE ev
  cases tg with
  | Tuple es kk tp =>
    refine ⟨_, pi_z3 (gl_ok k hg) hm pa_wa (star_ok hs) (by rw [star_ok hs2, star_ok hs3]; rfl), ha F H σ ρ ad _ _ _ s e1 fun vs H1 F1 s1 x1 w1 => ?_⟩
    have dv := w1.vals e2
    have hl : vs.length = 3 := by rw [w1.len, evalAs_len t e1, hn0]
    split at ev
    · cases dv with
      | cons h1 h2 =>
        cases h2 with
        | cons h2 h3 => cases h3; simp at hl
    · cases dv with
      | cons h1 h2 =>
        cases h2 with
        | cons h2 h3 => cases h3; simp at hl
    · cases ev
      cases dv with
      | cons h1 h2 =>
        cases h2 with
        | cons h2 h3 =>
          cases h3 with
          | cons h3 h4 =>
            cases h4
            cases h1 with
            | tup hq hr =>
              cases h2 with
              | tup hq2 hr2 =>
                cases h3 with
                | tup hq3 hr3 => exact ⟨_, _, _, _, _, _, rfl, fz_t hq s1.ex, fz_t hq2 s1.ex, fz_t hq3 s1.ex, by rw [hK]; exact q _ _ F1 s1 x1 (feeds_zip3 rfl hq hq2 hq3 hr hr2 hr3)⟩
    · cases ev
  | _ => cases ht
end
end Vm
set_option Elab.async false
set_option linter.all false
set_option maxRecDepth 100000
set_option maxHeartbeats 4000000
/-! VmS8: list comprehensions. -/
namespace Vm
open PySem L2 Evl
section
variable {c : Fx} {Φ : Fs} {X : Cx} {g : Gl0} {lv : Nat} {N : List Str} {sc : Scope} {dl : Bool} {a b d : Expr} {ta tb td : E} {pos : Pos}
theorem Cok.blk (k : Cok g lv N sc dl X) {scope : Scope} (s : Shared) (H : Hp) (C : Addr) (cl : List (Str × Addr)) (fp : List Addr) : Cok g lv N (L2.relS scope sc) false (X.blk s H scope (compEnvC scope cl C X.env) fp) where
  calm := k.calm
  nn := k.nn
  nd := k.nd
  sc := by rw [← k.sc]; rfl
  room := k.room
  hP := k.hP
  hw := k.hw
  hK := k.hK
  hm := k.hm
  hb := k.hb
  xe := rfl
  fn := fun h => nomatch h
def gB (X : Cx) (scope : Scope) (tg : Expr) : TG := fun v σ H Q => ∀ (s : Shared) (H0 : Hp) (C : Addr) (cl : List (Str × Addr)) (fp : List Addr), wG (X.blk s H0 scope (compEnvC scope cl C X.env) fp) tg v σ H Q
def tB (X : Cx) (scope : Scope) (e : Expr) : TT := fun σ H Q => ∀ (s : Shared) (H0 : Hp) (C : Addr) (cl : List (Str × Addr)) (fp : List Addr), wt (X.blk s H0 scope (compEnvC scope cl C X.env) fp) e σ H Q
def eB (X : Cx) (scope : Scope) (e : Expr) : TE := fun σ H Q => ∀ (s : Shared) (H0 : Hp) (C : Addr) (cl : List (Str × Addr)) (fp : List Addr), we (X.blk s H0 scope (compEnvC scope cl C X.env) fp) e σ H Q
theorem pg_gB {scope : Scope} {tg : Expr} (s : Shared) (H0 : Hp) (C : Addr) (cl : List (Str × Addr)) (fp : List Addr) : PG (X.blk s H0 scope (compEnvC scope cl C X.env) fp) tg (gB X scope tg) :=
  ⟨fun pins s' σ H v u Q I r h => pg_wG.run pins s' σ H v u Q I r (h s H0 C cl fp)⟩
theorem pt_tB {scope : Scope} {e : Expr} (s : Shared) (H0 : Hp) (C : Addr) (cl : List (Str × Addr)) (fp : List Addr) : PT (X.blk s H0 scope (compEnvC scope cl C X.env) fp) e (tB X scope e) :=
  ⟨fun pins s' σ H Q I h => pt_wt.run pins s' σ H Q I (h s H0 C cl fp)⟩
theorem pe_eB {scope : Scope} {e : Expr} (s : Shared) (H0 : Hp) (C : Addr) (cl : List (Str × Addr)) (fp : List Addr) : PE (X.blk s H0 scope (compEnvC scope cl C X.env) fp) e (eB X scope e) :=
  ⟨fun pins s' σ H Q I h => pe_we.run pins s' σ H Q I (h s H0 C cl fp)⟩
/-! ### the frame within a block -/
def Fx.at_ (c : Fx) (F H : Hp) (ρ : Rho) (ad : Nat → Addr) : Fx := { c with F0 := F, H0 := H, P := fun x => ∃ j d, j ∈ c.M ∧ ρ[j]? = some (some d) ∧ ad j = x }
theorem Sr.here {F H : Hp} {σ : L2.St} {ρ : Rho} {ad : Nat → Addr} (s : Sr c F H σ ρ ad) : Sr (c.at_ F H ρ ad) F H σ ρ ad where
  gr := Grow.refl s.ex
  len := s.len
  fro := s.fro
  own := fun i d h m => ⟨(s.own i d h m).1, (s.own i d h m).2.1, .inl ⟨i, d, m, h, rfl⟩⟩
  sep := s.sep
  par := s.par
theorem Sr.pOk {F H : Hp} {σ : L2.St} {ρ : Rho} {ad : Nat → Addr} (s : Sr c F H σ ρ ad) {x : Addr} (h : (c.at_ F H ρ ad).P x) : c.P x ∨ c.H0 x = none := by
  obtain ⟨j, d, m, e, rfl⟩ := h
  exact (s.own j d e m).2.2
theorem Sr.lift {F H F' H' : Hp} {σ σ' : L2.St} {ρ ρ' : Rho} {ad : Nat → Addr} (s : Sr c F H σ ρ ad) (s' : Sr (c.at_ F H ρ ad) F' H' σ' ρ' ad) : Sr c F' H' σ' ρ' ad where
  gr := s.gr.trans s'.gr fun _ h => s.pOk h
  len := s'.len
  fro := s'.fro
  own := fun i d h m => by
    obtain ⟨e1, e2, e3⟩ := s'.own i d h m
    refine ⟨e1, e2, ?_⟩
    rcases e3 with z | z
    · exact s.pOk z
    · exact .inr (H0_none s z)
  sep := s'.sep
  par := s'.par
/-- an address that is not the frame's, through a block -/
theorem Sr.away {F H F' H' : Hp} {σ' : L2.St} {ρ ρ' : Rho} {ad : Nat → Addr} {D : Addr} {o : HO} (s' : Sr (c.at_ F H ρ ad) F' H' σ' ρ' ad) (hF : F D = none) (hH : H D = some o) (ap : ∀ j dj, j ∈ c.M → ρ[j]? = some (some dj) → ad j ≠ D) :
    F' D = none ∧ H' D = some o ∧ ∀ j dj, j ∈ c.M → ρ'[j]? = some (some dj) → ad j ≠ D := by
  have np : ¬ (c.at_ F H ρ ad).P D := fun ⟨j, d, m, e, z⟩ => ap j d m e z
  refine ⟨?_, s'.gr.fr D o hH np, fun j dj m e z => ?_⟩
  · by_cases y : F' D = none
    · exact y
    · rcases s'.gr.nw D y with w | w | w
      · exact absurd hF w
      · rw [show (c.at_ F H ρ ad).H0 = H from rfl, hH] at w; cases w
      · exact absurd w np
  · rcases (s'.own j dj e m).2.2 with w | w
    · rw [z] at w; exact np w
    · rw [z, show (c.at_ F H ρ ad).H0 = H from rfl, hH] at w; cases w
/-- a change at such an address -/
theorem Sr.updD {F H : Hp} {σ : L2.St} {ρ : Rho} {ad : Nat → Addr} (s : Sr c F H σ ρ ad) {D : Addr} {o : HO} (hF : F D = none) (h0 : c.H0 D = none) (ap : ∀ j dj, j ∈ c.M → ρ[j]? = some (some dj) → ad j ≠ D) : Sr c F (upd H D o) σ ρ ad where
  gr := ⟨s.gr.ff, fun x u h => by rw [upd_ne (fun z => by rw [z, hF] at h; cases h)]; exact s.ex x u h, fun x u h np => by
    rw [upd_ne (fun z => by rw [z, h0] at h; cases h)]; exact s.gr.fr x u h np, s.gr.nw, fun x h => by
      by_cases z : x = D
      · subst z; exact absurd h0 h
      · rw [upd_ne z]; exact s.gr.dm x h⟩
  len := s.len
  fro := s.fro
  own := fun i d h m => by
    obtain ⟨e1, e2, e3⟩ := s.own i d h m
    refine ⟨e1, ⟨e2.nf, ?_⟩, e3⟩
    obtain ⟨u, eu, ru⟩ := e2.hd
    exact ⟨u, by rw [upd_ne (ap i d m h)]; exact eu, ru⟩
  sep := s.sep
  par := s.par
/-! ### the block's own names -/
theorem wipe_in {σ : L2.St} {j : Nat} : ∀ {vs : List Nat}, j ∈ vs → ∀ x, (wipe σ vs)[j]? ≠ some (some x)
  | v :: vs, h, x, e => by
    obtain ⟨_, n⟩ := wipe_some e
    exact n h
theorem wipe_out {σ : L2.St} {j : Nat} : ∀ {vs : List Nat}, j ∉ vs → (wipe σ vs)[j]? = σ[j]?
  | [], _ => rfl
  | v :: vs, h => by
    rw [List.mem_cons, not_or] at h
    unfold wipe
    rw [List.getElem?_set_ne (fun z => h.1 z.symm)]
    exact wipe_out h.2
theorem wipe_eq {σ σ2 : L2.St} {vs : List Nat} (hl : σ2.length = σ.length) (h : ∀ j, j ∉ vs → σ2[j]? = (wipe σ vs)[j]?) : wipe σ2 vs = wipe σ vs := by
  apply List.ext_getElem?
  intro j
  by_cases z : j ∈ vs
  · cases e1 : (wipe σ2 vs)[j]? with
    | none =>
      have : (wipe σ vs).length ≤ j := by
        rw [List.getElem?_eq_none_iff, wipe_length, hl] at e1
        rw [wipe_length]; exact e1
      rw [List.getElem?_eq_none this]
    | some o =>
      cases o with
      | some x => exact absurd e1 (wipe_in z x)
      | none =>
        have hj : j < (wipe σ vs).length := by
          have := (List.getElem?_eq_some_iff.mp e1).1
          rw [wipe_length] at this ⊢
          omega
        cases e2 : (wipe σ vs)[j]? with
        | none => rw [List.getElem?_eq_none_iff] at e2; omega
        | some o => cases o with
          | none => rfl
          | some x => exact absurd e2 (wipe_in z x)
  · rw [wipe_out z, h j z]
theorem clear_len {ρ : Rho} : ∀ (vs : List Nat), (clear vs ρ).length = ρ.length
  | [] => rfl
  | v :: vs => by unfold clear; rw [List.length_set]; exact clear_len vs
theorem clear_some {ρ : Rho} {j : Nat} {d : D} : ∀ {vs : List Nat}, (clear vs ρ)[j]? = some (some d) → ρ[j]? = some (some d) ∧ j ∉ vs
  | [], h => ⟨h, by simp⟩
  | v :: vs, h => by
    unfold clear at h
    obtain ⟨h1, h2⟩ := set_none h
    obtain ⟨h3, h4⟩ := clear_some h1
    exact ⟨h3, by simp only [List.mem_cons, not_or]; exact ⟨h2, h4⟩⟩
theorem clear_out {ρ : Rho} {j : Nat} : ∀ {vs : List Nat}, j ∉ vs → (clear vs ρ)[j]? = ρ[j]?
  | [], _ => rfl
  | v :: vs, h => by
    rw [List.mem_cons, not_or] at h
    unfold clear
    rw [List.getElem?_set_ne (fun z => h.1 z.symm)]
    exact clear_out h.2
theorem restore_len {ρ0 ρ : Rho} : ∀ (vs : List Nat), (restore ρ0 vs ρ).length = ρ.length
  | [] => rfl
  | v :: vs => by
    unfold restore
    split
    · rw [List.length_set]; exact restore_len vs
    · exact restore_len vs
theorem restore_some {ρ0 ρ : Rho} {j : Nat} {d : D} : ∀ {vs : List Nat}, (restore ρ0 vs ρ)[j]? = some (some d) → (j ∈ vs ∧ ρ0[j]? = some (some d)) ∨ ρ[j]? = some (some d) ∧ (j ∉ vs ∨ ρ0[j]? = none)
  | [], h => .inr ⟨h, .inl (by simp)⟩
  | v :: vs, h => by
    unfold restore at h
    split at h
    · rename_i o e0
      by_cases z : v = j
      · subst z
        by_cases y : v < (restore ρ0 vs ρ).length
        · rw [List.getElem?_set_self y] at h
          cases h
          exact .inl ⟨List.mem_cons_self, e0⟩
        · rw [List.getElem?_eq_none (by simpa using y)] at h; cases h
      · rw [List.getElem?_set_ne z] at h
        rcases restore_some h with ⟨m, e⟩ | ⟨e, m⟩
        · exact .inl ⟨List.mem_cons_of_mem _ m, e⟩
        · refine .inr ⟨e, ?_⟩
          rcases m with m | m
          · exact .inl (by simp only [List.mem_cons, not_or]; exact ⟨fun y => z y.symm, m⟩)
          · exact .inr m
    · rename_i e0
      rcases restore_some h with ⟨m, e⟩ | ⟨e, m⟩
      · exact .inl ⟨List.mem_cons_of_mem _ m, e⟩
      · refine .inr ⟨e, ?_⟩
        by_cases z : j = v
        · subst z; exact .inr e0
        · rcases m with m | m
          · exact .inl (by simp only [List.mem_cons, not_or]; exact ⟨z, m⟩)
          · exact .inr m
theorem restore_out {ρ0 ρ : Rho} {j : Nat} : ∀ {vs : List Nat}, j ∉ vs → (restore ρ0 vs ρ)[j]? = ρ[j]?
  | [], _ => rfl
  | v :: vs, h => by
    rw [List.mem_cons, not_or] at h
    unfold restore
    split
    · rw [List.getElem?_set_ne (fun z => h.1 z.symm)]; exact restore_out h.2
    · exact restore_out h.2
theorem Sr.wiped {F H : Hp} {σ σ2 : L2.St} {ρ : Rho} {ad : Nat → Addr} {vs : List Nat} (s : Sr c F H σ2 ρ ad) (hv : ∀ i ∈ vs, i ∉ c.M) (hl : σ2.length = σ.length) (h : ∀ j, j ∉ vs → σ2[j]? = (wipe σ vs)[j]?) : Sr c F H (wipe σ vs) (clear vs ρ) ad where
  gr := s.gr
  len := by rw [wipe_length, clear_len, ← s.len, hl]
  fro := fun i d e m => by
    obtain ⟨e1, n⟩ := clear_some e
    rw [← h i n]
    exact s.fro i d e1 m
  own := fun i d e m => by
    obtain ⟨e1, n⟩ := clear_some e
    rw [← h i n]
    exact s.own i d e1 m
  sep := fun i j di dj h1 h2 => s.sep i j di dj (clear_some h1).1 (clear_some h2).1
  par := fun i hi => by
    obtain ⟨⟨d, e⟩, m, z⟩ := s.par i hi
    exact ⟨⟨d, by rw [clear_out (fun y => hv i y m)]; exact e⟩, m, z⟩
theorem Sr.back {F H F1 H1 : Hp} {σ : L2.St} {ρ ρ1 : Rho} {ad : Nat → Addr} {vs : List Nat} (s1 : Sr c F1 H1 σ ρ1 ad) (s : Sr c F H (wipe σ vs) ρ ad) (x : Ex F1 F) (hv : ∀ i ∈ vs, i ∉ c.M) : Sr c F H σ (restore ρ1 vs ρ) ad := by
  have hll : ρ1.length = ρ.length := by rw [← s1.len, ← s.len, wipe_length]
  have key : ∀ {i : Nat} {d : D}, i ∈ c.M → (restore ρ1 vs ρ)[i]? = some (some d) → ρ[i]? = some (some d) ∧ (wipe σ vs)[i]? = σ[i]? := fun {i d} m e => by
    have n : i ∉ vs := fun y => hv i y m
    rw [restore_out n] at e
    exact ⟨e, wipe_out n⟩
  refine ⟨s.gr, by rw [restore_len, ← s.len, wipe_length], fun i d e m => ?_, fun i d e m => ?_, fun i j di dj h1 h2 m1 m2 => s.sep i j di dj (key m1 h1).1 (key m2 h2).1 m1 m2, fun i hi => ?_⟩
  · rcases restore_some e with ⟨_, e1⟩ | ⟨e1, n⟩
    · obtain ⟨v, a1, a2⟩ := s1.fro i d e1 m
      exact ⟨v, a1, dp_mono x a2⟩
    · obtain ⟨v, a1, a2⟩ := s.fro i d e1 m
      rcases n with n | n
      · rw [wipe_out n] at a1
        exact ⟨v, a1, a2⟩
      · have := (List.getElem?_eq_some_iff.mp e1).1
        rw [List.getElem?_eq_none_iff] at n
        omega
  · obtain ⟨e1, e2⟩ := key m e
    rw [← e2]
    exact s.own i d e1 m
  · obtain ⟨⟨d, e⟩, m, z⟩ := s.par i hi
    exact ⟨⟨d, by rw [restore_out (fun y => hv i y m)]; exact e⟩, m, z⟩
theorem assignAll_len : ∀ {is : List Nat} {ds : List D} {ρ ρ' : Rho}, assignAll is ds ρ = some ρ' → ρ'.length = ρ.length
  | [], [], ρ, ρ', h => by simp only [assignAll] at h; cases h; rfl
  | i :: is, d :: ds, ρ, ρ', h => by
    simp only [assignAll] at h
    split at h
    · rw [assignAll_len h, List.length_set]
    · cases h
  | [], _ :: _, _, _, h => by simp [assignAll] at h
  | _ :: _, [], _, _, h => by simp [assignAll] at h
theorem assignG_len {gg : G} {d : D} {ρ ρ' : Rho} (h : assignG gg d ρ = some ρ') : ρ'.length = ρ.length := by
  unfold assignG at h
  split at h
  · split at h
    · cases h; rw [List.length_set]
    · cases h
  · split at h
    · exact assignAll_len h
    · cases h
  · cases h
/-! ### the comprehension -/
/-- what t gives, told of a reading -/
def Ev (c : Fx) (Φ : Fs) (te : TE) (t : E) : Prop := ∀ F H σ ρ ad r ρ' Q, Sr c F H σ ρ ad → evalE Φ t ρ = some (r, ρ') →
  (∀ v H' F', Sr c F' H' σ ρ' ad → Ex F F' → RR c F' H' ρ' ad v r → Q v H') → te σ H Q
/-- an expression, and what stores it under a name -/
structure SEx (c : Fx) (Φ : Fs) (X : Cx) (N : List Str) (sc : Scope) (dl : Bool) (e : Expr) (t : E) : Prop where
  se : SE c Φ X e t
  asg : ∀ (i : Nat) (y : Str) (py spos : Pos), N[i]? = some y → locL sc dl y = true → ∃ te, Ev c Φ te t ∧ PS X (.Assign [.Name y py] e spos) (tAsg te (gName i))
theorem sw_false {e : Expr} (h : noComp e = true) (o : Option Expr) (l : Nat) (env : Env) : swapsWith e o l env = pure false := by
  cases e <;> first | rfl | (simp [noComp] at h)
theorem SEx.of (k : Cok g lv N sc dl X) {e : Expr} {t : E} (hn : noComp e = true) (h : SE c Φ X e t) : SEx c Φ X N sc dl e t where
  se := h
  asg := fun i y py spos hi hl => by
    obtain ⟨a1, a2⟩ := loc_ok k hl
    exact ⟨we X e, h, ps_set (by rw [k.nn]; exact k.nd) (by rw [k.nn]; exact hi) a1 pe_we (sw_false hn _ _ _) a2⟩
/-- what stands ahead of turn i -/
def LcIv (c : Fx) (Φ : Fs) (gg : G) (tt : T) (te : E) (vs : List Nat) (σ : L2.St) (ad : Nat → Addr) (F1 : Hp) (D : Addr) (items accF : List Vm.D) (ρ2 : Rho) (i : Nat) (H : Hp) : Prop :=
  ∃ F ρ ws acc, Sr c F H (wipe σ vs) ρ ad ∧ Ex F1 F ∧ F D = none ∧ H D = some (.lst ws) ∧ RpAll c.K F ws acc ∧ (∀ j dj, j ∈ c.M → ρ[j]? = some (some dj) → ad j ≠ D) ∧
    lcLoop (fun r => evalT Φ tt r) (fun r => evalE Φ te r) gg vs (items.drop i) ρ acc = some (accF, ρ2)
theorem lc_tree (k : Cok g lv N sc dl X) {elt tg iter : Expr} {ifs : List Expr} {scope : Scope} {own : List (Str × Nat)} {gg : G} {ti : Vm.It} {tt : T} {te : E} {tr : TT} {vs : List Nat} (hvs : own.map (·.2) = vs)
    (hb : L2.blkC N sc scope own = true) (hM : ∀ p ∈ own, p.2 ∉ c.M) (hgs : ∀ j ∈ tgts gg, j ∈ vs) (hs : noSet iter = true) (hi : SI c Φ X tg iter ti)
    (hg : ∀ X' c', Cok g lv N (L2.relS scope sc) false X' → X'.K = X.K → c'.K = c.K → c'.M = c.M → c'.mps = c.mps → SG c' X' tg gg)
    (hpt : ∀ (s : Shared) (H : Hp) (C : Addr) (cl : List (Str × Addr)) (fp : List Addr), PTs (X.blk s H scope (compEnvC scope cl C X.env) fp) ifs tr)
    (ht : ∀ c', c'.K = c.K → c'.M = c.M → c'.mps = c.mps → ∀ F H σ ρ ad b ρ' (Q : Bool → Hp → Prop), Sr c' F H σ ρ ad → evalT Φ tt ρ = some (b, ρ') → (∀ H' F', Sr c' F' H' σ ρ' ad → Ex F F' → Q b H') → tr σ H Q)
    (he : ∀ X' c', Cok g lv N (L2.relS scope sc) false X' → X'.K = X.K → c'.K = c.K → c'.M = c.M → c'.mps = c.mps → SE c' Φ X' elt te) :
    Ev c Φ (tLc (wI X tg iter) (gB X scope tg) tr (eB X scope elt) vs) (.lc vs gg ti tt te) := by
  intro F H σ ρ ad r ρ' Q s ev q
  simp only [evalE] at ev
  obtain ⟨⟨items, ρ1⟩, e1, ev⟩ := bindE ev
  obtain ⟨⟨accF, ρ2⟩, e2, ev⟩ := bindE ev
  cases ev
  have hv : ∀ i ∈ vs, i ∉ c.M := fun i hi => by
    rw [← hvs] at hi
    obtain ⟨p, hp, rfl⟩ := List.mem_map.mp hi
    exact hM p hp
  refine hi F H σ ρ ad items ρ1 _ s e1 fun J H1 F1 s1 x1 fd => ?_
  intro D hD
  have hF1 : F1 D = none := fresh_back s1.ex hD
  have hc0 : c.H0 D = none := H0_none s1 hD
  have ap1 : ∀ j dj, j ∈ c.M → ρ1[j]? = some (some dj) → ad j ≠ D := fun j dj m e z => by
    obtain ⟨_, w, _⟩ := s1.own j dj e m
    exact w.some (by rw [z]; exact hD)
  refine ⟨fun i m H => m = items.length - i ∧ i ≤ items.length ∧ LcIv c Φ gg tt te vs σ ad F1 D items accF ρ2 i H, ⟨items.length, by simp, Nat.zero_le _, ?_⟩, ?_⟩
  · refine ⟨F1, clear vs ρ1, [], [], ?_, Ex.refl _, hF1, upd_same, .nil, fun j dj m e => ap1 j dj m (clear_some e).1, e2⟩
    refine Sr.updD ?_ hF1 hc0 fun j dj m e => ap1 j dj m (clear_some e).1
    exact s1.wiped hv rfl fun j n => (wipe_out n).symm
  · rintro i m H2 ⟨rfl, hle, F2, ρ3, ws, acc, s2, x2, hF2, hH2, hws, ap2, hlp⟩
    by_cases hlt : i < items.length
    · refine .inr ?_
      obtain ⟨go, yl⟩ := (fd i H2 (fun b u h => s2.ex b u (x2 b u h))).1 items[i] (List.getElem?_eq_getElem hlt)
      rw [List.drop_eq_getElem_cons hlt] at hlp
      simp only [lcLoop] at hlp
      obtain ⟨ρ4, e4, hlp⟩ := bindE hlp
      obtain ⟨⟨bb, ρ5⟩, e5, hlp⟩ := bindE hlp
      dsimp only at hlp
      clear ev
      refine ⟨go, LcIv c Φ gg tt te vs σ ad F1 D items accF ρ2 (i + 1), fun H' h' => ⟨items.length - (i + 1), by omega, rfl, hlt, h'⟩, fun x H' y => ?_⟩
      -- the frame as it stands, and the thing that is handed out
      have st : Sr (c.at_ F2 H2 ρ3 ad) F2 H' (wipe σ vs) ρ3 ad ∧ (Rp c.K F2 x items[i] ∨ (isTup tg = true ∧ ∃ a vs es, x = .ref a ∧ SqT c.K H' a vs ∧ items[i] = .tuple es ∧ RpAll c.K F2 vs es)) := by
        rcases yl x H' y with ⟨rfl, rp⟩ | ⟨ht, Tt, zs, es, rfl, hT, rfl, e6, rp⟩
        · exact ⟨s2.here, .inl (dp_mono x2 rp)⟩
        · refine ⟨s2.here.new (New.own s2.ex hT), .inr ⟨ht, Tt, zs, es, rfl, ?_, e6, dps_mono x2 rp⟩⟩
          exact .inl (.inl upd_same)
      intro s0 H0 C cl fp
      refine hg _ (c.at_ F2 H2 ρ3 ad) (k.blk s0 H0 C cl fp) rfl rfl rfl rfl F2 H' _ ρ3 ad items[i] ρ4 x _ st.1 e4 st.2 fun σ4 s4 hσ => ?_
      have hl4 : σ4.length = σ.length := by
        rw [s4.len, assignG_len e4, ← s2.len, wipe_length]
      have hj4 : ∀ j, j ∉ vs → σ4[j]? = (wipe σ vs)[j]? := fun j n => hσ j fun y => n (hgs j y)
      refine ⟨wipe_eq hl4 hj4, ?_⟩
      refine ht (c.at_ F2 H2 ρ3 ad) rfl rfl rfl F2 H' σ4 ρ4 ad bb ρ5 _ s4 e5 fun H5 F5 s5 x5 => ?_
      cases bb with
      | false =>
        rw [if_neg Bool.false_ne_true] at hlp ⊢
        obtain ⟨w1, w2, w3⟩ := Sr.away s5 hF2 hH2 ap2
        exact ⟨F5, clear vs ρ5, ws, acc, Sr.wiped (σ2 := σ4) (s2.lift s5) hv hl4 hj4, x2.trans x5, w1, w2, dps_mono x5 hws, fun j dj m e => w3 j dj m (clear_some e).1, hlp⟩
      | true =>
        rw [if_pos rfl] at hlp ⊢
        obtain ⟨⟨rr, ρ6⟩, e6, hlp⟩ := bindE hlp
        obtain ⟨xd, e7, hlp⟩ := bindE hlp
        split at hlp
        · rename_i hsz
          intro s0 H0 C cl fp
          refine he _ (c.at_ F2 H2 ρ3 ad) (k.blk s0 H0 C cl fp) rfl rfl rfl rfl F5 H5 σ4 ρ5 ad rr ρ6 _ s5 e6 fun v6 H6 F6 s6 x6 w6 => ?_
          obtain ⟨F7, s7, x7, rp7⟩ := s6.val w6 e7
          obtain ⟨w1, w2, w3⟩ := s7.away hF2 hH2 ap2
          have hln := dps_len hws
          have hln2 : ws.length + 1 ≤ sizeLine := lim_line (by rw [hln]; exact hsz)
          refine Exists.intro ws ⟨w2, hln2, F7, clear vs ρ6, ws ++ [v6], acc ++ [xd], ?_, ((x2.trans x5).trans x6).trans x7, w1, upd_same, dps_append (dps_mono ((x5.trans x6).trans x7) hws) (.cons rp7 .nil), fun j dj m e => w3 j dj m (clear_some e).1, hlp⟩
          exact ((s2.lift s7).updD w1 hc0 w3).wiped hv hl4 hj4
        · cases hlp
    · have e : i = items.length := by omega
      subst e
      refine .inl ⟨(fd _ H2 (fun b u h => s2.ex b u (x2 b u h))).2 rfl, ?_⟩
      rw [List.drop_length] at hlp
      simp only [lcLoop] at hlp
      cases hlp
      exact q _ H2 F2 (s1.back s2 x2 hv) (x1.trans x2) ⟨D, rfl, ⟨hF2, _, hH2, .lst hws⟩, .inr hc0, fun j dj m e => by
        have n : j ∉ vs := fun y => hv j y m
        rw [restore_out n] at e
        exact ap2 j dj m e⟩
theorem se_lc (k : Cok g lv N sc dl X) {elt tg iter : Expr} {ifs : List Expr} {scope : Scope} {own : List (Str × Nat)} {gg : G} {ti : Vm.It} {tt : T} {te : E} {tr : TT} {vs : List Nat} (hvs : own.map (·.2) = vs)
    (hb : L2.blkC N sc scope own = true) (hM : ∀ p ∈ own, p.2 ∉ c.M) (hgs : ∀ j ∈ tgts gg, j ∈ vs) (hs : noSet iter = true) (hi : SI c Φ X tg iter ti)
    (hg : ∀ X' c', Cok g lv N (L2.relS scope sc) false X' → X'.K = X.K → c'.K = c.K → c'.M = c.M → c'.mps = c.mps → SG c' X' tg gg)
    (hpt : ∀ (s : Shared) (H : Hp) (C : Addr) (cl : List (Str × Addr)) (fp : List Addr), PTs (X.blk s H scope (compEnvC scope cl C X.env) fp) ifs tr)
    (ht : ∀ c', c'.K = c.K → c'.M = c.M → c'.mps = c.mps → ∀ F H σ ρ ad b ρ' (Q : Bool → Hp → Prop), Sr c' F H σ ρ ad → evalT Φ tt ρ = some (b, ρ') → (∀ H' F', Sr c' F' H' σ ρ' ad → Ex F F' → Q b H') → tr σ H Q)
    (he : ∀ X' c', Cok g lv N (L2.relS scope sc) false X' → X'.K = X.K → c'.K = c.K → c'.M = c.M → c'.mps = c.mps → SE c' Φ X' elt te) :
    SEx c Φ X N sc dl (.ListComp elt [⟨tg, iter, ifs, 0⟩] scope pos) (.lc vs gg ti tt te) := by
  obtain ⟨hv, hgs⟩ := And.intro hM hgs
  have hset : ∀ x, foldedSetIterable iter X.env x = pure x := by
    intro x
    cases iter <;> first | rfl | (simp [noSet] at hs)
  have tree := lc_tree k hvs hb hM hgs hs hi hg hpt ht he
  have hN : X.N.Nodup := by rw [k.nn]; exact k.nd
  have bo : BlkOk X.N X.env.scope scope own := blkOk_by (by rw [k.nn, k.sc]; exact hb)
  have pp := pe_lc (pos := pos) (elt := elt) k.calm hN pi_wI bo (g := gB X scope tg) (tt := tr) (te := eB X scope elt) (fun s H C cl fp => pg_gB s H C cl fp) hpt (fun s H C cl fp => pe_eB s H C cl fp) hset
  rw [hvs] at pp
  refine ⟨fun F H σ ρ ad r ρ' Q s ev q => we_of pp (tree F H σ ρ ad r ρ' Q s ev q), fun i y py spos hy hl => ?_⟩
  obtain ⟨a1, a2⟩ := loc_ok k hl
  have hy' : X.N[i]? = some y := by rw [k.nn]; exact hy
  refine ⟨_, tree, ?_⟩
  generalize hbb : (X.env.blockKind == .function && X.env.kindOf y == some .local && py.line == pos.line && !(scope.names.any fun (n, k) => n == y && (k == .local || k == .cell))) = bb
  have hsw : swapsWith (.ListComp elt [⟨tg, iter, ifs, 0⟩] scope pos) (some (.Name y py)) spos.line X.env = pure bb := by
    rw [← hbb]
    rfl
  cases bb with
  | true =>
    have hyl : X.env.scope.names.lookup y = some .local := by
      simp only [Bool.and_eq_true] at hbb
      have := hbb.1.1.2
      simpa [Env.kindOf] using this
    have p2 := ps_setLc (pos := pos) (spos := spos) (elt := elt) (py := py) k.calm hN hy' hyl hsw pi_wI bo (g := gB X scope tg) (tt := tr) (te := eB X scope elt) (fun s H C cl fp => pg_gB s H C cl fp) hpt (fun s H C cl fp => pe_eB s H C cl fp) hset
    rw [hvs] at p2
    exact p2
  | false => exact ps_set hN hy' a1 pp hsw a2
end
end Vm
set_option Elab.async false
set_option linter.all false
set_option maxRecDepth 100000
set_option maxHeartbeats 4000000
/-! VmS9: statements. -/
namespace Vm
open PySem L2 Evl
def ws (X : Cx) (st : Stmt) : TS := fun D σ H => ∃ t, PS X st t ∧ t D σ H
def wss (X : Cx) (st : List Stmt) : TS := fun D σ H => ∃ t, PSs X st t ∧ t D σ H
theorem ps_ws {X : Cx} {st : Stmt} : PS X st (ws X st) := ⟨fun pins s σ H D I ⟨_, p, h⟩ => p.run pins s σ H D I h⟩
theorem pss_wss {X : Cx} {st : List Stmt} : PSs X st (wss X st) := ⟨fun pins s σ H D I ⟨_, p, h⟩ => p.run pins s σ H D I h⟩
/-- the ends of a statement that ended so -/
def DE (c : Fx) (F : Hp) (ρ' : Rho) (D : Ends) : Fl → Prop
  | .nx => ∀ σ' H' F' ad', Sr c F' H' σ' ρ' ad' → Ex F F' → D.nx σ' H'
  | .br => ∀ σ' H' F' ad', Sr c F' H' σ' ρ' ad' → Ex F F' → D.bk σ' H'
  | .ct => ∀ σ' H' F' ad', Sr c F' H' σ' ρ' ad' → Ex F F' → D.ct σ' H'
  | .rt r => ∀ σ' v H' F' ad', Sr c F' H' σ' ρ' ad' → Ex F F' → RR c F' H' ρ' ad' v r → D.rt v H'
def SS (c : Fx) (Φ : Fs) (X : Cx) (st : Stmt) (t : S) : Prop := ∀ F H σ ρ ad fl ρ' D, Sr c F H σ ρ ad → exec Φ t ρ = some (fl, ρ') → DE c F ρ' D fl → ws X st D σ H
def SSs (c : Fx) (Φ : Fs) (X : Cx) (st : List Stmt) (t : Ss) : Prop := ∀ F H σ ρ ad fl ρ' D, Sr c F H σ ρ ad → execs Φ t ρ = some (fl, ρ') → DE c F ρ' D fl → wss X st D σ H
theorem DE.mono {c : Fx} {F F' : Hp} {ρ' : Rho} {D : Ends} {fl : Fl} (x : Ex F F') (h : DE c F ρ' D fl) : DE c F' ρ' D fl := by
  cases fl <;> first
    | exact fun σ' H' F'' ad' s y => h σ' H' F'' ad' s (x.trans y)
    | exact fun σ' v H' F'' ad' s y r => h σ' v H' F'' ad' s (x.trans y) r
section
variable {c : Fx} {Φ : Fs} {X : Cx} {g : Gl0} {lv : Nat} {N : List Str} {sc : Scope} {dl : Bool} {a b d : Expr} {ta tb td : E} {pos : Pos}
theorem ss_asgN (k : Cok g lv N sc true X) {i : Nat} {x : Str} {p : Pos} (hi : N[i]? = some x) (hl : locL sc true x = true) (hm : i ∉ c.M) (ha : SEx c Φ X N sc true a ta) : SS c Φ X (.Assign [.Name x p] a pos) (.asg (.name i) ta) := by
  intro F H σ ρ ad fl ρ' D s ev q
  simp only [exec] at ev
  obtain ⟨⟨ra, ρ1⟩, e1, ev⟩ := bindE ev
  obtain ⟨dd, e2, ev⟩ := bindE ev
  obtain ⟨ρ2, e3, ev⟩ := bindE ev
  cases ev
  obtain ⟨te, he, hp⟩ := ha.asg i x p pos hi hl
  refine ⟨_, hp, he F H σ ρ ad _ _ _ s e1 fun v H1 F1 s1 x1 w1 => ?_⟩
  obtain ⟨F2, s2, x2, o2⟩ := s1.val w1 e2
  simp only [assignG] at e3
  split at e3
  · cases e3
    exact q _ H1 F2 ad (s2.assign hm o2) (x1.trans x2)
  · cases e3
theorem ss_asgT (k : Cok g lv N sc true X) (hK : X.K = c.K) {es : List Expr} {kk : Nat} {p : Pos} {gg : G} (hg : SG c X (.Tuple es kk p) gg) (hp : noPack a = true) (ha : SE c Φ X a ta) : SS c Φ X (.Assign [.Tuple es kk p] a pos) (.asg gg ta) := by
  intro F H σ ρ ad fl ρ' D s ev q
  simp only [exec] at ev
  obtain ⟨⟨ra, ρ1⟩, e1, ev⟩ := bindE ev
  obtain ⟨dd, e2, ev⟩ := bindE ev
  obtain ⟨ρ2, e3, ev⟩ := bindE ev
  cases ev
  have h1 : swapsWithSole [.Tuple es kk p] a pos.line X.env = pure false := by
    cases a <;> rfl
  have h2 : swappedStores [.Tuple es kk p] a X.env = pure none := by
    cases a <;> first | rfl | (simp [noPack] at hp)
  refine ⟨_, ps_asg pe_we pg_wG h1 h2 rfl, ha F H σ ρ ad _ _ _ s e1 fun v H1 F1 s1 x1 w1 => ?_⟩
  obtain ⟨F2, s2, x2, o2⟩ := s1.val w1 e2
  exact hg F2 H1 σ ρ1 ad dd _ v _ s2 e3 (.inl o2) fun σ' s3 _ => q σ' H1 F2 ad s3 (x1.trans x2)
theorem Sr.bind {F H : Hp} {σ : L2.St} {ρ : Rho} {ad : Nat → Addr} (s : Sr c F H σ ρ ad) {i : Nat} {aa : Addr} {dd : D} (o : OwnAt c.K F H aa dd) (n : c.P aa ∨ c.H0 aa = none) (ap : ∀ j dj, j ∈ c.M → ρ[j]? = some (some dj) → ad j ≠ aa) (hm : i ∈ c.M) (hp : i ∉ c.mps) :
    Sr c F H (σ.set i (some (.ref aa))) (ρ.set i (some dd)) (fun j => if j = i then aa else ad j) where
  gr := s.gr
  len := by rw [List.length_set, List.length_set]; exact s.len
  fro := fun j dj h m => by
    rcases set_some h with ⟨rfl, _⟩ | ⟨ne, h⟩
    · exact absurd hm m
    · obtain ⟨y, e, r⟩ := s.fro j dj h m
      exact ⟨y, by rw [List.getElem?_set_ne (fun z => ne z.symm)]; exact e, r⟩
  own := fun j dj h m => by
    rcases set_some h with ⟨rfl, rfl⟩ | ⟨ne, h⟩
    · have hl : j < σ.length := by
        rw [s.len]
        have := (List.getElem?_eq_some_iff.mp h).1
        simpa using this
      rw [if_pos rfl]
      exact ⟨List.getElem?_set_self hl, o, n⟩
    · rw [if_neg ne, List.getElem?_set_ne (fun z => ne z.symm)]
      exact s.own j dj h m
  sep := fun j k dj dk h1 h2 m1 m2 ne => by
    rcases set_some h1 with ⟨rfl, rfl⟩ | ⟨n1, h1'⟩
    · rw [if_pos rfl, if_neg (fun z => ne z.symm)]
      rcases set_some h2 with ⟨rfl, _⟩ | ⟨_, h2⟩
      · exact absurd rfl ne
      · exact fun z => ap k dk m2 h2 z.symm
    · rw [if_neg n1]
      rcases set_some h2 with ⟨rfl, _⟩ | ⟨n2, h2⟩
      · rw [if_pos rfl]
        exact ap j dj m1 h1'
      · rw [if_neg n2]
        exact s.sep j k dj dk h1' h2 m1 m2 ne
  par := fun j hj => by
    obtain ⟨⟨dj, h⟩, m, e⟩ := s.par j hj
    have ne : i ≠ j := fun z => hp (z ▸ hj)
    exact ⟨⟨dj, by rw [List.getElem?_set_ne ne]; exact h⟩, m, by rw [if_neg (fun z => ne z.symm)]; exact e⟩
theorem ss_masg (k : Cok g lv N sc true X) {i : Nat} {x : Str} {p : Pos} (hi : N[i]? = some x) (hl : locL sc true x = true) (hm : i ∈ c.M) (hmp : i ∉ c.mps) (ha : SEx c Φ X N sc true a ta) : SS c Φ X (.Assign [.Name x p] a pos) (.masg i ta) := by
  intro F H σ ρ ad fl ρ' D s ev q
  simp only [exec] at ev
  obtain ⟨⟨ra, ρ1⟩, e1, ev⟩ := bindE ev
  dsimp only at ev
  split at ev
  · rename_i dd
    split at ev
    · cases ev
      obtain ⟨te, he, hp⟩ := ha.asg i x p pos hi hl
      refine ⟨_, hp, he F H σ ρ ad _ _ _ s e1 fun v H1 F1 s1 x1 w1 => ?_⟩
      obtain ⟨aa, rfl, w2, w3, w4⟩ := w1
      exact q _ H1 F1 _ (s1.bind w2 w3 w4 hm hmp) x1
    · cases ev
  · cases ev
theorem ss_setix (k : Cok g lv N sc true X) (hK : X.K = c.K) {i : Nat} {x : Str} {p p2 : Pos} (hi : N[i]? = some x) (hv : Vis sc x) (hn : nameOk x = true) (hm : i ∈ c.M) (hsl : noSlice b = true) (hc : noComp a = true) (hb : SE c Φ X b tb) (ha : SE c Φ X a ta) :
    SS c Φ X (.Assign [.Subscript (.Name x p) b p2] a pos) (.setix i tb ta) := by
  intro F H σ ρ ad fl ρ' D s ev q
  simp only [exec] at ev
  obtain ⟨⟨ra, ρ1⟩, e1, ev⟩ := bindE ev
  obtain ⟨dd, e2, ev⟩ := bindE ev
  dsimp only at ev
  split at ev
  case isFalse => cases ev
  rename_i hl0
  obtain ⟨⟨rk, ρ2⟩, e3, ev⟩ := bindE ev
  dsimp only at ev
  split at ev
  · rename_i j xs e4
    split at ev
    · rename_i n en
      cases ev
      have hs : ∀ v, assign (.Subscript (.Name x p) b p2) X.env v = (do
          let ov ← holding [v] (eval (.Name x p) X.env)
          let iv ← holding [v, ov] (eval b X.env)
          standAt p2
          holding [v, ov, iv] (setItem ov iv v)
          release [v, ov, iv] []) := by
        intro v
        cases b <;> first | rfl | (simp [noSlice] at hsl)
      have h1 : swapsWithSole [.Subscript (.Name x p) b p2] a pos.line X.env = pure false := by
        cases a <;> rfl
      have h2 : swappedStores [.Subscript (.Name x p) b p2] a X.env = pure none := rfl
      refine ⟨_, ps_asg pe_we (pg_sub (pe_name k hi hv hn) pe_we set_list hs) h1 h2 rfl, ha F H σ ρ ad _ _ _ s e1 fun v H1 F1 s1 x1 w1 => ?_⟩
      obtain ⟨F2, s2, x2, o2⟩ := s1.val w1 e2
      obtain ⟨e0, _⟩ := s2.recv hK hl0 hm
      refine ⟨_, e0, hb F2 H1 σ ρ1 ad _ _ _ s2 e3 fun v2 H2 F3 s3 x3 w3 => ?_⟩
      cases dp_int w3
      obtain ⟨_, vs, g1, g2⟩ := s3.list e4 hm
      refine ⟨ad i, vs, j, n, rfl, rfl, g1, by rw [dps_len g2]; exact en, ?_⟩
      exact q _ _ F3 ad (s3.put e4 hm (.lst (dps_set (dp_mono x3 o2) n g2))) ((x1.trans x2).trans x3)
    · cases ev
  · cases ev
theorem ss_dput (k : Cok g lv N sc true X) {i : Nat} {x : Str} {p p2 : Pos} (hi : N[i]? = some x) (hv : Vis sc x) (hn : nameOk x = true) (hm : i ∈ c.M) (hc : noComp a = true) (hb : SE c Φ X b tb) (ha : SE c Φ X a ta) :
    SS c Φ X (.Assign [.Subscript (.Name x p) b p2] a pos) (.dput i tb ta) := by
  intro F H σ ρ ad fl ρ' D s ev q
  have hu := units_ok k
  simp only [exec] at ev
  obtain ⟨⟨ra, ρ1⟩, e1, ev⟩ := bindE ev
  obtain ⟨dd, e2, ev⟩ := bindE ev
  dsimp only at ev
  split at ev
  case isFalse => cases ev
  rename_i hl0
  obtain ⟨⟨rk, ρ2⟩, e3, ev⟩ := bindE ev
  dsimp only at ev
  split at ev
  · rename_i j xs e4
    split at ev
    · rename_i hz
      cases ev
      refine ⟨_, ps_dput (by omega) (pe_name k hi hv hn) pe_we pe_we (sw_false hc _ _ _), ha F H σ ρ ad _ _ _ s e1 fun v H1 F1 s1 x1 w1 => ?_⟩
      obtain ⟨F2, s2, x2, o2⟩ := s1.val w1 e2
      have e0 : σ[i]? = some (some (.ref (ad i))) := by
        unfold isDictAt at hl0
        split at hl0
        · rename_i ys ey
          exact (s2.dict ey hm).1
        · cases hl0
      refine ⟨_, e0, hb F2 H1 σ ρ1 ad _ _ _ s2 e3 fun v2 H2 F3 s3 x3 w3 => ?_⟩
      cases dp_int w3
      obtain ⟨_, vs, g1, g2⟩ := s3.dict e4 hm
      have hz2 : vs.length + 1 ≤ sizeLine := lim_line (by rw [kv_len g2]; exact hz)
      refine ⟨ad i, _, rfl, DPut.k (k := Sum.inl j) g1 hz2, ?_⟩
      exact q _ _ F3 ad (s3.put e4 hm (.dct (kv_put j (dp_mono x3 o2) g2))) ((x1.trans x2).trans x3)
    · cases ev
  · cases ev
theorem ss_aug (k : Cok g lv N sc true X) {i : Nat} {x : Str} {p : Pos} (hi : N[i]? = some x) (hl : locL sc true x = true) (hm : i ∉ c.M) (ha : SE c Φ X a ta) : SS c Φ X (.AugAssign (.Name x p) .Add a pos) (.aug i ta) := by
  intro F H σ ρ ad fl ρ' D s ev q
  simp only [exec] at ev
  split at ev
  · rename_i n e0
    obtain ⟨⟨ra, ρ1⟩, e1, ev⟩ := bindE ev
    dsimp only at ev
    split at ev
    · rename_i y
      cases ev
      obtain ⟨a1, a2⟩ := loc_ok k hl
      obtain ⟨v0, f1, f2⟩ := s.fro i _ e0 hm
      cases dp_int f2
      refine ⟨_, ps_aug (by rw [k.nn]; exact k.nd) (by rw [k.nn]; exact hi) a1 pe_we ip_add a2, _, f1, ha F H σ ρ ad _ _ _ s e1 fun v H1 F1 s1 x1 w1 => ?_⟩
      cases dp_int w1
      exact ⟨_, _, rfl, rfl, q _ H1 F1 ad (s1.assign hm (Rp.int _)) x1⟩
    · cases ev
  · cases ev
theorem ss_expr (k : Cok g lv N sc true X) (hc : noComp a = true) (ha : SE c Φ X a ta) : SS c Φ X (.Expr a pos) (.expr ta) := by
  intro F H σ ρ ad fl ρ' D s ev q
  simp only [exec] at ev
  obtain ⟨⟨ra, ρ1⟩, e1, ev⟩ := bindE ev
  cases ev
  exact ⟨_, ps_expr pe_we (sw_false hc _ _ _), ha F H σ ρ ad _ _ _ s e1 fun v H1 F1 s1 x1 _ => q σ H1 F1 ad s1 x1⟩
theorem ss_append (k : Cok g lv N sc true X) (hK : X.K = c.K) {i : Nat} {x : Str} {p apos cpos : Pos} (hi : N[i]? = some x) (hv : Vis sc x) (hn : nameOk x = true) (hm : i ∈ c.M) (hl : (apos.endLine == cpos.line) = true) (hs : noStar a = true) (ha : SE c Φ X a ta) :
    SS c Φ X (.Expr (.Call (.Attribute (.Name x p) "append" apos) [a] [] cpos) pos) (.append i ta) := by
  intro F H σ ρ ad fl ρ' D s ev q
  simp only [exec] at ev
  split at ev
  case isFalse => cases ev
  rename_i hl0
  obtain ⟨⟨ra, ρ1⟩, e1, ev⟩ := bindE ev
  obtain ⟨dd, e2, ev⟩ := bindE ev
  dsimp only at ev
  split at ev
  · rename_i xs e3
    split at ev
    · rename_i hz
      cases ev
      obtain ⟨e0, ys, hq⟩ := s.recv hK hl0 hm
      refine ⟨_, ps_expr (pe_bm PySem.F.plainAttrs_list PySem.F.slot_list_append PySem.F.type_list_append mt_append (pe_name k hi hv hn) (pa_cons pe_we pa_nil (star1 hs)) rfl (few1 hs) hl (star1 hs) rfl) rfl, _, e0, .inl ⟨rfl, ys, hq⟩, ?_⟩
      refine ha F H σ ρ ad _ _ _ s e1 fun v1 H1 F1 s1 x1 w1 => ?_
      obtain ⟨F2, s2, x2, o2⟩ := s1.val w1 e2
      obtain ⟨_, vs, g1, g2⟩ := s2.list e3 hm
      have hz2 : vs.length + 1 ≤ sizeLine := lim_line (by rw [dps_len g2]; exact hz)
      refine ⟨ad i, vs, v1, rfl, rfl, g1, hz2, ?_⟩
      exact q σ _ F2 ad (s2.put e3 hm (.lst (dps_append g2 (.cons o2 .nil)))) (x1.trans x2)
    · cases ev
  · cases ev
theorem ss_ite {e : Expr} {t : T} {as bs : List Stmt} {tas tbs : Ss} (ht : ST c Φ X e t) (ha : SSs c Φ X as tas) (hb : SSs c Φ X bs tbs) : SS c Φ X (.If e as bs pos) (.ite t tas tbs) := by
  intro F H σ ρ ad fl ρ' D s ev q
  simp only [exec] at ev
  obtain ⟨⟨kk, ρ1⟩, e1, ev⟩ := bindE ev
  dsimp only at ev
  refine ⟨_, ps_if pt_wt pss_wss pss_wss, ht F H σ ρ ad _ _ _ s e1 fun H1 F1 s1 x1 => ?_⟩
  cases kk with
  | true => exact ha F1 H1 σ ρ1 ad fl ρ' D s1 ev (q.mono x1)
  | false => exact hb F1 H1 σ ρ1 ad fl ρ' D s1 ev (q.mono x1)
/-- what stands ahead of a turn -/
def FoIv (c : Fx) (Φ : Fs) (gg : G) (tb : Ss) (F1 : Hp) (items : List Vm.D) (fl : Fl) (ρ2 : Rho) (i : Nat) (σ : L2.St) (H : Hp) : Prop :=
  ∃ F ρ ad, Sr c F H σ ρ ad ∧ Ex F1 F ∧ forLoop (fun r => execs Φ tb r) gg (items.drop i) ρ = some (fl, ρ2)
theorem ss_loop (k : Cok g lv N sc true X) {tg it : Expr} {body : List Stmt} {gg : G} {ti : Vm.It} {tbs : Ss} (hs : noSet it = true) (hg : SG c X tg gg) (hi : SI c Φ X tg it ti) (hb : SSs c Φ X body tbs) : SS c Φ X (.For tg it body [] pos) (.loop gg ti tbs) := by
  intro F H σ ρ ad fl ρ' D s ev q
  simp only [exec] at ev
  obtain ⟨⟨items, ρ1⟩, e1, ev⟩ := bindE ev
  dsimp only at ev
  have hset : ∀ x, foldedSetIterable it X.env x = pure x := by
    intro x
    cases it <;> first | rfl | (simp [noSet] at hs)
  refine ⟨_, ps_for (by rw [k.xe]; exact PassesOwn.never) k.calm pi_wI pg_wG pss_wss hset, hi F H σ ρ ad items ρ1 _ s e1 fun J H1 F1 s1 x1 fd => ?_⟩
  refine ⟨fun i m σ H => m = items.length - i ∧ i ≤ items.length ∧ FoIv c Φ gg tbs F1 items fl ρ' i σ H, ⟨items.length, by simp, Nat.zero_le _, F1, ρ1, ad, s1, Ex.refl _, ev⟩, ?_⟩
  rintro i m σ2 H2 ⟨rfl, hle, F2, ρ2, ad2, s2, x2, hlp⟩
  by_cases hlt : i < items.length
  · refine .inr ?_
    obtain ⟨go, yl⟩ := (fd i H2 (fun b u h => s2.ex b u (x2 b u h))).1 items[i] (List.getElem?_eq_getElem hlt)
    rw [List.drop_eq_getElem_cons hlt] at hlp
    simp only [forLoop] at hlp
    obtain ⟨ρ3, e3, hlp⟩ := bindE hlp
    obtain ⟨⟨f4, ρ4⟩, e4, hlp⟩ := bindE hlp
    dsimp only at hlp
    refine ⟨go, FoIv c Φ gg tbs F1 items fl ρ' (i + 1), fun σ' H' h' => ⟨items.length - (i + 1), by omega, rfl, hlt, h'⟩, fun x H' y => ?_⟩
    have st : Sr c F2 H' σ2 ρ2 ad2 ∧ (Rp c.K F2 x items[i] ∨ (isTup tg = true ∧ ∃ a vs es, x = .ref a ∧ SqT c.K H' a vs ∧ items[i] = .tuple es ∧ RpAll c.K F2 vs es)) := by
      rcases yl x H' y with ⟨rfl, rp⟩ | ⟨ht, Tt, zs, es, rfl, hT, rfl, e6, rp⟩
      · exact ⟨s2, .inl (dp_mono x2 rp)⟩
      · refine ⟨s2.new (New.own s2.ex hT), .inr ⟨ht, Tt, zs, es, rfl, ?_, e6, dps_mono x2 rp⟩⟩
        exact .inl (.inl upd_same)
    refine hg F2 H' σ2 ρ2 ad2 items[i] ρ3 x _ st.1 e3 st.2 fun σ3 s3 _ => ?_
    refine hb F2 H' σ3 ρ3 ad2 f4 ρ4 _ s3 e4 ?_
    cases f4 with
    | nx => exact fun σ' H' F' ad' s' x' => ⟨F', ρ4, ad', s', x2.trans x', hlp⟩
    | ct => exact fun σ' H' F' ad' s' x' => ⟨F', ρ4, ad', s', x2.trans x', hlp⟩
    | br =>
      cases hlp
      exact fun σ' H' F' ad' s' x' => q σ' H' F' ad' s' ((x1.trans x2).trans x')
    | rt r =>
      cases hlp
      exact fun σ' v H' F' ad' s' x' w => q σ' v H' F' ad' s' ((x1.trans x2).trans x') w
  · have e : i = items.length := by omega
    subst e
    refine .inl ⟨(fd _ H2 (fun b u h => s2.ex b u (x2 b u h))).2 rfl, ?_⟩
    rw [List.drop_length] at hlp
    simp only [forLoop] at hlp
    cases hlp
    exact q σ2 H2 F2 ad2 s2 (x1.trans x2)
theorem ss_whl (k : Cok g lv N sc true X) {e : Expr} {body : List Stmt} {t : T} {tbs : Ss} (ht : ST c Φ X e t) (hb : SSs c Φ X body tbs) : SS c Φ X (.While e body [] pos) (.whl t tbs) := by
  intro F H σ ρ ad fl ρ' D s ev q
  simp only [exec] at ev
  refine ⟨_, ps_while (by rw [k.xe]; exact PassesOwn.never) pt_wt pss_wss, ?_⟩
  refine ⟨fun m σ H => ∃ F2 ρ2 ad2, Sr c F2 H σ ρ2 ad2 ∧ Ex F F2 ∧ whileN (fun r => evalT Φ t r) (fun r => execs Φ tbs r) m ρ2 = some (fl, ρ'), ⟨wfuel, F, ρ, ad, s, Ex.refl _, ev⟩, ?_⟩
  rintro m σ2 H2 ⟨F2, ρ2, ad2, s2, x2, hlp⟩
  cases m with
  | zero => cases hlp
  | succ m =>
    simp only [whileN] at hlp
    obtain ⟨⟨bb, ρ3⟩, e3, hlp⟩ := bindE hlp
    dsimp only at hlp
    refine ht F2 H2 σ2 ρ2 ad2 bb ρ3 _ s2 e3 fun H3 F3 s3 x3 => ?_
    cases bb with
    | false =>
      rw [if_neg Bool.false_ne_true] at hlp ⊢
      cases hlp
      exact q σ2 H3 F3 ad2 s3 (x2.trans x3)
    | true =>
      rw [if_pos rfl] at hlp ⊢
      obtain ⟨⟨f4, ρ4⟩, e4, hlp⟩ := bindE hlp
      dsimp only at hlp
      refine ⟨fun σ H => ∃ F2 ρ2 ad2, Sr c F2 H σ ρ2 ad2 ∧ Ex F F2 ∧ whileN (fun r => evalT Φ t r) (fun r => execs Φ tbs r) m ρ2 = some (fl, ρ'), fun σ' H' h => ⟨m, Nat.lt_succ_self m, h⟩, ?_⟩
      refine hb F3 H3 σ2 ρ3 ad2 f4 ρ4 _ s3 e4 ?_
      cases f4 with
      | nx => exact fun σ' H' F' ad' s' x' => ⟨F', ρ4, ad', s', (x2.trans x3).trans x', hlp⟩
      | ct => exact fun σ' H' F' ad' s' x' => ⟨F', ρ4, ad', s', (x2.trans x3).trans x', hlp⟩
      | br =>
        cases hlp
        exact fun σ' H' F' ad' s' x' => q σ' H' F' ad' s' ((x2.trans x3).trans x')
      | rt r =>
        cases hlp
        exact fun σ' v H' F' ad' s' x' w => q σ' v H' F' ad' s' ((x2.trans x3).trans x') w
theorem ss_ret (ha : SE c Φ X a ta) : SS c Φ X (.Return (some a) pos) (.ret ta) := by
  intro F H σ ρ ad fl ρ' D s ev q
  simp only [exec] at ev
  obtain ⟨⟨ra, ρ1⟩, e1, ev⟩ := bindE ev
  dsimp only at ev
  refine ⟨_, ps_ret pe_we, ha F H σ ρ ad _ _ _ s e1 fun v H1 F1 s1 x1 w1 => ?_⟩
  split at ev
  · cases ev
  · cases ev
    exact q σ v H1 F1 ad s1 x1 w1
theorem ss_retN : SS c Φ X (.Return none pos) (.ret .non) := by
  intro F H σ ρ ad fl ρ' D s ev q
  simp only [exec, evalE] at ev
  cases ev
  exact ⟨_, ps_retN, q σ .non H F ad s (Ex.refl _) Rp.non⟩
theorem ss_brk : SS c Φ X (.Break pos) .brk := by
  intro F H σ ρ ad fl ρ' D s ev q
  simp only [exec] at ev
  cases ev
  exact ⟨_, ps_break, q σ H F ad s (Ex.refl _)⟩
theorem ss_cont : SS c Φ X (.Continue pos) .cont := by
  intro F H σ ρ ad fl ρ' D s ev q
  simp only [exec] at ev
  cases ev
  exact ⟨_, ps_continue, q σ H F ad s (Ex.refl _)⟩
theorem ss_pass : SS c Φ X (.Pass pos) .pass := by
  intro F H σ ρ ad fl ρ' D s ev q
  simp only [exec] at ev
  cases ev
  exact ⟨_, ps_pass, q σ H F ad s (Ex.refl _)⟩
theorem sss_nil : SSs c Φ X [] .nil := by
  intro F H σ ρ ad fl ρ' D s ev q
  simp only [execs] at ev
  cases ev
  exact ⟨_, pss_nil, q σ H F ad s (Ex.refl _)⟩
theorem sss_cons {st : Stmt} {r : List Stmt} {t : S} {u : Ss} (h1 : SS c Φ X st t) (h2 : SSs c Φ X r u) : SSs c Φ X (st :: r) (.cons t u) := by
  intro F H σ ρ ad fl ρ' D s ev q
  simp only [execs] at ev
  obtain ⟨⟨f1, ρ1⟩, e1, ev⟩ := bindE ev
  dsimp only at ev
  refine ⟨_, pss_cons ps_ws pss_wss, h1 F H σ ρ ad f1 ρ1 _ s e1 ?_⟩
  cases f1 with
  | nx => exact fun σ' H' F' ad' s' x' => h2 F' H' σ' ρ1 ad' fl ρ' D s' ev (q.mono x')
  | br => cases ev; exact q
  | ct => cases ev; exact q
  | rt r => cases ev; exact q
end
end Vm
set_option Elab.async false
set_option linter.all false
set_option maxRecDepth 100000
set_option maxHeartbeats 4000000
/-! VmSA: len(set(t)), sorted(xs, key=len), calls by keywords. -/
namespace Vm
open PySem L2 Evl
section
variable {c : Fx} {Φ : Fs} {X : Cx} {g : Gl0} {lv : Nat} {N : List Str} {sc : Scope} {dl : Bool} {a b d : Expr} {ta tb td : E} {pos : Pos}
theorem one_arg {f : Fn} {ρ ρ' : Rho} {r : R} (ev : evalE Φ (.blt f (.cons ta .nil)) ρ = some (r, ρ')) : ∃ ra d, evalE Φ ta ρ = some (ra, ρ') ∧ res ρ' ra = some d ∧ bltD f [d] = some r := by
  simp only [evalE] at ev
  obtain ⟨⟨rs, ρ1⟩, e1, ev⟩ := bindE ev
  obtain ⟨ds, e2, ev⟩ := bindE ev
  obtain ⟨r', e3, ev⟩ := bindE ev
  cases ev
  simp only [evalAs] at e1
  obtain ⟨⟨ra, ρ2⟩, e4, e1⟩ := bindE e1
  obtain ⟨⟨rb, ρ3⟩, e5, e1⟩ := bindE e1
  cases e5
  cases e1
  simp only [resAll] at e2
  split at e2
  · rename_i d ds' e6 e7
    cases e7
    cases e2
    exact ⟨ra, d, e4, e6, e3⟩
  · cases e2
theorem se_lenset (k : Cok g lv N sc dl X) (hK : X.K = c.K) {p p2 p3 : Pos} (hg : glB sc "len" = true) (hm : X.mg "len" = none) (hg2 : glB sc "set" = true) (hm2 : X.mg "set" = none) (hs : noStar a = true) (ha : SE c Φ X a ta) :
    SE c Φ X (.Call (.Name "len" p) [.Call (.Name "set" p2) [a] [] p3] [] pos) (.blt .lenset (.cons ta .nil)) := by
  intro F H σ ρ ad r ρ' Q s ev q
  obtain ⟨ra, dd, e1, e2, e3⟩ := one_arg ev
  cases dd with
  | tuple xs =>
    simp only [bltD] at e3
    obtain ⟨ns, e4, e5⟩ := bindE e3
    split at e5
    · rename_i hz
      cases e5
      refine we_of (pe_lenSetD k.calm (gl_ok k hg) hm (gl_ok k hg2) hm2 pe_we hs) (ha F H σ ρ ad _ _ _ s e1 fun v1 H1 F1 s1 x1 w1 => ?_)
      obtain ⟨F2, s2, x2, o2⟩ := s1.wait w1
      obtain ⟨aa, vs, rfl, h1, h2⟩ : ∃ aa vs, v1 = .ref aa ∧ SqT c.K H1 aa vs ∧ RpAll c.K F2 vs xs := by
        obtain ⟨aa, vs, e, h1, _, h2⟩ := (o2.bd s2 (Ex.refl _) e2).tup s2.ex
        exact ⟨aa, vs, e, h1, h2⟩
      obtain ⟨z1, _⟩ := dps_ints e4 h2
      exact ⟨aa, ns, rfl, by rw [hK, ← z1]; exact h1, hz, q _ H1 F2 s2 (x1.trans x2) (Rp.int _)⟩
    · cases e5
  | _ => simp [bltD] at e3
/-! ### sorted(xs, key=len) -/
def tSortLen (K : PySem.W.Frag) (te : TE) : TE := fun σ H Q => te σ H fun x H1 => ∃ (l : Addr) (bs : List (V × List Vm.D)), x = .ref l ∧ SqL K H1 l (bs.map (·.1)) ∧ (∀ b ∈ bs, ∃ a zs, b.1 = .ref a ∧ SqL K H1 a zs ∧ zs.length = b.2.length) ∧
  ∀ p, H1 p = none → Q (.ref p) (upd H1 p (.lst ((bs.mergeSort (fun a b => decide (a.2.length ≤ b.2.length))).map (·.1))))
theorem each_of : ∀ {bs : List (V × List Vm.D)} {us : List Value}, Vals (bs.map (·.1)) us → W.EachIs (fun u b => RelV b.1 u) us bs
  | [], _, .nil => .nil
  | b :: bs, _, .cons r t => .cons r (each_of t)
theorem of_each : ∀ {bs : List (V × List Vm.D)} {us : List Value}, W.EachIs (fun u b => RelV b.1 u) us bs → Vals (bs.map (·.1)) us
  | _, _, .nil => .nil
  | _, _, .cons r t => .cons r (of_each t)
theorem pe_sortLen (hu : X.A.units + 65 < cLine) {p p2 kp : Pos} {te : TE} (hg : Gl X "sorted") (hm : X.mg "sorted" = none) (hg2 : Gl X "len") (hm2 : X.mg "len" = none) (ha : PE X a te) (hs : noStar a = true) :
    PE X (.Call (.Name "sorted" p) [a] [⟨some "key", .Name "len" p2, kp⟩] pos) (tSortLen X.K te) := by
  constructor
  intro pins s σ H Q I h
  refine wpAny_Call_Name_kw (ld_blt I hg hm PyProof.Rows.boot_sorted ?_)
  refine PyProof.Rows.callWith_kw (PyProof.Rows.args_cons (thn (ha.run pins s σ H _ I h) ?_) (star1 hs)) (by rw [star1 hs]; rfl) (by rw [star1 hs]; rfl) rfl rfl
  rintro v s1 ⟨x, H1, I1, r1, l, bs, rfl, hq, hb, q1⟩
  cases r1
  refine PyProof.Rows.args_nil ?_
  refine wpAny_evalAll_cons (wpAny_bind (ld_blt I1 hg2 hm2 boot_len (wpAny_bind (wpAny_standAt (wpAny_pure (wpAny_evalAll_nil ?_))))))
  obtain ⟨its, rv, pl, hz⟩ := I1.list hq
  rw [List.length_map] at hz
  refine W.sorted_key_data (β := V × List Vm.D) (R := fun u b => RelV b.1 u) (b := false) (fun b => .int (b.2.length : Nat)) pl.isList (each_of rv) (W.AllAlike.of fun _ _ => rfl) (W.Sortable.others fun _ => ⟨(fun z => nomatch z), (fun _ z => nomatch z)⟩) hz (fun x _ => ?_) (PyProof.Rows.ksk_s1 _ _) (fun _ => PyProof.Rows.ksk_l1 _ _) (fun _ => PyProof.Rows.ksk_t4 _ _) (fun u x hx hmem h0 tk kp => ?_) fun out cc h' tk kp hf hD hl eo => ?_
  · show X.A.units + 2 + 0 < cLine
    omega
  · obtain ⟨aa, zs, e0, hz1, hz2⟩ := hb x hmem
    rw [e0] at hx
    cases hx
    obtain ⟨its2, rv2, pl2, hz3⟩ := I1.list hz1
    obtain ⟨o, ho, hc, n, hd⟩ := id pl2.isList
    have hfit : (its2.toArray.size : Int) < 2 ^ 63 := by
      have := rv2.length
      have := line63
      simp only [List.size_toArray]
      omega
    refine Calls.call_len_list ⟨o, kp _ _ ho, hc, n, hd⟩ hfit ⟨h0, tk + 1 + 1, rfl, fun _ _ e => e, ?_⟩
    have e2 : ((its2.toArray.size : Nat) : Int) = ((x.2.length : Nat) : Int) := by
      simp only [List.size_toArray]
      rw [← rv2.length, hz2]
    rw [e2]
    exact .int _ _
  · have hll : ((bs.mergeSort (W.dataLe false fun b => .int (b.2.length : Nat))).map (·.1)).length ≤ sizeLine := by
      rw [List.length_map, List.length_mergeSort]; exact hz
    have e3 : W.dataLe false (fun b : V × List Vm.D => PyData.int (b.2.length : Nat)) = fun a b => decide (a.2.length ≤ b.2.length) := by
      rw [W.dataLe_int (fun b : V × List Vm.D => ((b.2.length : Nat) : Int))]
      funext x y
      simp
    refine ⟨.ref _, upd H1 (s1.heap.objs.size + 1) (.lst ((bs.mergeSort (W.dataLe false fun b => .int (b.2.length : Nat))).map (·.1))), I1.laid (t' := tk) kp (Nat.le_succ _) ⟨hll, out, cc, of_each eo, hD⟩, rfl, ?_⟩
    rw [e3]
    exact q1 _ (I1.hok.fresh (Nat.le_succ _))

theorem lens_split {K : PySem.W.Frag} {F : Hp} : ∀ {ds : List Vm.D} {ls : List (List Vm.D)} {vs : List V}, lens? ds = some ls → RpAll K F vs ds → ∃ bs : List (V × List Vm.D), vs = bs.map (·.1) ∧ ls = bs.map (·.2) ∧ ∀ b ∈ bs, Rp K F b.1 (.list b.2)
  | [], ls, _, e, .nil => by
    simp only [lens?] at e
    cases e
    exact ⟨[], rfl, rfl, fun _ h => nomatch h⟩
  | x :: r, ls, _, e, .cons (v := v) h t => by
    cases x with
    | list xs =>
      simp only [lens?] at e
      obtain ⟨l2, e2, rfl⟩ := Option.map_eq_some_iff.mp e
      obtain ⟨bs, z1, z2, z3⟩ := lens_split e2 t
      refine ⟨(v, xs) :: bs, by rw [z1]; rfl, by rw [z2]; rfl, fun b hb => ?_⟩
      rcases List.mem_cons.mp hb with rfl | hb
      · exact h
      · exact z3 b hb
    | _ => simp [lens?] at e
theorem rp_pairs {K : PySem.W.Frag} {F : Hp} : ∀ {bs : List (V × List Vm.D)}, (∀ b ∈ bs, Rp K F b.1 (.list b.2)) → RpAll K F (bs.map (·.1)) ((bs.map (·.2)).map .list)
  | [], _ => .nil
  | b :: bs, h => .cons (h b List.mem_cons_self) (rp_pairs fun x hx => h x (List.mem_cons_of_mem _ hx))
theorem se_sortlen (k : Cok g lv N sc dl X) (hK : X.K = c.K) {p p2 kp : Pos} (hg : glB sc "sorted" = true) (hm : X.mg "sorted" = none) (hg2 : glB sc "len" = true) (hm2 : X.mg "len" = none) (hs : noStar a = true) (ha : SE c Φ X a ta) :
    SE c Φ X (.Call (.Name "sorted" p) [a] [⟨some "key", .Name "len" p2, kp⟩] pos) (.blt .sortlen (.cons ta .nil)) := by
  intro F H σ ρ ad r ρ' Q s ev q
  have hu := units_ok k
  obtain ⟨ra, dd, e1, e2, e3⟩ := one_arg ev
  cases dd with
  | list xs =>
    simp only [bltD] at e3
    obtain ⟨ls, e4, rfl⟩ := Option.map_eq_some_iff.mp e3
    refine we_of (pe_sortLen (by omega) (gl_ok k hg) hm (gl_ok k hg2) hm2 pe_we hs) (ha F H σ ρ ad _ _ _ s e1 fun v1 H1 F1 s1 x1 w1 => ?_)
    obtain ⟨F2, s2, x2, o2⟩ := s1.wait w1
    obtain ⟨aa, vs, rfl, h1, h2⟩ := (o2.bd s2 (Ex.refl _) e2).list s2.ex
    obtain ⟨bs, rfl, rfl, z3⟩ := lens_split e4 h2
    refine ⟨aa, bs, rfl, by rw [hK]; exact h1, fun b hb => ?_, fun p hp => ?_⟩
    · have := z3 b hb
      obtain ⟨b1, b2⟩ := b
      cases this with
      | lst hq hr => exact ⟨_, _, rfl, by rw [hK]; exact ex_l s2.ex hq, dps_len hr⟩
    · have gg : New F2 H1 F2 (upd H1 p (.lst ((bs.mergeSort (fun a b => decide (a.2.length ≤ b.2.length))).map (·.1)))) := New.own s2.ex hp
      have e5 : (bs.map (·.2)).mergeSort (fun a b => decide (a.length ≤ b.length)) = (bs.mergeSort (fun a b => decide (a.2.length ≤ b.2.length))).map (·.2) := by
        rw [List.map_mergeSort]
        intro a _ b _
        rfl
      rw [e5] at q
      refine q _ _ F2 (s2.new gg) (x1.trans x2) (RV.rr s2 (r := .own _) (F' := F2) ⟨p, rfl, ⟨fresh_back s2.ex hp, _, upd_same, .lst ?_⟩, hp⟩)
      exact rp_pairs fun b hb => z3 b (List.mem_mergeSort.mp hb)
  | _ => simp [bltD] at e3
/-! ### calls by keywords alone -/
def wk (X : Cx) (kws : List Keyword) : TA := fun σ H Q => ∃ t, PK X kws t ∧ t σ H Q
theorem pk_wk {X : Cx} {kws : List Keyword} : PK X kws (wk X kws) := ⟨fun pos pins s σ H Q I ⟨_, p, h⟩ => p.run pos pins s σ H Q I h⟩
def SK (c : Fx) (Φ : Fs) (X : Cx) (kws : List Keyword) (t : As) : Prop := ∀ F H σ ρ ad rs ρ' Q, Sr c F H σ ρ ad → evalAs Φ t ρ = some (rs, ρ') →
  (∀ vs H' F', Sr c F' H' σ ρ' ad → Ex F F' → RAs c F' ad vs rs → Q vs H') → wk X kws σ H Q
theorem sk_nil : SK c Φ X [] .nil := by
  intro F H σ ρ ad rs ρ' Q s ev q
  simp only [evalAs] at ev
  cases ev
  exact ⟨_, pk_nil, q _ H F s (Ex.refl F) .nil⟩
theorem sk_cons {kws : List Keyword} {t : As} {nm : Option Str} {kp : Pos} (ha : SE c Φ X a ta) (hr : SK c Φ X kws t) : SK c Φ X (⟨nm, a, kp⟩ :: kws) (.cons ta t) := by
  intro F H σ ρ ad rs ρ' Q s ev q
  simp only [evalAs] at ev
  obtain ⟨⟨ra, ρ1⟩, e1, ev⟩ := bindE ev
  obtain ⟨⟨rb, ρ2⟩, e2, ev⟩ := bindE ev
  cases ev
  refine ⟨_, pk_cons pe_we pk_wk, ?_⟩
  refine ha F H σ ρ ad ra ρ1 _ s e1 fun v1 H1 F1 s1 x1 w1 => ?_
  obtain ⟨F2, s2, x2, o2⟩ := s1.wait w1
  refine hr F2 H1 σ ρ1 ad rb _ _ s2 e2 fun vs H2 F3 s3 x3 w3 => ?_
  exact q _ H2 F3 s3 ((x1.trans x2).trans x3) (.cons ((RAs.cons o2 .nil).mono x3 |> fun | .cons h _ => h) w3)
theorem kw_facts : ∀ {kws : List Keyword} {ks : List Str} {env : Env} {p : Pos}, kwNames kws = some ks → (backToKw p (keywordEach kws env)).all (·.1.isSome) = true ∧ (backToKw p (keywordEach kws env)).filterMap (·.1) = ks ∧ (backToKw p (keywordEach kws env)).any (·.1.isNone) = false ∧ ks.length = kws.length
  | [], _, _, _, h => by
    simp only [kwNames] at h
    cases h
    exact ⟨rfl, rfl, rfl, rfl⟩
  | ⟨some x, e, kp⟩ :: kws, ks, env, p, h => by
    simp only [kwNames] at h
    obtain ⟨k2, e2, rfl⟩ := Option.map_eq_some_iff.mp h
    obtain ⟨h1, h2, h3, h4⟩ := kw_facts (env := env) (p := p) e2
    refine ⟨?_, ?_, ?_, by simp [h4]⟩
    · show (_ && (backToKw p (keywordEach kws env)).all (·.1.isSome)) = true
      rw [h1]; rfl
    · show x :: (backToKw p (keywordEach kws env)).filterMap (·.1) = _
      rw [h2]
    · show (_ || (backToKw p (keywordEach kws env)).any (·.1.isNone)) = false
      rw [h3]; rfl
  | ⟨none, e, kp⟩ :: kws, ks, env, p, h => by simp [kwNames] at h
theorem picks_get {ds : List Vm.D} : ∀ {is : List Nat} {es : List Vm.D}, picks ds is = some es → es.length = is.length ∧ ∀ (j i : Nat), is[j]? = some i → es[j]? = ds[i]? ∧ ∃ d, ds[i]? = some d
  | [], es, h => by
    simp only [picks] at h
    cases h
    exact ⟨rfl, fun j i e => by simp at e⟩
  | i0 :: is, es, h => by
    simp only [picks] at h
    split at h
    · rename_i d r e1 e2
      cases h
      obtain ⟨h1, h2⟩ := picks_get e2
      refine ⟨by simp [h1], fun j i e => ?_⟩
      cases j with
      | zero =>
        simp at e
        subst e
        exact ⟨by simp [e1], d, e1⟩
      | succ j => simpa using h2 j i (by simpa using e)
    · cases h
theorem vals_getD : ∀ {zs : List V} {ws : List Value}, Vals zs ws → ∀ i, RelV (zs.getD i .non) (ws.getD i .none)
  | _, _, .nil, i => by simp [RelV]
  | _, _, .cons r t, 0 => by simpa using r
  | _, _, .cons r t, i + 1 => by simpa using vals_getD t i
theorem vals_map {α : Type} {f : α → V} {h : α → Value} : ∀ {xs : List α}, (∀ x, RelV (f x) (h x)) → Vals (xs.map f) (xs.map h)
  | [], _ => .nil
  | x :: xs, r => .cons (r x) (vals_map r)
/-- every parameter by its keyword -/
def kG (ps ks : List Str) (us ws : List Value) : List Value := if us.length = 0 ∧ ws.length = ks.length then ps.map fun x => ws.getD (ks.idxOf x) .none else []
def kV' (ps ks : List Str) (us ws : List V) : List V := if us.length = 0 ∧ ws.length = ks.length then ps.map fun x => ws.getD (ks.idxOf x) .non else []
theorem kb_of {K : PySem.W.Frag} {fd : FuncData} {ps ks : List Str} (hne : ps ≠ []) (h : ∀ (s : Shared) (ws : List Value), K.In s.heap → ws.length = ks.length → BindsTo s fd ⟨[], ks.zip ws⟩ (ps.zip (ps.map fun x => ws.getD (ks.idxOf x) .none))) : KBinds K fd ps ks (kG ps ks) (kV' ps ks) where
  to := fun s us ws kin hl => by
    unfold kG at hl ⊢
    split at hl
    · rename_i hc
      rw [if_pos hc]
      obtain rfl : us = [] := List.eq_nil_of_length_eq_zero hc.1
      exact h s ws kin hc.2
    · exact absurd (List.eq_nil_of_length_eq_zero hl.symm) hne
  rel := fun {vs us zs ws} r rz => by
    unfold kG kV'
    rw [r.length, rz.length]
    split
    · exact vals_map fun x => vals_getD rz _
    · exact .nil
theorem pe_callK0 {CX : CXT} {k : Nat} {f : Addr} {fd : FuncData} {ps ks : List Str} {sp : Sp} {E : XK} {x : Str} {p pos : Pos} {kws : List Keyword} {tk : TA} (F : FnOk X.prog X.w X.K X.mg X.base CX k f fd ps sp) (hr : Room k X.A) (hg : Gl X x) (hm : X.mg x = some (.ref f)) (hk : PySem.W.keepIn X.K (.ref f) = true)
    {gg : List Value → List Value → List Value} {gV : List V → List V → List V} (hb : KBinds X.K fd ps ks gg gV) (hx : Passes CX X E) (hkw : PK X kws tk) (hn : kwNames kws = some ks) (hdb : (x == ("__debug__" : Str)) = false) :
    PE X (.Call (.Name x p) [] kws pos) (fun σ H Q => tk σ H fun zs H2 => sp (gV [] zs) H2 Q E) := by
  constructor
  intro pins s σ H Q I h
  obtain ⟨h1, h2, h3, _⟩ := kw_facts (env := X.env) (p := pos) hn
  refine wpAny_Call_Name_kw (ld_glob I hg hm ?_ hdb)
  refine PySem.W.callWith_KW0 (h₀ := X.base) I.ok.mod.kin hk h1 (thn (hkw.run pos pins s σ H _ I h) ?_) (by rw [h3]; rfl)
  rintro ws s2 ⟨zs, H2, I2, rz, q2⟩
  refine ⟨I2.kIn, ?_⟩
  rw [h2]
  exact run_fnk F hr hb hx I2 .nil rz q2
theorem se_callk (k : Cok g lv N sc dl X) (hK : X.K = c.K) {fns : List (Str × List Nat × List Str)} {kwl : List (Nat × List Str)} (fu : Funs g lv Φ fns kwl) {i : Nat} {x : Str} {ps ks : List Str} {kws : List Keyword} {t : As} {p : Pos} (hf : fns[i]? = some (x, [], ps)) (hg : glB sc x = true) (hn : nameOk x = true)
    (hkn : kwNames kws = some ks) (hkw : (i, ks) ∈ kwl) (hl : ks.length = ps.length) (hin : ∀ y ∈ ps, y ∈ ks) (hne : kws ≠ []) (hal : asLen t = kws.length) (h : SK c Φ X kws t) : SE c Φ X (.Call (.Name x p) [] kws pos) (.callk i (ps.map fun y => ks.idxOf y) t) := by
  intro F H σ ρ ad r ρ' Q s ev q
  simp only [evalE] at ev
  obtain ⟨⟨rs, ρ1⟩, e1, ev⟩ := bindE ev
  obtain ⟨ds, e2, ev⟩ := bindE ev
  obtain ⟨es, e3, ev⟩ := bindE ev
  obtain ⟨⟨r', outs⟩, e4, ev⟩ := bindE ev
  dsimp only at ev
  split at ev
  · cases ev
    obtain ⟨f, fd, g1, g2, g3, g4, g5⟩ := fu.ok i x [] ps hf
    have hlk : ks.length = kws.length := (kw_facts (env := X.env) (p := pos) hkn).2.2.2
    have hps : ps ≠ [] := by
      rintro rfl
      rw [hl] at hlk
      exact hne (List.eq_nil_of_length_eq_zero hlk.symm)
    simp only [nameOk, Bool.and_eq_true, Bool.not_eq_true'] at hn
    refine we_of (pe_callK0 (CX := CX0) (E := E0) (sp := spOf g.K [] (Φ i)) (by rw [k.hP, k.hw, k.hK, k.hm, k.hb]; exact g4) k.room (gl_ok k hg) (by rw [k.hm]; exact g1) (by rw [k.hK]; exact g2) (by rw [k.hK]; exact kb_of hps (g5 ks hkw)) pass0 pk_wk hkn hn.1.1) ?_
    refine h F H σ ρ ad rs _ _ s e1 fun vs H1 F1 s1 x1 w1 => ?_
    have gK : g.K = c.K := by rw [← k.hK]; exact hK
    have dv := w1.vals e2
    obtain ⟨p1, p2⟩ := picks_get e3
    have hvl : vs.length = ks.length := by rw [w1.len, evalAs_len t e1, hal, hlk]
    show spOf g.K [] (Φ i) (kV' ps ks [] vs) H1 Q E0
    rw [gK]
    have ev : kV' ps ks [] vs = ps.map fun y => vs.getD (ks.idxOf y) .non := by
      unfold kV'
      rw [if_pos ⟨rfl, hvl⟩]
    rw [ev]
    refine ⟨F1, es, _, [], fun _ => 0, by rw [List.length_map, p1, List.length_map], s1.ex, fun j d hd hj => ?_, (fun j hj => nomatch hj), (fun j1 j2 h1 => nomatch h1), e4, fun v H' F' gg ho oo rv => ?_⟩
    · have hjl : j < ps.length := by
        have := (List.getElem?_eq_some_iff.mp hd).1
        rw [p1, List.length_map] at this
        exact this
      have hpj : (ps.map fun y => ks.idxOf y)[j]? = some (ks.idxOf ps[j]) := by
        rw [List.getElem?_map, List.getElem?_eq_getElem hjl]; rfl
      obtain ⟨z1, d2, z2⟩ := p2 j _ hpj
      rw [hd, z2] at z1
      cases z1
      obtain ⟨v, y1, y2⟩ := dps_get dv _ z2
      refine ⟨v, ?_, y2⟩
      rw [List.getElem?_map, List.getElem?_eq_getElem hjl]
      simp only [Option.map_some]
      rw [List.getD_eq_getElem?_getD, y1]
      rfl
    · have g2 : New F1 H1 F' H' := ⟨gg.ff, gg.fh, fun a o h _ => gg.fr a o h (fun ⟨_, hi, _⟩ => nomatch hi), fun a h => (gg.nw a h).imp id (fun z => z.imp id fun ⟨_, hi, _⟩ => nomatch hi), gg.dm⟩
      exact q v H' F' (s1.new g2) (x1.trans gg.ff) (rv.rr s1)
  · cases ev
end
end Vm
set_option Elab.async false
set_option linter.all false
set_option maxRecDepth 100000
set_option maxHeartbeats 4000000
/-! VmSB: what comes of a text's term means what the term means: expressions. -/
namespace Vm
open PySem L2 Evl
theorem mem_of {α : Type} [BEq α] [LawfulBEq α] {l : List α} {x : α} (h : l.contains x = true) : x ∈ l := by simpa using h
theorem nmem_of {α : Type} [BEq α] [LawfulBEq α] {l : List α} {x : α} (h : ¬ l.contains x = true) : x ∉ l := by simpa using h
theorem ix_ok {cp : Cp} {x : Str} {i : Nat} (h : cp.ix x = some i) : cp.N[i]? = some x ∧ i = cp.N.idxOf x ∧ x ∈ cp.N := by
  unfold Cp.ix at h
  split at h
  · rename_i hc
    cases h
    have := mem_of hc
    refine ⟨?_, rfl, this⟩
    rw [List.getElem?_eq_getElem (List.idxOf_lt_length_of_mem this)]
    simp
  · cases h
theorem vis_ok {sc : Scope} {x : Str} (h : visB sc x = true) : Vis sc x := by
  unfold visB at h
  unfold Vis
  split at h
  · rename_i e; exact .inl e
  · rename_i e; exact .inr (.inl e)
  · rename_i e; exact .inr (.inr e)
  · cases h
theorem bop_ok {o : Operator} {f : BOp} (h : bopOf o = some f) : o = oOf f := by
  cases o <;> simp [bopOf] at h <;> subst h <;> rfl
theorem cop_ok {o : CmpOp} {f : COp} (h : copOf o = some f) : o = cOf f := by
  cases o <;> simp [copOf] at h <;> subst h <;> rfl
theorem fn_cases {x : Str} {f : Fn} (h : fnOf x = some f) : x ∈ bnames ∧ ((∃ id, fOf f = some (.builtin id) ∧ bootBuiltins x = some (.builtin id)) ∨ ∃ id, fOf f = some (.type id) ∧ bootBuiltins x = some (.type id)) := by
  unfold fnOf at h
  split at h
  · rename_i e; subst e; cases h; exact ⟨by decide +kernel, .inl ⟨_, rfl, by decide +kernel⟩⟩
  split at h
  · rename_i e; subst e; cases h; exact ⟨by decide +kernel, .inl ⟨_, rfl, by decide +kernel⟩⟩
  split at h
  · rename_i e; subst e; cases h; exact ⟨by decide +kernel, .inr ⟨_, rfl, by decide +kernel⟩⟩
  split at h
  · rename_i e; subst e; cases h; exact ⟨by decide +kernel, .inr ⟨_, rfl, by decide +kernel⟩⟩
  split at h
  · rename_i e; subst e; cases h; exact ⟨by decide +kernel, .inr ⟨_, rfl, by decide +kernel⟩⟩
  split at h
  · rename_i e; subst e; cases h; exact ⟨by decide +kernel, .inr ⟨_, rfl, by decide +kernel⟩⟩
  split at h
  · rename_i e; subst e; cases h; exact ⟨by decide +kernel, .inl ⟨_, rfl, by decide +kernel⟩⟩
  split at h
  · rename_i e; subst e; cases h; exact ⟨by decide +kernel, .inl ⟨_, rfl, by decide +kernel⟩⟩
  split at h
  · rename_i e; subst e; cases h; exact ⟨by decide +kernel, .inl ⟨_, rfl, by decide +kernel⟩⟩
  split at h
  · rename_i e; subst e; cases h; exact ⟨by decide +kernel, .inl ⟨_, rfl, by decide +kernel⟩⟩
  split at h
  · rename_i e; subst e; cases h; exact ⟨by decide +kernel, .inl ⟨_, rfl, by decide +kernel⟩⟩
  · cases h
theorem dname_ok {cp : Cp} {sc : Scope} {e : Expr} {i : Nat} (h : dname cp sc e = some i) : ∃ x p, e = .Name x p ∧ cp.ix x = some i ∧ visB sc x = true ∧ nameOk x = true ∧ cp.M.contains i = true := by
  unfold dname at h
  split at h
  · split at h
    · rename_i ei
      split at h
      · rename_i hc
        cases h
        simp only [Bool.and_eq_true] at hc
        exact ⟨_, _, rfl, ei, hc.1.1.2, hc.1.2, hc.2⟩
      · cases h
    · cases h
  · cases h

/-- where a piece stands, and what is known of the defs -/
structure Okk (g : Gl0) (lv : Nat) (Φ : Fs) (cp : Cp) (c : Fx) (X : Cx) (sc : Scope) (dl : Bool) : Prop where
  k : Cok g lv cp.N sc dl X
  K : X.K = c.K
  M : c.M = cp.M
  mp : c.mps = cp.mps
  fu : Funs g lv Φ cp.fns cp.kwl
def isBool : Expr → Bool
  | .BoolOp .. => true
  | _ => false
structure PP (g : Gl0) (lv : Nat) (Φ : Fs) (cp : Cp) (n : Nat) : Prop where
  e : ∀ c X sc dl b e t, Okk g lv Φ cp c X sc dl → compE cp n sc b e = some t → SEx c Φ X cp.N sc dl e t
  a : ∀ c X sc dl b es t, Okk g lv Φ cp c X sc dl → compAs cp n sc b es = some t → SA c Φ X es t ∧ asLen t = es.length ∧ es.all noStar = true ∧ ∀ kws : List Keyword, kws.map (·.value) = es → SK c Φ X kws t
  o : ∀ c X sc dl e t, Okk g lv Φ cp c X sc dl → compO cp n sc e = some t → SO c Φ X e t
  t : ∀ c X sc dl e t, Okk g lv Φ cp c X sc dl → compT cp n sc e = some t → ST c Φ X e t ∧ (isBool e = true → SW c Φ X e t)
  i : ∀ c X sc dl tg e t, Okk g lv Φ cp c X sc dl → compI cp n sc tg e = some t → SI c Φ X tg e t
section
variable {g : Gl0} {lv : Nat} {Φ : Fs} {cp : Cp} {c : Fx} {X : Cx} {sc : Scope} {dl : Bool} {n : Nat}
theorem Okk.bi (o : Okk g lv Φ cp c X sc dl) {x : Str} (h : x ∈ bnames) : X.mg x = none := by
  rw [o.k.hm]
  exact o.fu.bt x h
theorem Okk.mem (o : Okk g lv Φ cp c X sc dl) {i : Nat} (h : cp.M.contains i = true) : i ∈ c.M := by
  rw [o.M]; exact mem_of h
theorem Okk.nmem (o : Okk g lv Φ cp c X sc dl) {i : Nat} (h : ¬ cp.M.contains i = true) : i ∉ c.M := by
  rw [o.M]; exact nmem_of h
theorem fnIx_ok {f : Str} {k : Nat} {m : List Nat} {ps : List Str} (h : fnIx cp f = some (k, m, ps)) : cp.fns[k]? = some (f, m, ps) := by
  unfold fnIx at h
  dsimp only at h
  split at h
  · rename_i nm m' ps' e
    cases h
    have hl := (List.getElem?_eq_some_iff.mp e).1
    have hm : f ∈ cp.fns.map (·.1) := List.idxOf_lt_length_iff.mp (by rw [List.length_map]; exact hl)
    have e2 := List.getElem_idxOf (xs := cp.fns.map (·.1)) (x := f) (by rw [List.length_map]; exact hl)
    rw [List.getElem_map] at e2
    rw [e]
    have e3 := (List.getElem?_eq_some_iff.mp e).2
    rw [e3] at e2
    rw [show nm = f from e2]
  · cases h
theorem sg_of {tg : Expr} {gg : G} (o : Okk g lv Φ cp c X sc dl) (h : compG cp sc dl tg = some gg) : SG c X tg gg ∧ tgts gg = (ownOf cp tg).map (·.2) := by
  unfold compG at h
  split at h
  · split at h
    · rename_i ei
      split at h
      · rename_i hc
        cases h
        obtain ⟨h1, h2, h3⟩ := ix_ok ei
        rw [Bool.and_eq_true, Bool.not_eq_true'] at hc
        refine ⟨sg_name o.k h1 hc.1 (o.nmem (by rw [hc.2]; exact Bool.false_ne_true)), ?_⟩
        unfold ownOf
        simp only [List.map_cons, List.map_nil, tgts]
        rw [h2]
      · cases h
    · cases h
  · split at h
    · rename_i ex
      split at h
      · rename_i xs _ hc
        cases h
        rw [List.all_eq_true] at hc
        refine ⟨sg_tup o.k ex (fun x hx => ?_) o.K, ?_⟩
        · have q := hc x hx
          rw [Bool.and_eq_true] at q
          refine ⟨q.1, ?_⟩
          have q2 := q.2
          split at q2
          · rename_i ei
            obtain ⟨h1, h2, h3⟩ := ix_ok ei
            rw [Bool.not_eq_true'] at q2
            exact ⟨h3, by rw [← h2]; exact o.nmem (by rw [q2]; exact Bool.false_ne_true)⟩
          · cases q2
        · unfold ownOf
          dsimp only
          rw [ex]
          simp [tgts]
      · cases h
    · cases h
  · cases h
theorem se_fn (o : Okk g lv Φ cp c X sc dl) {f : Fn} {x : Str} {a : Expr} {es : List Expr} {t : As} {p pos : Pos} (hf : fnOf x = some f) (hg : glB sc x = true) (hn : nameOk x = true) (hs : (a :: es).all noStar = true) (h : SA c Φ X (a :: es) t) : SE c Φ X (.Call (.Name x p) (a :: es) [] pos) (.blt f t) := by
  obtain ⟨hb, hc⟩ := fn_cases hf
  rw [List.all_cons, Bool.and_eq_true] at hs
  rcases hc with ⟨id, h1, h2⟩ | ⟨id, h1, h2⟩
  · exact se_fnB o.k o.K h1 h2 (o.bi hb) hg hn hs.1 hs.2 h
  · exact se_fnT o.k o.K h1 h2 (o.bi hb) hg hn hs.1 hs.2 h
theorem step_a (IH : PP g lv Φ cp n) (o : Okk g lv Φ cp c X sc dl) {b : Bool} {es : List Expr} {t : As} (h : compAs cp (n + 1) sc b es = some t) : SA c Φ X es t ∧ asLen t = es.length ∧ es.all noStar = true ∧ ∀ kws : List Keyword, kws.map (·.value) = es → SK c Φ X kws t := by
  cases es with
  | nil =>
    simp only [compAs] at h
    cases h
    refine ⟨sa_nil, rfl, rfl, fun kws e => ?_⟩
    obtain rfl := List.map_eq_nil_iff.mp e
    exact sk_nil
  | cons e r =>
    simp only [compAs] at h
    obtain ⟨p, e1, h⟩ := bindE h
    obtain ⟨q, e2, h⟩ := bindE h
    split at h
    · rename_i hs
      cases h
      have se := (IH.e c X sc dl b _ _ o e1).se
      obtain ⟨a1, a2, a3, a4⟩ := IH.a c X sc dl b _ _ o e2
      refine ⟨sa_cons hs se a1, by simp [asLen, a2], by rw [List.all_cons, hs, a3]; rfl, fun kws e => ?_⟩
      cases kws with
      | nil => cases e
      | cons kw kws =>
        cases kw with
        | mk nm v kp =>
          simp only [List.map_cons, List.cons.injEq] at e
          obtain ⟨rfl, rfl⟩ := e
          exact sk_cons se (a4 kws rfl)
    · cases h
theorem step_o (IH : PP g lv Φ cp n) (o : Okk g lv Φ cp c X sc dl) {e : Option Expr} {t : O} (h : compO cp (n + 1) sc e = some t) : SO c Φ X e t := by
  cases e with
  | none =>
    simp only [compO] at h
    cases h
    exact so_none
  | some e =>
    simp only [compO] at h
    obtain ⟨p, e1, rfl⟩ := Option.map_eq_some_iff.mp h
    exact so_some (IH.e c X sc dl false _ _ o e1).se
end
end Vm
set_option Elab.async false
set_option linter.all false
set_option maxRecDepth 100000
set_option maxHeartbeats 4000000
/-! VmSC: expressions, the step. -/
namespace Vm
open PySem L2 Evl
section
variable {g : Gl0} {lv : Nat} {Φ : Fs} {cp : Cp} {c : Fx} {X : Cx} {sc : Scope} {dl : Bool} {n : Nat}
theorem ty_mem {t : Str} {ty : Ty} (h : tyOf t = some ty) : t ∈ bnames := by
  unfold tyOf at h
  split at h
  · rename_i e; subst e; decide
  split at h
  · rename_i e; subst e; decide
  split at h
  · rename_i e; subst e; decide
  split at h
  · rename_i e; subst e; decide
  split at h
  · rename_i e; subst e; decide
  · cases h
theorem len_of {x : Str} (h : fnOf x = some .len) : x = "len" := by
  unfold fnOf at h
  split at h
  · assumption
  split at h
  · cases h
  split at h
  · cases h
  split at h
  · cases h
  split at h
  · cases h
  split at h
  · cases h
  split at h
  · cases h
  split at h
  · cases h
  split at h
  · cases h
  split at h
  · cases h
  split at h
  · cases h
  · cases h
/-- the same place within a block -/
theorem Okk.blk {scope : Scope} {X' : Cx} {c' : Fx} (o : Okk g lv Φ cp c X sc dl) (k : Cok g lv cp.N (L2.relS scope sc) false X') (h1 : X'.K = X.K) (h2 : c'.K = c.K) (h3 : c'.M = c.M) (h4 : c'.mps = c.mps) : Okk g lv Φ cp c' X' (relS' scope sc) false :=
  ⟨k, by rw [h1, h2, o.K], by rw [h3, o.M], by rw [h4, o.mp], o.fu⟩
theorem step_lc (IH : PP g lv Φ cp n) (o : Okk g lv Φ cp c X sc dl) {elt tg it : Expr} {ifs : List Expr} {scope : Scope} {p : Pos} {gg : G} {ti : Vm.It} {tt : T} {te : E} (e1 : compG cp (relS' scope sc) false tg = some gg) (e2 : compI cp n sc tg it = some ti)
    (e3 : (ifs = [] ∧ tt = .yes) ∨ ∃ x, ifs = [x] ∧ compT cp n (relS' scope sc) x = some tt) (e4 : compE cp n (relS' scope sc) false elt = some te) (hb : L2.blkC cp.N sc scope (ownOf cp tg) = true) (hm : (ownOf cp tg).all (fun p => !cp.M.contains p.2) = true) (hs : noSet it = true) :
    SEx c Φ X cp.N sc dl (.ListComp elt [⟨tg, it, ifs, 0⟩] scope p) (.lc ((ownOf cp tg).map (·.2)) gg ti tt te) := by
  have hM : ∀ q ∈ ownOf cp tg, q.2 ∉ c.M := fun q hq => by
    rw [List.all_eq_true] at hm
    have := hm q hq
    rw [Bool.not_eq_true'] at this
    exact o.nmem (by rw [this]; exact Bool.false_ne_true)
  have hg : ∀ X' c', Cok g lv cp.N (L2.relS scope sc) false X' → X'.K = X.K → c'.K = c.K → c'.M = c.M → c'.mps = c.mps → SG c' X' tg gg := fun X' c' k h1 h2 h3 h4 => (sg_of (o.blk k h1 h2 h3 h4) e1).1
  have he : ∀ X' c', Cok g lv cp.N (L2.relS scope sc) false X' → X'.K = X.K → c'.K = c.K → c'.M = c.M → c'.mps = c.mps → SE c' Φ X' elt te := fun X' c' k h1 h2 h3 h4 => (IH.e c' X' _ _ _ _ _ (o.blk k h1 h2 h3 h4) e4).se
  have ht : tgts gg = (ownOf cp tg).map (·.2) := (sg_of (o.blk (o.k.blk X.s_0 (fun _ => none) 0 [] []) rfl rfl rfl rfl) e1).2
  have hi := IH.i c X sc dl tg it ti o e2
  rcases e3 with ⟨rfl, rfl⟩ | ⟨x, rfl, e3⟩
  · refine se_lc o.k rfl hb hM (fun j hj => by rw [← ht]; exact hj) hs hi hg (tr := tYes) (fun _ _ _ _ _ => pts_nil) (fun c' _ _ _ F H σ ρ ad b ρ' Q s ev q => ?_) he
    simp only [evalT] at ev
    cases ev
    exact q H F s (Ex.refl _)
  · refine se_lc o.k rfl hb hM (fun j hj => by rw [← ht]; exact hj) hs hi hg (tr := tB X scope x) (fun s H C cl fp => pts_one (pt_tB s H C cl fp)) (fun c' h2 h3 h4 F H σ ρ ad b ρ' Q s ev q => ?_) he
    intro s0 H0 C cl fp
    exact (IH.t c' _ _ _ _ _ (o.blk (o.k.blk s0 H0 C cl fp) rfl h2 h3 h4) e3).1 F H σ ρ ad b ρ' Q s ev q
/-- a comparison, as a value and as a test -/
theorem step_cmp (IH : PP g lv Φ cp n) (o : Okk g lv Φ cp c X sc dl) {b : Bool} {a : Expr} {ops : List CmpOp} {ys : List Expr} {p : Pos} {t : E} (h : compE cp (n + 1) sc b (.Compare a ops ys p) = some t) : SE c Φ X (.Compare a ops ys p) t ∧ ST c Φ X (.Compare a ops ys p) (.ofE t) := by
  unfold compE at h
  split at h
  case h_9 =>
    rename_i he
    cases he
    obtain ⟨q, e1, rfl⟩ := Option.map_eq_some_iff.mp h
    have se := (IH.e c X sc dl false _ _ o e1).se
    exact ⟨se_isn o.K false se, st_isn o.K false se⟩
  case h_10 =>
    rename_i he
    cases he
    obtain ⟨q, e1, rfl⟩ := Option.map_eq_some_iff.mp h
    have se := (IH.e c X sc dl false _ _ o e1).se
    exact ⟨se_isn o.K true se, st_isn o.K true se⟩
  case h_11 =>
    rename_i he
    cases he
    obtain ⟨f, e1, h⟩ := bindE h
    rw [cop_ok e1]
    split at h
    · rename_i i ed
      obtain ⟨x, p2, ey, h1, h2, h3, h4⟩ := dname_ok ed
      obtain ⟨pp, e2, h⟩ := bindE h
      have se := (IH.e c X sc dl false _ _ o e2).se
      rw [ey]
      split at h
      · cases h
        exact ⟨se_din o.k false se (ix_ok h1).1 (vis_ok h2) h3 (o.mem h4), st_din o.k false se (ix_ok h1).1 (vis_ok h2) h3 (o.mem h4)⟩
      · cases h
        exact ⟨se_din o.k true se (ix_ok h1).1 (vis_ok h2) h3 (o.mem h4), st_din o.k true se (ix_ok h1).1 (vis_ok h2) h3 (o.mem h4)⟩
      · cases h
    · obtain ⟨pp, e2, h⟩ := bindE h
      obtain ⟨qq, e3, h⟩ := bindE h
      split at h
      · rename_i hs
        cases h
        have se := (IH.e c X sc dl true _ _ o e2).se
        have se2 := (IH.e c X sc dl true _ _ o e3).se
        exact ⟨se_cmp o.k o.K f se se2 hs, st_cmp o.k o.K f se se2 hs⟩
      · cases h
  case h_12 =>
    rename_i he
    cases he
    obtain ⟨f, e1, h⟩ := bindE h
    obtain ⟨f2, e2, h⟩ := bindE h
    rw [cop_ok e1, cop_ok e2]
    obtain ⟨pp, e3, h⟩ := bindE h
    obtain ⟨qq, e4, h⟩ := bindE h
    obtain ⟨rr, e5, h⟩ := bindE h
    split at h
    · rename_i hs
      cases h
      rw [Bool.and_eq_true] at hs
      have s1 := (IH.e c X sc dl false _ _ o e3).se
      have s2 := (IH.e c X sc dl false _ _ o e4).se
      have s3 := (IH.e c X sc dl true _ _ o e5).se
      exact ⟨se_chain o.k o.K f f2 s1 s2 s3 hs.1 hs.2, st_chain o.k o.K f f2 s1 s2 s3 hs.1 hs.2⟩
    · cases h
  case h_25 => cases h
  all_goals (rename_i he; cases he)
theorem step_e (IH : PP g lv Φ cp n) (o : Okk g lv Φ cp c X sc dl) {b : Bool} {e : Expr} {t : E} (h0 : compE cp (n + 1) sc b e = some t) : SEx c Φ X cp.N sc dl e t := by
  have h := h0
  unfold compE at h
  split at h
  case h_1 =>
    refine SEx.of o.k rfl ?_
    split at h
    · rename_i ei
      split at h
      · rename_i hv
        rw [Bool.and_eq_true] at hv
        split at h
        · rename_i hm
          split at h
          · cases h
            exact se_mvar o.k (ix_ok ei).1 (vis_ok hv.1) hv.2 (o.mem hm)
          · split at h
            · cases h
            · rename_i hmp
              cases h
              exact se_mv o.k (ix_ok ei).1 (vis_ok hv.1) hv.2 (o.mem hm) (by rw [o.mp]; exact nmem_of hmp)
        · rename_i hm
          cases h
          exact se_var o.k (ix_ok ei).1 (vis_ok hv.1) hv.2 (o.nmem hm)
      · cases h
    · cases h
  case h_2 =>
    refine SEx.of o.k rfl ?_
    split at h
    · cases h; exact se_non
    · cases h; exact se_bl
    · cases h; exact se_int
    · cases h; exact se_str
    · cases h
  case h_3 =>
    refine SEx.of o.k rfl ?_
    obtain ⟨f, e1, h⟩ := bindE h
    obtain ⟨p, e2, h⟩ := bindE h
    obtain ⟨q, e3, h⟩ := bindE h
    cases h
    cases bop_ok e1
    exact se_bin o.K f (IH.e c X sc dl true _ _ o e2).se (IH.e c X sc dl true _ _ o e3).se
  case h_4 =>
    refine SEx.of o.k rfl ?_
    obtain ⟨q, e1, rfl⟩ := Option.map_eq_some_iff.mp h
    exact se_neg (IH.e c X sc dl false _ _ o e1).se
  case h_5 =>
    refine SEx.of o.k rfl ?_
    obtain ⟨q, e1, rfl⟩ := Option.map_eq_some_iff.mp h
    exact se_not (IH.e c X sc dl false _ _ o e1).se
  case h_6 =>
    exact SEx.of o.k rfl (se_one (IH.e c X sc dl false _ _ o h).se)
  case h_7 =>
    rename_i r _ hr
    refine SEx.of o.k rfl ?_
    obtain ⟨p, e1, h⟩ := bindE h
    obtain ⟨q, e2, h⟩ := bindE h
    cases h
    cases r with
    | nil => exact (hr rfl).elim
    | cons y r => exact se_and (IH.e c X sc dl false _ _ o e1).se (IH.e c X sc dl false _ _ o e2).se
  case h_8 =>
    rename_i r _ hr
    refine SEx.of o.k rfl ?_
    obtain ⟨p, e1, h⟩ := bindE h
    obtain ⟨q, e2, h⟩ := bindE h
    cases h
    cases r with
    | nil => exact (hr rfl).elim
    | cons y r => exact se_or (IH.e c X sc dl false _ _ o e1).se (IH.e c X sc dl false _ _ o e2).se
  case h_9 => exact SEx.of o.k rfl (step_cmp IH o h0).1
  case h_10 => exact SEx.of o.k rfl (step_cmp IH o h0).1
  case h_11 => exact SEx.of o.k rfl (step_cmp IH o h0).1
  case h_12 => exact SEx.of o.k rfl (step_cmp IH o h0).1
  case h_13 =>
    refine SEx.of o.k rfl ?_
    obtain ⟨k, e1, h⟩ := bindE h
    obtain ⟨p, e2, h⟩ := bindE h
    obtain ⟨q, e3, h⟩ := bindE h
    cases h
    exact se_ife (IH.t c X sc dl _ _ o e1).1 (IH.e c X sc dl false _ _ o e2).se (IH.e c X sc dl false _ _ o e3).se
  case h_14 =>
    refine SEx.of o.k rfl ?_
    obtain ⟨q, e1, rfl⟩ := Option.map_eq_some_iff.mp h
    exact se_tup (IH.a c X sc dl false _ _ o e1).1
  case h_15 =>
    refine SEx.of o.k rfl ?_
    obtain ⟨q, e1, rfl⟩ := Option.map_eq_some_iff.mp h
    exact se_lst (IH.a c X sc dl false _ _ o e1).1
  case h_16 =>
    refine SEx.of o.k rfl ?_
    cases h
    exact se_dict0
  case h_17 =>
    refine SEx.of o.k rfl ?_
    obtain ⟨k, e1, h⟩ := bindE h
    obtain ⟨p, e2, h⟩ := bindE h
    obtain ⟨q, e3, h⟩ := bindE h
    cases h
    exact se_sl o.K (IH.e c X sc dl true _ _ o e1).se (IH.o c X sc dl _ _ o e2) (IH.o c X sc dl _ _ o e3)
  case h_18 =>
    refine SEx.of o.k rfl ?_
    obtain ⟨p, e2, h⟩ := bindE h
    obtain ⟨q, e3, h⟩ := bindE h
    split at h
    · rename_i hs
      cases h
      exact se_ix o.K (IH.e c X sc dl true _ _ o e2).se (IH.e c X sc dl false _ _ o e3).se hs
    · cases h
  case h_19 =>
    refine SEx.of o.k rfl ?_
    split at h
    case isFalse => cases h
    rename_i hgn
    rw [Bool.and_eq_true] at hgn
    split at h
    · rename_i hi
      subst hi
      split at h
      · obtain ⟨ty, e1, h⟩ := bindE h
        obtain ⟨p, e2, h⟩ := bindE h
        split at h
        · rename_i hc
          cases h
          simp only [Bool.and_eq_true] at hc
          have hb : X.mg "isinstance" = none := o.bi (by decide)
          exact se_isi o.k o.K e1 hgn.1 hb hc.1.1 (o.bi (ty_mem e1)) hc.1.2 hc.2 (IH.e c X sc dl true _ _ o e2).se
        · cases h
      · cases h
    · split at h
      · rename_i fn hf
        split at h
        · rename_i s sp x xp
          split at h
          · rename_i hs
            subst hs
            obtain ⟨p, e2, h⟩ := bindE h
            split at h
            · rename_i hc
              cases h
              rw [Bool.and_eq_true] at hc
              have hx := len_of hf
              have hfn : _ = Fn.len := rfl
              rw [hx] at hgn ⊢
              exact se_lenset o.k o.K hgn.1 (o.bi (by decide)) hc.1 (o.bi (by decide)) hc.2 (IH.e c X sc dl true _ _ o e2).se
            · cases h
          · obtain ⟨p, e2, h⟩ := bindE h
            cases h
            obtain ⟨a1, a2, a3, _⟩ := IH.a c X sc dl true _ _ o e2
            exact se_fn o hf hgn.1 hgn.2 a3 a1
        · obtain ⟨p, e2, h⟩ := bindE h
          cases h
          obtain ⟨a1, a2, a3, _⟩ := IH.a c X sc dl true _ _ o e2
          exact se_fn o hf hgn.1 hgn.2 a3 a1
      · obtain ⟨⟨k, m, ps⟩, e1, h⟩ := bindE h
        obtain ⟨q, e2, h⟩ := bindE h
        cases h
        obtain ⟨a1, a2, a3, _⟩ := IH.a c X sc dl true _ _ o e2
        rw [List.all_cons, Bool.and_eq_true] at a3
        exact se_call o.k o.K o.fu (fnIx_ok e1) hgn.1 hgn.2 a3.1 a3.2 a1
  case h_20 =>
    refine SEx.of o.k rfl ?_
    split at h
    · rename_i hc
      simp only [Bool.and_eq_true, decide_eq_true_eq] at hc
      obtain ⟨⟨⟨⟨⟨rfl, rfl⟩, rfl⟩, h1⟩, h2⟩, h3⟩ := hc
      obtain ⟨q, e1, rfl⟩ := Option.map_eq_some_iff.mp h
      exact se_sortlen o.k o.K h1 (o.bi (by decide)) h2 (o.bi (by decide)) h3 (IH.e c X sc dl true _ _ o e1).se
    · cases h
  case h_21 =>
    refine SEx.of o.k rfl ?_
    rename_i kws _
    split at h
    case isFalse => cases h
    rename_i hgn
    rw [Bool.and_eq_true] at hgn
    obtain ⟨⟨k, m, ps⟩, e1, h⟩ := bindE h
    obtain ⟨ks, e2, h⟩ := bindE h
    obtain ⟨as, e3, h⟩ := bindE h
    split at h
    · rename_i hc
      cases h
      simp only [Bool.and_eq_true, decide_eq_true_eq, List.all_eq_true, List.isEmpty_iff, Bool.not_eq_true', List.isEmpty_eq_false_iff] at hc
      obtain ⟨⟨⟨⟨rfl, h1⟩, h2⟩, h3⟩, h4⟩ := hc
      obtain ⟨a1, a2, a3, a4⟩ := IH.a c X sc dl false _ _ o e3
      rw [List.length_map] at a2
      exact se_callk o.k o.K o.fu (fnIx_ok e1) hgn.1 hgn.2 e2 (mem_of h4) h2 (fun y hy => mem_of (h1 y hy)) h3 a2 (a4 _ rfl)
    · cases h
  case h_22 =>
    refine SEx.of o.k rfl ?_
    split at h
    · rename_i ei
      split at h
      · rename_i hc
        cases h
        simp only [Bool.and_eq_true, decide_eq_true_eq] at hc
        obtain ⟨⟨⟨⟨⟨rfl, h1⟩, h2⟩, h3⟩, h4⟩, h5⟩ := hc
        exact se_pop o.k o.K (ix_ok ei).1 (vis_ok h1) h2 (o.mem h3) h5
      · cases h
    · cases h
  case h_23 =>
    refine SEx.of o.k rfl ?_
    split at h
    · rename_i ei
      split at h
      · rename_i hc
        simp only [Bool.and_eq_true] at hc
        obtain ⟨⟨⟨h1, h2⟩, h3⟩, h4⟩ := hc
        split at h
        · rename_i hd
          simp only [Bool.and_eq_true, decide_eq_true_eq] at hd
          obtain ⟨⟨rfl, h5⟩, h6⟩ := hd
          obtain ⟨q, e1, rfl⟩ := Option.map_eq_some_iff.mp h
          exact se_popAt o.k o.K (ix_ok ei).1 (vis_ok h1) h2 (o.mem h5) h3 h4 (IH.e c X sc dl false _ _ o e1).se
        · split at h
          · rename_i hd
            simp only [Bool.and_eq_true, decide_eq_true_eq, Bool.not_eq_true'] at hd
            obtain ⟨rfl, h5⟩ := hd
            obtain ⟨q, e1, rfl⟩ := Option.map_eq_some_iff.mp h
            exact se_index o.k o.K (ix_ok ei).1 (vis_ok h1) h2 (o.nmem (by rw [h5]; exact Bool.false_ne_true)) h3 h4 (IH.e c X sc dl false _ _ o e1).se
          · cases h
      · cases h
    · cases h
  case h_24 =>
    obtain ⟨gg, e1, h⟩ := bindE h
    obtain ⟨ti, e2, h⟩ := bindE h
    obtain ⟨tt, e3, h⟩ := bindE h
    obtain ⟨te, e4, h⟩ := bindE h
    split at h
    · rename_i hc
      cases h
      simp only [Bool.and_eq_true] at hc
      refine step_lc IH o e1 e2 ?_ e4 hc.1.1 hc.1.2 hc.2
      split at e3
      · cases e3; exact .inl ⟨rfl, rfl⟩
      · exact .inr ⟨_, rfl, e3⟩
      · cases e3
    · cases h
  case h_25 => cases h
end
end Vm
set_option Elab.async false
set_option linter.all false
set_option maxRecDepth 100000
set_option maxHeartbeats 4000000
/-! VmSD: tests, what is walked; all expressions; statements, the step; all statements. -/
namespace Vm
open PySem L2 Evl
section
variable {g : Gl0} {lv : Nat} {Φ : Fs} {cp : Cp} {c : Fx} {X : Cx} {sc : Scope} {dl : Bool} {n : Nat}
theorem step_t (IH0 : ∀ m, m < n → PP g lv Φ cp m) (IH : PP g lv Φ cp n) (o : Okk g lv Φ cp c X sc dl) {e : Expr} {t : T} (h : compT cp (n + 1) sc e = some t) : ST c Φ X e t ∧ (isBool e = true → SW c Φ X e t) := by
  unfold compT at h
  split at h
  case h_1 =>
    obtain ⟨q, e1, rfl⟩ := Option.map_eq_some_iff.mp h
    exact ⟨st_not (IH.t c X sc dl _ _ o e1).1, fun z => nomatch z⟩
  case h_2 =>
    have st := (IH.t c X sc dl _ _ o h).1
    exact ⟨(sw_one st).st, fun _ => sw_one st⟩
  case h_3 =>
    rename_i r _ hr
    obtain ⟨p, e1, h⟩ := bindE h
    obtain ⟨q, e2, h⟩ := bindE h
    cases h
    cases r with
    | nil => exact (hr rfl).elim
    | cons y r =>
      have sw := sw_and (IH.t c X sc dl _ _ o e1).1 ((IH.t c X sc dl _ _ o e2).2 rfl)
      exact ⟨sw.st, fun _ => sw⟩
  case h_4 =>
    rename_i r _ hr
    obtain ⟨p, e1, h⟩ := bindE h
    obtain ⟨q, e2, h⟩ := bindE h
    cases h
    cases r with
    | nil => exact (hr rfl).elim
    | cons y r =>
      have sw := sw_or (IH.t c X sc dl _ _ o e1).1 ((IH.t c X sc dl _ _ o e2).2 rfl)
      exact ⟨sw.st, fun _ => sw⟩
  case h_5 =>
    obtain ⟨q, e1, rfl⟩ := Option.map_eq_some_iff.mp h
    cases n with
    | zero => simp [compE] at e1
    | succ m => exact ⟨(step_cmp (IH0 m (Nat.lt_succ_self m)) o e1).2, fun z => nomatch z⟩
  case h_6 =>
    split at h
    · rename_i hp
      obtain ⟨q, e1, rfl⟩ := Option.map_eq_some_iff.mp h
      refine ⟨st_plain o.K hp (IH.e c X sc dl true _ _ o e1).se, fun z => ?_⟩
      cases e <;> first | (cases z; done) | (cases hp; done)
    · cases h
theorem step_i (IH : PP g lv Φ cp n) (o : Okk g lv Φ cp c X sc dl) {tg e : Expr} {t : Vm.It} (h : compI cp (n + 1) sc tg e = some t) : SI c Φ X tg e t := by
  unfold compI at h
  split at h
  · rename_i f fp args pos
    split at h
    · rename_i hf
      subst hf
      split at h
      · rename_i hg
        split at h
        · obtain ⟨q, e1, rfl⟩ := Option.map_eq_some_iff.mp h
          obtain ⟨a1, a2, a3, _⟩ := IH.a c X sc dl true _ _ o e1
          simp only [List.all_cons, List.all_nil, Bool.and_true] at a3
          exact si_range1 o.k hg (o.bi (by decide)) a3 a1 a2
        · obtain ⟨q, e1, rfl⟩ := Option.map_eq_some_iff.mp h
          obtain ⟨a1, a2, a3, _⟩ := IH.a c X sc dl true _ _ o e1
          simp only [List.all_cons, List.all_nil, Bool.and_true, Bool.and_eq_true] at a3
          exact si_range2 o.k hg (o.bi (by decide)) a3.1 a3.2 a1 a2
        · cases h
      · cases h
    split at h
    · rename_i hf
      subst hf
      split at h
      · rename_i hg
        rw [Bool.and_eq_true] at hg
        split at h
        · split at h
          · rename_i hs
            obtain ⟨q, e1, rfl⟩ := Option.map_eq_some_iff.mp h
            exact si_enum o.k o.K hg.2 hg.1 (o.bi (by decide)) hs (IH.e c X sc dl false _ _ o e1).se
          · cases h
        · cases h
      · cases h
    split at h
    · rename_i hf
      subst hf
      split at h
      · rename_i hg
        rw [Bool.and_eq_true] at hg
        split at h
        · obtain ⟨q, e1, rfl⟩ := Option.map_eq_some_iff.mp h
          obtain ⟨a1, a2, a3, _⟩ := IH.a c X sc dl false _ _ o e1
          simp only [List.all_cons, List.all_nil, Bool.and_true, Bool.and_eq_true] at a3
          exact si_zip2 o.k o.K hg.2 hg.1 (o.bi (by decide)) a3.1 a3.2 a1 a2
        · obtain ⟨q, e1, rfl⟩ := Option.map_eq_some_iff.mp h
          obtain ⟨a1, a2, a3, _⟩ := IH.a c X sc dl false _ _ o e1
          simp only [List.all_cons, List.all_nil, Bool.and_true, Bool.and_eq_true] at a3
          exact si_zip3 o.k o.K hg.2 hg.1 (o.bi (by decide)) a3.1 a3.2.1 a3.2.2 a1 a2
        · cases h
      · cases h
    split at h
    · rename_i hf
      subst hf
      split at h
      · rename_i hg
        split at h
        · split at h
          · rename_i hs
            obtain ⟨q, e1, rfl⟩ := Option.map_eq_some_iff.mp h
            exact si_rev o.k o.K hg (o.bi (by decide)) hs (IH.e c X sc dl false _ _ o e1).se
          · cases h
        · cases h
      · cases h
    · obtain ⟨q, e1, rfl⟩ := Option.map_eq_some_iff.mp h
      exact si_seq o.K (IH.e c X sc dl false _ _ o e1).se
  · obtain ⟨q, e1, rfl⟩ := Option.map_eq_some_iff.mp h
    exact si_seq o.K (IH.e c X sc dl false _ _ o e1).se
end
theorem all_e (g : Gl0) (lv : Nat) (Φ : Fs) (cp : Cp) (n : Nat) : PP g lv Φ cp n := by
  induction n using Nat.strongRecOn with
  | _ n IH =>
    cases n with
    | zero =>
      refine ⟨fun c X sc dl b e t o h => ?_, fun c X sc dl b e t o h => ?_, fun c X sc dl e t o h => ?_, fun c X sc dl e t o h => ?_, fun c X sc dl tg e t o h => ?_⟩
      · simp [compE] at h
      · simp [compAs] at h
      · simp [compO] at h
      · simp [compT] at h
      · simp [compI] at h
    | succ n =>
      have I := IH n (Nat.lt_succ_self n)
      exact ⟨fun c X sc dl b e t o h => step_e I o h, fun c X sc dl b e t o h => step_a I o h, fun c X sc dl e t o h => step_o I o h, fun c X sc dl e t o h => step_t (fun m hm => IH m (Nat.lt_succ_of_lt hm)) I o h, fun c X sc dl tg e t o h => step_i I o h⟩
section
variable {g : Gl0} {lv : Nat} {Φ : Fs} {cp : Cp} {c : Fx} {X : Cx} {sc : Scope}
structure PS' (g : Gl0) (lv : Nat) (Φ : Fs) (cp : Cp) (n : Nat) : Prop where
  s : ∀ c X sc st t, Okk g lv Φ cp c X sc true → compS cp n sc st = some t → SS c Φ X st t
  b : ∀ c X sc st t, Okk g lv Φ cp c X sc true → compSs cp n sc st = some t → SSs c Φ X st t
theorem loc_loc {x : Str} (h : locB sc x = true) : locL sc true x = true := by
  unfold locB at h
  unfold locL
  split at h
  · rfl
  · rfl
  · cases h
theorem step_s {n : Nat} (IH : PS' g lv Φ cp n) (o : Okk g lv Φ cp c X sc true) {st : Stmt} {t : S} (h : compS cp (n + 1) sc st = some t) : SS c Φ X st t := by
  have P := all_e g lv Φ cp n
  unfold compS at h
  split at h
  case h_1 =>
    split at h
    · rename_i ei
      split at h
      · rename_i hl
        split at h
        · rename_i hm
          split at h
          · cases h
          · rename_i hmp
            obtain ⟨q, e1, rfl⟩ := Option.map_eq_some_iff.mp h
            exact ss_masg o.k (ix_ok ei).1 (loc_loc hl) (o.mem hm) (by rw [o.mp]; exact nmem_of hmp) (P.e c X sc true false _ _ o e1)
        · rename_i hm
          obtain ⟨q, e1, rfl⟩ := Option.map_eq_some_iff.mp h
          exact ss_asgN o.k (ix_ok ei).1 (loc_loc hl) (o.nmem hm) (P.e c X sc true false _ _ o e1)
      · cases h
    · cases h
  case h_2 =>
    obtain ⟨gg, e1, h⟩ := bindE h
    obtain ⟨q, e2, h⟩ := bindE h
    split at h
    · rename_i hp
      cases h
      exact ss_asgT o.k o.K (sg_of o e1).1 hp (P.e c X sc true false _ _ o e2).se
    · cases h
  case h_3 =>
    split at h
    · rename_i ei
      split at h
      · rename_i hc
        simp only [Bool.and_eq_true] at hc
        obtain ⟨⟨⟨⟨h1, h2⟩, h3⟩, h4⟩, h5⟩ := hc
        obtain ⟨p, e1, h⟩ := bindE h
        obtain ⟨q, e2, h⟩ := bindE h
        split at h
        · cases h
          exact ss_dput o.k (ix_ok ei).1 (vis_ok h1) h2 (o.mem h3) h5 (P.e c X sc true false _ _ o e1).se (P.e c X sc true false _ _ o e2).se
        · cases h
          exact ss_setix o.k o.K (ix_ok ei).1 (vis_ok h1) h2 (o.mem h3) h4 h5 (P.e c X sc true false _ _ o e1).se (P.e c X sc true false _ _ o e2).se
      · cases h
    · cases h
  case h_4 =>
    split at h
    · rename_i ei
      split at h
      · rename_i hc
        simp only [Bool.and_eq_true, Bool.not_eq_true'] at hc
        obtain ⟨q, e1, rfl⟩ := Option.map_eq_some_iff.mp h
        exact ss_aug o.k (ix_ok ei).1 (loc_loc hc.1) (o.nmem (by rw [hc.2]; exact Bool.false_ne_true)) (P.e c X sc true false _ _ o e1).se
      · cases h
    · cases h
  case h_5 =>
    split at h
    · rename_i ei
      split at h
      · rename_i ha
        split at h
        · rename_i hc
          simp only [Bool.and_eq_true] at hc
          obtain ⟨⟨⟨⟨⟨h1, h2⟩, h3⟩, h4⟩, h5⟩, h6⟩ := hc
          obtain ⟨q, e1, rfl⟩ := Option.map_eq_some_iff.mp h
          subst ha
          exact ss_append o.k o.K (ix_ok ei).1 (vis_ok h1) h2 (o.mem h3) h5 h6 (P.e c X sc true false _ _ o e1).se
        · cases h
      · obtain ⟨q, e1, rfl⟩ := Option.map_eq_some_iff.mp h
        exact ss_expr o.k rfl (P.e c X sc true false _ _ o e1).se
    · cases h
  case h_6 =>
    split at h
    · rename_i hc
      obtain ⟨q, e1, rfl⟩ := Option.map_eq_some_iff.mp h
      exact ss_expr o.k hc (P.e c X sc true false _ _ o e1).se
    · cases h
  case h_7 =>
    obtain ⟨k, e1, h⟩ := bindE h
    obtain ⟨p, e2, h⟩ := bindE h
    obtain ⟨q, e3, h⟩ := bindE h
    cases h
    exact ss_ite (P.t c X sc true _ _ o e1).1 (IH.b c X sc _ _ o e2) (IH.b c X sc _ _ o e3)
  case h_8 =>
    obtain ⟨gg, e1, h⟩ := bindE h
    obtain ⟨i, e2, h⟩ := bindE h
    obtain ⟨b, e3, h⟩ := bindE h
    split at h
    · rename_i hs
      cases h
      exact ss_loop o.k hs (sg_of o e1).1 (P.i c X sc true _ _ _ o e2) (IH.b c X sc _ _ o e3)
    · cases h
  case h_9 =>
    obtain ⟨k, e1, h⟩ := bindE h
    obtain ⟨b, e3, h⟩ := bindE h
    cases h
    exact ss_whl o.k (P.t c X sc true _ _ o e1).1 (IH.b c X sc _ _ o e3)
  case h_10 =>
    obtain ⟨q, e1, rfl⟩ := Option.map_eq_some_iff.mp h
    exact ss_ret (P.e c X sc true false _ _ o e1).se
  case h_11 => cases h; exact ss_retN
  case h_12 => cases h; exact ss_brk
  case h_13 => cases h; exact ss_cont
  case h_14 => cases h; exact ss_pass
  case h_15 => cases h
theorem all_s (g : Gl0) (lv : Nat) (Φ : Fs) (cp : Cp) (n : Nat) : PS' g lv Φ cp n := by
  induction n with
  | zero =>
    refine ⟨fun c X sc st t o h => ?_, fun c X sc st t o h => ?_⟩
    · simp [compS] at h
    · simp [compSs] at h
  | succ n IH =>
    refine ⟨fun c X sc st t o h => step_s IH o h, fun c X sc st t o h => ?_⟩
    cases st with
    | nil =>
      simp only [compSs] at h
      cases h
      exact sss_nil
    | cons s r =>
      simp only [compSs] at h
      obtain ⟨p, e1, h⟩ := bindE h
      obtain ⟨q, e2, h⟩ := bindE h
      cases h
      exact sss_cons (IH.s c X sc _ _ o e1) (IH.b c X sc _ _ o e2)
end
end Vm
set_option Elab.async false
set_option linter.all false
set_option maxRecDepth 100000
set_option maxHeartbeats 4000000
/-! VmSE: a def keeps the promise that the small language makes for it. -/
namespace Vm
open PySem PySem.Spec PyProof.Rows L2 Evl
theorem Cok.start {P : Program} {w : World} {K : PySem.W.Frag} {mg : Str → Option Value} {base : Heap} {N : List Str} {qual : Str} {scope : Scope} {f : Addr} {cd : Value} {A : Around} {outer : List Env} {s : Shared} {H : Hp} {E : XK} {lv : Nat} (nd : N.Nodup) (hr : Room lv (A.deeper (envOfC qual scope s.heap.objs.size f cd))) :
    Cok ⟨P, w, K, mg, base⟩ lv N scope true (cxOf CX0 P w K mg base N qual scope f cd A outer s H E).nox where
  calm := rfl
  nn := rfl
  nd := nd
  sc := rfl
  room := hr
  hP := rfl
  hw := rfl
  hK := rfl
  hm := rfl
  hb := rfl
  xe := rfl
  fn := fun _ _ => rfl
theorem outs_ok {ρ : Rho} : ∀ {is : List Nat} {ds : List D}, outsOf ρ is = some ds → ds.length = is.length ∧ ∀ (k i : Nat), is[k]? = some i → ∃ d, ds[k]? = some d ∧ ρ[i]? = some (some d)
  | [], ds, h => by
    simp only [outsOf] at h
    cases h
    exact ⟨rfl, fun k i e => by simp at e⟩
  | j :: is, ds, h => by
    simp only [outsOf] at h
    split at h
    · rename_i d ds' e1 e2
      cases h
      obtain ⟨h1, h2⟩ := outs_ok e2
      refine ⟨by simp [h1], fun k i e => ?_⟩
      cases k with
      | zero =>
        simp at e
        subst e
        exact ⟨d, rfl, e1⟩
      | succ k => simpa using h2 k i (by simpa using e)
    · cases h
theorem def_ok {P : Program} {w : World} {K : PySem.W.Frag} {mg : Str → Option Value} {base : Heap} {x qual : Str} {params : Arguments} {body : List Stmt} {scope : Scope} {f : Addr} {fd : FuncData} {cp : Cp} {ps : List Str} {prog : Nat → Option FD} {k n m : Nat} {b : Ss}
    (F : FunD K x qual params body scope [] [] f fd) (S : FnScope cp.N ps scope) (hc : compSs cp m scope body = some b) (hp : prog k = some ⟨ps.length, cp.N.length, cp.M, cp.mps, b⟩) (h1 : ∀ i ∈ cp.mps, i ∈ cp.M ∧ i < ps.length) (h2 : ∀ i ∈ cp.M, i < ps.length → i ∈ cp.mps)
    (fu : Funs ⟨P, w, K, mg, base⟩ n (phi prog n) cp.fns cp.kwl) : FnOk P w K mg base CX0 (n + 1) f fd ps (spOf K cp.mps (phi prog (n + 1) k)) := by
  refine F.ok S (fun vs H Q E h => ?_) (fun cdv A outer s H vs Q E hr h => ?_)
  · obtain ⟨F0, ds, r, outs, ad, hl, _, _, _, _, e, _⟩ := h
    simp only [phi, hp, runFD] at e
    split at e
    · rename_i hd
      rw [hl, hd]
    · cases e
  · obtain ⟨F0, ds, r, outs, ad, hl, ex, hf, ho, hs, e, q⟩ := h
    simp only [phi, hp, runFD] at e
    split at e
    · rename_i hd
      obtain ⟨⟨fl, ρ⟩, e1, e⟩ := bindE e
      obtain ⟨outs', e2, e⟩ := bindE e
      dsimp only at e
      have hN : cp.N.length - ps.length = cp.N.length - vs.length := by rw [hl, hd]
      let c : Fx := ⟨K, cp.M, cp.mps, ad, fun a => ∃ i ∈ cp.mps, a = ad i, F0, H⟩
      have o : Okk ⟨P, w, K, mg, base⟩ n (phi prog n) cp c (cxOf CX0 P w K mg base cp.N qual scope f cdv A outer s H E).nox scope true := ⟨Cok.start S.nd hr, rfl, rfl, rfl, fu⟩
      have lk : ∀ {i : Nat} {d : D}, (ds.map some ++ List.replicate (cp.N.length - ps.length) none)[i]? = some (some d) → ds[i]? = some d ∧ i < ps.length := fun {i d} h => by
        by_cases hi : i < ds.length
        · rw [List.getElem?_append_left (by simpa using hi), List.getElem?_map] at h
          cases e3 : ds[i]? with
          | none => rw [e3] at h; cases h
          | some d' => rw [e3] at h; cases h; exact ⟨rfl, by rw [← hd]; exact hi⟩
        · rw [List.getElem?_append_right (by simp; omega), List.getElem?_replicate] at h
          split at h <;> cases h
      have lv : ∀ {i : Nat} {v : V}, vs[i]? = some v → (L2.start cp.N vs)[i]? = some (some v) := fun {i v} h => by
        unfold L2.start
        rw [List.getElem?_append_left (by have := (List.getElem?_eq_some_iff.mp h).1; simpa using this), List.getElem?_map, h]
        rfl
      have s0 : Sr c F0 H (L2.start cp.N vs) (ds.map some ++ List.replicate (cp.N.length - ps.length) none) ad := by
        refine ⟨Grow.refl ex, ?_, fun i d h m => ?_, fun i d h m => ?_, fun i j di dj a b m1 m2 ne => ?_, fun i hi => ?_⟩
        · unfold L2.start
          simp only [List.length_append, List.length_map, List.length_replicate]
          rw [hl, hd]
        · obtain ⟨a1, a2⟩ := lk h
          obtain ⟨v, b1, b2⟩ := hf i d a1 (fun z => m (h1 i z).1)
          exact ⟨v, lv b1, b2⟩
        · obtain ⟨a1, a2⟩ := lk h
          obtain ⟨d', b1, b2, b3⟩ := ho i (h2 i m a2)
          rw [a1] at b1
          cases b1
          exact ⟨lv b2, b3, .inl ⟨i, h2 i m a2, rfl⟩⟩
        · exact hs i j (h2 i m1 (lk a).2) (h2 j m2 (lk b).2) ne
        · obtain ⟨d', b1, b2, b3⟩ := ho i hi
          refine ⟨⟨d', ?_⟩, (h1 i hi).1, rfl⟩
          rw [List.getElem?_append_left (by have := (List.getElem?_eq_some_iff.mp b1).1; simpa using this), List.getElem?_map, b1]
          rfl
      have fin : ∀ {r' : R} {σ' : L2.St} {v : V} {H' F' : Hp} {ad' : Nat → Addr}, Sr c F' H' σ' ρ ad' → RR c F' H' ρ ad' v r' → (∀ i, r' ≠ .slot i) → r' = r → outs' = outs → Q v H' := fun {r' σ' v H' F' ad'} s' rr ns er eo => by
        subst er
        subst eo
        obtain ⟨o1, o2⟩ := outs_ok e2
        refine q v H' F' s'.gr o1 (fun k i hk => ?_) ?_
        · obtain ⟨d, a1, a2⟩ := o2 k i hk
          obtain ⟨_, mm, ea⟩ := s'.par i (List.mem_of_getElem? hk)
          obtain ⟨_, w, _⟩ := s'.own i d a2 mm
          rw [ea] at w
          exact ⟨d, a1, w⟩
        · cases r' with
          | val d => exact rr
          | own d =>
            obtain ⟨a1, e1, w1, w2, w3⟩ := rr
            refine ⟨a1, e1, w1, ?_⟩
            rcases w2 with ⟨i, hi, ea⟩ | w2
            · obtain ⟨⟨d2, hd2⟩, mm, ea2⟩ := s'.par i hi
              exact absurd (ea2.trans ea.symm) (w3 i d2 mm hd2)
            · exact w2
          | slot i => exact absurd rfl (ns i)
      obtain ⟨t, pt, ht⟩ := (all_s ⟨P, w, K, mg, base⟩ n (phi prog n) cp m).b c _ scope body b o hc F0 H _ _ ad fl ρ { nx := fun _ H' => Q .non H', rt := Q } s0 e1 (by
        cases fl with
        | nx =>
          cases e
          exact fun σ' H' F' ad' s' x' => fin s' (v := .non) (r' := .val .none) Rp.non (fun _ z => nomatch z) rfl rfl
        | br => cases e
        | ct => cases e
        | rt r' =>
          cases r' with
          | val d => cases e; exact fun σ' v H' F' ad' s' x' w => fin s' w (fun _ z => nomatch z) rfl rfl
          | own d => cases e; exact fun σ' v H' F' ad' s' x' w => fin s' w (fun _ z => nomatch z) rfl rfl
          | slot i => cases e)
      exact ⟨t, PSs.nox pt, ht⟩
    · cases e
end Vm
set_option Elab.async false
set_option linter.all false
set_option maxRecDepth 100000
set_option maxHeartbeats 4000000
/-! VmSF: all defs of a text, calls n deep; the law's promise. -/
namespace Vm
open PySem PySem.Spec PyProof.Rows L2 Evl
/-- a def of the text as it stands, with its term -/
def DefH (g : Gl0) (prog : Nat → Option FD) (fns : List (Str × List Nat × List Str)) (kwl : List (Nat × List Str)) (k : Nat) (nm : Str) (m : List Nat) (ps : List Str) : Prop :=
  ∃ (f : Addr) (fd : FuncData) (params : Arguments) (body : List Stmt) (scope : Scope) (qual : Str) (cp : Cp) (b : Ss) (mm : Nat), g.mg nm = some (.ref f) ∧ FunD g.K nm qual params body scope [] [] f fd ∧ Binds g.K fd ps [] ∧
    (∀ ks, (k, ks) ∈ kwl → ∀ (s : Shared) (ws : List Value), g.K.In s.heap → ws.length = ks.length → BindsTo s fd ⟨[], ks.zip ws⟩ (ps.zip (ps.map fun x => ws.getD (ks.idxOf x) .none))) ∧
    FnScope cp.N ps scope ∧ compSs cp mm scope body = some b ∧ prog k = some ⟨ps.length, cp.N.length, cp.M, cp.mps, b⟩ ∧ cp.mps = m ∧ (∀ i ∈ cp.mps, i ∈ cp.M ∧ i < ps.length) ∧ (∀ i ∈ cp.M, i < ps.length → i ∈ cp.mps) ∧ cp.fns = fns ∧ cp.kwl = kwl
theorem funs_all {g : Gl0} {prog : Nat → Option FD} {fns : List (Str × List Nat × List Str)} {kwl : List (Nat × List Str)} (hb : ∀ x ∈ bnames, g.mg x = none) (hd : ∀ k nm m ps, fns[k]? = some (nm, m, ps) → DefH g prog fns kwl k nm m ps) : ∀ n, Funs g n (phi prog n) fns kwl
  | 0 => by
    refine ⟨fun k nm m ps e => ?_, hb⟩
    obtain ⟨f, fd, params, body, scope, qual, cp, b, mm, h1, h2, h3, h4, _⟩ := hd k nm m ps e
    have no : ∀ vs H Q E, ¬ spOf g.K m (phi prog 0 k) vs H Q E := fun vs H Q E ⟨_, _, _, _, _, _, _, _, _, _, e, _⟩ => by simp [phi] at e
    exact ⟨f, fd, h1, h2.kp, h3, ⟨fun vs H Q E z => absurd z (no vs H Q E), fun A outer s H args us vs Q E _ _ _ _ z => absurd z (no vs H Q E)⟩, h4⟩
  | n + 1 => by
    have ih := funs_all hb hd n
    refine ⟨fun k nm m ps e => ?_, hb⟩
    obtain ⟨f, fd, params, body, scope, qual, cp, b, mm, h1, h2, h3, h4, h5, h6, h7, rfl, h9, h10, h11, h12⟩ := hd k nm m ps e
    exact ⟨f, fd, h1, h2.kp, h3, def_ok h2 h5 h6 h7 h9 h10 (by rw [h11, h12]; exact ih), h4⟩
inductive AllD (g : Gl0) (prog : Nat → Option FD) (fns : List (Str × List Nat × List Str)) (kwl : List (Nat × List Str)) : Nat → List (Str × List Nat × List Str) → Prop
  | nil {k : Nat} : AllD g prog fns kwl k []
  | cons {k : Nat} {nm : Str} {m : List Nat} {ps : List Str} {r : List (Str × List Nat × List Str)} : DefH g prog fns kwl k nm m ps → AllD g prog fns kwl (k + 1) r → AllD g prog fns kwl k ((nm, m, ps) :: r)
theorem AllD.get {g : Gl0} {prog : Nat → Option FD} {fns : List (Str × List Nat × List Str)} {kwl : List (Nat × List Str)} : ∀ {k : Nat} {l : List (Str × List Nat × List Str)}, AllD g prog fns kwl k l → ∀ (j : Nat) {nm : Str} {m : List Nat} {ps : List Str}, l[j]? = some (nm, m, ps) → DefH g prog fns kwl (k + j) nm m ps
  | _, _, .nil, j, _, _, _, e => by simp at e
  | _, _, .cons h t, 0, _, _, _, e => by
    simp at e
    obtain ⟨rfl, rfl, rfl⟩ := e
    exact h
  | k, _, .cons h t, j + 1, _, _, _, e => by
    have := AllD.get t j (by simpa using e)
    rw [show k + (j + 1) = k + 1 + j by omega]
    exact this
theorem FunD.kwN {K : PySem.W.Frag} {x qual : Str} {params : Arguments} {body : List Stmt} {scope : Scope} {kws : List (Str × V)} {f : Addr} {fd : FuncData} {ks ps : List Str} (F : FunD K x qual params body scope [] kws f fd)
    (h : ∀ (kV doc pm : Value) (an : Option Addr) (cdv ct : Value) (ws : List Value), ws.length = ks.length → bindArgs (PySem.W.fnOf x qual params body scope .none kV doc pm an cdv ct) ⟨[], ks.zip ws⟩ = pure (ps.zip (ps.map fun x => ws.getD (ks.idxOf x) .none))) :
    ∀ (s : Shared) (ws : List Value), K.In s.heap → ws.length = ks.length → BindsTo s fd ⟨[], ks.zip ws⟩ (ps.zip (ps.map fun x => ws.getD (ks.idxOf x) .none)) := by
  obtain ⟨oc, od, dV, kV, doc, pm, an, cdv, ct, osl, rfl, lk, hcd, hD, hK⟩ := F.ex
  rcases hD with ⟨_, rfl⟩ | ⟨e, _⟩
  · exact fun s ws _ hl => .of_eq (h kV doc pm an cdv ct ws hl)
  · exact absurd rfl e
theorem law_sp {K : PySem.W.Frag} {run : List D → Option (R × List D)} {a : Addr} {ns : List Int} {H : Hp} {E : XK} (hq : SqL K H a (ns.map V.int)) (h : run [.list (ns.map .int)] = some (.val (.bool true), [])) : spOf K [] run [.ref a] H (fun v _ => v = .bl true) E := by
  refine ⟨H, [.list (ns.map .int)], _, [], fun _ => 0, rfl, Ex.refl H, fun i d e _ => ?_, (fun i hi => nomatch hi), (fun i j hi => nomatch hi), h, fun v H' F' gg ho oo rv => ?_⟩
  · cases i with
    | zero =>
      simp at e
      subst e
      exact ⟨_, rfl, .lst hq (dps_ofInts ns)⟩
    | succ i => simp at e
  · exact dp_bl rv
end Vm
set_option Elab.async false
set_option linter.all false
set_option maxRecDepth 100000
set_option maxHeartbeats 4000000
/-! P85: the defs of the text as terms of the small language (printed by gen_ir.py). -/
namespace P85
open PySem Vm
def top (i : Nat) : Stmt := PySem.Challenge.pw_changedalike_k85_whole_turners.main.body.getD i (.Pass ⟨0, 0, 0, 0⟩)
def fns0 : List (Str × List Nat × List Str) := [("is_integer", [], ["thing"]), ("integer_within", [], ["thing", "low", "high"]), ("is_tuple", [], ["thing", "many"]), ("is_pair", [], ["letters", "thing"]), ("undoes", [], ["one", "other"]), ("is_reduced", [], ["letters", "thing"]), ("is_element", [], ["part", "thing"]), ("change_fault", [], ["world", "thing"]), ("is_change", [], ["world", "thing"]), ("reduced_word", [], ["pairs"]), ("deck_rounds", [], ["cards"]), ("word_ends", [], ["word"]), ("joined_element", [], ["part", "one", "other"]), ("undone_deck", [], ["element"]), ("undone_element", [], ["part", "one"]), ("joined", [], ["world", "one", "other"])]
def fns1 : List (Str × List Nat × List Str) := [("all_rounds", [], ["cards"]), ("deck_turner", [], ["one", "other"]), ("rope_turner", [], ["part", "one", "other"]), ("element_turner", [], ["part", "one", "other"]), ("turner_of", [], ["world", "one", "other"]), ("are_turned", [], ["world", "one", "other"]), ("is_turner", [], ["world", "one", "other", "thing"]), ("least_deck", [], ["cards"]), ("least_core", [], ["word"]), ("least_turned", [], ["world", "change"]), ("_law_seeds", [], ["script"]), ("_law_take", [0], ["heap", "many"]), ("_law_worlds", [0], ["heap"]), ("_law_shuffled", [0], ["heap", "many"]), ("_law_reduced", [], ["turns"]), ("_law_any", [0], ["heap", "part", "longest"])]
def fns2 : List (Str × List Nat × List Str) := [("_law_ahead", [0], ["heap", "part", "one", "longest"]), ("_law_then", [], ["part", "one", "other"]), ("_law_back", [], ["part", "one"]), ("_law_turns", [], ["part", "one", "x"]), ("_law_lengths", [], ["cards"]), ("_law_core", [], ["word"]), ("_law_least", [], ["part", "one"]), ("_law_fits", [], ["part", "thing"]), ("_law_turner", [], ["world", "one", "other", "thing"]), ("_law_yes", [], ["told", "due"]), ("_law_apart", [], ["part", "one"]), ("_law_asks", [], ["world", "one", "other"]), ("_law_strange", [0], ["heap", "world", "x", "k"]), ("_law_same", [], ["told", "due"]), ("law", [], ["script"])]
def fns : List (Str × List Nat × List Str) := fns0 ++ fns1 ++ fns2
def kwl : List (Nat × List Str) := [(22, ["thing", "world", "one", "other"])]
/-- is_integer -/
def b0 : Ss := (.cons (.ret (.and (.blt (.isi .int) (.cons (.var 0) .nil)) (.not (.blt (.isi .bool) (.cons (.var 0) .nil))))) .nil)
def n0 : List Str := ["thing"]
def f0 : FD := ⟨1, 1, [], [], b0⟩
def c0 : Cp := ⟨n0, [], [], [], fns, kwl⟩
theorem k0 : compSs c0 60 (L2.defScope (top 1)) (L2.defBody (top 1)) = some b0 := by kernel_rfl
/-- integer_within -/
def b1 : Ss := (.cons (.ret (.and (.call 0 [] (.cons (.var 0) .nil)) (.chain .le .le (.var 1) (.var 0) (.var 2)))) .nil)
def n1 : List Str := ["thing", "low", "high"]
def f1 : FD := ⟨3, 3, [], [], b1⟩
def c1 : Cp := ⟨n1, [], [], [], fns, kwl⟩
theorem k1 : compSs c1 60 (L2.defScope (top 2)) (L2.defBody (top 2)) = some b1 := by kernel_rfl
/-- is_tuple -/
def b2 : Ss := (.cons (.ret (.and (.blt (.isi .tuple) (.cons (.var 0) .nil)) (.cmp .eq (.blt .len (.cons (.var 0) .nil)) (.var 1)))) .nil)
def n2 : List Str := ["thing", "many"]
def f2 : FD := ⟨2, 2, [], [], b2⟩
def c2 : Cp := ⟨n2, [], [], [], fns, kwl⟩
theorem k2 : compSs c2 60 (L2.defScope (top 3)) (L2.defBody (top 3)) = some b2 := by kernel_rfl
/-- is_pair -/
def b3 : Ss := (.cons (.ret (.and (.call 2 [] (.cons (.var 1) (.cons (.int 2) .nil))) (.and (.call 1 [] (.cons (.ix (.var 1) (.int 0)) (.cons (.int 0) (.cons (.bin .sub (.var 0) (.int 1)) .nil)))) (.blt (.isi .bool) (.cons (.ix (.var 1) (.int 1)) .nil))))) .nil)
def n3 : List Str := ["letters", "thing"]
def f3 : FD := ⟨2, 2, [], [], b3⟩
def c3 : Cp := ⟨n3, [], [], [], fns, kwl⟩
theorem k3 : compSs c3 60 (L2.defScope (top 5)) (L2.defBody (top 5)) = some b3 := by kernel_rfl
/-- undoes -/
def b4 : Ss := (.cons (.ret (.and (.cmp .eq (.ix (.var 0) (.int 0)) (.ix (.var 1) (.int 0))) (.cmp .ne (.ix (.var 0) (.int 1)) (.ix (.var 1) (.int 1))))) .nil)
def n4 : List Str := ["one", "other"]
def f4 : FD := ⟨2, 2, [], [], b4⟩
def c4 : Cp := ⟨n4, [], [], [], fns, kwl⟩
theorem k4 : compSs c4 60 (L2.defScope (top 6)) (L2.defBody (top 6)) = some b4 := by kernel_rfl
/-- is_reduced -/
def b5 : Ss := (.cons (.ite (.or (.not (.ofE (.blt (.isi .tuple) (.cons (.var 1) .nil)))) (.not (.ofE (.blt .all (.cons (.lc [2] (.name 2) (.seq (.var 1)) .yes (.call 3 [] (.cons (.var 0) (.cons (.var 2) .nil)))) .nil))))) (.cons (.ret (.bl false)) .nil) .nil) (.cons (.ret (.not (.blt .any (.cons (.lc [3] (.name 3) (.range (.cons (.bin .sub (.blt .len (.cons (.var 1) .nil)) (.int 1)) .nil)) .yes (.call 4 [] (.cons (.ix (.var 1) (.var 3)) (.cons (.ix (.var 1) (.bin .add (.var 3) (.int 1))) .nil)))) .nil)))) .nil))
def n5 : List Str := ["letters", "thing", "pair", "at"]
def f5 : FD := ⟨2, 4, [], [], b5⟩
def c5 : Cp := ⟨n5, [], [], [], fns, kwl⟩
theorem k5 : compSs c5 60 (L2.defScope (top 7)) (L2.defBody (top 7)) = some b5 := by kernel_rfl
/-- is_element -/
def b6 : Ss := (.cons (.ite (.ofE (.cmp .eq (.ix (.var 0) (.int 0)) (.str "counter"))) (.cons (.ret (.call 0 [] (.cons (.var 1) .nil))) .nil) .nil) (.cons (.ite (.ofE (.cmp .eq (.ix (.var 0) (.int 0)) (.str "dial"))) (.cons (.ret (.call 1 [] (.cons (.var 1) (.cons (.int 0) (.cons (.bin .sub (.ix (.var 0) (.int 1)) (.int 1)) .nil))))) .nil) .nil) (.cons (.ite (.ofE (.cmp .eq (.ix (.var 0) (.int 0)) (.str "rope"))) (.cons (.ret (.call 5 [] (.cons (.ix (.var 0) (.int 1)) (.cons (.var 1) .nil)))) .nil) .nil) (.cons (.ite (.or (.not (.ofE (.call 2 [] (.cons (.var 1) (.cons (.ix (.var 0) (.int 1)) .nil))))) (.not (.ofE (.blt .all (.cons (.lc [2] (.name 2) (.seq (.var 1)) .yes (.call 1 [] (.cons (.var 2) (.cons (.int 0) (.cons (.bin .sub (.ix (.var 0) (.int 1)) (.int 1)) .nil))))) .nil))))) (.cons (.ret (.bl false)) .nil) .nil) (.cons (.ret (.cmp .eq (.blt .lenset (.cons (.var 1) .nil)) (.ix (.var 0) (.int 1)))) .nil)))))
def n6 : List Str := ["part", "thing", "number"]
def f6 : FD := ⟨2, 3, [], [], b6⟩
def c6 : Cp := ⟨n6, [], [], [], fns, kwl⟩
theorem k6 : compSs c6 60 (L2.defScope (top 8)) (L2.defBody (top 8)) = some b6 := by kernel_rfl
/-- change_fault -/
def b7 : Ss := (.cons (.ite (.not (.ofE (.call 2 [] (.cons (.var 1) (.cons (.blt .len (.cons (.var 0) .nil)) .nil))))) (.cons (.ret (.neg (.int 1))) .nil) .nil) (.cons (.loop (.tup [2, 3]) (.enum (.var 0)) (.cons (.ite (.not (.ofE (.call 6 [] (.cons (.var 3) (.cons (.ix (.var 1) (.var 2)) .nil))))) (.cons (.ret (.var 2)) .nil) .nil) .nil)) (.cons (.ret .non) .nil)))
def n7 : List Str := ["world", "thing", "at", "part"]
def f7 : FD := ⟨2, 4, [], [], b7⟩
def c7 : Cp := ⟨n7, [], [], [], fns, kwl⟩
theorem k7 : compSs c7 60 (L2.defScope (top 9)) (L2.defBody (top 9)) = some b7 := by kernel_rfl
/-- is_change -/
def b8 : Ss := (.cons (.ret (.isn false (.call 7 [] (.cons (.var 0) (.cons (.var 1) .nil))))) .nil)
def n8 : List Str := ["world", "thing"]
def f8 : FD := ⟨2, 2, [], [], b8⟩
def c8 : Cp := ⟨n8, [], [], [], fns, kwl⟩
theorem k8 : compSs c8 60 (L2.defScope (top 10)) (L2.defBody (top 10)) = some b8 := by kernel_rfl
/-- reduced_word -/
def b9 : Ss := (.cons (.masg 1 (.lst .nil)) (.cons (.loop (.name 2) (.seq (.var 0)) (.cons (.ite (.and (.ofE (.mvar 1)) (.ofE (.call 4 [] (.cons (.ix (.mvar 1) (.neg (.int 1))) (.cons (.var 2) .nil))))) (.cons (.expr (.pop 1)) .nil) (.cons (.append 1 (.var 2)) .nil)) .nil)) (.cons (.ret (.blt .tuple (.cons (.mvar 1) .nil))) .nil)))
def n9 : List Str := ["pairs", "found", "pair"]
def f9 : FD := ⟨1, 3, [1], [], b9⟩
def c9 : Cp := ⟨n9, [1], [], [], fns, kwl⟩
theorem k9 : compSs c9 60 (L2.defScope (top 11)) (L2.defBody (top 11)) = some b9 := by kernel_rfl
/-- deck_rounds -/
def b10 : Ss := (.cons (.masg 1 (.lst .nil)) (.cons (.masg 2 .dict0) (.cons (.loop (.name 3) (.range (.cons (.blt .len (.cons (.var 0) .nil)) .nil)) (.cons (.masg 4 (.lst (.cons (.var 3) .nil))) (.cons (.whl (.ofE (.cmp .ne (.ix (.var 0) (.ix (.mvar 4) (.neg (.int 1)))) (.var 3))) (.cons (.append 4 (.ix (.var 0) (.ix (.mvar 4) (.neg (.int 1))))) .nil)) (.cons (.ite (.and (.ofE (.din true (.var 3) 2)) (.ofE (.cmp .gt (.blt .len (.cons (.mvar 4) .nil)) (.int 1)))) (.cons (.append 1 (.blt .tuple (.cons (.mvar 4) .nil))) .nil) .nil) (.cons (.loop (.name 5) (.seq (.mv 4)) (.cons (.dput 2 (.var 5) (.bl true)) .nil)) .nil))))) (.cons (.ret (.blt .tuple (.cons (.mvar 1) .nil))) .nil))))
def n10 : List Str := ["cards", "found", "met", "first", "lap", "place"]
def f10 : FD := ⟨1, 6, [1, 2, 4], [], b10⟩
def c10 : Cp := ⟨n10, [1, 2, 4], [], [2], fns, kwl⟩
theorem k10 : compSs c10 60 (L2.defScope (top 13)) (L2.defBody (top 13)) = some b10 := by kernel_rfl
/-- word_ends -/
def b11 : Ss := (.cons (.asg (.name 1) (.int 0)) (.cons (.whl (.and (.ofE (.cmp .gt (.bin .sub (.blt .len (.cons (.var 0) .nil)) (.bin .mul (.int 2) (.var 1))) (.int 1))) (.ofE (.call 4 [] (.cons (.ix (.var 0) (.var 1)) (.cons (.ix (.var 0) (.bin .sub (.bin .sub (.blt .len (.cons (.var 0) .nil)) (.int 1)) (.var 1))) .nil))))) (.cons (.aug 1 (.int 1)) .nil)) (.cons (.ret (.tup (.cons (.sl (.var 0) .none (.some (.var 1))) (.cons (.sl (.var 0) (.some (.var 1)) (.some (.bin .sub (.blt .len (.cons (.var 0) .nil)) (.var 1)))) .nil)))) .nil)))
def n11 : List Str := ["word", "many"]
def f11 : FD := ⟨1, 2, [], [], b11⟩
def c11 : Cp := ⟨n11, [], [], [], fns, kwl⟩
theorem k11 : compSs c11 60 (L2.defScope (top 14)) (L2.defBody (top 14)) = some b11 := by kernel_rfl
/-- joined_element -/
def b12 : Ss := (.cons (.ite (.ofE (.cmp .eq (.ix (.var 0) (.int 0)) (.str "counter"))) (.cons (.ret (.bin .add (.var 1) (.var 2))) .nil) .nil) (.cons (.ite (.ofE (.cmp .eq (.ix (.var 0) (.int 0)) (.str "dial"))) (.cons (.ret (.bin .mod (.bin .add (.var 1) (.var 2)) (.ix (.var 0) (.int 1)))) .nil) .nil) (.cons (.ite (.ofE (.cmp .eq (.ix (.var 0) (.int 0)) (.str "deck"))) (.cons (.ret (.blt .tuple (.cons (.lc [3] (.name 3) (.seq (.var 2)) .yes (.ix (.var 1) (.var 3))) .nil))) .nil) .nil) (.cons (.ret (.call 9 [] (.cons (.bin .add (.var 1) (.var 2)) .nil))) .nil))))
def n12 : List Str := ["part", "one", "other", "place"]
def f12 : FD := ⟨3, 4, [], [], b12⟩
def c12 : Cp := ⟨n12, [], [], [], fns, kwl⟩
theorem k12 : compSs c12 60 (L2.defScope (top 16)) (L2.defBody (top 16)) = some b12 := by kernel_rfl
/-- undone_deck -/
def b13 : Ss := (.cons (.masg 1 (.blt .list (.cons (.var 0) .nil))) (.cons (.loop (.tup [2, 3]) (.enum (.var 0)) (.cons (.setix 1 (.var 3) (.var 2)) .nil)) (.cons (.ret (.blt .tuple (.cons (.mvar 1) .nil))) .nil)))
def n13 : List Str := ["element", "found", "place", "card"]
def f13 : FD := ⟨1, 4, [1], [], b13⟩
def c13 : Cp := ⟨n13, [1], [], [], fns, kwl⟩
theorem k13 : compSs c13 60 (L2.defScope (top 17)) (L2.defBody (top 17)) = some b13 := by kernel_rfl
/-- undone_element -/
def b14 : Ss := (.cons (.ite (.ofE (.cmp .eq (.ix (.var 0) (.int 0)) (.str "counter"))) (.cons (.ret (.neg (.var 1))) .nil) .nil) (.cons (.ite (.ofE (.cmp .eq (.ix (.var 0) (.int 0)) (.str "dial"))) (.cons (.ret (.bin .mod (.neg (.var 1)) (.ix (.var 0) (.int 1)))) .nil) .nil) (.cons (.ite (.ofE (.cmp .eq (.ix (.var 0) (.int 0)) (.str "deck"))) (.cons (.ret (.call 13 [] (.cons (.var 1) .nil))) .nil) .nil) (.cons (.ret (.blt .tuple (.cons (.lc [2, 3] (.tup [2, 3]) (.rev (.var 1)) .yes (.tup (.cons (.var 2) (.cons (.not (.var 3)) .nil)))) .nil))) .nil))))
def n14 : List Str := ["part", "one", "letter", "back"]
def f14 : FD := ⟨2, 4, [], [], b14⟩
def c14 : Cp := ⟨n14, [], [], [], fns, kwl⟩
theorem k14 : compSs c14 60 (L2.defScope (top 18)) (L2.defBody (top 18)) = some b14 := by kernel_rfl
/-- joined -/
def b15 : Ss := (.cons (.ret (.blt .tuple (.cons (.lc [3, 4, 5] (.tup [3, 4, 5]) (.zip (.cons (.var 0) (.cons (.var 1) (.cons (.var 2) .nil)))) .yes (.call 12 [] (.cons (.var 3) (.cons (.var 4) (.cons (.var 5) .nil))))) .nil))) .nil)
def n15 : List Str := ["world", "one", "other", "part", "mine", "yours"]
def f15 : FD := ⟨3, 6, [], [], b15⟩
def c15 : Cp := ⟨n15, [], [], [], fns, kwl⟩
theorem k15 : compSs c15 60 (L2.defScope (top 19)) (L2.defBody (top 19)) = some b15 := by kernel_rfl
/-- all_rounds -/
def b16 : Ss := (.cons (.asg (.name 1) (.lc [2] (.name 2) (.seq (.call 10 [] (.cons (.var 0) .nil))) .yes (.blt .list (.cons (.var 2) .nil)))) (.cons (.asg (.name 1) (.bin .add (.var 1) (.lc [3, 4] (.tup [3, 4]) (.enum (.var 0)) (.ofE (.cmp .eq (.var 3) (.var 4))) (.lst (.cons (.var 3) .nil))))) (.cons (.ret (.blt .sortlen (.cons (.var 1) .nil))) .nil)))
def n16 : List Str := ["cards", "found", "lap", "place", "card"]
def f16 : FD := ⟨1, 5, [], [], b16⟩
def c16 : Cp := ⟨n16, [], [], [], fns, kwl⟩
theorem k16 : compSs c16 60 (L2.defScope (top 21)) (L2.defBody (top 21)) = some b16 := by kernel_rfl
/-- deck_turner -/
def b17 : Ss := (.cons (.asg (.name 2) (.call 16 [] (.cons (.var 0) .nil))) (.cons (.asg (.name 3) (.call 16 [] (.cons (.var 1) .nil))) (.cons (.ite (.ofE (.cmp .ne (.lc [4] (.name 4) (.seq (.var 2)) .yes (.blt .len (.cons (.var 4) .nil))) (.lc [4] (.name 4) (.seq (.var 3)) .yes (.blt .len (.cons (.var 4) .nil))))) (.cons (.ret .non) .nil) .nil) (.cons (.masg 5 (.blt .list (.cons (.var 0) .nil))) (.cons (.loop (.tup [4, 6]) (.zip (.cons (.var 2) (.cons (.var 3) .nil))) (.cons (.loop (.tup [7, 8]) (.zip (.cons (.var 6) (.cons (.var 4) .nil))) (.cons (.setix 5 (.var 7) (.var 8)) .nil)) .nil)) (.cons (.ret (.blt .tuple (.cons (.mvar 5) .nil))) .nil))))))
def n17 : List Str := ["one", "other", "mine", "yours", "lap", "found", "loop", "place", "there"]
def f17 : FD := ⟨2, 9, [5], [], b17⟩
def c17 : Cp := ⟨n17, [5], [], [], fns, kwl⟩
theorem k17 : compSs c17 60 (L2.defScope (top 22)) (L2.defBody (top 22)) = some b17 := by kernel_rfl
/-- rope_turner -/
def b18 : Ss := (.cons (.asg (.tup [3, 4]) (.call 11 [] (.cons (.var 1) .nil))) (.cons (.asg (.tup [5, 6]) (.call 11 [] (.cons (.var 2) .nil))) (.cons (.ite (.ofE (.cmp .ne (.blt .len (.cons (.var 4) .nil)) (.blt .len (.cons (.var 6) .nil)))) (.cons (.ret .non) .nil) .nil) (.cons (.loop (.name 7) (.range (.cons (.blt .max (.cons (.int 1) (.cons (.blt .len (.cons (.var 4) .nil)) .nil))) .nil)) (.cons (.ite (.ofE (.cmp .eq (.bin .add (.sl (.var 4) (.some (.var 7)) .none) (.sl (.var 4) .none (.some (.var 7)))) (.var 6))) (.cons (.ret (.call 9 [] (.cons (.bin .add (.bin .add (.var 3) (.sl (.var 4) .none (.some (.var 7)))) (.call 14 [] (.cons (.var 0) (.cons (.var 5) .nil)))) .nil))) .nil) .nil) .nil)) (.cons (.ret .non) .nil)))))
def n18 : List Str := ["part", "one", "other", "turns", "core", "ends", "loop", "at"]
def f18 : FD := ⟨3, 8, [], [], b18⟩
def c18 : Cp := ⟨n18, [], [], [], fns, kwl⟩
theorem k18 : compSs c18 60 (L2.defScope (top 23)) (L2.defBody (top 23)) = some b18 := by kernel_rfl
/-- element_turner -/
def b19 : Ss := (.cons (.ite (.ofE (.cmp .eq (.ix (.var 0) (.int 0)) (.str "deck"))) (.cons (.ret (.call 17 [] (.cons (.var 1) (.cons (.var 2) .nil)))) .nil) .nil) (.cons (.ite (.ofE (.cmp .eq (.ix (.var 0) (.int 0)) (.str "rope"))) (.cons (.ret (.call 18 [] (.cons (.var 0) (.cons (.var 1) (.cons (.var 2) .nil))))) .nil) .nil) (.cons (.ret (.ife (.ofE (.cmp .eq (.var 1) (.var 2))) (.int 0) .non)) .nil)))
def n19 : List Str := ["part", "one", "other"]
def f19 : FD := ⟨3, 3, [], [], b19⟩
def c19 : Cp := ⟨n19, [], [], [], fns, kwl⟩
theorem k19 : compSs c19 60 (L2.defScope (top 24)) (L2.defBody (top 24)) = some b19 := by kernel_rfl
/-- turner_of -/
def b20 : Ss := (.cons (.asg (.name 3) (.lc [4, 5, 6] (.tup [4, 5, 6]) (.zip (.cons (.var 0) (.cons (.var 1) (.cons (.var 2) .nil)))) .yes (.call 19 [] (.cons (.var 4) (.cons (.var 5) (.cons (.var 6) .nil)))))) (.cons (.ret (.ife (.ofE (.cmp .isin .non (.var 3))) .non (.blt .tuple (.cons (.var 3) .nil)))) .nil))
def n20 : List Str := ["world", "one", "other", "found", "part", "mine", "yours"]
def f20 : FD := ⟨3, 7, [], [], b20⟩
def c20 : Cp := ⟨n20, [], [], [], fns, kwl⟩
theorem k20 : compSs c20 60 (L2.defScope (top 25)) (L2.defBody (top 25)) = some b20 := by kernel_rfl
/-- are_turned -/
def b21 : Ss := (.cons (.ret (.isn true (.call 20 [] (.cons (.var 0) (.cons (.var 1) (.cons (.var 2) .nil)))))) .nil)
def n21 : List Str := ["world", "one", "other"]
def f21 : FD := ⟨3, 3, [], [], b21⟩
def c21 : Cp := ⟨n21, [], [], [], fns, kwl⟩
theorem k21 : compSs c21 60 (L2.defScope (top 26)) (L2.defBody (top 26)) = some b21 := by kernel_rfl
/-- is_turner -/
def b22 : Ss := (.cons (.ret (.and (.call 8 [] (.cons (.var 0) (.cons (.var 3) .nil))) (.cmp .eq (.call 15 [] (.cons (.var 0) (.cons (.var 1) (.cons (.var 3) .nil)))) (.call 15 [] (.cons (.var 0) (.cons (.var 3) (.cons (.var 2) .nil))))))) .nil)
def n22 : List Str := ["world", "one", "other", "thing"]
def f22 : FD := ⟨4, 4, [], [], b22⟩
def c22 : Cp := ⟨n22, [], [], [], fns, kwl⟩
theorem k22 : compSs c22 60 (L2.defScope (top 27)) (L2.defBody (top 27)) = some b22 := by kernel_rfl
/-- least_deck -/
def b23 : Ss := (.cons (.asg (.name 1) (.lst .nil)) (.cons (.loop (.name 2) (.seq (.call 16 [] (.cons (.var 0) .nil))) (.cons (.asg (.name 3) (.blt .len (.cons (.var 1) .nil))) (.cons (.asg (.name 1) (.bin .add (.bin .add (.var 1) (.lc [4] (.name 4) (.range (.cons (.bin .sub (.blt .len (.cons (.var 2) .nil)) (.int 1)) .nil)) .yes (.bin .add (.bin .add (.var 3) (.var 4)) (.int 1)))) (.lst (.cons (.var 3) .nil)))) .nil))) (.cons (.ret (.blt .tuple (.cons (.var 1) .nil))) .nil)))
def n23 : List Str := ["cards", "found", "lap", "first", "at"]
def f23 : FD := ⟨1, 5, [], [], b23⟩
def c23 : Cp := ⟨n23, [], [], [], fns, kwl⟩
theorem k23 : compSs c23 60 (L2.defScope (top 28)) (L2.defBody (top 28)) = some b23 := by kernel_rfl
/-- least_core -/
def b24 : Ss := (.cons (.asg (.name 1) (.ix (.call 11 [] (.cons (.var 0) .nil)) (.int 1))) (.cons (.ret (.blt .min (.cons (.lc [2] (.name 2) (.range (.cons (.blt .max (.cons (.int 1) (.cons (.blt .len (.cons (.var 1) .nil)) .nil))) .nil)) .yes (.bin .add (.sl (.var 1) (.some (.var 2)) .none) (.sl (.var 1) .none (.some (.var 2))))) .nil))) .nil))
def n24 : List Str := ["word", "core", "at"]
def f24 : FD := ⟨1, 3, [], [], b24⟩
def c24 : Cp := ⟨n24, [], [], [], fns, kwl⟩
theorem k24 : compSs c24 60 (L2.defScope (top 29)) (L2.defBody (top 29)) = some b24 := by kernel_rfl
/-- least_turned -/
def b25 : Ss := (.cons (.masg 2 (.lst .nil)) (.cons (.loop (.tup [3, 4]) (.zip (.cons (.var 0) (.cons (.var 1) .nil))) (.cons (.ite (.ofE (.cmp .eq (.ix (.var 3) (.int 0)) (.str "deck"))) (.cons (.asg (.name 4) (.call 23 [] (.cons (.var 4) .nil))) .nil) (.cons (.ite (.ofE (.cmp .eq (.ix (.var 3) (.int 0)) (.str "rope"))) (.cons (.asg (.name 4) (.call 24 [] (.cons (.var 4) .nil))) .nil) .nil) .nil)) (.cons (.append 2 (.var 4)) .nil))) (.cons (.ret (.blt .tuple (.cons (.mvar 2) .nil))) .nil)))
def n25 : List Str := ["world", "change", "found", "part", "element"]
def f25 : FD := ⟨2, 5, [2], [], b25⟩
def c25 : Cp := ⟨n25, [2], [], [], fns, kwl⟩
theorem k25 : compSs c25 60 (L2.defScope (top 30)) (L2.defBody (top 30)) = some b25 := by kernel_rfl
/-- _law_seeds -/
def b26 : Ss := (.cons (.masg 1 (.lst (.cons (.int 433) (.cons (.int 0) .nil)))) (.cons (.loop (.name 2) (.seq (.sl (.var 0) .none (.some (.int 40)))) (.cons (.asg (.name 3) (.blt .abs (.cons (.blt .int (.cons (.var 2) .nil)) .nil))) (.cons (.setix 1 (.int 0) (.bin .mod (.bin .add (.bin .mul (.ix (.mvar 1) (.int 0)) (.int 71)) (.var 3)) (.int 1000121))) (.cons (.ite (.ofE (.cmp .ge (.var 3) (.bin .pow (.int 10) (.int 18)))) (.cons (.loop (.name 4) (.range (.cons (.int 450) .nil)) (.cons (.ite (.ofE (.cmp .eq (.var 3) (.int 0))) (.cons (.brk) .nil) .nil) (.cons (.append 1 (.bin .mod (.var 3) (.int 5040))) (.cons (.asg (.name 3) (.bin .fdiv (.var 3) (.int 5040))) .nil)))) .nil) (.cons (.loop (.name 4) (.range (.cons (.int 7) .nil)) (.cons (.append 1 (.bin .fdiv (.bin .mod (.bin .mul (.bin .mod (.bin .add (.bin .add (.bin .mul (.var 3) (.int 22695477)) (.bin .mul (.var 4) (.int 12345))) (.int 1)) (.int 4294967279)) (.int 907)) (.int 1000000033)) (.int 37))) .nil)) .nil)) .nil)))) (.cons (.ret (.mv 1)) .nil)))
def n26 : List Str := ["script", "heap", "cell", "grain", "lap"]
def f26 : FD := ⟨1, 5, [1], [], b26⟩
def c26 : Cp := ⟨n26, [1], [], [], fns, kwl⟩
theorem k26 : compSs c26 60 (L2.defScope (top 32)) (L2.defBody (top 32)) = some b26 := by kernel_rfl
/-- _law_take -/
def b27 : Ss := (.cons (.setix 0 (.int 1) (.bin .add (.ix (.mvar 0) (.int 1)) (.int 1))) (.cons (.ite (.ofE (.cmp .gt (.blt .len (.cons (.mvar 0) .nil)) (.int 2))) (.cons (.ret (.bin .mod (.blt .int (.cons (.popAt 0 (.int 2)) .nil)) (.var 1))) .nil) .nil) (.cons (.asg (.name 2) (.bin .mod (.bin .add (.bin .add (.bin .mul (.blt .int (.cons (.ix (.mvar 0) (.int 0)) .nil)) (.int 22695477)) (.bin .mul (.ix (.mvar 0) (.int 1)) (.int 1103))) (.int 9)) (.int 4294967279))) (.cons (.asg (.name 3) (.bin .mod (.bin .add (.bin .mul (.var 2) (.var 2)) (.bin .mul (.int 43) (.ix (.mvar 0) (.int 1)))) (.int 1000000033))) (.cons (.ret (.bin .mod (.bin .fdiv (.bin .mod (.bin .add (.bin .mul (.var 3) (.int 61)) (.var 2)) (.int 999999929)) (.int 41)) (.var 1))) .nil)))))
def n27 : List Str := ["heap", "many", "one", "two"]
def f27 : FD := ⟨2, 4, [0], [0], b27⟩
def c27 : Cp := ⟨n27, [0], [0], [], fns, kwl⟩
theorem k27 : compSs c27 60 (L2.defScope (top 33)) (L2.defBody (top 33)) = some b27 := by kernel_rfl
/-- _law_worlds -/
def b28 : Ss := (.cons (.masg 1 (.lst .nil)) (.cons (.loop (.name 2) (.range (.cons (.bin .add (.int 1) (.call 27 [0] (.cons (.mvar 0) (.cons (.int 4) .nil)))) .nil)) (.cons (.asg (.name 3) (.call 27 [0] (.cons (.mvar 0) (.cons (.int 6) .nil)))) (.cons (.ite (.ofE (.cmp .eq (.var 3) (.int 0))) (.cons (.append 1 (.tup (.cons (.str "counter") .nil))) .nil) (.cons (.ite (.ofE (.cmp .eq (.var 3) (.int 1))) (.cons (.append 1 (.tup (.cons (.str "dial") (.cons (.ix (.lst (.cons (.int 1) (.cons (.int 2) (.cons (.int 7) (.cons (.int 1000000) .nil))))) (.call 27 [0] (.cons (.mvar 0) (.cons (.int 4) .nil)))) .nil)))) .nil) (.cons (.ite (.ofE (.cmp .lt (.var 3) (.int 4))) (.cons (.append 1 (.tup (.cons (.str "deck") (.cons (.bin .add (.int 1) (.call 27 [0] (.cons (.mvar 0) (.cons (.int 8) .nil)))) .nil)))) .nil) (.cons (.append 1 (.tup (.cons (.str "rope") (.cons (.bin .add (.int 1) (.call 27 [0] (.cons (.mvar 0) (.cons (.int 6) .nil)))) .nil)))) .nil)) .nil)) .nil)) .nil))) (.cons (.ret (.blt .tuple (.cons (.mvar 1) .nil))) .nil)))
def n28 : List Str := ["heap", "parts", "k", "kind"]
def f28 : FD := ⟨1, 4, [0, 1], [0], b28⟩
def c28 : Cp := ⟨n28, [0, 1], [0], [], fns, kwl⟩
theorem k28 : compSs c28 60 (L2.defScope (top 34)) (L2.defBody (top 34)) = some b28 := by kernel_rfl
/-- _law_shuffled -/
def b29 : Ss := (.cons (.masg 2 (.lst .nil)) (.cons (.masg 3 (.lc [4] (.name 4) (.range (.cons (.var 1) .nil)) .yes (.var 4))) (.cons (.loop (.name 4) (.range (.cons (.var 1) .nil)) (.cons (.append 2 (.popAt 3 (.call 27 [0] (.cons (.mvar 0) (.cons (.blt .len (.cons (.mvar 3) .nil)) .nil))))) .nil)) (.cons (.ret (.blt .tuple (.cons (.mvar 2) .nil))) .nil))))
def n29 : List Str := ["heap", "many", "cards", "rest", "k"]
def f29 : FD := ⟨2, 5, [0, 2, 3], [0], b29⟩
def c29 : Cp := ⟨n29, [0, 2, 3], [0], [], fns, kwl⟩
theorem k29 : compSs c29 60 (L2.defScope (top 35)) (L2.defBody (top 35)) = some b29 := by kernel_rfl
/-- _law_reduced -/
def b30 : Ss := (.cons (.masg 1 (.lst .nil)) (.cons (.loop (.tup [2, 3]) (.seq (.var 0)) (.cons (.ite (.and (.ofE (.cmp .gt (.blt .len (.cons (.mvar 1) .nil)) (.int 0))) (.ofE (.cmp .eq (.ix (.mvar 1) (.neg (.int 1))) (.tup (.cons (.var 2) (.cons (.not (.var 3)) .nil)))))) (.cons (.expr (.pop 1)) .nil) (.cons (.append 1 (.tup (.cons (.var 2) (.cons (.var 3) .nil)))) .nil)) .nil)) (.cons (.ret (.blt .tuple (.cons (.mvar 1) .nil))) .nil)))
def n30 : List Str := ["turns", "word", "letter", "back"]
def f30 : FD := ⟨1, 4, [1], [], b30⟩
def c30 : Cp := ⟨n30, [1], [], [], fns, kwl⟩
theorem k30 : compSs c30 60 (L2.defScope (top 36)) (L2.defBody (top 36)) = some b30 := by kernel_rfl
/-- _law_any -/
def b31 : Ss := (.cons (.ite (.ofE (.cmp .eq (.ix (.var 1) (.int 0)) (.str "counter"))) (.cons (.ret (.ix (.lst (.cons (.int 0) (.cons (.int 1) (.cons (.neg (.int 1)) (.cons (.int 1000000000) (.cons (.bin .sub (.call 27 [0] (.cons (.mvar 0) (.cons (.int 2000) .nil))) (.int 1000)) .nil)))))) (.call 27 [0] (.cons (.mvar 0) (.cons (.int 5) .nil))))) .nil) .nil) (.cons (.ite (.ofE (.cmp .eq (.ix (.var 1) (.int 0)) (.str "dial"))) (.cons (.ret (.bin .mod (.call 27 [0] (.cons (.mvar 0) (.cons (.int 1000000) .nil))) (.ix (.var 1) (.int 1)))) .nil) .nil) (.cons (.ite (.ofE (.cmp .eq (.ix (.var 1) (.int 0)) (.str "deck"))) (.cons (.ret (.call 29 [0] (.cons (.mvar 0) (.cons (.ix (.var 1) (.int 1)) .nil)))) .nil) .nil) (.cons (.ret (.call 30 [] (.cons (.lc [3] (.name 3) (.range (.cons (.bin .sub (.var 2) (.call 27 [0] (.cons (.mvar 0) (.cons (.int 9) .nil)))) .nil)) .yes (.tup (.cons (.call 27 [0] (.cons (.mvar 0) (.cons (.ix (.var 1) (.int 1)) .nil))) (.cons (.cmp .eq (.call 27 [0] (.cons (.mvar 0) (.cons (.int 2) .nil))) (.int 1)) .nil)))) .nil))) .nil))))
def n31 : List Str := ["heap", "part", "longest", "k"]
def f31 : FD := ⟨3, 4, [0], [0], b31⟩
def c31 : Cp := ⟨n31, [0], [0], [], fns, kwl⟩
theorem k31 : compSs c31 60 (L2.defScope (top 37)) (L2.defBody (top 37)) = some b31 := by kernel_rfl
/-- _law_ahead -/
def b32 : Ss := (.cons (.ite (.and (.ofE (.cmp .eq (.ix (.var 1) (.int 0)) (.str "rope"))) (.and (.ofE (.cmp .gt (.blt .len (.cons (.var 2) .nil)) (.int 0))) (.or (.ofE (.cmp .gt (.var 3) (.int 8))) (.ofE (.cmp .eq (.call 27 [0] (.cons (.mvar 0) (.cons (.int 2) .nil))) (.int 0)))))) (.cons (.ret (.sl (.var 2) .none (.some (.call 27 [0] (.cons (.mvar 0) (.cons (.blt .len (.cons (.var 2) .nil)) .nil)))))) .nil) .nil) (.cons (.ret (.call 31 [0] (.cons (.mvar 0) (.cons (.var 1) (.cons (.var 3) .nil))))) .nil))
def n32 : List Str := ["heap", "part", "one", "longest"]
def f32 : FD := ⟨4, 4, [0], [0], b32⟩
def c32 : Cp := ⟨n32, [0], [0], [], fns, kwl⟩
theorem k32 : compSs c32 60 (L2.defScope (top 38)) (L2.defBody (top 38)) = some b32 := by kernel_rfl
/-- _law_then -/
def b33 : Ss := (.cons (.ite (.ofE (.cmp .eq (.ix (.var 0) (.int 0)) (.str "counter"))) (.cons (.ret (.bin .add (.var 1) (.var 2))) .nil) .nil) (.cons (.ite (.ofE (.cmp .eq (.ix (.var 0) (.int 0)) (.str "dial"))) (.cons (.ret (.bin .mod (.bin .add (.var 1) (.var 2)) (.ix (.var 0) (.int 1)))) .nil) .nil) (.cons (.ite (.ofE (.cmp .eq (.ix (.var 0) (.int 0)) (.str "deck"))) (.cons (.ret (.blt .tuple (.cons (.lc [3] (.name 3) (.seq (.var 2)) .yes (.ix (.var 1) (.var 3))) .nil))) .nil) .nil) (.cons (.ret (.call 30 [] (.cons (.bin .add (.var 1) (.var 2)) .nil))) .nil))))
def n33 : List Str := ["part", "one", "other", "place"]
def f33 : FD := ⟨3, 4, [], [], b33⟩
def c33 : Cp := ⟨n33, [], [], [], fns, kwl⟩
theorem k33 : compSs c33 60 (L2.defScope (top 39)) (L2.defBody (top 39)) = some b33 := by kernel_rfl
/-- _law_back -/
def b34 : Ss := (.cons (.ite (.ofE (.cmp .eq (.ix (.var 0) (.int 0)) (.str "counter"))) (.cons (.ret (.neg (.var 1))) .nil) .nil) (.cons (.ite (.ofE (.cmp .eq (.ix (.var 0) (.int 0)) (.str "dial"))) (.cons (.ret (.bin .mod (.bin .sub (.ix (.var 0) (.int 1)) (.var 1)) (.ix (.var 0) (.int 1)))) .nil) .nil) (.cons (.ite (.ofE (.cmp .eq (.ix (.var 0) (.int 0)) (.str "deck"))) (.cons (.ret (.blt .tuple (.cons (.lc [2] (.name 2) (.range (.cons (.ix (.var 0) (.int 1)) .nil)) .yes (.index (.var 1) (.var 2))) .nil))) .nil) .nil) (.cons (.ret (.blt .tuple (.cons (.lc [3] (.name 3) (.range (.cons (.blt .len (.cons (.var 1) .nil)) .nil)) .yes (.tup (.cons (.ix (.ix (.var 1) (.bin .sub (.bin .sub (.blt .len (.cons (.var 1) .nil)) (.int 1)) (.var 3))) (.int 0)) (.cons (.not (.ix (.ix (.var 1) (.bin .sub (.bin .sub (.blt .len (.cons (.var 1) .nil)) (.int 1)) (.var 3))) (.int 1))) .nil)))) .nil))) .nil))))
def n34 : List Str := ["part", "one", "place", "k"]
def f34 : FD := ⟨2, 4, [], [], b34⟩
def c34 : Cp := ⟨n34, [], [], [], fns, kwl⟩
theorem k34 : compSs c34 60 (L2.defScope (top 40)) (L2.defBody (top 40)) = some b34 := by kernel_rfl
/-- _law_turns -/
def b35 : Ss := (.cons (.ret (.call 33 [] (.cons (.var 0) (.cons (.call 33 [] (.cons (.var 0) (.cons (.call 34 [] (.cons (.var 0) (.cons (.var 2) .nil))) (.cons (.var 1) .nil)))) (.cons (.var 2) .nil))))) .nil)
def n35 : List Str := ["part", "one", "x"]
def f35 : FD := ⟨3, 3, [], [], b35⟩
def c35 : Cp := ⟨n35, [], [], [], fns, kwl⟩
theorem k35 : compSs c35 60 (L2.defScope (top 41)) (L2.defBody (top 41)) = some b35 := by kernel_rfl
/-- _law_lengths -/
def b36 : Ss := (.cons (.masg 1 (.lst .nil)) (.cons (.masg 2 (.lst .nil)) (.cons (.loop (.name 3) (.range (.cons (.blt .len (.cons (.var 0) .nil)) .nil)) (.cons (.asg (.name 4) (.int 0)) (.cons (.loop (.name 5) (.range (.cons (.blt .len (.cons (.var 0) .nil)) .nil)) (.cons (.ite (.ofE (.cmp .isin (.var 3) (.mvar 2))) (.cons (.brk) .nil) .nil) (.cons (.append 2 (.var 3)) (.cons (.asg (.name 3) (.ix (.var 0) (.var 3))) (.cons (.asg (.name 4) (.bin .add (.var 4) (.int 1))) .nil))))) (.cons (.ite (.ofE (.cmp .gt (.var 4) (.int 0))) (.cons (.append 1 (.var 4)) .nil) .nil) .nil)))) (.cons (.ret (.blt .sorted (.cons (.mvar 1) .nil))) .nil))))
def n36 : List Str := ["cards", "lengths", "seen", "place", "length", "lap"]
def f36 : FD := ⟨1, 6, [1, 2], [], b36⟩
def c36 : Cp := ⟨n36, [1, 2], [], [], fns, kwl⟩
theorem k36 : compSs c36 60 (L2.defScope (top 42)) (L2.defBody (top 42)) = some b36 := by kernel_rfl
/-- _law_core -/
def b37 : Ss := (.cons (.asg (.name 1) (.int 0)) (.cons (.asg (.name 2) (.blt .len (.cons (.var 0) .nil))) (.cons (.loop (.name 3) (.range (.cons (.blt .len (.cons (.var 0) .nil)) .nil)) (.cons (.ite (.or (.ofE (.cmp .lt (.bin .sub (.var 2) (.var 1)) (.int 2))) (.ofE (.cmp .ne (.ix (.var 0) (.var 1)) (.tup (.cons (.ix (.ix (.var 0) (.bin .sub (.var 2) (.int 1))) (.int 0)) (.cons (.not (.ix (.ix (.var 0) (.bin .sub (.var 2) (.int 1))) (.int 1))) .nil)))))) (.cons (.brk) .nil) .nil) (.cons (.asg (.name 1) (.bin .add (.var 1) (.int 1))) (.cons (.asg (.name 2) (.bin .sub (.var 2) (.int 1))) .nil)))) (.cons (.ret (.sl (.var 0) (.some (.var 1)) (.some (.var 2)))) .nil))))
def n37 : List Str := ["word", "first", "last", "lap"]
def f37 : FD := ⟨1, 4, [], [], b37⟩
def c37 : Cp := ⟨n37, [], [], [], fns, kwl⟩
theorem k37 : compSs c37 60 (L2.defScope (top 43)) (L2.defBody (top 43)) = some b37 := by kernel_rfl
/-- _law_least -/
def b38 : Ss := (.cons (.ite (.ofE (.cmp .isin (.ix (.var 0) (.int 0)) (.lst (.cons (.str "counter") (.cons (.str "dial") .nil))))) (.cons (.ret (.var 1)) .nil) .nil) (.cons (.ite (.ofE (.cmp .eq (.ix (.var 0) (.int 0)) (.str "rope"))) (.cons (.asg (.name 2) (.call 37 [] (.cons (.var 1) .nil))) (.cons (.asg (.name 3) (.var 2)) (.cons (.loop (.name 4) (.range (.cons (.blt .len (.cons (.var 2) .nil)) .nil)) (.cons (.ite (.ofE (.cmp .lt (.bin .add (.sl (.var 2) (.some (.var 4)) .none) (.sl (.var 2) .none (.some (.var 4)))) (.var 3))) (.cons (.asg (.name 3) (.bin .add (.sl (.var 2) (.some (.var 4)) .none) (.sl (.var 2) .none (.some (.var 4))))) .nil) .nil) .nil)) (.cons (.ret (.var 3)) .nil)))) .nil) (.cons (.asg (.name 5) (.lst .nil)) (.cons (.loop (.name 6) (.seq (.call 36 [] (.cons (.var 1) .nil))) (.cons (.asg (.name 7) (.blt .len (.cons (.var 5) .nil))) (.cons (.asg (.name 5) (.bin .add (.bin .add (.var 5) (.lc [4] (.name 4) (.range (.cons (.bin .sub (.var 6) (.int 1)) .nil)) .yes (.bin .add (.bin .add (.var 7) (.var 4)) (.int 1)))) (.lst (.cons (.var 7) .nil)))) .nil))) (.cons (.ret (.blt .tuple (.cons (.var 5) .nil))) .nil)))))
def n38 : List Str := ["part", "one", "core", "least", "k", "cards", "length", "begin"]
def f38 : FD := ⟨2, 8, [], [], b38⟩
def c38 : Cp := ⟨n38, [], [], [], fns, kwl⟩
theorem k38 : compSs c38 60 (L2.defScope (top 44)) (L2.defBody (top 44)) = some b38 := by kernel_rfl
/-- _law_fits -/
def b39 : Ss := (.cons (.ite (.ofE (.cmp .isin (.ix (.var 0) (.int 0)) (.lst (.cons (.str "counter") (.cons (.str "dial") .nil))))) (.cons (.ite (.or (.not (.ofE (.blt (.isi .int) (.cons (.var 1) .nil)))) (.ofE (.blt (.isi .bool) (.cons (.var 1) .nil)))) (.cons (.ret (.bl false)) .nil) .nil) (.cons (.ret (.or (.cmp .eq (.ix (.var 0) (.int 0)) (.str "counter")) (.and (.cmp .le (.int 0) (.var 1)) (.cmp .lt (.var 1) (.ix (.var 0) (.int 1)))))) .nil)) .nil) (.cons (.ite (.not (.ofE (.blt (.isi .tuple) (.cons (.var 1) .nil)))) (.cons (.ret (.bl false)) .nil) .nil) (.cons (.ite (.ofE (.cmp .eq (.ix (.var 0) (.int 0)) (.str "deck"))) (.cons (.ite (.ofE (.cmp .ne (.blt .len (.cons (.var 1) .nil)) (.ix (.var 0) (.int 1)))) (.cons (.ret (.bl false)) .nil) .nil) (.cons (.masg 2 (.lc [3] (.name 3) (.range (.cons (.ix (.var 0) (.int 1)) .nil)) .yes (.int 0))) (.cons (.loop (.name 4) (.seq (.var 1)) (.cons (.ite (.or (.not (.ofE (.blt (.isi .int) (.cons (.var 4) .nil)))) (.or (.ofE (.blt (.isi .bool) (.cons (.var 4) .nil))) (.or (.ofE (.cmp .lt (.var 4) (.int 0))) (.ofE (.cmp .ge (.var 4) (.ix (.var 0) (.int 1))))))) (.cons (.ret (.bl false)) .nil) .nil) (.cons (.setix 2 (.var 4) (.int 1)) .nil))) (.cons (.ret (.cmp .notin (.int 0) (.mvar 2))) .nil)))) .nil) (.cons (.loop (.name 3) (.range (.cons (.blt .len (.cons (.var 1) .nil)) .nil)) (.cons (.ite (.or (.not (.ofE (.blt (.isi .tuple) (.cons (.ix (.var 1) (.var 3)) .nil)))) (.ofE (.cmp .ne (.blt .len (.cons (.ix (.var 1) (.var 3)) .nil)) (.int 2)))) (.cons (.ret (.bl false)) .nil) .nil) (.cons (.asg (.tup [5, 6]) (.ix (.var 1) (.var 3))) (.cons (.ite (.or (.not (.ofE (.blt (.isi .int) (.cons (.var 5) .nil)))) (.or (.ofE (.blt (.isi .bool) (.cons (.var 5) .nil))) (.not (.ofE (.blt (.isi .bool) (.cons (.var 6) .nil)))))) (.cons (.ret (.bl false)) .nil) .nil) (.cons (.ite (.or (.ofE (.cmp .lt (.var 5) (.int 0))) (.or (.ofE (.cmp .ge (.var 5) (.ix (.var 0) (.int 1)))) (.and (.ofE (.cmp .gt (.var 3) (.int 0))) (.ofE (.cmp .eq (.ix (.var 1) (.bin .sub (.var 3) (.int 1))) (.tup (.cons (.var 5) (.cons (.not (.var 6)) .nil)))))))) (.cons (.ret (.bl false)) .nil) .nil) .nil))))) (.cons (.ret (.bl true)) .nil)))))
def n39 : List Str := ["part", "thing", "there", "k", "card", "letter", "back"]
def f39 : FD := ⟨2, 7, [2], [], b39⟩
def c39 : Cp := ⟨n39, [2], [], [], fns, kwl⟩
theorem k39 : compSs c39 60 (L2.defScope (top 45)) (L2.defBody (top 45)) = some b39 := by kernel_rfl
/-- _law_turner -/
def b40 : Ss := (.cons (.ite (.or (.not (.ofE (.blt (.isi .tuple) (.cons (.var 3) .nil)))) (.ofE (.cmp .ne (.blt .len (.cons (.var 3) .nil)) (.blt .len (.cons (.var 0) .nil))))) (.cons (.ret (.bl false)) .nil) .nil) (.cons (.loop (.name 4) (.range (.cons (.blt .len (.cons (.var 0) .nil)) .nil)) (.cons (.ite (.not (.ofE (.call 39 [] (.cons (.ix (.var 0) (.var 4)) (.cons (.ix (.var 3) (.var 4)) .nil))))) (.cons (.ret (.bl false)) .nil) .nil) .nil)) (.cons (.loop (.name 4) (.range (.cons (.blt .len (.cons (.var 0) .nil)) .nil)) (.cons (.ite (.ofE (.cmp .ne (.call 33 [] (.cons (.ix (.var 0) (.var 4)) (.cons (.ix (.var 1) (.var 4)) (.cons (.ix (.var 3) (.var 4)) .nil)))) (.call 33 [] (.cons (.ix (.var 0) (.var 4)) (.cons (.ix (.var 3) (.var 4)) (.cons (.ix (.var 2) (.var 4)) .nil)))))) (.cons (.ret (.bl false)) .nil) .nil) .nil)) (.cons (.ret (.bl true)) .nil))))
def n40 : List Str := ["world", "one", "other", "thing", "k"]
def f40 : FD := ⟨4, 5, [], [], b40⟩
def c40 : Cp := ⟨n40, [], [], [], fns, kwl⟩
theorem k40 : compSs c40 60 (L2.defScope (top 46)) (L2.defBody (top 46)) = some b40 := by kernel_rfl
/-- _law_yes -/
def b41 : Ss := (.cons (.ret (.and (.blt (.isi .bool) (.cons (.var 0) .nil)) (.cmp .eq (.var 0) (.var 1)))) .nil)
def n41 : List Str := ["told", "due"]
def f41 : FD := ⟨2, 2, [], [], b41⟩
def c41 : Cp := ⟨n41, [], [], [], fns, kwl⟩
theorem k41 : compSs c41 60 (L2.defScope (top 47)) (L2.defBody (top 47)) = some b41 := by kernel_rfl
/-- _law_apart -/
def b42 : Ss := (.cons (.ite (.ofE (.cmp .eq (.ix (.var 0) (.int 0)) (.str "counter"))) (.cons (.ret (.bin .add (.var 1) (.int 1))) .nil) .nil) (.cons (.ite (.ofE (.cmp .eq (.ix (.var 0) (.int 0)) (.str "dial"))) (.cons (.ret (.bin .mod (.bin .add (.var 1) (.int 1)) (.ix (.var 0) (.int 1)))) .nil) .nil) (.cons (.ite (.ofE (.cmp .eq (.ix (.var 0) (.int 0)) (.str "rope"))) (.cons (.ret (.ife (.ofE (.cmp .gt (.blt .len (.cons (.var 1) .nil)) (.int 0))) (.tup .nil) (.tup (.cons (.tup (.cons (.int 0) (.cons (.bl false) .nil))) .nil)))) .nil) .nil) (.cons (.asg (.name 2) (.blt .tuple (.cons (.lc [3] (.name 3) (.range (.cons (.ix (.var 0) (.int 1)) .nil)) .yes (.var 3)) .nil))) (.cons (.ite (.or (.ofE (.cmp .lt (.ix (.var 0) (.int 1)) (.int 2))) (.ofE (.cmp .ne (.var 1) (.var 2)))) (.cons (.ret (.var 2)) .nil) .nil) (.cons (.ret (.bin .add (.tup (.cons (.int 1) (.cons (.int 0) .nil))) (.sl (.var 2) (.some (.int 2)) .none))) .nil))))))
def n42 : List Str := ["part", "one", "still", "k"]
def f42 : FD := ⟨2, 4, [], [], b42⟩
def c42 : Cp := ⟨n42, [], [], [], fns, kwl⟩
theorem k42 : compSs c42 60 (L2.defScope (top 48)) (L2.defBody (top 48)) = some b42 := by kernel_rfl
/-- _law_asks -/
def b43 : Ss := (.cons (.asg (.name 3) (.bl true)) (.cons (.loop (.name 4) (.range (.cons (.blt .len (.cons (.var 0) .nil)) .nil)) (.cons (.ite (.ofE (.cmp .ne (.call 38 [] (.cons (.ix (.var 0) (.var 4)) (.cons (.ix (.var 1) (.var 4)) .nil))) (.call 38 [] (.cons (.ix (.var 0) (.var 4)) (.cons (.ix (.var 2) (.var 4)) .nil))))) (.cons (.asg (.name 3) (.bl false)) .nil) .nil) .nil)) (.cons (.ite (.not (.ofE (.call 41 [] (.cons (.call 21 [] (.cons (.var 0) (.cons (.var 1) (.cons (.var 2) .nil)))) (.cons (.var 3) .nil))))) (.cons (.ret (.bl false)) .nil) .nil) (.cons (.asg (.name 5) (.call 20 [] (.cons (.var 0) (.cons (.var 1) (.cons (.var 2) .nil))))) (.cons (.ite (.not (.ofE (.var 3))) (.cons (.ret (.isn false (.var 5))) .nil) .nil) (.cons (.ret (.call 40 [] (.cons (.var 0) (.cons (.var 1) (.cons (.var 2) (.cons (.var 5) .nil)))))) .nil))))))
def n43 : List Str := ["world", "one", "other", "due", "k", "told"]
def f43 : FD := ⟨3, 6, [], [], b43⟩
def c43 : Cp := ⟨n43, [], [], [], fns, kwl⟩
theorem k43 : compSs c43 60 (L2.defScope (top 49)) (L2.defBody (top 49)) = some b43 := by kernel_rfl
/-- _law_strange -/
def b44 : Ss := (.cons (.asg (.name 4) (.ix (.var 1) (.var 3))) (.cons (.ite (.ofE (.cmp .eq (.ix (.var 4) (.int 0)) (.str "counter"))) (.cons (.asg (.name 5) (.ix (.lst (.cons (.bl true) (.cons .non (.cons (.tup (.cons (.ix (.var 2) (.var 3)) .nil)) (.cons (.blt .str (.cons (.ix (.var 2) (.var 3)) .nil)) .nil))))) (.call 27 [0] (.cons (.mvar 0) (.cons (.int 4) .nil))))) .nil) (.cons (.ite (.ofE (.cmp .eq (.ix (.var 4) (.int 0)) (.str "dial"))) (.cons (.asg (.name 5) (.ix (.lst (.cons (.bin .add (.ix (.var 4) (.int 1)) (.ix (.var 2) (.var 3))) (.cons (.bin .sub (.ix (.var 2) (.var 3)) (.ix (.var 4) (.int 1))) (.cons (.bl false) (.cons (.tup (.cons (.ix (.var 2) (.var 3)) .nil)) .nil))))) (.call 27 [0] (.cons (.mvar 0) (.cons (.int 4) .nil))))) .nil) (.cons (.ite (.ofE (.cmp .eq (.ix (.var 4) (.int 0)) (.str "deck"))) (.cons (.asg (.name 5) (.ix (.lst (.cons (.blt .list (.cons (.ix (.var 2) (.var 3)) .nil)) (.cons (.bin .add (.ix (.var 2) (.var 3)) (.tup (.cons (.ix (.var 4) (.int 1)) .nil))) (.cons (.sl (.ix (.var 2) (.var 3)) .none (.some (.neg (.int 1)))) (.cons (.bin .add (.sl (.ix (.var 2) (.var 3)) .none (.some (.neg (.int 1)))) (.tup (.cons (.ix (.var 4) (.int 1)) .nil))) (.cons (.bin .mul (.tup (.cons (.bl true) .nil)) (.ix (.var 4) (.int 1))) (.cons (.tup .nil) .nil))))))) (.call 27 [0] (.cons (.mvar 0) (.cons (.int 6) .nil))))) .nil) (.cons (.asg (.name 6) (.tup (.cons (.bin .sub (.ix (.var 4) (.int 1)) (.int 1)) (.cons (.bl false) .nil)))) (.cons (.asg (.name 5) (.ix (.lst (.cons (.bin .add (.ix (.var 2) (.var 3)) (.tup (.cons (.var 6) (.cons (.tup (.cons (.ix (.var 6) (.int 0)) (.cons (.bl true) .nil))) .nil)))) (.cons (.tup (.cons (.tup (.cons (.ix (.var 4) (.int 1)) (.cons (.bl false) .nil))) .nil)) (.cons (.tup (.cons (.tup (.cons (.int 0) (.cons (.int 0) .nil))) .nil)) (.cons (.tup (.cons (.tup (.cons (.bl false) (.cons (.bl false) .nil))) .nil)) (.cons (.blt .list (.cons (.ix (.var 2) (.var 3)) .nil)) (.cons (.tup (.cons (.tup (.cons (.int 0) (.cons (.bl false) (.cons (.bl false) .nil)))) .nil)) (.cons (.tup (.cons (.int 0) (.cons (.bl false) .nil))) .nil)))))))) (.call 27 [0] (.cons (.mvar 0) (.cons (.int 7) .nil))))) .nil))) .nil)) .nil)) (.cons (.asg (.name 7) (.bin .add (.bin .add (.sl (.var 2) .none (.some (.var 3))) (.tup (.cons (.var 5) .nil))) (.sl (.var 2) (.some (.bin .add (.var 3) (.int 1))) .none))) (.cons (.ret (.ix (.lst (.cons (.var 7) (.cons (.var 7) (.cons (.blt .list (.cons (.var 2) .nil)) (.cons (.bin .add (.var 2) (.tup (.cons (.ix (.var 2) (.var 3)) .nil))) (.cons (.sl (.var 2) .none (.some (.neg (.int 1)))) (.cons .non (.cons (.str "x") (.cons (.blt .len (.cons (.var 2) .nil)) .nil))))))))) (.call 27 [0] (.cons (.mvar 0) (.cons (.int 8) .nil))))) .nil))))
def n44 : List Str := ["heap", "world", "x", "k", "part", "bad", "turn", "whole"]
def f44 : FD := ⟨4, 8, [0], [0], b44⟩
def c44 : Cp := ⟨n44, [0], [0], [], fns, kwl⟩
theorem k44 : compSs c44 60 (L2.defScope (top 50)) (L2.defBody (top 50)) = some b44 := by kernel_rfl
/-- _law_same -/
def b45 : Ss := (.cons (.ite (.ofE (.blt (.isi .tuple) (.cons (.var 1) .nil))) (.cons (.ite (.or (.not (.ofE (.blt (.isi .tuple) (.cons (.var 0) .nil)))) (.ofE (.cmp .ne (.blt .len (.cons (.var 0) .nil)) (.blt .len (.cons (.var 1) .nil))))) (.cons (.ret (.bl false)) .nil) .nil) (.cons (.loop (.name 2) (.range (.cons (.blt .len (.cons (.var 1) .nil)) .nil)) (.cons (.ite (.not (.ofE (.call 45 [] (.cons (.ix (.var 0) (.var 2)) (.cons (.ix (.var 1) (.var 2)) .nil))))) (.cons (.ret (.bl false)) .nil) .nil) .nil)) (.cons (.ret (.bl true)) .nil))) .nil) (.cons (.ite (.or (.ofE (.blt (.isi .bool) (.cons (.var 1) .nil))) (.ofE (.blt (.isi .bool) (.cons (.var 0) .nil)))) (.cons (.ret (.and (.blt (.isi .bool) (.cons (.var 1) .nil)) (.and (.blt (.isi .bool) (.cons (.var 0) .nil)) (.cmp .eq (.var 0) (.var 1))))) .nil) .nil) (.cons (.ret (.and (.blt (.isi .int) (.cons (.var 0) .nil)) (.cmp .eq (.var 0) (.var 1)))) .nil)))
def n45 : List Str := ["told", "due", "k"]
def f45 : FD := ⟨2, 3, [], [], b45⟩
def c45 : Cp := ⟨n45, [], [], [], fns, kwl⟩
theorem k45 : compSs c45 60 (L2.defScope (top 51)) (L2.defBody (top 51)) = some b45 := by kernel_rfl
/-- law -/
def b46 : Ss := (.cons (.masg 1 (.call 26 [] (.cons (.var 0) .nil))) (.cons (.asg (.name 2) (.cmp .eq (.call 27 [0] (.cons (.mvar 1) (.cons (.int 7) .nil))) (.int 4))) (.cons (.asg (.name 3) (.call 28 [0] (.cons (.mvar 1) .nil))) (.cons (.ite (.ofE (.var 2)) (.cons (.asg (.name 3) (.bin .add (.tup (.cons (.tup (.cons (.str "rope") (.cons (.bin .add (.int 1) (.call 27 [0] (.cons (.mvar 1) (.cons (.int 6) .nil)))) .nil))) .nil)) (.sl (.var 3) (.some (.int 1)) .none))) .nil) .nil) (.cons (.asg (.name 4) (.ife (.ofE (.var 2)) (.int 50) (.int 8))) (.cons (.asg (.name 5) (.lc [6] (.name 6) (.range (.cons (.blt .len (.cons (.var 3) .nil)) .nil)) .yes (.var 6))) (.cons (.asg (.name 7) (.blt .tuple (.cons (.lc [8] (.name 8) (.seq (.var 3)) .yes (.call 31 [0] (.cons (.mvar 1) (.cons (.var 8) (.cons (.var 4) .nil))))) .nil))) (.cons (.asg (.name 9) (.blt .tuple (.cons (.lc [6] (.name 6) (.seq (.var 5)) .yes (.call 32 [0] (.cons (.mvar 1) (.cons (.ix (.var 3) (.var 6)) (.cons (.ix (.var 7) (.var 6)) (.cons (.var 4) .nil)))))) .nil))) (.cons (.asg (.name 10) (.blt .tuple (.cons (.lc [6] (.name 6) (.seq (.var 5)) .yes (.call 35 [] (.cons (.ix (.var 3) (.var 6)) (.cons (.ix (.var 7) (.var 6)) (.cons (.ix (.var 9) (.var 6)) .nil))))) .nil))) (.cons (.ite (.or (.not (.ofE (.call 41 [] (.cons (.call 22 [] (.cons (.var 3) (.cons (.var 7) (.cons (.var 10) (.cons (.var 9) .nil))))) (.cons (.bl true) .nil))))) (.not (.ofE (.call 43 [] (.cons (.var 3) (.cons (.var 7) (.cons (.var 10) .nil))))))) (.cons (.ret (.bl false)) .nil) .nil) (.cons (.asg (.name 11) (.blt .tuple (.cons (.lc [6] (.name 6) (.seq (.var 5)) .yes (.call 33 [] (.cons (.ix (.var 3) (.var 6)) (.cons (.ix (.var 7) (.var 6)) (.cons (.ix (.var 9) (.var 6)) .nil))))) .nil))) (.cons (.asg (.name 12) (.blt .tuple (.cons (.lc [6] (.name 6) (.seq (.var 5)) .yes (.call 33 [] (.cons (.ix (.var 3) (.var 6)) (.cons (.call 34 [] (.cons (.ix (.var 3) (.var 6)) (.cons (.ix (.var 7) (.var 6)) .nil))) (.cons (.ix (.var 9) (.var 6)) .nil))))) .nil))) (.cons (.loop (.name 13) (.seq (.lst (.cons (.var 11) (.cons (.var 12) .nil)))) (.cons (.ite (.not (.ofE (.call 41 [] (.cons (.call 22 [] (.cons (.var 3) (.cons (.var 7) (.cons (.var 10) (.cons (.var 13) .nil))))) (.cons (.bl true) .nil))))) (.cons (.ret (.bl false)) .nil) .nil) .nil)) (.cons (.asg (.name 14) (.blt .tuple (.cons (.lc [6] (.name 6) (.seq (.var 5)) .yes (.call 38 [] (.cons (.ix (.var 3) (.var 6)) (.cons (.ix (.var 7) (.var 6)) .nil)))) .nil))) (.cons (.loop (.name 15) (.seq (.lst (.cons (.var 7) (.cons (.var 10) (.cons (.var 14) .nil))))) (.cons (.ite (.not (.ofE (.call 45 [] (.cons (.call 25 [] (.cons (.var 3) (.cons (.var 15) .nil))) (.cons (.var 14) .nil))))) (.cons (.ret (.bl false)) .nil) .nil) .nil)) (.cons (.loop (.name 16) (.range (.cons (.int 2) .nil)) (.cons (.asg (.name 6) (.call 27 [0] (.cons (.mvar 1) (.cons (.blt .len (.cons (.var 3) .nil)) .nil)))) (.cons (.asg (.name 17) (.bin .add (.bin .add (.sl (.var 10) .none (.some (.var 6))) (.tup (.cons (.call 42 [] (.cons (.ix (.var 3) (.var 6)) (.cons (.ix (.var 10) (.var 6)) .nil))) .nil))) (.sl (.var 10) (.some (.bin .add (.var 6) (.int 1))) .none))) (.cons (.ite (.not (.ofE (.call 43 [] (.cons (.var 3) (.cons (.var 7) (.cons (.var 17) .nil)))))) (.cons (.ret (.bl false)) .nil) .nil) (.cons (.asg (.name 13) (.bin .add (.bin .add (.sl (.var 9) .none (.some (.var 6))) (.tup (.cons (.call 31 [0] (.cons (.mvar 1) (.cons (.ix (.var 3) (.var 6)) (.cons (.var 4) .nil)))) .nil))) (.sl (.var 9) (.some (.bin .add (.var 6) (.int 1))) .none))) (.cons (.ite (.not (.ofE (.call 41 [] (.cons (.callk 22 [1, 2, 3, 0] (.cons (.var 13) (.cons (.var 3) (.cons (.var 7) (.cons (.var 10) .nil))))) (.cons (.call 40 [] (.cons (.var 3) (.cons (.var 7) (.cons (.var 10) (.cons (.var 13) .nil))))) .nil))))) (.cons (.ret (.bl false)) .nil) .nil) (.cons (.ite (.not (.ofE (.call 41 [] (.cons (.call 22 [] (.cons (.var 3) (.cons (.var 7) (.cons (.var 17) (.cons (.var 9) .nil))))) (.cons (.call 40 [] (.cons (.var 3) (.cons (.var 7) (.cons (.var 17) (.cons (.var 9) .nil))))) .nil))))) (.cons (.ret (.bl false)) .nil) .nil) .nil))))))) (.cons (.asg (.name 18) (.blt .tuple (.cons (.lc [8] (.name 8) (.seq (.var 3)) .yes (.call 31 [0] (.cons (.mvar 1) (.cons (.var 8) (.cons (.int 8) .nil))))) .nil))) (.cons (.asg (.name 19) (.blt .tuple (.cons (.lc [6, 8] (.tup [6, 8]) (.enum (.var 3)) .yes (.ife (.ofE (.cmp .gt (.call 27 [0] (.cons (.mvar 1) (.cons (.int 3) .nil))) (.int 0))) (.call 31 [0] (.cons (.mvar 1) (.cons (.var 8) (.cons (.int 8) .nil)))) (.ix (.var 18) (.var 6)))) .nil))) (.cons (.ite (.not (.ofE (.call 43 [] (.cons (.var 3) (.cons (.var 18) (.cons (.var 19) .nil)))))) (.cons (.ret (.bl false)) .nil) .nil) (.cons (.loop (.name 16) (.range (.cons (.int 8) .nil)) (.cons (.asg (.name 13) (.call 44 [0] (.cons (.mvar 1) (.cons (.var 3) (.cons (.var 9) (.cons (.call 27 [0] (.cons (.mvar 1) (.cons (.blt .len (.cons (.var 3) .nil)) .nil))) .nil)))))) (.cons (.ite (.not (.ofE (.call 41 [] (.cons (.call 22 [] (.cons (.var 3) (.cons (.var 7) (.cons (.var 10) (.cons (.var 13) .nil))))) (.cons (.call 40 [] (.cons (.var 3) (.cons (.var 7) (.cons (.var 10) (.cons (.var 13) .nil))))) .nil))))) (.cons (.ret (.bl false)) .nil) .nil) .nil))) (.cons (.ret (.bl true)) .nil)))))))))))))))))))))
def n46 : List Str := ["script", "heap", "wide", "world", "longest", "parts", "k", "one", "part", "x", "other", "more", "less", "thing", "least", "change", "lap", "apart", "free", "some"]
def f46 : FD := ⟨1, 20, [1], [], b46⟩
def c46 : Cp := ⟨n46, [1], [], [], fns, kwl⟩
theorem k46 : compSs c46 60 (L2.defScope (top 52)) (L2.defBody (top 52)) = some b46 := by kernel_rfl
def prog : Nat → Option FD
  | 0 => some f0
  | 1 => some f1
  | 2 => some f2
  | 3 => some f3
  | 4 => some f4
  | 5 => some f5
  | 6 => some f6
  | 7 => some f7
  | 8 => some f8
  | 9 => some f9
  | 10 => some f10
  | 11 => some f11
  | 12 => some f12
  | 13 => some f13
  | 14 => some f14
  | 15 => some f15
  | 16 => some f16
  | 17 => some f17
  | 18 => some f18
  | 19 => some f19
  | 20 => some f20
  | 21 => some f21
  | 22 => some f22
  | 23 => some f23
  | 24 => some f24
  | 25 => some f25
  | 26 => some f26
  | 27 => some f27
  | 28 => some f28
  | 29 => some f29
  | 30 => some f30
  | 31 => some f31
  | 32 => some f32
  | 33 => some f33
  | 34 => some f34
  | 35 => some f35
  | 36 => some f36
  | 37 => some f37
  | 38 => some f38
  | 39 => some f39
  | 40 => some f40
  | 41 => some f41
  | 42 => some f42
  | 43 => some f43
  | 44 => some f44
  | 45 => some f45
  | 46 => some f46
  | _ => none
end P85
set_option Elab.async false
set_option linter.all false
set_option maxRecDepth 100000
set_option maxHeartbeats 0
namespace Hd
open PySem PySem.Spec PyProof.Rows L2
def top (i : Nat) : Stmt := PySem.Challenge.pw_changedalike_k85_whole_turners.main.body.getD i (.Pass ⟨0, 0, 0, 0⟩)
def dD (n : PySem.Str) (s : String) (i : Nat) : He.DefD := ⟨(n, none), s, s, defArgs (top i), defBody (top i), defScope (top i), [], []⟩

def fn0 : List He.DefD := [dD "is_integer" "is_integer" 1, dD "integer_within" "integer_within" 2, dD "is_tuple" "is_tuple" 3, dD "is_pair" "is_pair" 5, dD "undoes" "undoes" 6, dD "is_reduced" "is_reduced" 7, dD "is_element" "is_element" 8, dD "change_fault" "change_fault" 9, dD "is_change" "is_change" 10, dD "reduced_word" "reduced_word" 11, dD "deck_rounds" "deck_rounds" 13, dD "word_ends" "word_ends" 14, dD "joined_element" "joined_element" 16, dD "undone_deck" "undone_deck" 17, dD "undone_element" "undone_element" 18, dD "joined" "joined" 19, dD "all_rounds" "all_rounds" 21, dD "deck_turner" "deck_turner" 22, dD "rope_turner" "rope_turner" 23, dD "element_turner" "element_turner" 24]
def fn1 : List He.DefD := [dD "turner_of" "turner_of" 25, dD "are_turned" "are_turned" 26, dD "is_turner" "is_turner" 27, dD "least_deck" "least_deck" 28, dD "least_core" "least_core" 29, dD "least_turned" "least_turned" 30, dD "_law_seeds" "_law_seeds" 32, dD "_law_take" "_law_take" 33, dD "_law_worlds" "_law_worlds" 34, dD "_law_shuffled" "_law_shuffled" 35, dD "_law_reduced" "_law_reduced" 36, dD "_law_any" "_law_any" 37, dD "_law_ahead" "_law_ahead" 38, dD "_law_then" "_law_then" 39, dD "_law_back" "_law_back" 40, dD "_law_turns" "_law_turns" 41, dD "_law_lengths" "_law_lengths" 42, dD "_law_core" "_law_core" 43, dD "_law_least" "_law_least" 44, dD "_law_fits" "_law_fits" 45]
def fn2 : List He.DefD := [dD "_law_turner" "_law_turner" 46, dD "_law_yes" "_law_yes" 47, dD "_law_apart" "_law_apart" 48, dD "_law_asks" "_law_asks" 49, dD "_law_strange" "_law_strange" 50, dD "_law_same" "_law_same" 51, dD "law" "law" 52]
def fn : List He.DefD := fn0 ++ fn1 ++ fn2
def fa0 : List He.Fa := [.glo "is_integer", .glo "integer_within", .glo "is_tuple", .glo "is_pair", .glo "undoes", .glo "is_reduced", .glo "is_element", .glo "change_fault", .glo "is_change", .glo "reduced_word", .glo "deck_rounds", .glo "word_ends", .glo "joined_element", .glo "undone_deck", .glo "undone_element", .glo "joined", .glo "all_rounds", .glo "deck_turner", .glo "rope_turner", .glo "element_turner"]
def fa1 : List He.Fa := [.glo "turner_of", .glo "are_turned", .glo "is_turner", .glo "least_deck", .glo "least_core", .glo "least_turned", .glo "_law_seeds", .glo "_law_take", .glo "_law_worlds", .glo "_law_shuffled", .glo "_law_reduced", .glo "_law_any", .glo "_law_ahead", .glo "_law_then", .glo "_law_back", .glo "_law_turns", .glo "_law_lengths", .glo "_law_core", .glo "_law_least", .glo "_law_fits"]
def fa2 : List He.Fa := [.glo "_law_turner", .glo "_law_yes", .glo "_law_apart", .glo "_law_asks", .glo "_law_strange", .glo "_law_same", .glo "law", .free "len", .free "isinstance", .free "abs", .free "int", .free "bool", .free "str", .free "tuple", .free "list", .free "all", .free "any", .free "min", .free "max", .free "sorted"]
def fa3 : List He.Fa := [.free "set", .free "range", .free "enumerate", .free "zip", .free "reversed"]
def fa : List He.Fa := fa0 ++ fa1 ++ fa2 ++ fa3
def nm0 : List PySem.Str := ["is_integer", "integer_within", "is_tuple", "is_pair", "undoes", "is_reduced", "is_element", "change_fault", "is_change", "reduced_word", "deck_rounds", "word_ends", "joined_element", "undone_deck", "undone_element", "joined", "all_rounds", "deck_turner", "rope_turner", "element_turner"]
def nm1 : List PySem.Str := ["turner_of", "are_turned", "is_turner", "least_deck", "least_core", "least_turned", "_law_seeds", "_law_take", "_law_worlds", "_law_shuffled", "_law_reduced", "_law_any", "_law_ahead", "_law_then", "_law_back", "_law_turns", "_law_lengths", "_law_core", "_law_least", "_law_fits"]
def nm2 : List PySem.Str := ["_law_turner", "_law_yes", "_law_apart", "_law_asks", "_law_strange", "_law_same"]
def nm : List PySem.Str := nm0 ++ nm1 ++ nm2
abbrev R : PySem.W.OpenRow := PySem.W.OpenLaw.row PySem.Challenge.rw_changedalike_k85_whole_turners
abbrev hk : PySem.W.Hook := He.hookD 4 fa fn
def ob (s : PySem.W.SharedT) : He.AlD := He.obsDG 4 fa fn (HandSHeadRun.getT s)
theorem ob_eq (s : PySem.W.SharedT) : ob s = hk.obs s.abs := He.obsDG_eq (HandSHeadRun.getT_eq s)
theorem run (w : World) : HandSHeadRun.RunEq R (PySem.W.view R.prog [52]) hk ob 4000 nm w := by
  intro os
  kernel_rfl
end Hd
set_option Elab.async false
set_option linter.all false
set_option maxRecDepth 100000
set_option maxHeartbeats 1000000
/-! VmP: rules for what terms give: values that stand still (PV, PVs, PT), own lists (PO), bodies that return (RT). -/
namespace Vm
/-- e gives d and leaves the frame -/
def PV (Φ : Fs) (e : E) (ρ : Rho) (d : D) : Prop := evalE Φ e ρ = some (.val d, ρ)
def PO (Φ : Fs) (e : E) (ρ : Rho) (d : D) : Prop := evalE Φ e ρ = some (.own d, ρ)
/-- either way, but no dict -/
def PD (Φ : Fs) (e : E) (ρ : Rho) (d : D) : Prop := ∃ r, evalE Φ e ρ = some (r, ρ) ∧ res ρ r = some d ∧ val? r = some d ∧ slotPos 0 [r] = []
def PVs (Φ : Fs) (as : As) (ρ : Rho) (ds : List D) : Prop := ∃ rs, evalAs Φ as ρ = some (rs, ρ) ∧ valAll rs = some ds ∧ resAll ρ rs = some ds ∧ slotIds rs = [] ∧ ∀ k, slotPos k rs = []
def PT (Φ : Fs) (t : T) (ρ : Rho) (b : Bool) : Prop := evalT Φ t ρ = some (b, ρ)
def PI (Φ : Fs) (t : It) (ρ : Rho) (ds : List D) : Prop := evalI Φ t ρ = some (ds, ρ)
def RT (Φ : Fs) (b : Ss) (ρ : Rho) (r : R) : Prop := ∃ ρ', execs Φ b ρ = some (.rt r, ρ')
section
variable {Φ : Fs} {e a b c : E} {ρ : Rho} {d x y : D} {t u : T}
theorem PV.pd (h : PV Φ e ρ d) : PD Φ e ρ d := ⟨_, h, rfl, rfl, rfl⟩
theorem PO.pd {xs : List D} (h : PO Φ e ρ (.list xs)) : PD Φ e ρ (.list xs) := ⟨_, h, rfl, rfl, rfl⟩
theorem pv_var {i : Nat} (h : ρ[i]? = some (some d)) : PV Φ (.var i) ρ d := by
  unfold PV evalE
  rw [h]
theorem pv_int {k : Int} : PV Φ (.int k) ρ (.int k) := rfl
theorem pv_bl {k : Bool} : PV Φ (.bl k) ρ (.bool k) := rfl
theorem pv_non : PV Φ .non ρ .none := rfl
theorem pv_str {s : PySem.Str} : PV Φ (.str s) ρ (.str s) := rfl
theorem pd_bin {o : BOp} {r : R} (ha : PD Φ a ρ x) (hb : PD Φ b ρ y) (h : binD o x y = some r) : evalE Φ (.bin o a b) ρ = some (r, ρ) := by
  obtain ⟨ra, a1, a2, _⟩ := ha
  obtain ⟨rb, b1, b2, _⟩ := hb
  simp only [evalE, a1, b1, a2, b2, h, bind, Option.bind]
theorem pv_bin {o : BOp} (ha : PD Φ a ρ x) (hb : PD Φ b ρ y) (h : binD o x y = some (.val d)) : PV Φ (.bin o a b) ρ d := pd_bin ha hb h
theorem po_bin {o : BOp} (ha : PD Φ a ρ x) (hb : PD Φ b ρ y) (h : binD o x y = some (.own d)) : PO Φ (.bin o a b) ρ d := pd_bin ha hb h
theorem pv_neg {i : Int} (ha : PV Φ a ρ (.int i)) : PV Φ (.neg a) ρ (.int (-i)) := by
  unfold PV at *
  simp only [evalE, ha, bind, Option.bind]
theorem pv_cmp {o : COp} {k : Bool} (ha : PD Φ a ρ x) (hb : PD Φ b ρ y) (h : cmpD o x y = some k) : PV Φ (.cmp o a b) ρ (.bool k) := by
  obtain ⟨ra, a1, a2, _⟩ := ha
  obtain ⟨rb, b1, b2, _⟩ := hb
  unfold PV
  simp only [evalE, a1, b1, a2, b2, h, bind, Option.bind]
theorem pv_isn {ng : Bool} (ha : PD Φ a ρ x) : PV Φ (.isn ng a) ρ (.bool (if ng then !isNonD x else isNonD x)) := by
  obtain ⟨ra, a1, a2, a3, _⟩ := ha
  unfold PV
  simp only [evalE, a1, a3, bind, Option.bind]
theorem pv_chain {o p : COp} {k l : Bool} {z : D} (ha : PV Φ a ρ x) (hb : PV Φ b ρ y) (hc : PV Φ c ρ z) (h1 : cmpD o x y = some k) (h2 : k = true → cmpD p y z = some l) : PV Φ (.chain o p a b c) ρ (.bool (k && l)) := by
  unfold PV at *
  simp only [evalE, ha, hb, val?, h1, bind, Option.bind]
  cases k with
  | true => simp only [if_true, hc, res, h2 rfl, Bool.true_and]
  | false => simp
theorem pv_and {k l : Bool} (ha : PV Φ a ρ (.bool k)) (hb : k = true → PV Φ b ρ (.bool l)) : PV Φ (.and a b) ρ (.bool (k && l)) := by
  unfold PV at *
  simp only [evalE, ha, bind, Option.bind]
  cases k with
  | true => simpa using hb rfl
  | false => simp
theorem pv_or {k l : Bool} (ha : PV Φ a ρ (.bool k)) (hb : k = false → PV Φ b ρ (.bool l)) : PV Φ (.or a b) ρ (.bool (k || l)) := by
  unfold PV at *
  simp only [evalE, ha, bind, Option.bind]
  cases k with
  | false => simpa using hb rfl
  | true => simp
theorem pv_not {k : Bool} (ha : PV Φ a ρ (.bool k)) : PV Φ (.not a) ρ (.bool (!k)) := by
  unfold PV at *
  simp only [evalE, ha, bind, Option.bind]
theorem pv_ife {k : Bool} (ht : PT Φ t ρ k) (ha : k = true → PV Φ a ρ x) (hb : k = false → PV Φ b ρ y) : PV Φ (.ife t a b) ρ (if k then x else y) := by
  unfold PV PT at *
  simp only [evalE, ht, bind, Option.bind]
  cases k with
  | true => simpa using ha rfl
  | false => simpa using hb rfl
/-! rows of arguments -/
theorem pvs_nil : PVs Φ .nil ρ [] := ⟨[], rfl, rfl, rfl, rfl, fun _ => rfl⟩
theorem slotPos_of {r : R} (h : slotPos 0 [r] = []) : ∀ i, r ≠ .slot i := fun i e => by subst e; cases h
theorem pvs_cons {r : As} {ds : List D} (he : PD Φ e ρ d) (hr : PVs Φ r ρ ds) : PVs Φ (.cons e r) ρ (d :: ds) := by
  obtain ⟨x, h1, h2, h3, h4⟩ := he
  obtain ⟨rs, g1, g2, g3, g4, g5⟩ := hr
  refine ⟨x :: rs, ?_, ?_, ?_, ?_, fun k => ?_⟩
  · simp only [evalAs, h1, g1, bind, Option.bind]
  · simp only [valAll, h3, g2]
  · simp only [resAll, h2, g3]
  · cases x <;> first | (simp only [slotIds, g4]; done) | (cases h4)
  · cases x <;> first | (simp only [slotPos, g5]; done) | (cases h4)
theorem pv_tup {as : As} {ds : List D} (h : PVs Φ as ρ ds) (hl : ds.length ≤ lim) : PV Φ (.tup as) ρ (.tuple ds) := by
  obtain ⟨rs, g1, g2, _⟩ := h
  unfold PV
  simp only [evalE, g1, g2, bind, Option.bind, if_pos hl]
theorem po_lst {as : As} {ds : List D} (h : PVs Φ as ρ ds) (hl : ds.length ≤ lim) : PO Φ (.lst as) ρ (.list ds) := by
  obtain ⟨rs, g1, g2, _⟩ := h
  unfold PO
  simp only [evalE, g1, g2, bind, Option.bind, if_pos hl]
theorem pv_ix (ha : PD Φ a ρ x) (hb : PV Φ b ρ y) (h : ixD x y = some d) : PV Φ (.ix a b) ρ d := by
  obtain ⟨ra, a1, a2, _⟩ := ha
  unfold PV at *
  simp only [evalE, a1, hb, a2, show res ρ (R.val y) = some y from rfl, h, bind, Option.bind]
/-- slices: the bounds -/
def POb (Φ : Fs) (o : O) (ρ : Rho) (k : Option Int) : Prop := evalO Φ o ρ = some (k, ρ)
theorem pob_none : POb Φ .none ρ none := rfl
theorem pob_some {i : Int} (h : PV Φ e ρ (.int i)) : POb Φ (.some e) ρ (some i) := by
  unfold PV POb at *
  simp only [evalO, h, bind, Option.bind]
theorem pd_sl {lo hi : O} {l h : Option Int} {r : R} (ha : PD Φ a ρ x) (hl : POb Φ lo ρ l) (hh : POb Φ hi ρ h) (hs : slD x l h = some r) : evalE Φ (.sl a lo hi) ρ = some (r, ρ) := by
  obtain ⟨ra, a1, a2, _⟩ := ha
  unfold POb at *
  simp only [evalE, a1, hl, hh, a2, hs, bind, Option.bind]
theorem call_of {k : Nat} {as : As} {ds : List D} {r : R} (h : PVs Φ as ρ ds) (hc : Φ k ds = some (r, [])) : evalE Φ (.call k [] as) ρ = some (r, ρ) := by
  obtain ⟨rs, g1, g2, g3, g4, g5⟩ := h
  simp only [evalE, g1, g3, g4, g5, hc, nodupB, setAll, bind, Option.bind, and_self, if_true]
theorem pv_call {k : Nat} {as : As} {ds : List D} (h : PVs Φ as ρ ds) (hc : Φ k ds = some (.val d, [])) : PV Φ (.call k [] as) ρ d := call_of h hc
theorem po_call {k : Nat} {as : As} {ds : List D} (h : PVs Φ as ρ ds) (hc : Φ k ds = some (.own d, [])) : PO Φ (.call k [] as) ρ d := call_of h hc
theorem blt_of {f : Fn} {as : As} {ds : List D} {r : R} (h : PVs Φ as ρ ds) (hc : bltD f ds = some r) : evalE Φ (.blt f as) ρ = some (r, ρ) := by
  obtain ⟨rs, g1, g2, g3, _⟩ := h
  simp only [evalE, g1, g3, hc, bind, Option.bind]
theorem pv_blt {f : Fn} {as : As} {ds : List D} (h : PVs Φ as ρ ds) (hc : bltD f ds = some (.val d)) : PV Φ (.blt f as) ρ d := blt_of h hc
theorem po_blt {f : Fn} {as : As} {ds : List D} (h : PVs Φ as ρ ds) (hc : bltD f ds = some (.own d)) : PO Φ (.blt f as) ρ d := blt_of h hc
/-! tests -/
theorem pt_yes : PT Φ .yes ρ true := rfl
theorem pt_ofE {k : Bool} (h : PD Φ e ρ d) (hk : truthD d = some k) : PT Φ (.ofE e) ρ k := by
  obtain ⟨r, h1, h2, _⟩ := h
  unfold PT
  simp only [evalT, h1, h2, hk, bind, Option.bind]
theorem pt_b {k : Bool} (h : PV Φ e ρ (.bool k)) : PT Φ (.ofE e) ρ k := pt_ofE h.pd rfl
theorem pt_and {k l : Bool} (ha : PT Φ t ρ k) (hb : k = true → PT Φ u ρ l) : PT Φ (.and t u) ρ (k && l) := by
  unfold PT at *
  simp only [evalT, ha, bind, Option.bind]
  cases k with
  | true => simpa using hb rfl
  | false => simp
theorem pt_or {k l : Bool} (ha : PT Φ t ρ k) (hb : k = false → PT Φ u ρ l) : PT Φ (.or t u) ρ (k || l) := by
  unfold PT at *
  simp only [evalT, ha, bind, Option.bind]
  cases k with
  | false => simpa using hb rfl
  | true => simp
theorem pt_not {k : Bool} (ha : PT Φ t ρ k) : PT Φ (.not t) ρ (!k) := by
  unfold PT at *
  simp only [evalT, ha, bind, Option.bind]
/-! what is walked -/
theorem pi_seq {xs : List D} (h : PD Φ e ρ d) (hd : seqOf d = some xs) : PI Φ (.seq e) ρ xs := by
  obtain ⟨r, h1, _, h3, _⟩ := h
  unfold PI
  simp only [evalI, h1, h3, hd, bind, Option.bind]
theorem pi_enum {xs : List D} (h : PD Φ e ρ d) (hd : seqOf d = some xs) : PI Φ (.enum e) ρ (enumD 0 xs) := by
  obtain ⟨r, h1, _, h3, _⟩ := h
  unfold PI
  simp only [evalI, h1, h3, hd, bind, Option.bind]
theorem pi_rev {xs : List D} (h : PD Φ e ρ d) (hd : seqOf d = some xs) : PI Φ (.rev e) ρ xs.reverse := by
  obtain ⟨r, h1, _, h3, _⟩ := h
  unfold PI
  simp only [evalI, h1, h3, hd, bind, Option.bind]
theorem pi_range1 {n : Int} (h : PV Φ e ρ (.int n)) (hn : small62 n = true) : PI Φ (.range (.cons e .nil)) ρ (rangeD 0 n.toNat) := by
  obtain ⟨rs, g1, g2, _⟩ := pvs_cons h.pd pvs_nil
  unfold PI
  simp only [evalI, g1, g2, bind, Option.bind, if_pos hn]
theorem pi_zip2 {xs ys : List D} (ha : PD Φ a ρ (.tuple xs)) (hb : PD Φ b ρ (.tuple ys)) : PI Φ (.zip (.cons a (.cons b .nil))) ρ (zipD2 xs ys) := by
  obtain ⟨rs, g1, g2, _⟩ := pvs_cons ha (pvs_cons hb pvs_nil)
  unfold PI
  simp only [evalI, g1, g2, bind, Option.bind]
theorem pi_zipL {xs ys : List D} (ha : PD Φ a ρ (.list xs)) (hb : PD Φ b ρ (.list ys)) : PI Φ (.zip (.cons a (.cons b .nil))) ρ (zipD2 xs ys) := by
  obtain ⟨rs, g1, g2, _⟩ := pvs_cons ha (pvs_cons hb pvs_nil)
  unfold PI
  simp only [evalI, g1, g2, bind, Option.bind]
theorem pi_zip3 {xs ys zs : List D} (ha : PD Φ a ρ (.tuple xs)) (hb : PD Φ b ρ (.tuple ys)) (hc : PD Φ c ρ (.tuple zs)) : PI Φ (.zip (.cons a (.cons b (.cons c .nil)))) ρ (zipD3 xs ys zs) := by
  obtain ⟨rs, g1, g2, _⟩ := pvs_cons ha (pvs_cons hb (pvs_cons hc pvs_nil))
  unfold PI
  simp only [evalI, g1, g2, bind, Option.bind]
/-! comprehensions: every turn gives h of what is handed out, and leaves the frame -/
theorem lc_all {own : List Nat} {g : G} {tf : Rho → Option (Bool × Rho)} {ff : Rho → Option (R × Rho)} (h : D → D) {ρ0 : Rho} : ∀ (items : List D) (acc : List D), acc.length + items.length ≤ lim →
    (∀ d ∈ items, ∃ ρ1, assignG g d ρ0 = some ρ1 ∧ tf ρ1 = some (true, ρ1) ∧ clear own ρ1 = ρ0 ∧ ∃ r, ff ρ1 = some (r, ρ1) ∧ val? r = some (h d)) → lcLoop tf ff g own items ρ0 acc = some (acc ++ items.map h, ρ0)
  | [], acc, _, _ => by simp [lcLoop]
  | d :: items, acc, hl, hh => by
    obtain ⟨ρ1, h1, h2, h3, r, h4, h5⟩ := hh d List.mem_cons_self
    have hlt : acc.length < lim := by simp only [List.length_cons] at hl; omega
    simp only [lcLoop, h1, h2, h4, h5, h3, bind, Option.bind, if_true, if_pos hlt]
    rw [lc_all h items (acc ++ [h d]) (by simp only [List.length_append, List.length_cons, List.length_nil] at hl ⊢; omega) fun d' hd' => hh d' (List.mem_cons_of_mem _ hd')]
    simp
theorem lc_filter {own : List Nat} {g : G} {tf : Rho → Option (Bool × Rho)} {ff : Rho → Option (R × Rho)} (p : D → Bool) (h : D → D) {ρ0 : Rho} : ∀ (items : List D) (acc : List D), acc.length + items.length ≤ lim →
    (∀ d ∈ items, ∃ ρ1, assignG g d ρ0 = some ρ1 ∧ tf ρ1 = some (p d, ρ1) ∧ clear own ρ1 = ρ0 ∧ (p d = true → ∃ r, ff ρ1 = some (r, ρ1) ∧ val? r = some (h d))) → lcLoop tf ff g own items ρ0 acc = some (acc ++ (items.filter p).map h, ρ0)
  | [], acc, _, _ => by simp [lcLoop]
  | d :: items, acc, hl, hh => by
    obtain ⟨ρ1, h1, h2, h3, h4⟩ := hh d List.mem_cons_self
    have hlt : acc.length < lim := by simp only [List.length_cons] at hl; omega
    have rest := fun acc' ha => lc_filter p h (ρ0 := ρ0) items acc' ha fun d' hd' => hh d' (List.mem_cons_of_mem _ hd')
    cases e : p d with
    | true =>
      obtain ⟨r, h5, h6⟩ := h4 e
      rw [e] at h2
      simp only [lcLoop, h1, h2, h5, h6, h3, bind, Option.bind, if_true, if_pos hlt]
      rw [rest (acc ++ [h d]) (by simp only [List.length_append, List.length_cons, List.length_nil] at hl ⊢; omega), List.filter_cons_of_pos e]
      simp
    | false =>
      rw [e] at h2
      simp only [lcLoop, h1, h2, h3, bind, Option.bind, Bool.false_eq_true, if_false]
      rw [rest acc (by simp only [List.length_cons] at hl; omega), List.filter_cons_of_neg (by rw [e]; exact Bool.false_ne_true)]
theorem po_lc {own : List Nat} {g : G} {it : It} {items : List D} (hI : PI Φ it ρ items) (h : D → D) (hl : items.length ≤ lim) (hr : restore ρ own (clear own ρ) = ρ)
    (hh : ∀ d ∈ items, ∃ ρ1, assignG g d (clear own ρ) = some ρ1 ∧ clear own ρ1 = clear own ρ ∧ PT Φ t ρ1 true ∧ PD Φ e ρ1 (h d)) : PO Φ (.lc own g it t e) ρ (.list (items.map h)) := by
  unfold PO PI PT PD at *
  simp only [evalE, hI, bind, Option.bind]
  rw [lc_all h items [] (by simpa using hl) fun d hd => by
    obtain ⟨ρ1, h1, h2, h3, r, h4, _, h6, _⟩ := hh d hd
    exact ⟨ρ1, h1, h3, h2, r, h4, h6⟩]
  simp only [List.nil_append, hr]
theorem po_lcf {own : List Nat} {g : G} {it : It} {items : List D} (hI : PI Φ it ρ items) (p : D → Bool) (h : D → D) (hl : items.length ≤ lim) (hr : restore ρ own (clear own ρ) = ρ)
    (hh : ∀ d ∈ items, ∃ ρ1, assignG g d (clear own ρ) = some ρ1 ∧ clear own ρ1 = clear own ρ ∧ PT Φ t ρ1 (p d) ∧ (p d = true → PD Φ e ρ1 (h d))) : PO Φ (.lc own g it t e) ρ (.list ((items.filter p).map h)) := by
  unfold PO PI PT PD at *
  simp only [evalE, hI, bind, Option.bind]
  rw [lc_filter p h items [] (by simpa using hl) fun d hd => by
    obtain ⟨ρ1, h1, h2, h3, h4⟩ := hh d hd
    exact ⟨ρ1, h1, h3, h2, fun e => by
      obtain ⟨r, h5, _, h6, _⟩ := h4 e
      exact ⟨r, h5, h6⟩⟩]
  simp only [List.nil_append, hr]
/-! bodies -/
theorem rt_ret {rest : Ss} (h : PV Φ e ρ d) : RT Φ (.cons (.ret e) rest) ρ (.val d) := by
  unfold PV at h
  exact ⟨ρ, by simp only [execs, exec, h, bind, Option.bind]⟩
theorem rt_retO {rest : Ss} (h : PO Φ e ρ d) : RT Φ (.cons (.ret e) rest) ρ (.own d) := by
  unfold PO at h
  exact ⟨ρ, by simp only [execs, exec, h, bind, Option.bind]⟩
theorem rt_of {s : S} {rest : Ss} {ρ1 : Rho} {r : R} (h : exec Φ s ρ = some (.nx, ρ1)) (hr : RT Φ rest ρ1 r) : RT Φ (.cons s rest) ρ r := by
  obtain ⟨ρ2, h2⟩ := hr
  exact ⟨ρ2, by simp only [execs, h, h2, bind, Option.bind]⟩
theorem rt_if {as : Ss} {rest : Ss} {k : Bool} {r : R} (ht : PT Φ t ρ k) (ha : k = true → RT Φ as ρ r) (hb : k = false → RT Φ rest ρ r) : RT Φ (.cons (.ite t as .nil) rest) ρ r := by
  unfold PT at ht
  cases k with
  | true =>
    obtain ⟨ρ2, h2⟩ := ha rfl
    exact ⟨ρ2, by simp only [execs, exec, ht, h2, bind, Option.bind, if_true]⟩
  | false =>
    obtain ⟨ρ2, h2⟩ := hb rfl
    exact ⟨ρ2, by simp only [execs, exec, ht, h2, bind, Option.bind, Bool.false_eq_true, if_false]⟩
theorem rt_asg {i : Nat} {rest : Ss} {r : R} (h : PD Φ e ρ d) (hi : i < ρ.length) (hr : RT Φ rest (ρ.set i (some d)) r) : RT Φ (.cons (.asg (.name i) e) rest) ρ r := by
  obtain ⟨x, h1, _, h3, _⟩ := h
  exact rt_of (by simp only [exec, h1, h3, assignG, bind, Option.bind, if_pos hi]) hr
theorem rt_masg {i : Nat} {rest : Ss} {r : R} (h : PO Φ e ρ d) (hi : i < ρ.length) (hr : RT Φ rest (ρ.set i (some d)) r) : RT Φ (.cons (.masg i e) rest) ρ r := by
  unfold PO at h
  exact rt_of (by simp only [exec, h, bind, Option.bind, if_pos hi]) hr
theorem rt_loop {g : G} {it : It} {b : Ss} {rest : Ss} {items : List D} {ρ1 : Rho} {r : R} (hI : PI Φ it ρ items) (h : forLoop (fun r => execs Φ b r) g items ρ = some (.nx, ρ1)) (hr : RT Φ rest ρ1 r) : RT Φ (.cons (.loop g it b) rest) ρ r := by
  unfold PI at hI
  exact rt_of (by simp only [exec, hI, h, bind, Option.bind]) hr
theorem rt_loopR {g : G} {it : It} {b : Ss} {rest : Ss} {items : List D} {ρ1 : Rho} {r : R} (hI : PI Φ it ρ items) (h : forLoop (fun r => execs Φ b r) g items ρ = some (.rt r, ρ1)) : RT Φ (.cons (.loop g it b) rest) ρ r := by
  unfold PI at hI
  exact ⟨ρ1, by simp only [execs, exec, hI, h, bind, Option.bind]⟩
/-- a loop that leaves the frame by an invariant -/
theorem for_inv {f : Rho → Option (Fl × Rho)} {g : G} (I : Nat → Rho → Prop) : ∀ (items : List D) (k : Nat) (ρ : Rho), I k ρ → (∀ i d ρ, items[i]? = some d → I (k + i) ρ → ∃ ρ1 fl ρ2, assignG g d ρ = some ρ1 ∧ f ρ1 = some (fl, ρ2) ∧ (fl = .nx ∨ fl = .ct) ∧ I (k + i + 1) ρ2) →
    ∃ ρ', forLoop f g items ρ = some (.nx, ρ') ∧ I (k + items.length) ρ'
  | [], k, ρ, h0, _ => ⟨ρ, rfl, h0⟩
  | d :: items, k, ρ, h0, hs => by
    obtain ⟨ρ1, fl, ρ2, h1, h2, h3, h4⟩ := hs 0 d ρ rfl h0
    obtain ⟨ρ', g1, g2⟩ := for_inv I items (k + 1) ρ2 h4 fun i d' ρ hi hI => by
      have := hs (i + 1) d' ρ (by simpa using hi) (by rw [show k + (i + 1) = k + 1 + i by omega]; exact hI)
      rw [show k + (i + 1) + 1 = k + 1 + i + 1 by omega] at this
      exact this
    refine ⟨ρ', ?_, by rw [show k + (d :: items).length = k + 1 + items.length by simp; omega]; exact g2⟩
    rcases h3 with rfl | rfl <;> simp only [forLoop, h1, h2, bind, Option.bind, g1]
theorem run_of {np ns : Nat} {M : List Nat} {b : Ss} {ds : List D} {r : R} (hl : ds.length = np) (h : RT Φ b (ds.map some ++ List.replicate (ns - np) none) r) (hr : ∀ i, r ≠ .slot i) : runFD Φ ⟨np, ns, M, [], b⟩ ds = some (r, []) := by
  obtain ⟨ρ', h⟩ := h
  unfold runFD
  dsimp only
  rw [if_pos hl]
  simp only [h, outsOf, bind, Option.bind]
  cases r with
  | val d => rfl
  | own d => rfl
  | slot i => exact absurd rfl (hr i)
end
end Vm
set_option Elab.async false
set_option linter.all false
set_option maxRecDepth 100000
set_option maxHeartbeats 1000000
/-! VmP2: lists of the frame that change. -/
namespace Vm
/-- e can be read as d where it stands -/
def PR (Φ : Fs) (e : E) (ρ : Rho) (d : D) : Prop := ∃ r, evalE Φ e ρ = some (r, ρ) ∧ res ρ r = some d
def PRs (Φ : Fs) (as : As) (ρ : Rho) (ds : List D) : Prop := ∃ rs, evalAs Φ as ρ = some (rs, ρ) ∧ resAll ρ rs = some ds
section
variable {Φ : Fs} {e a b c : E} {ρ : Rho} {d x y : D} {t u : T}
theorem PD.pr (h : PD Φ e ρ d) : PR Φ e ρ d := let ⟨r, h1, h2, _⟩ := h; ⟨r, h1, h2⟩
theorem PV.pr (h : PV Φ e ρ d) : PR Φ e ρ d := h.pd.pr
theorem PVs.prs {as : As} {ds : List D} (h : PVs Φ as ρ ds) : PRs Φ as ρ ds := let ⟨r, h1, _, h3, _⟩ := h; ⟨r, h1, h3⟩
theorem pr_mvar {i : Nat} {xs : List D} (h : ρ[i]? = some (some (.list xs))) : PR Φ (.mvar i) ρ (.list xs) := by
  refine ⟨.slot i, ?_, ?_⟩
  · simp only [evalE, h]
  · simp only [res, h, nodict]
theorem prs_nil : PRs Φ .nil ρ [] := ⟨[], rfl, rfl⟩
theorem prs_cons {r : As} {ds : List D} (he : PR Φ e ρ d) (hr : PRs Φ r ρ ds) : PRs Φ (.cons e r) ρ (d :: ds) := by
  obtain ⟨x, h1, h2⟩ := he
  obtain ⟨rs, g1, g2⟩ := hr
  refine ⟨x :: rs, ?_, ?_⟩
  · simp only [evalAs, h1, g1, bind, Option.bind]
  · simp only [resAll, h2, g2]
theorem bltR {f : Fn} {as : As} {ds : List D} {r : R} (h : PRs Φ as ρ ds) (hc : bltD f ds = some r) : evalE Φ (.blt f as) ρ = some (r, ρ) := by
  obtain ⟨rs, g1, g3⟩ := h
  simp only [evalE, g1, g3, hc, bind, Option.bind]
theorem pv_bltR {f : Fn} {as : As} {ds : List D} (h : PRs Φ as ρ ds) (hc : bltD f ds = some (.val d)) : PV Φ (.blt f as) ρ d := bltR h hc
theorem po_bltR {f : Fn} {as : As} {ds : List D} (h : PRs Φ as ρ ds) (hc : bltD f ds = some (.own d)) : PO Φ (.blt f as) ρ d := bltR h hc
theorem pv_ixR (ha : PR Φ a ρ x) (hb : PV Φ b ρ y) (h : ixD x y = some d) : PV Φ (.ix a b) ρ d := by
  obtain ⟨ra, a1, a2⟩ := ha
  unfold PV at *
  simp only [evalE, a1, hb, a2, show res ρ (R.val y) = some y from rfl, h, bind, Option.bind]
theorem pv_cmpR {o : COp} {k : Bool} (ha : PR Φ a ρ x) (hb : PR Φ b ρ y) (h : cmpD o x y = some k) : PV Φ (.cmp o a b) ρ (.bool k) := by
  obtain ⟨ra, a1, a2⟩ := ha
  obtain ⟨rb, b1, b2⟩ := hb
  unfold PV
  simp only [evalE, a1, b1, a2, b2, h, bind, Option.bind]
theorem pt_ofR {k : Bool} (h : PR Φ e ρ d) (hk : truthD d = some k) : PT Φ (.ofE e) ρ k := by
  obtain ⟨r, h1, h2⟩ := h
  unfold PT
  simp only [evalT, h1, h2, hk, bind, Option.bind]
/-! statements -/
def SX (Φ : Fs) (s : S) (ρ ρ' : Rho) : Prop := exec Φ s ρ = some (.nx, ρ')
def BX (Φ : Fs) (b : Ss) (ρ ρ' : Rho) : Prop := execs Φ b ρ = some (.nx, ρ')
theorem bx_nil : BX Φ .nil ρ ρ := rfl
theorem bx_cons {s : S} {r : Ss} {ρ1 ρ2 : Rho} (h : SX Φ s ρ ρ1) (hr : BX Φ r ρ1 ρ2) : BX Φ (.cons s r) ρ ρ2 := by
  unfold SX BX at *
  simp only [execs, h, hr, bind, Option.bind]
theorem rt_cons {s : S} {rest : Ss} {ρ1 : Rho} {r : R} (h : SX Φ s ρ ρ1) (hr : RT Φ rest ρ1 r) : RT Φ (.cons s rest) ρ r := rt_of h hr
theorem sx_append {i : Nat} {xs : List D} (h : ρ[i]? = some (some (.list xs))) (he : PD Φ e ρ d) (hl : xs.length < lim) : SX Φ (.append i e) ρ (ρ.set i (some (.list (xs ++ [d])))) := by
  obtain ⟨r, h1, _, h3, _⟩ := he
  unfold SX
  have hi : isListAt ρ i = true := by unfold isListAt; rw [h]
  simp only [exec, hi, h1, h3, h, bind, Option.bind, if_true, if_pos hl]
theorem sx_pop {i : Nat} {xs : List D} {z : D} (h : ρ[i]? = some (some (.list xs))) (hz : xs.getLast? = some z) : SX Φ (.expr (.pop i)) ρ (ρ.set i (some (.list xs.dropLast))) := by
  unfold SX
  simp only [exec, evalE, h, hz, bind, Option.bind]
theorem sx_ite {k : Bool} {as bs : Ss} {ρ1 : Rho} (ht : PT Φ t ρ k) (ha : k = true → BX Φ as ρ ρ1) (hb : k = false → BX Φ bs ρ ρ1) : SX Φ (.ite t as bs) ρ ρ1 := by
  unfold SX BX PT at *
  simp only [exec, ht, bind, Option.bind]
  cases k with
  | true => simpa using ha rfl
  | false => simpa using hb rfl
theorem sx_asg {i : Nat} (h : PD Φ e ρ d) (hi : i < ρ.length) : SX Φ (.asg (.name i) e) ρ (ρ.set i (some d)) := by
  obtain ⟨x, h1, _, h3, _⟩ := h
  unfold SX
  simp only [exec, h1, h3, assignG, bind, Option.bind, if_pos hi]
theorem sx_setix {i : Nat} {k : E} {j : Int} {xs : List D} {n : Nat} (h : ρ[i]? = some (some (.list xs))) (he : PD Φ e ρ d) (hk : PV Φ k ρ (.int j)) (hn : L2.ixN xs.length j = some n) : SX Φ (.setix i k e) ρ (ρ.set i (some (.list (xs.set n d)))) := by
  obtain ⟨r, h1, _, h3, _⟩ := he
  unfold SX PV at *
  have hi : isListAt ρ i = true := by unfold isListAt; rw [h]
  simp only [exec, h1, h3, hi, hk, h, hn, bind, Option.bind, if_true]
theorem sx_aug {i : Nat} {x y : Int} (h : ρ[i]? = some (some (.int x))) (he : PV Φ e ρ (.int y)) : SX Φ (.aug i e) ρ (ρ.set i (some (.int (x + y)))) := by
  unfold SX PV at *
  simp only [exec, h, he, bind, Option.bind]
theorem sx_loop {g : G} {it : It} {b : Ss} {items : List D} {ρ1 : Rho} (hI : PI Φ it ρ items) (h : forLoop (fun r => execs Φ b r) g items ρ = some (.nx, ρ1)) : SX Φ (.loop g it b) ρ ρ1 := by
  unfold PI at hI
  unfold SX
  simp only [exec, hI, h, bind, Option.bind]
/-- a loop by the row of its frames -/
theorem for_row {f : Rho → Option (Fl × Rho)} {g : G} (fr : Nat → Rho) : ∀ (items : List D) (k : Nat), (∀ i d, items[i]? = some d → ∃ ρ1, assignG g d (fr (k + i)) = some ρ1 ∧ f ρ1 = some (.nx, fr (k + i + 1))) → forLoop f g items (fr k) = some (.nx, fr (k + items.length))
  | [], k, _ => rfl
  | d :: items, k, hs => by
    obtain ⟨ρ1, h1, h2⟩ := hs 0 d rfl
    simp only [Nat.add_zero] at h1 h2
    simp only [forLoop, h1, h2, bind, Option.bind]
    rw [for_row fr items (k + 1) fun i d' hi => by
      have := hs (i + 1) d' (by simpa using hi)
      rw [show k + (i + 1) = k + 1 + i by omega] at this
      exact this]
    rw [show k + 1 + items.length = k + (d :: items).length by simp; omega]
end
end Vm
namespace Vm
section
variable {Φ : Fs} {t : T} {b : Ss} {ρ : Rho}
theorem while_row (fr : Nat → Rho) (N : Nat) (hs : ∀ i, i < N → PT Φ t (fr i) true ∧ BX Φ b (fr i) (fr (i + 1))) (he : PT Φ t (fr N) false) : ∀ (m k fuel : Nat), k + m = N → m < fuel → whileN (fun r => evalT Φ t r) (fun r => execs Φ b r) fuel (fr k) = some (.nx, fr N)
  | 0, k, fuel, hk, hf => by
    obtain ⟨f, rfl⟩ : ∃ f, fuel = f + 1 := ⟨fuel - 1, by omega⟩
    have : k = N := by omega
    subst this
    unfold PT at he
    simp only [whileN, he, bind, Option.bind, Bool.false_eq_true, if_false]
  | m + 1, k, fuel, hk, hf => by
    obtain ⟨f, rfl⟩ : ∃ f, fuel = f + 1 := ⟨fuel - 1, by omega⟩
    obtain ⟨h1, h2⟩ := hs k (by omega)
    unfold PT BX at *
    simp only [whileN, h1, h2, bind, Option.bind, if_true]
    exact while_row fr N hs he m (k + 1) f (by omega) (by omega)
theorem sx_whl (fr : Nat → Rho) (N : Nat) (hN : N < wfuel) (hs : ∀ i, i < N → PT Φ t (fr i) true ∧ BX Φ b (fr i) (fr (i + 1))) (he : PT Φ t (fr N) false) : SX Φ (.whl t b) (fr 0) (fr N) := by
  unfold SX
  simp only [exec]
  exact while_row fr N hs he N 0 wfuel (by omega) hN
theorem cut_take {α : Type} (xs : List α) (k : Nat) (h : k ≤ xs.length) : cutL xs none (some (k : Int)) = xs.take k := by
  unfold cutL
  rw [HT.sIx_none, HT.sIx_nat, Nat.min_eq_left h, Nat.sub_zero, List.drop_zero]
theorem cut_drop {α : Type} (xs : List α) (k : Nat) (h : k ≤ xs.length) : cutL xs (some (k : Int)) none = xs.drop k := by
  unfold cutL
  rw [HT.sIx_none, HT.sIx_nat, Nat.min_eq_left h, List.take_of_length_le (by simp)]
theorem cut_mid {α : Type} (xs : List α) (k l : Nat) (h : k ≤ xs.length) (h2 : l ≤ xs.length) : cutL xs (some (k : Int)) (some (l : Int)) = (xs.drop k).take (l - k) := by
  unfold cutL
  rw [HT.sIx_nat, HT.sIx_nat, Nat.min_eq_left h, Nat.min_eq_left h2]
/-- a comprehension by the row of what it gives -/
theorem lc_row {own : List Nat} {g : G} {tf : Rho → Option (Bool × Rho)} {ff : Rho → Option (R × Rho)} {ρ0 : Rho} : ∀ (items outs : List D) (acc : List D), outs.length = items.length → acc.length + items.length ≤ lim →
    (∀ (i : Nat) d o, items[i]? = some d → outs[i]? = some o → ∃ ρ1, assignG g d ρ0 = some ρ1 ∧ tf ρ1 = some (true, ρ1) ∧ clear own ρ1 = ρ0 ∧ ∃ r, ff ρ1 = some (r, ρ1) ∧ val? r = some o) → lcLoop tf ff g own items ρ0 acc = some (acc ++ outs, ρ0)
  | [], [], acc, _, _, _ => by simp [lcLoop]
  | [], o :: outs, acc, h, _, _ => by simp at h
  | d :: items, [], acc, h, _, _ => by simp at h
  | d :: items, o :: outs, acc, h, hl, hh => by
    obtain ⟨ρ1, h1, h2, h3, r, h4, h5⟩ := hh 0 d o rfl rfl
    have hlt : acc.length < lim := by simp only [List.length_cons] at hl; omega
    simp only [lcLoop, h1, h2, h4, h5, h3, bind, Option.bind, if_true, if_pos hlt]
    rw [lc_row items outs (acc ++ [o]) (by simpa using h) (by simp only [List.length_append, List.length_cons, List.length_nil] at hl ⊢; omega) fun i d' o' hi ho => hh (i + 1) d' o' (by simpa using hi) (by simpa using ho)]
    simp
theorem po_lcI {own : List Nat} {g : G} {it : It} {e : E} {items : List D} (hI : PI Φ it ρ items) (outs : List D) (ho : outs.length = items.length) (hl : items.length ≤ lim) (hr : restore ρ own (clear own ρ) = ρ)
    (hh : ∀ (i : Nat) d o, items[i]? = some d → outs[i]? = some o → ∃ ρ1, assignG g d (clear own ρ) = some ρ1 ∧ clear own ρ1 = clear own ρ ∧ PT Φ t ρ1 true ∧ PD Φ e ρ1 o) : PO Φ (.lc own g it t e) ρ (.list outs) := by
  unfold PO PI PT PD at *
  simp only [evalE, hI, bind, Option.bind]
  rw [lc_row items outs [] ho (by simpa using hl) fun i d o hi hd => by
    obtain ⟨ρ1, h1, h2, h3, r, h4, _, h6, _⟩ := hh i d o hi hd
    exact ⟨ρ1, h1, h3, h2, r, h4, h6⟩]
  simp only [List.nil_append, hr]
/-- a loop that returns at the first turn that p tells -/
theorem for_first {f : Rho → Option (Fl × Rho)} {g : G} (fr : Nat → Rho) (p : Nat → Bool) (res : Nat → R) : ∀ (items : List D) (k : Nat), (∀ i d, items[i]? = some d → ∃ ρ1, assignG g d (fr (k + i)) = some ρ1 ∧ (p (k + i) = false → f ρ1 = some (.nx, fr (k + i + 1))) ∧ (p (k + i) = true → ∃ ρ2, f ρ1 = some (.rt (res (k + i)), ρ2))) →
    ((∀ i, i < items.length → p (k + i) = false) ∧ forLoop f g items (fr k) = some (.nx, fr (k + items.length))) ∨ ∃ i ρ2, i < items.length ∧ p (k + i) = true ∧ (∀ j, j < i → p (k + j) = false) ∧ forLoop f g items (fr k) = some (.rt (res (k + i)), ρ2)
  | [], k, _ => .inl ⟨fun i h => absurd h (Nat.not_lt_zero _), rfl⟩
  | d :: items, k, hs => by
    obtain ⟨ρ1, h1, h2, h3⟩ := hs 0 d rfl
    simp only [Nat.add_zero] at h1 h2 h3
    cases e : p k with
    | true =>
      obtain ⟨ρ2, h4⟩ := h3 e
      refine .inr ⟨0, ρ2, by simp, by simpa using e, (fun j hj => absurd hj (Nat.not_lt_zero _)), ?_⟩
      simp only [forLoop, h1, h4, bind, Option.bind, Nat.add_zero]
    | false =>
      have h4 := h2 e
      have rest := for_first fr p res items (k + 1) fun i d' hi => by
        have := hs (i + 1) d' (by simpa using hi)
        rw [show k + (i + 1) = k + 1 + i by omega] at this
        exact this
      rcases rest with ⟨r1, r2⟩ | ⟨i, ρ2, r1, r2, r4, r3⟩
      · refine .inl ⟨fun i hi => ?_, ?_⟩
        · cases i with
          | zero => simpa using e
          | succ i =>
            have := r1 i (by simpa using hi)
            rw [show k + (i + 1) = k + 1 + i by omega]
            exact this
        · simp only [forLoop, h1, h4, bind, Option.bind]
          rw [r2, show k + 1 + items.length = k + (d :: items).length by simp; omega]
      · refine .inr ⟨i + 1, ρ2, by simpa using r1, by rw [show k + (i + 1) = k + 1 + i by omega]; exact r2, (fun j hj => by
          cases j with
          | zero => simpa using e
          | succ j =>
            have := r4 j (by omega)
            rw [show k + (j + 1) = k + 1 + j by omega]
            exact this), ?_⟩
        simp only [forLoop, h1, h4, bind, Option.bind]
        rw [r3, show k + (i + 1) = k + 1 + i by omega]
end
end Vm
set_option Elab.async false
set_option linter.all false
set_option maxRecDepth 100000
set_option maxHeartbeats 1000000
/-! VmT: a tactic that steps through terms; rules for terms that change lists of the frame. -/
namespace Vm
/-- what an expression gives stands for d -/
inductive Gd : R → D → Prop where
  | v (d : D) : Gd (.val d) d
  | o (xs : List D) : Gd (.own (.list xs)) (.list xs)
section
variable {Φ : Fs} {e a b c : E} {ρ : Rho} {d x y : D} {t u : T}
theorem pd_of {r : R} (h : evalE Φ e ρ = some (r, ρ)) (g : Gd r d) : PD Φ e ρ d := by
  cases g with
  | v => exact ⟨_, h, rfl, rfl, rfl⟩
  | o xs => exact ⟨_, h, rfl, rfl, rfl⟩
theorem ev_binR {o : BOp} {r : R} (ha : PR Φ a ρ x) (hb : PR Φ b ρ y) (h : binD o x y = some r) : evalE Φ (.bin o a b) ρ = some (r, ρ) := by
  obtain ⟨ra, a1, a2⟩ := ha
  obtain ⟨rb, b1, b2⟩ := hb
  simp only [evalE, a1, b1, a2, b2, h, bind, Option.bind]
theorem pv_binR {o : BOp} (ha : PR Φ a ρ x) (hb : PR Φ b ρ y) (h : binD o x y = some (.val d)) : PV Φ (.bin o a b) ρ d := ev_binR ha hb h
theorem po_binR {o : BOp} (ha : PR Φ a ρ x) (hb : PR Φ b ρ y) (h : binD o x y = some (.own d)) : PO Φ (.bin o a b) ρ d := ev_binR ha hb h
theorem pd_binR {o : BOp} {r : R} (ha : PR Φ a ρ x) (hb : PR Φ b ρ y) (h : binD o x y = some r) (g : Gd r d) : PD Φ (.bin o a b) ρ d := pd_of (ev_binR ha hb h) g
theorem pv_isF (ha : PD Φ a ρ x) : PV Φ (.isn false a) ρ (.bool (isNonD x)) := pv_isn (ng := false) ha
theorem pv_isT (ha : PD Φ a ρ x) : PV Φ (.isn true a) ρ (.bool (!isNonD x)) := pv_isn (ng := true) ha
theorem ev_slR {lo hi : O} {l h : Option Int} {r : R} (ha : PR Φ a ρ x) (hl : POb Φ lo ρ l) (hh : POb Φ hi ρ h) (hs : slD x l h = some r) : evalE Φ (.sl a lo hi) ρ = some (r, ρ) := by
  obtain ⟨ra, a1, a2⟩ := ha
  unfold POb at *
  simp only [evalE, a1, hl, hh, a2, hs, bind, Option.bind]
theorem pv_slR {lo hi : O} {l h : Option Int} (ha : PR Φ a ρ x) (hl : POb Φ lo ρ l) (hh : POb Φ hi ρ h) (hs : slD x l h = some (.val d)) : PV Φ (.sl a lo hi) ρ d := ev_slR ha hl hh hs
theorem po_slR {lo hi : O} {l h : Option Int} (ha : PR Φ a ρ x) (hl : POb Φ lo ρ l) (hh : POb Φ hi ρ h) (hs : slD x l h = some (.own d)) : PO Φ (.sl a lo hi) ρ d := ev_slR ha hl hh hs
theorem pd_slR {lo hi : O} {l h : Option Int} {r : R} (ha : PR Φ a ρ x) (hl : POb Φ lo ρ l) (hh : POb Φ hi ρ h) (hs : slD x l h = some r) (g : Gd r d) : PD Φ (.sl a lo hi) ρ d := pd_of (ev_slR ha hl hh hs) g
theorem pd_call {k : Nat} {as : As} {ds : List D} {r : R} (h : PVs Φ as ρ ds) (hc : Φ k ds = some (r, [])) (g : Gd r d) : PD Φ (.call k [] as) ρ d := pd_of (call_of h hc) g
theorem pd_bltR {f : Fn} {as : As} {ds : List D} {r : R} (h : PRs Φ as ρ ds) (hc : bltD f ds = some r) (g : Gd r d) : PD Φ (.blt f as) ρ d := pd_of (bltR h hc) g
theorem pd_lst {as : As} {ds : List D} (h : PVs Φ as ρ ds) (hl : ds.length ≤ lim) : PD Φ (.lst as) ρ (.list ds) := PO.pd (po_lst h hl)
theorem pv_din {ng : Bool} {i : Nat} {k : Int} {ps : List (D × D)} (he : PV Φ e ρ (.int k)) (h : ρ[i]? = some (some (.dict ps))) : PV Φ (.din ng e i) ρ (.bool (if ng then !hasP k ps else hasP k ps)) := by
  unfold PV at *
  simp only [evalE, he, h, bind, Option.bind]
theorem eqi (i j : Int) : cmpD .eq (.int i) (.int j) = some (decide (i = j)) := by
  show (if (PySem.SeqAt.shaped (.int i) && PySem.SeqAt.shaped (.int j)) = true then some (PySem.PyData.eqv (.int i) (.int j)) else none) = _
  rw [if_pos (show (PySem.SeqAt.shaped (.int i) && PySem.SeqAt.shaped (.int j)) = true from rfl)]
  simp only [PySem.PyData.eqv]
  congr 1
theorem nei (i j : Int) : cmpD .ne (.int i) (.int j) = some (decide (i ≠ j)) := by
  show (if (PySem.SeqAt.shaped (.int i) && PySem.SeqAt.shaped (.int j)) = true then some (!PySem.PyData.eqv (.int i) (.int j)) else none) = _
  rw [if_pos (show (PySem.SeqAt.shaped (.int i) && PySem.SeqAt.shaped (.int j)) = true from rfl)]
  simp only [PySem.PyData.eqv]
  congr 1
  by_cases c : i = j <;> simp [c]
theorem two_lim {α : Type} (a : α) : [a].length ≤ lim := Nat.le_of_ble_eq_true rfl
end
/-! statements -/
section
variable {Φ : Fs} {e a b c : E} {ρ : Rho} {d x y : D} {t u : T}
theorem sx_masg {i : Nat} (h : PO Φ e ρ d) (hi : i < ρ.length) : SX Φ (.masg i e) ρ (ρ.set i (some d)) := by
  unfold PO at h
  unfold SX
  simp only [exec, h, bind, Option.bind, if_pos hi]
theorem sx_dput {i : Nat} {k : E} {j : Int} {ps : List (D × D)} (he : PD Φ e ρ d) (hk : PV Φ k ρ (.int j)) (h : ρ[i]? = some (some (.dict ps))) (hl : ps.length < lim) : SX Φ (.dput i k e) ρ (ρ.set i (some (.dict (putP j d ps)))) := by
  obtain ⟨r, h1, _, h3, _⟩ := he
  unfold SX PV at *
  have hi : isDictAt ρ i = true := by unfold isDictAt; rw [h]
  simp only [exec, h1, h3, hi, hk, h, bind, Option.bind, if_true, if_pos hl]
theorem sx_loopM {g : G} {it : It} {b : Ss} {items : List D} {ρ0 ρ1 : Rho} (hI : evalI Φ it ρ = some (items, ρ0)) (h : forLoop (fun r => execs Φ b r) g items ρ0 = some (.nx, ρ1)) : SX Φ (.loop g it b) ρ ρ1 := by
  unfold SX
  simp only [exec, hI, h, bind, Option.bind]
theorem it_mv {i : Nat} {xs : List D} (h : ρ[i]? = some (some (.list xs))) : evalI Φ (.seq (.mv i)) ρ = some (xs, ρ.set i none) := by
  simp only [evalI, evalE, h, val?, nodict, seqOf, bind, Option.bind]
theorem bx_app {s : S} {r : Ss} {ρ1 ρ2 : Rho} (h : SX Φ s ρ ρ1) (hr : BX Φ r ρ1 ρ2) : BX Φ (.cons s r) ρ ρ2 := bx_cons h hr
theorem sx_asgT {is : List Nat} {ds : List D} {ρ1 : Rho} (h : PV Φ e ρ (.tuple ds)) (ha : assignG (.tup is) (.tuple ds) ρ = some ρ1) : SX Φ (.asg (.tup is) e) ρ ρ1 := by
  unfold PV at h
  unfold SX
  simp only [exec, h, val?, ha, bind, Option.bind]
end
theorem hasP_app (k : Int) (q r : List (D × D)) : hasP k (q ++ r) = (hasP k q || hasP k r) := List.any_append
theorem hasP_put (j k : Int) (v : D) (q : List (D × D)) : hasP j (putP k v q) = (decide (k = j) || hasP j q) := by
  unfold putP
  split
  · rename_i h
    have e : hasP j (q.map fun p => if keyAt k p.1 then (p.1, v) else p) = hasP j q := by
      unfold hasP
      rw [List.any_map]
      congr 1
      funext p
      simp only [Function.comp]
      split <;> rfl
    rw [e]
    by_cases c : k = j
    · subst c; rw [h]; simp
    · simp [c]
  · rw [hasP_app]
    show (hasP j q || ((decide (k = j)) || false)) = _
    rw [Bool.or_false, Bool.or_comm]
theorem put_len (k : Int) (v : D) (q : List (D × D)) : (putP k v q).length ≤ q.length + 1 := by
  unfold putP
  split
  · rw [List.length_map]; omega
  · simp
end Vm
set_option Elab.async false
set_option linter.all false
set_option maxRecDepth 100000
set_option maxHeartbeats 1000000
/-! VmW: terms that draw from a heap, a list of ints at a place of the frame: what holds of what they give. -/
namespace Vm
def hD (H : List Int) : D := .list (H.map .int)
def HOk (H : List Int) : Prop := 2 ≤ H.length
/-- e gives a value of P; the heap alone is another -/
def HV (Φ : Fs) (e : E) (F : List Int → Rho) (H : List Int) (P : D → Prop) : Prop := ∃ d H', HOk H' ∧ evalE Φ e (F H) = some (.val d, F H') ∧ P d
/-- a value, or a list of one's own -/
def HG (Φ : Fs) (e : E) (F : List Int → Rho) (H : List Int) (P : D → Prop) : Prop := ∃ r d H', HOk H' ∧ evalE Φ e (F H) = some (r, F H') ∧ Gd r d ∧ P d
def HA (Φ : Fs) (as : As) (F : List Int → Rho) (H : List Int) (P : List D → Prop) : Prop := ∃ rs ds H', HOk H' ∧ evalAs Φ as (F H) = some (rs, F H') ∧ valAll rs = some ds ∧ (∀ ρ, resAll ρ rs = some ds) ∧ slotIds rs = [] ∧ (∀ k, slotPos k rs = []) ∧ P ds
def HT (Φ : Fs) (t : T) (F : List Int → Rho) (H : List Int) (P : Bool → Prop) : Prop := ∃ b H', HOk H' ∧ evalT Φ t (F H) = some (b, F H') ∧ P b
def HI (Φ : Fs) (t : It) (F : List Int → Rho) (H : List Int) (P : List D → Prop) : Prop := ∃ ds H', HOk H' ∧ evalI Φ t (F H) = some (ds, F H') ∧ P ds
theorem Gd.val {r : R} {d : D} (h : Gd r d) : val? r = some d := by cases h <;> rfl
theorem Gd.res {r : R} {d : D} (h : Gd r d) (ρ : Rho) : res ρ r = some d := by cases h <;> rfl
theorem Gd.slot {r : R} {d : D} (h : Gd r d) {rs : List R} : slotIds (r :: rs) = slotIds rs := by cases h <;> rfl
theorem Gd.pos {r : R} {d : D} (h : Gd r d) {rs : List R} (k : Nat) : slotPos k (r :: rs) = slotPos (k + 1) rs := by cases h <;> rfl
section
variable {Φ : Fs} {e a b : E} {F : List Int → Rho} {H : List Int} {P Q : D → Prop}
theorem hv_pv {d : D} (hH : HOk H) (h : PV Φ e (F H) d) (p : P d) : HV Φ e F H P := ⟨d, H, hH, h, p⟩
theorem hg_pv {d : D} (hH : HOk H) (h : PV Φ e (F H) d) (p : P d) : HG Φ e F H P := ⟨_, d, H, hH, h, .v d, p⟩
theorem hg_po {xs : List D} (hH : HOk H) (h : PO Φ e (F H) (.list xs)) (p : P (.list xs)) : HG Φ e F H P := ⟨_, _, H, hH, h, .o xs, p⟩
theorem HV.hg (h : HV Φ e F H P) : HG Φ e F H P := let ⟨d, H', h1, h2, h3⟩ := h; ⟨_, d, H', h1, h2, .v d, h3⟩
theorem HV.mono (h : HV Φ e F H P) (i : ∀ d, P d → Q d) : HV Φ e F H Q := let ⟨d, H', h1, h2, h3⟩ := h; ⟨d, H', h1, h2, i d h3⟩
theorem HG.mono (h : HG Φ e F H P) (i : ∀ d, P d → Q d) : HG Φ e F H Q := let ⟨r, d, H', h1, h2, h3, h4⟩ := h; ⟨r, d, H', h1, h2, h3, i d h4⟩
theorem hv_bin {o : BOp} (ha : HG Φ a F H (fun x => ∀ H', HOk H' → HG Φ b F H' (fun y => ∃ d, binD o x y = some (.val d) ∧ P d))) : HV Φ (.bin o a b) F H P := by
  obtain ⟨ra, x, H1, o1, e1, g1, q1⟩ := ha
  obtain ⟨rb, y, H2, o2, e2, g2, d, q2, q3⟩ := q1 H1 o1
  refine ⟨d, H2, o2, ?_, q3⟩
  simp only [evalE, e1, e2, g1.res, g2.res, q2, bind, Option.bind]
theorem hg_bin {o : BOp} (ha : HG Φ a F H (fun x => ∀ H', HOk H' → HG Φ b F H' (fun y => ∃ r d, binD o x y = some r ∧ Gd r d ∧ P d))) : HG Φ (.bin o a b) F H P := by
  obtain ⟨ra, x, H1, o1, e1, g1, q1⟩ := ha
  obtain ⟨rb, y, H2, o2, e2, g2, r, d, q2, q3, q4⟩ := q1 H1 o1
  refine ⟨r, d, H2, o2, ?_, q3, q4⟩
  simp only [evalE, e1, e2, g1.res, g2.res, q2, bind, Option.bind]
theorem hv_cmp {o : COp} (ha : HG Φ a F H (fun x => ∀ H', HOk H' → HG Φ b F H' (fun y => ∃ k, cmpD o x y = some k ∧ P (.bool k)))) : HV Φ (.cmp o a b) F H P := by
  obtain ⟨ra, x, H1, o1, e1, g1, q1⟩ := ha
  obtain ⟨rb, y, H2, o2, e2, g2, k, q2, q3⟩ := q1 H1 o1
  refine ⟨.bool k, H2, o2, ?_, q3⟩
  simp only [evalE, e1, e2, g1.res, g2.res, q2, bind, Option.bind]
theorem hv_ix (ha : HG Φ a F H (fun x => ∀ H', HOk H' → HG Φ b F H' (fun y => ∃ d, ixD x y = some d ∧ P d))) : HV Φ (.ix a b) F H P := by
  obtain ⟨ra, x, H1, o1, e1, g1, q1⟩ := ha
  obtain ⟨rb, y, H2, o2, e2, g2, d, q2, q3⟩ := q1 H1 o1
  refine ⟨d, H2, o2, ?_, q3⟩
  simp only [evalE, e1, e2, g1.res, g2.res, q2, bind, Option.bind]
theorem ha_nil {P : List D → Prop} (hH : HOk H) (p : P []) : HA Φ .nil F H P := ⟨[], [], H, hH, rfl, rfl, fun _ => rfl, rfl, fun _ => rfl, p⟩
theorem ha_cons {P : List D → Prop} {as : As} (ha : HG Φ a F H (fun x => ∀ H', HOk H' → HA Φ as F H' (fun ds => P (x :: ds)))) : HA Φ (.cons a as) F H P := by
  obtain ⟨ra, x, H1, o1, e1, g1, q1⟩ := ha
  obtain ⟨rs, ds, H2, o2, e2, v2, w2, s2, p2, q2⟩ := q1 H1 o1
  refine ⟨ra :: rs, x :: ds, H2, o2, ?_, ?_, fun ρ => ?_, ?_, fun k => ?_, q2⟩
  · simp only [evalAs, e1, e2, bind, Option.bind]
  · simp only [valAll, g1.val, v2]
  · simp only [resAll, g1.res, w2]
  · rw [g1.slot, s2]
  · rw [g1.pos, p2]
theorem ha_pvs {P : List D → Prop} {as : As} {ds : List D} (hH : HOk H) (h : ∀ H, HOk H → PVs Φ as (F H) ds) (p : P ds) : HA Φ as F H P := by
  obtain ⟨rs, g1, g2, g3, g4, g5⟩ := h H hH
  refine ⟨rs, ds, H, hH, g1, g2, fun ρ => ?_, g4, g5, p⟩
  have : ∀ (rs : List R) (ds : List D), valAll rs = some ds → ∀ ρ, resAll ρ rs = some ds := by
    intro rs
    induction rs with
    | nil => intro ds h ρ; exact h
    | cons r rs ih =>
      intro ds h ρ
      simp only [valAll] at h
      cases e1 : val? r with
      | none => rw [e1] at h; cases h
      | some x =>
        cases e2 : valAll rs with
        | none => rw [e1, e2] at h; cases h
        | some xs =>
          rw [e1, e2] at h
          cases h
          have hr : res ρ r = some x := by
            cases r with
            | val d => exact e1
            | own d => exact e1
            | slot i => cases e1
          simp only [resAll, hr, ih xs e2 ρ]
  exact this rs ds g2 ρ
theorem hg_lst {as : As} (h : HA Φ as F H (fun ds => ds.length ≤ lim ∧ P (.list ds))) : HG Φ (.lst as) F H P := by
  obtain ⟨rs, ds, H', h1, h2, h3, h4, h5, h6, h7, h8⟩ := h
  refine ⟨_, _, H', h1, ?_, .o ds, h8⟩
  simp only [evalE, h2, h3, bind, Option.bind, if_pos h7]
theorem hv_tup {as : As} (h : HA Φ as F H (fun ds => ds.length ≤ lim ∧ P (.tuple ds))) : HV Φ (.tup as) F H P := by
  obtain ⟨rs, ds, H', h1, h2, h3, h4, h5, h6, h7, h8⟩ := h
  refine ⟨_, H', h1, ?_, h8⟩
  simp only [evalE, h2, h3, bind, Option.bind, if_pos h7]
theorem hv_blt {f : Fn} {as : As} (h : HA Φ as F H (fun ds => ∃ d, bltD f ds = some (.val d) ∧ P d)) : HV Φ (.blt f as) F H P := by
  obtain ⟨rs, ds, H', h1, h2, h3, h4, h5, h6, d, h7, h8⟩ := h
  refine ⟨d, H', h1, ?_, h8⟩
  simp only [evalE, h2, h4, h7, bind, Option.bind]
theorem hg_blt {f : Fn} {as : As} (h : HA Φ as F H (fun ds => ∃ r d, bltD f ds = some r ∧ Gd r d ∧ P d)) : HG Φ (.blt f as) F H P := by
  obtain ⟨rs, ds, H', h1, h2, h3, h4, h5, h6, r, d, h7, h8, h9⟩ := h
  refine ⟨r, d, H', h1, ?_, h8, h9⟩
  simp only [evalE, h2, h4, h7, bind, Option.bind]
theorem hv_call {k : Nat} {as : As} (h : HA Φ as F H (fun ds => ∃ d, Φ k ds = some (.val d, []) ∧ P d)) : HV Φ (.call k [] as) F H P := by
  obtain ⟨rs, ds, H', h1, h2, h3, h4, h5, h6, d, h7, h8⟩ := h
  refine ⟨d, H', h1, ?_, h8⟩
  simp only [evalE, h2, h4, h5, h6, h7, nodupB, setAll, bind, Option.bind, and_self, if_true]
/-- a call that is given the heap -/
theorem hv_callH {k i : Nat} {as : As} (hi : ∀ H, (F H)[i]? = some (some (hD H))) (hs : ∀ H H', (F H).set i (some (hD H')) = F H') (h : HA Φ as F H (fun ds => ∀ H', HOk H' → ∃ d H2, Φ k (hD H' :: ds) = some (.val d, [hD H2]) ∧ HOk H2 ∧ P d)) : HV Φ (.call k [0] (.cons (.mvar i) as)) F H P := by
  obtain ⟨rs, ds, H', h1, h2, h3, h4, h5, h6, h7⟩ := h
  obtain ⟨d, H2, g1, g2, g3⟩ := h7 H' h1
  refine ⟨d, H2, g2, ?_, g3⟩
  have e1 : res (F H') (.slot i) = some (hD H') := by simp only [res, hi, hD, nodict]
  simp only [evalE, evalAs, hi, h2, resAll, e1, h4, slotPos, slotIds, h5, h6, bind, Option.bind]
  rw [if_pos ⟨trivial, by simp [nodupB]⟩]
  simp only [g1, setAll, hs]
theorem hv_ife {t : T} (h : HT Φ t F H (fun k => ∀ H', HOk H' → (k = true → HV Φ a F H' P) ∧ (k = false → HV Φ b F H' P))) : HV Φ (.ife t a b) F H P := by
  obtain ⟨k, H1, o1, e1, q1⟩ := h
  obtain ⟨q2, q3⟩ := q1 H1 o1
  cases k with
  | true =>
    obtain ⟨d, H2, o2, e2, q4⟩ := q2 rfl
    exact ⟨d, H2, o2, by simp only [evalE, e1, bind, Option.bind, if_true]; exact e2, q4⟩
  | false =>
    obtain ⟨d, H2, o2, e2, q4⟩ := q3 rfl
    exact ⟨d, H2, o2, by simp only [evalE, e1, bind, Option.bind, Bool.false_eq_true, if_false]; exact e2, q4⟩
theorem ht_pt {P : Bool → Prop} {t : T} {k : Bool} (hH : HOk H) (h : PT Φ t (F H) k) (p : P k) : HT Φ t F H P := ⟨k, H, hH, h, p⟩
theorem ht_ofE {P : Bool → Prop} (h : HG Φ e F H (fun d => ∃ k, truthD d = some k ∧ P k)) : HT Φ (.ofE e) F H P := by
  obtain ⟨r, d, H1, o1, e1, g1, k, q1, q2⟩ := h
  refine ⟨k, H1, o1, ?_, q2⟩
  simp only [evalT, e1, g1.res, q1, bind, Option.bind]
theorem ht_and {P : Bool → Prop} {t u : T} (h : HT Φ t F H (fun k => ∀ H', HOk H' → (k = true → HT Φ u F H' P) ∧ (k = false → P false))) : HT Φ (.and t u) F H P := by
  obtain ⟨k, H1, o1, e1, q1⟩ := h
  obtain ⟨q2, q3⟩ := q1 H1 o1
  cases k with
  | true =>
    obtain ⟨d, H2, o2, e2, q4⟩ := q2 rfl
    exact ⟨d, H2, o2, by simp only [evalT, e1, bind, Option.bind, if_true]; exact e2, q4⟩
  | false => exact ⟨false, H1, o1, by simp only [evalT, e1, bind, Option.bind, Bool.false_eq_true, if_false], q3 rfl⟩
theorem ht_or {P : Bool → Prop} {t u : T} (h : HT Φ t F H (fun k => ∀ H', HOk H' → (k = false → HT Φ u F H' P) ∧ (k = true → P true))) : HT Φ (.or t u) F H P := by
  obtain ⟨k, H1, o1, e1, q1⟩ := h
  obtain ⟨q2, q3⟩ := q1 H1 o1
  cases k with
  | false =>
    obtain ⟨d, H2, o2, e2, q4⟩ := q2 rfl
    exact ⟨d, H2, o2, by simp only [evalT, e1, bind, Option.bind, Bool.false_eq_true, if_false]; exact e2, q4⟩
  | true => exact ⟨true, H1, o1, by simp only [evalT, e1, bind, Option.bind, if_true], q3 rfl⟩
theorem ht_not {P : Bool → Prop} {t : T} (h : HT Φ t F H (fun k => P (!k))) : HT Φ (.not t) F H P := by
  obtain ⟨k, H1, o1, e1, q1⟩ := h
  exact ⟨!k, H1, o1, by simp only [evalT, e1, bind, Option.bind], q1⟩
theorem hi_pi {P : List D → Prop} {t : It} {ds : List D} (hH : HOk H) (h : PI Φ t (F H) ds) (p : P ds) : HI Φ t F H P := ⟨ds, H, hH, h, p⟩
theorem hi_range {P : List D → Prop} (h : HG Φ e F H (fun d => ∃ n : Int, d = .int n ∧ small62 n = true ∧ P (rangeD 0 n.toNat))) : HI Φ (.range (.cons e .nil)) F H P := by
  obtain ⟨r, d, H1, o1, e1, g1, n, rfl, q1, q2⟩ := h
  refine ⟨_, H1, o1, ?_, q2⟩
  simp only [evalI, evalAs, e1, valAll, g1.val, bind, Option.bind, if_pos q1]
/-- a comprehension that draws at each turn -/
theorem hlc_loop {own : List Nat} {g : G} {F : List Int → Rho} (Fd : D → List Int → Rho) (Pb : D → D → Prop) : ∀ (items acc : List D) (H : List Int), HOk H → acc.length + items.length ≤ lim →
    (∀ d ∈ items, ∀ H, HOk H → assignG g d (F H) = some (Fd d H) ∧ clear own (Fd d H) = F H ∧ HG Φ e (Fd d) H (Pb d)) →
    ∃ outs H', HOk H' ∧ lcLoop (fun r => evalT Φ .yes r) (fun r => evalE Φ e r) g own items (F H) acc = some (acc ++ outs, F H') ∧ outs.length = items.length ∧ ∀ (i : Nat) d o, items[i]? = some d → outs[i]? = some o → Pb d o
  | [], acc, H, hH, _, _ => ⟨[], H, hH, by simp [lcLoop], rfl, fun i d o h => by simp at h⟩
  | d :: items, acc, H, hH, hl, hh => by
    obtain ⟨h1, h2, r, x, H1, o1, e1, g1, q1⟩ := hh d List.mem_cons_self H hH
    have hlt : acc.length < lim := by simp only [List.length_cons] at hl; omega
    obtain ⟨outs, H2, o2, e2, l2, q2⟩ := hlc_loop (own := own) (g := g) (F := F) Fd Pb items (acc ++ [x]) H1 o1 (by simp only [List.length_append, List.length_cons, List.length_nil] at hl ⊢; omega) fun d' hd' => hh d' (List.mem_cons_of_mem _ hd')
    have h3 := (hh d List.mem_cons_self H1 o1).2.1
    refine ⟨x :: outs, H2, o2, ?_, by simp [l2], fun i d' o' hi ho => ?_⟩
    · have ht : evalT Φ .yes (Fd d H) = some (true, Fd d H) := rfl
      simp only [lcLoop, h1, ht, e1, g1.val, h3, bind, Option.bind, if_true, if_pos hlt]
      rw [e2]
      simp
    · cases i with
      | zero => simp at hi ho; subst hi ho; exact q1
      | succ i => exact q2 i d' o' (by simpa using hi) (by simpa using ho)
theorem hg_lc {own : List Nat} {g : G} {it : It} {F0 : List Int → Rho} (Fd : D → List Int → Rho) (Pb : D → D → Prop) (hc : ∀ H, clear own (F H) = F0 H) (hr : ∀ H H', restore (F H) own (F0 H') = F H')
    (h : HI Φ it F H (fun items => items.length ≤ lim ∧ (∀ d ∈ items, ∀ H, HOk H → assignG g d (F0 H) = some (Fd d H) ∧ clear own (Fd d H) = F0 H ∧ HG Φ e (Fd d) H (Pb d)) ∧ ∀ outs : List D, outs.length = items.length → (∀ (i : Nat) d o, items[i]? = some d → outs[i]? = some o → Pb d o) → P (.list outs))) : HG Φ (.lc own g it .yes e) F H P := by
  obtain ⟨items, H1, o1, e1, q1, q2, q3⟩ := h
  obtain ⟨outs, H2, o2, e2, l2, q4⟩ := hlc_loop (own := own) (g := g) (F := F0) Fd Pb items [] H1 o1 (by simpa using q1) q2
  refine ⟨_, _, H2, o2, ?_, .o outs, q3 outs l2 q4⟩
  simp only [evalE, e1, bind, Option.bind, hc, e2, List.nil_append, hr]
end
theorem mulr {x c : Int} (h : (decide (-(2 ^ 64) < c) && decide (c < 2 ^ 64)) = true) : binD .mul (.int x) (.int c) = some (.val (.int (x * c))) := by
  have : mulOk x c = true := by unfold mulOk; rw [h, Bool.or_true]
  simp only [binD, this, if_true]
theorem mull {x c : Int} (h : (decide (-(2 ^ 64) < c) && decide (c < 2 ^ 64)) = true) : binD .mul (.int c) (.int x) = some (.val (.int (c * x))) := by
  have : mulOk c x = true := by unfold mulOk; rw [h, Bool.true_or]
  simp only [binD, this, if_true]
theorem modz {i j : Int} (h : j ≠ 0) : binD .mod (.int i) (.int j) = some (.val (.int (i.fmod j))) := by
  simp only [binD, if_pos h]
theorem fdivz {i j : Int} (h : j ≠ 0 ∧ j.natAbs < 1073741824) : binD .fdiv (.int i) (.int j) = some (.val (.int (i.fdiv j))) := by
  simp only [binD, if_pos h]
/-- a loop that may be broken off -/
theorem for_invB {f : Rho → Option (Fl × Rho)} {g : G} (I : Nat → Rho → Prop) (J : Rho → Prop) : ∀ (items : List D) (k : Nat) (ρ : Rho), I k ρ → (∀ i d ρ, items[i]? = some d → I (k + i) ρ → ∃ ρ1 fl ρ2, assignG g d ρ = some ρ1 ∧ f ρ1 = some (fl, ρ2) ∧ (((fl = .nx ∨ fl = .ct) ∧ I (k + i + 1) ρ2) ∨ (fl = .br ∧ J ρ2))) →
    ∃ ρ', forLoop f g items ρ = some (.nx, ρ') ∧ (I (k + items.length) ρ' ∨ J ρ')
  | [], k, ρ, h0, _ => ⟨ρ, rfl, .inl h0⟩
  | d :: items, k, ρ, h0, hs => by
    obtain ⟨ρ1, fl, ρ2, h1, h2, h3⟩ := hs 0 d ρ rfl h0
    rcases h3 with ⟨h3, h4⟩ | ⟨rfl, h4⟩
    · obtain ⟨ρ', g1, g2⟩ := for_invB I J items (k + 1) ρ2 h4 fun i d' ρ hi hI => by
        have := hs (i + 1) d' ρ (by simpa using hi) (by rw [show k + (i + 1) = k + 1 + i by omega]; exact hI)
        rw [show k + (i + 1) + 1 = k + 1 + i + 1 by omega] at this
        exact this
      refine ⟨ρ', ?_, by rw [show k + (d :: items).length = k + 1 + items.length by simp; omega]; exact g2⟩
      rcases h3 with rfl | rfl <;> simp only [forLoop, h1, h2, bind, Option.bind, g1]
    · exact ⟨ρ2, by simp only [forLoop, h1, h2, bind, Option.bind], .inr h4⟩
/-! ### statements -/
def WB (Φ : Fs) (b : Ss) (ρ : Rho) (Q : Fl → Rho → Prop) : Prop := ∃ fl ρ', execs Φ b ρ = some (fl, ρ') ∧ Q fl ρ'
section
variable {Φ : Fs} {e a b : E} {F : List Int → Rho} {H : List Int} {P : D → Prop} {Q : Fl → Rho → Prop} {rest : Ss} {ρ ρ1 : Rho}
theorem wb_nil (h : Q .nx ρ) : WB Φ .nil ρ Q := ⟨.nx, ρ, rfl, h⟩
theorem wb_bx {b : Ss} (h : BX Φ b ρ ρ1) (q : Q .nx ρ1) : WB Φ b ρ Q := ⟨.nx, ρ1, h, q⟩
theorem wb_cons {s : S} (h : SX Φ s ρ ρ1) (hr : WB Φ rest ρ1 Q) : WB Φ (.cons s rest) ρ Q := by
  obtain ⟨fl, ρ2, h2, q⟩ := hr
  unfold SX at h
  exact ⟨fl, ρ2, by simp only [execs, h, h2, bind, Option.bind], q⟩
theorem wb_asgH {i : Nat} (h : HG Φ e F H P) (hi : ∀ H, i < (F H).length) (hr : ∀ d H', HOk H' → P d → WB Φ rest ((F H').set i (some d)) Q) : WB Φ (.cons (.asg (.name i) e) rest) (F H) Q := by
  obtain ⟨r, d, H', o1, e1, g1, q1⟩ := h
  obtain ⟨fl, ρ2, h2, q⟩ := hr d H' o1 q1
  exact ⟨fl, ρ2, by simp only [execs, exec, e1, g1.val, assignG, bind, Option.bind, if_pos (hi H'), h2], q⟩
theorem wb_appendH {j : Nat} {xs : List D} (hj : ∀ H, (F H)[j]? = some (some (.list xs))) (hl : xs.length < lim) (h : HG Φ e F H P) (hr : ∀ d H', HOk H' → P d → WB Φ rest ((F H').set j (some (.list (xs ++ [d])))) Q) : WB Φ (.cons (.append j e) rest) (F H) Q := by
  obtain ⟨r, d, H', o1, e1, g1, q1⟩ := h
  obtain ⟨fl, ρ2, h2, q⟩ := hr d H' o1 q1
  have hi : isListAt (F H) j = true := by unfold isListAt; rw [hj]
  exact ⟨fl, ρ2, by simp only [execs, exec, hi, e1, g1.val, hj, bind, Option.bind, if_true, if_pos hl, h2], q⟩
theorem wb_retH (h : HV Φ e F H P) (hq : ∀ d H', HOk H' → P d → Q (.rt (.val d)) (F H')) : WB Φ (.cons (.ret e) rest) (F H) Q := by
  obtain ⟨d, H', o1, e1, q1⟩ := h
  exact ⟨.rt (.val d), F H', by simp only [execs, exec, e1, bind, Option.bind], hq d H' o1 q1⟩
theorem wb_ret {d : D} (h : PV Φ e ρ d) (hq : Q (.rt (.val d)) ρ) : WB Φ (.cons (.ret e) rest) ρ Q := by
  unfold PV at h
  exact ⟨.rt (.val d), ρ, by simp only [execs, exec, h, bind, Option.bind], hq⟩
/-- a branch; what comes behind it follows on nx -/
theorem wb_ite {t : T} {as bs : Ss} {P : Bool → Prop} (h : HT Φ t F H P) (hr : ∀ k H', HOk H' → P k → WB Φ (if k then as else bs) (F H') (fun fl ρ => (fl = .nx → WB Φ rest ρ Q) ∧ (fl ≠ .nx → Q fl ρ))) : WB Φ (.cons (.ite t as bs) rest) (F H) Q := by
  obtain ⟨k, H', o1, e1, q1⟩ := h
  obtain ⟨fl, ρ2, h2, g1, g2⟩ := hr k H' o1 q1
  have e2 : exec Φ (.ite t as bs) (F H) = some (fl, ρ2) := by
    simp only [exec, e1, bind, Option.bind]
    cases k with
    | true => simpa using h2
    | false => simpa using h2
  cases fl with
  | nx =>
    obtain ⟨fl3, ρ3, h3, q3⟩ := g1 rfl
    exact ⟨fl3, ρ3, by simp only [execs, e2, h3, bind, Option.bind], q3⟩
  | br => exact ⟨_, ρ2, by simp only [execs, e2, bind, Option.bind], g2 (fun z => nomatch z)⟩
  | ct => exact ⟨_, ρ2, by simp only [execs, e2, bind, Option.bind], g2 (fun z => nomatch z)⟩
  | rt r => exact ⟨_, ρ2, by simp only [execs, e2, bind, Option.bind], g2 (fun z => nomatch z)⟩
theorem wb_loop {g : G} {it : It} {b : Ss} {items : List D} {ρ0 : Rho} (hI : evalI Φ it ρ = some (items, ρ0)) (h : forLoop (fun r => execs Φ b r) g items ρ0 = some (.nx, ρ1)) (hr : WB Φ rest ρ1 Q) : WB Φ (.cons (.loop g it b) rest) ρ Q := wb_cons (sx_loopM hI h) hr
theorem run_ofO {np ns : Nat} {M mps : List Nat} {b : Ss} {ds : List D} {Q : R → List D → Prop} (hl : ds.length = np) (h : WB Φ b (ds.map some ++ List.replicate (ns - np) none) (fun fl ρ => ∃ r outs, fl = .rt r ∧ (∀ i, r ≠ .slot i) ∧ outsOf ρ mps = some outs ∧ Q r outs)) : ∃ r outs, runFD Φ ⟨np, ns, M, mps, b⟩ ds = some (r, outs) ∧ Q r outs := by
  obtain ⟨fl, ρ', h, r, outs, rfl, h2, h3, q⟩ := h
  refine ⟨r, outs, ?_, q⟩
  unfold runFD
  dsimp only
  rw [if_pos hl]
  simp only [h, h3, bind, Option.bind]
  cases r with
  | val d => rfl
  | own d => rfl
  | slot i => exact absurd rfl (h2 i)
end
end Vm
set_option Elab.async false
set_option linter.all false
set_option maxRecDepth 100000
set_option maxHeartbeats 1000000
/-! M85a: words over letters and their inverses, plain. -/
namespace M85
abbrev L := Int × Bool
abbrev W := List L
def inv (p : L) : L := (p.1, !p.2)
theorem inv_inv (p : L) : inv (inv p) = p := by simp [inv]
theorem inv_ne (p : L) : inv p ≠ p := fun h => by
  have := congrArg Prod.snd h
  simp [inv] at this
theorem inv_inj {p q : L} (h : inv p = inv q) : p = q := by rw [← inv_inv p, h, inv_inv]
theorem eq_inv {p q : L} : p = inv q ↔ q = inv p := ⟨fun h => by rw [h, inv_inv], fun h => by rw [h, inv_inv]⟩
def winv (w : W) : W := (w.map inv).reverse
theorem winv_nil : winv [] = [] := rfl
theorem winv_cons (p : L) (w : W) : winv (p :: w) = winv w ++ [inv p] := by simp [winv]
theorem winv_app (a b : W) : winv (a ++ b) = winv b ++ winv a := by simp [winv]
theorem winv_len (a : W) : (winv a).length = a.length := by simp [winv]
theorem winv_winv (a : W) : winv (winv a) = a := by
  simp only [winv, List.map_reverse, List.reverse_reverse, List.map_map]
  have : inv ∘ inv = id := funext inv_inv
  rw [this, List.map_id]
/-! ### the stack, its top ahead -/
def push (s : W) (p : L) : W := match s with
  | q :: r => if p = inv q then r else p :: q :: r
  | [] => [p]
def act (s : W) (w : W) : W := w.foldl push s
theorem act_nil (s : W) : act s [] = s := rfl
theorem act_cons (s : W) (p : L) (w : W) : act s (p :: w) = act (push s p) w := rfl
theorem act_app (s a b : W) : act s (a ++ b) = act (act s a) b := List.foldl_append ..
def red (w : W) : W := (act [] w).reverse
/-- no letter stands beside its inverse -/
def Rd : W → Prop
  | a :: b :: r => b ≠ inv a ∧ Rd (b :: r)
  | _ => True
theorem rd_nil : Rd [] := trivial
theorem rd_tail {a : L} {r : W} (h : Rd (a :: r)) : Rd r := by
  cases r with
  | nil => trivial
  | cons b r => exact h.2
theorem rd_cons {a b : L} {r : W} : Rd (a :: b :: r) ↔ b ≠ inv a ∧ Rd (b :: r) := Iff.rfl
theorem push_rd {s : W} (h : Rd s) (p : L) : Rd (push s p) := by
  cases s with
  | nil => trivial
  | cons q r =>
    unfold push
    dsimp only
    split
    · exact rd_tail h
    · rename_i n
      exact ⟨fun z => n (eq_inv.mp z), h⟩
theorem act_rd : ∀ (w : W) {s : W}, Rd s → Rd (act s w)
  | [], _, h => h
  | p :: w, _, h => act_rd w (push_rd h p)
theorem push_inv {s : W} (h : Rd s) (p : L) : push (push s p) (inv p) = s := by
  cases s with
  | nil => simp [push]
  | cons q r =>
    unfold push
    dsimp only
    by_cases e : p = inv q
    · rw [if_pos e]
      cases r with
      | nil => simp [e, inv_inv]
      | cons q2 r2 =>
        have n : ¬ inv p = inv q2 := fun z => by
          have := inv_inj z
          rw [e] at this
          exact h.1 this.symm
        dsimp only
        rw [if_neg n, e, inv_inv]
    · rw [if_neg e]
      simp
theorem push_inv' {s : W} (h : Rd s) (p : L) : push (push s (inv p)) p = s := by
  have := push_inv h (inv p)
  rwa [inv_inv] at this
theorem act_winv : ∀ (w : W) {s : W}, Rd s → act (act s w) (winv w) = s
  | [], _, _ => rfl
  | p :: w, s, h => by
    rw [act_cons, winv_cons, act_app, act_winv w (push_rd h p)]
    exact push_inv h p
/-- a word and its stack act alike -/
theorem act_stack {s : W} (hs : Rd s) : ∀ (w t : W), act s (act t w).reverse = act (act s t.reverse) w
  | [], t => rfl
  | p :: w, t => by
    rw [act_cons, act_stack hs w (push t p), act_cons]
    congr 1
    cases t with
    | nil => rfl
    | cons q r =>
      unfold push
      dsimp only
      by_cases e : p = inv q
      · rw [if_pos e, List.reverse_cons, act_app]
        show act s r.reverse = push (push (act s r.reverse) q) p
        rw [e, push_inv (act_rd _ hs)]
      · rw [if_neg e]
        show act s (p :: q :: r).reverse = push (act s (q :: r).reverse) p
        rw [List.reverse_cons, act_app]
        rfl
theorem act_red {s : W} (hs : Rd s) (w : W) : act s (red w) = act s w := act_stack hs w []
theorem red_app_red (a b : W) : red (a ++ red b) = red (a ++ b) := by
  show (act [] (a ++ red b)).reverse = (act [] (a ++ b)).reverse
  rw [act_app, act_app, act_red (act_rd a rd_nil)]
theorem red_red_app (a b : W) : red (red a ++ b) = red (a ++ b) := by
  show (act [] (red a ++ b)).reverse = (act [] (a ++ b)).reverse
  rw [act_app, act_app, act_red (s := []) trivial]
theorem red_cancel (a b c : W) : red (a ++ (b ++ (winv b ++ c))) = red (a ++ c) := by
  unfold red
  rw [act_app, act_app, act_app, act_winv b (act_rd a rd_nil), ← act_app]
theorem red_cancel' (a b c : W) : red (a ++ (winv b ++ (b ++ c))) = red (a ++ c) := by
  have := red_cancel a (winv b) c
  rwa [winv_winv] at this
/-! ### reduced words -/
theorem rd_app : ∀ (x y : W), Rd (x ++ y) ↔ Rd x ∧ Rd y ∧ ∀ a b, x.getLast? = some a → y.head? = some b → b ≠ inv a
  | [], y => by simp [Rd]
  | [a], [] => by simp [Rd]
  | [a], b :: y => by simp [Rd]; exact And.comm
  | a :: a2 :: x, y => by
    have ih := rd_app (a2 :: x) y
    show (a2 ≠ inv a ∧ Rd ((a2 :: x) ++ y)) ↔ (a2 ≠ inv a ∧ Rd (a2 :: x)) ∧ _
    rw [ih, List.getLast?_cons_cons]
    constructor
    · rintro ⟨h1, h2, h3, h4⟩; exact ⟨⟨h1, h2⟩, h3, h4⟩
    · rintro ⟨⟨h1, h2⟩, h3, h4⟩; exact ⟨h1, h2, h3, h4⟩
theorem rd_left {x y : W} (h : Rd (x ++ y)) : Rd x := ((rd_app x y).mp h).1
theorem rd_right {x y : W} (h : Rd (x ++ y)) : Rd y := ((rd_app x y).mp h).2.1
theorem rd_rev : ∀ {w : W}, Rd w → Rd w.reverse
  | [], _ => trivial
  | [a], _ => trivial
  | a :: b :: r, h => by
    rw [List.reverse_cons]
    refine (rd_app _ _).mpr ⟨rd_rev h.2, trivial, fun x y hx hy => ?_⟩
    rw [List.reverse_cons, List.getLast?_append, List.getLast?_singleton] at hx
    simp at hx hy
    subst hx hy
    exact fun z => h.1 (eq_inv.mp z)
theorem red_rd (w : W) : Rd (red w) := rd_rev (act_rd w trivial)
theorem act_of_rd : ∀ (w s : W), Rd (w.reverse ++ s) → act s w = w.reverse ++ s
  | [], _, _ => rfl
  | p :: w, s, h => by
    rw [List.reverse_cons, List.append_assoc] at h
    have e : push s p = p :: s := by
      cases s with
      | nil => rfl
      | cons q r =>
        unfold push
        dsimp only
        rw [if_neg]
        have := rd_right h
        exact fun z => this.1 (eq_inv.mp z)
    rw [act_cons, e, act_of_rd w (p :: s) h, List.reverse_cons, List.append_assoc]
    rfl
theorem red_of_rd {w : W} (h : Rd w) : red w = w := by
  unfold red
  rw [act_of_rd w [] (by rw [List.append_nil]; exact rd_rev h), List.append_nil, List.reverse_reverse]
theorem red_red (w : W) : red (red w) = red w := red_of_rd (red_rd w)
theorem push_len (s : W) (p : L) : (push s p).length ≤ s.length + 1 := by
  unfold push
  split
  · split <;> simp <;> omega
  · simp
theorem act_len : ∀ (w s : W), (act s w).length ≤ s.length + w.length
  | [], s => by simp [act]
  | p :: w, s => by
    rw [act_cons]
    have h1 := act_len w (push s p)
    have h2 := push_len s p
    simp only [List.length_cons]
    omega
theorem red_len (w : W) : (red w).length ≤ w.length := by
  unfold red
  rw [List.length_reverse]
  have := act_len w []
  simpa using this
theorem winv_rd {w : W} (h : Rd w) : Rd (winv w) := by
  unfold winv
  refine rd_rev ?_
  induction w with
  | nil => trivial
  | cons a r ih =>
    cases r with
    | nil => trivial
    | cons b r =>
      refine ⟨fun z => h.1 ?_, ih h.2⟩
      rw [inv_inv] at z
      exact eq_inv.mp z.symm
/-- letters stay letters -/
theorem push_mem {s : W} {p q : L} (h : q ∈ push s p) : q ∈ s ∨ q = p := by
  unfold push at h
  split at h
  · split at h
    · exact .inl (List.mem_cons_of_mem _ h)
    · rcases List.mem_cons.mp h with e | e
      · exact .inr e
      · exact .inl e
  · exact .inr (List.mem_singleton.mp h)
theorem act_mem : ∀ (w s : W) {q : L}, q ∈ act s w → q ∈ s ∨ q ∈ w
  | [], s, q, h => .inl h
  | p :: w, s, q, h => by
    rcases act_mem w (push s p) h with e | e
    · rcases push_mem e with e | e
      · exact .inl e
      · exact .inr (e ▸ List.mem_cons_self)
    · exact .inr (List.mem_cons_of_mem _ e)
theorem red_mem {w : W} {q : L} (h : q ∈ red w) : q ∈ w := by
  unfold red at h
  rcases act_mem w [] (List.mem_reverse.mp h) with e | e
  · cases e
  · exact e
end M85
set_option Elab.async false
set_option linter.all false
set_option maxRecDepth 100000
set_option maxHeartbeats 1000000
/-! M85b: cores, and that they only turn about. -/
namespace M85
/-- head and last letter do not undo one another -/
def Stop (c : W) : Prop := ∀ a b, c.getLast? = some a → c.head? = some b → b ≠ inv a
structure IsCore (w t c : W) : Prop where
  eq : w = t ++ (c ++ winv t)
  stop : Stop c
theorem stop_nil : Stop [] := fun a b h => by simp at h
theorem core_unique : ∀ (t t' : W) {w c c' : W}, IsCore w t c → IsCore w t' c' → t = t' ∧ c = c'
  | [], [], w, c, c', h, h' => by
    refine ⟨rfl, ?_⟩
    have e := h.eq.symm.trans h'.eq
    simpa [winv] using e
  | [], q :: r', w, c, c', h, h' => by
    exfalso
    have e := h.eq.symm.trans h'.eq
    rw [winv_cons] at e
    have e2 : c = q :: ((r' ++ (c' ++ winv r')) ++ [inv q]) := by simpa [winv] using e
    refine h.stop (inv q) q ?_ ?_ (inv_inv q).symm
    · rw [e2, ← List.cons_append, List.getLast?_append, List.getLast?_singleton]; rfl
    · rw [e2]; rfl
  | p :: r, [], w, c, c', h, h' => by
    exfalso
    have e := h'.eq.symm.trans h.eq
    rw [winv_cons] at e
    have e2 : c' = p :: ((r ++ (c ++ winv r)) ++ [inv p]) := by simpa [winv] using e
    refine h'.stop (inv p) p ?_ ?_ (inv_inv p).symm
    · rw [e2, ← List.cons_append, List.getLast?_append, List.getLast?_singleton]; rfl
    · rw [e2]; rfl
  | p :: r, q :: r', w, c, c', h, h' => by
    have e := h.eq.symm.trans h'.eq
    rw [winv_cons, winv_cons] at e
    have e2 : p :: ((r ++ (c ++ winv r)) ++ [inv p]) = q :: ((r' ++ (c' ++ winv r')) ++ [inv q]) := by simpa using e
    injection e2 with e3 e4
    subst e3
    have e5 := List.append_cancel_right e4
    obtain ⟨h1, h2⟩ := core_unique r r' (w := r ++ (c ++ winv r)) ⟨rfl, h.stop⟩ ⟨e5, h'.stop⟩
    exact ⟨by rw [h1], h2⟩
/-! ### turned about -/
def Rot (c d : W) : Prop := ∃ u v, c = u ++ v ∧ d = v ++ u
theorem Rot.refl (c : W) : Rot c c := ⟨[], c, rfl, by simp⟩
theorem Rot.symm {c d : W} (h : Rot c d) : Rot d c := by
  obtain ⟨u, v, rfl, rfl⟩ := h
  exact ⟨v, u, rfl, rfl⟩
theorem Rot.trans {c d e : W} (h : Rot c d) (h' : Rot d e) : Rot c e := by
  obtain ⟨u, v, rfl, rfl⟩ := h
  obtain ⟨u', v', e1, rfl⟩ := h'
  rcases List.append_eq_append_iff.mp e1 with ⟨m, h1, h2⟩ | ⟨m, h1, h2⟩
  · -- u' = v ++ m, u = m ++ v'
    subst h1 h2
    exact ⟨m, v' ++ v, by simp, by simp⟩
  · subst h1 h2
    exact ⟨u ++ u', m, by simp, by simp⟩
theorem Rot.len {c d : W} (h : Rot c d) : c.length = d.length := by
  obtain ⟨u, v, rfl, rfl⟩ := h
  simp [Nat.add_comm]
/-! ### conjugates -/
theorem head_app {α : Type} {x y : List α} {b : α} (h : x.head? = some b) : (x ++ y).head? = some b := by
  cases x with
  | nil => simp at h
  | cons a r => exact h
theorem conj_one {w t c : W} (hw : Rd w) (h : IsCore w t c) (p : L) : ∃ t' c', IsCore (red (inv p :: (w ++ [p]))) t' c' ∧ Rot c c' := by
  cases t with
  | cons q r =>
    by_cases e : p = q
    · subst e
      refine ⟨r, c, ⟨?_, h.stop⟩, Rot.refl c⟩
      have ew : w = p :: ((r ++ (c ++ winv r)) ++ [inv p]) := by rw [h.eq, winv_cons]; simp
      have e1 : red (inv p :: (w ++ [p])) = red (r ++ (c ++ winv r)) := by
        rw [ew]
        have a1 := red_cancel' [] [p] ((r ++ (c ++ winv r)) ++ [inv p, p])
        have a2 := red_cancel' (r ++ (c ++ winv r)) [p] []
        simp only [winv, List.map_cons, List.map_nil, List.reverse_singleton, List.nil_append, List.cons_append, List.append_nil, List.append_assoc] at a1 a2 ⊢
        rw [a1, a2]
      rw [e1, red_of_rd]
      rw [ew] at hw
      exact rd_left (rd_tail hw)
    · refine ⟨inv p :: q :: r, c, ⟨?_, h.stop⟩, Rot.refl c⟩
      have hrd : Rd (inv p :: (w ++ [p])) := by
        have ew : w = q :: (r ++ (c ++ winv r) ++ [inv q]) := by rw [h.eq, winv_cons]; simp
        have h2 : Rd (w ++ [p]) := by
          refine (rd_app w [p]).mpr ⟨hw, trivial, fun a b ha hb => ?_⟩
          rw [ew, ← List.cons_append, List.getLast?_append, List.getLast?_singleton] at ha
          simp at ha hb
          subst ha hb
          rw [inv_inv]
          exact fun z => e z
        rw [ew] at h2 ⊢
        refine ⟨?_, h2⟩
        rw [inv_inv]
        exact fun z => e z.symm
      rw [red_of_rd hrd, h.eq]
      simp [winv_cons, inv_inv]
  | nil =>
    have ew : w = c := by rw [h.eq]; simp [winv]
    subst ew
    cases w with
    | nil =>
      refine ⟨[], [], ⟨?_, stop_nil⟩, Rot.refl _⟩
      have a1 := red_cancel' [] [p] []
      simp only [winv, List.map_cons, List.map_nil, List.reverse_singleton, List.nil_append, List.cons_append, List.append_nil] at a1 ⊢
      rw [a1]
      rfl
    | cons a m =>
      by_cases e : p = a
      · -- the first letter goes behind
        subst e
        have e1 : red (inv p :: (p :: m ++ [p])) = red (m ++ [p]) := by
          have a1 := red_cancel' [] [p] (m ++ [p])
          simp only [winv, List.map_cons, List.map_nil, List.reverse_singleton, List.nil_append, List.cons_append] at a1 ⊢
          rw [a1]
        have hr : Rd (m ++ [p]) := by
          refine (rd_app m [p]).mpr ⟨rd_tail hw, trivial, fun a b ha hb => ?_⟩
          simp at hb
          subst hb
          refine h.stop a p ?_ rfl
          rw [List.getLast?_cons, ha]
          rfl
        rw [e1, red_of_rd hr]
        refine ⟨[], m ++ [p], ⟨by simp [winv], fun a b ha hb => ?_⟩, ⟨[p], m, rfl, rfl⟩⟩
        rw [List.getLast?_append, List.getLast?_singleton] at ha
        simp at ha
        subst ha
        cases m with
        | nil =>
          simp at hb
          subst hb
          exact fun z => inv_ne p z.symm
        | cons b' m' =>
          simp at hb
          subst hb
          exact hw.1
      · -- the last letter goes ahead, or none goes
        obtain ⟨m', b, eb⟩ : ∃ m' b, a :: m = m' ++ [b] := ⟨(a :: m).dropLast, (a :: m).getLast (by simp), (List.dropLast_concat_getLast _).symm⟩
        by_cases e2 : p = inv b
        · have e1 : red (inv p :: (a :: m ++ [p])) = red (b :: m') := by
            rw [eb, e2, inv_inv]
            have a1 := red_cancel (b :: m') [b] []
            simp only [winv, List.map_cons, List.map_nil, List.reverse_singleton, List.nil_append, List.cons_append, List.append_nil, List.append_assoc] at a1 ⊢
            rw [a1]
          have hs : Stop (m' ++ [b]) := eb ▸ h.stop
          have hw' : Rd (m' ++ [b]) := eb ▸ hw
          have hr : Rd (b :: m') := by
            cases m' with
            | nil => trivial
            | cons x y =>
              refine ⟨?_, rd_left hw'⟩
              exact hs b x (by rw [List.getLast?_append, List.getLast?_singleton]; rfl) rfl
          rw [e1, red_of_rd hr]
          refine ⟨[], b :: m', ⟨by simp [winv], fun x y hx hy => ?_⟩, by rw [eb]; exact ⟨m', [b], rfl, rfl⟩⟩
          simp at hy
          subst hy
          cases m' with
          | nil =>
            simp at hx
            subst hx
            exact fun z => inv_ne b z.symm
          | cons x0 y0 =>
            rw [List.getLast?_cons_cons] at hx
            exact ((rd_app _ _).mp hw').2.2 x b hx rfl
        · have hr : Rd (inv p :: (a :: m ++ [p])) := by
            refine ⟨by rw [inv_inv]; exact fun z => e z.symm, ?_⟩
            refine (rd_app (a :: m) [p]).mpr ⟨hw, trivial, fun x y hx hy => ?_⟩
            rw [eb, List.getLast?_append, List.getLast?_singleton] at hx
            simp at hx hy
            subst hx hy
            exact e2
          rw [red_of_rd hr]
          refine ⟨[inv p], a :: m, ⟨?_, h.stop⟩, Rot.refl _⟩
          simp [winv, inv_inv]
theorem conj_core : ∀ (x : W) {w t c : W}, Rd w → IsCore w t c → ∃ t' c', IsCore (red (winv x ++ (w ++ x))) t' c' ∧ Rot c c'
  | [], w, t, c, hw, h => ⟨t, c, by simpa [winv, red_of_rd hw] using h, Rot.refl c⟩
  | p :: x, w, t, c, hw, h => by
    obtain ⟨t1, c1, h1, r1⟩ := conj_one hw h p
    obtain ⟨t2, c2, h2, r2⟩ := conj_core x (red_rd _) h1
    refine ⟨t2, c2, ?_, r1.trans r2⟩
    have e : red (winv (p :: x) ++ (w ++ p :: x)) = red (winv x ++ (red (inv p :: (w ++ [p])) ++ x)) := by
      have a1 := red_app_red (winv x) (red (inv p :: (w ++ [p])) ++ x)
      rw [← a1, red_red_app, red_app_red, winv_cons]
      simp
    rw [e]
    exact h2
end M85
set_option Elab.async false
set_option linter.all false
set_option maxRecDepth 100000
set_option maxHeartbeats 1000000
/-! M85c: the least of a core's turns. -/
namespace M85
open PySem
abbrev D := PyData
def lD (p : L) : D := .tuple [.int p.1, .bool p.2]
def wD (w : W) : D := .tuple (w.map lD)
theorem wD_len (w : W) : (w.map lD).length = w.length := List.length_map ..
theorem toks_letter (p : L) (x : List (Int ⊕ List Nat)) : W.keyToks (lD p) ++ x = .inl 1 :: .inl p.1 :: .inl 1 :: .inl (if p.2 = true then 1 else 0) :: .inl 0 :: x := by
  simp [lD, W.keyToks, W.keyToksAll]
theorem toks_inj : ∀ {a b : W}, W.keyToksAll (a.map lD) = W.keyToksAll (b.map lD) → a = b
  | [], [], _ => rfl
  | [], q :: b, h => by simp [W.keyToksAll] at h
  | p :: a, [], h => by simp [W.keyToksAll] at h
  | p :: a, q :: b, h => by
    simp only [List.map_cons, W.keyToksAll] at h
    rw [toks_letter, toks_letter] at h
    simp only [List.cons.injEq, Sum.inl.injEq, true_and] at h
    obtain ⟨h1, h2, h3⟩ := h
    have e : p.2 = q.2 := by
      revert h2
      cases p.2 <;> cases q.2 <;> simp
    rw [toks_inj h3, show p = q from Prod.ext h1 e]
def wlt (a b : W) : Bool := W.dataLt (wD a) (wD b)
theorem lt_irr (a : D) : W.dataLt a a = false := PyProof.Rows.lex_irrefl _
theorem lt_trans {a b c : D} (h : W.dataLt a b = true) (h' : W.dataLt b c = true) : W.dataLt a c = true := PyProof.Rows.lex_trans _ _ _ h h'
theorem wlt_total {a b : W} (h : wlt a b = false) (h' : wlt b a = false) : a = b := toks_inj (PyProof.Rows.lex_total _ _ h h')
def Least (S : W → Prop) (m : W) : Prop := S m ∧ ∀ r, S r → wlt r m = false
theorem Least.unique {S : W → Prop} {m m' : W} (h : Least S m) (h' : Least S m') : m = m' := wlt_total (h'.2 m h.1) (h.2 m' h'.1)
/-- the least of a row -/
def low (x : W) (xs : List W) : W := xs.foldl (fun a y => if wlt y a = true then y else a) x
theorem low_spec : ∀ (xs : List W) (x : W), low x xs ∈ x :: xs ∧ ∀ r ∈ x :: xs, wlt r (low x xs) = false
  | [], x => ⟨List.mem_cons_self, fun r hr => by
      rw [List.mem_singleton.mp hr]
      exact lt_irr _⟩
  | y :: ys, x => by
    obtain ⟨h1, h2⟩ := low_spec ys (if wlt y x = true then y else x)
    have e : low x (y :: ys) = low (if wlt y x = true then y else x) ys := rfl
    rw [e]
    refine ⟨?_, fun r hr => ?_⟩
    · rcases List.mem_cons.mp h1 with h | h
      · rw [h]
        split
        · exact List.mem_cons_of_mem _ List.mem_cons_self
        · exact List.mem_cons_self
      · exact List.mem_cons_of_mem _ (List.mem_cons_of_mem _ h)
    · have key := h2 _ List.mem_cons_self
      have stepdown : ∀ z, wlt z (if wlt y x = true then y else x) = false → wlt z (low (if wlt y x = true then y else x) ys) = false → True := fun _ _ _ => trivial
      rcases List.mem_cons.mp hr with rfl | hr
      · by_cases c : wlt y r = true
        · rw [if_pos c] at key ⊢
          cases q : wlt r (low y ys) with
          | false => rfl
          | true =>
            have := lt_trans c q
            rw [show W.dataLt (wD y) (wD (low y ys)) = wlt y (low y ys) from rfl, key] at this
            cases this
        · rw [if_neg c] at key ⊢
          exact key
      · rcases List.mem_cons.mp hr with rfl | hr
        · by_cases c : wlt r x = true
          · rw [if_pos c] at key ⊢
            exact key
          · rw [if_neg c] at h1 h2 key ⊢
            -- x is not above r; the least is not above x
            cases q : wlt r (low x ys) with
            | false => rfl
            | true =>
              rcases List.mem_cons.mp h1 with h | h
              · rw [h] at q
                exact absurd q c
              · by_cases e2 : low x ys = x
                · rw [e2] at q
                  exact absurd q c
                · have l1 : wlt (low x ys) x = true := by
                    cases z : wlt (low x ys) x with
                    | true => rfl
                    | false => exact absurd (wlt_total z key) e2
                  exact absurd (lt_trans q l1) c
        · exact h2 r (List.mem_cons_of_mem _ hr)
def rot (c : W) (k : Nat) : W := c.drop k ++ c.take k
theorem rot_zero (c : W) : rot c 0 = c := by simp [rot]
theorem rot_Rot (c : W) (k : Nat) : Rot c (rot c k) := ⟨c.take k, c.drop k, (List.take_append_drop k c).symm, rfl⟩
theorem rot_of {c d : W} (h : Rot c d) : ∃ k, (k < c.length ∨ k = 0) ∧ d = rot c k := by
  obtain ⟨u, v, rfl, rfl⟩ := h
  by_cases e : v = []
  · subst e
    exact ⟨0, .inr rfl, by simp [rot]⟩
  · refine ⟨u.length, .inl ?_, by simp [rot]⟩
    rw [List.length_append]
    have := List.length_pos_iff.mpr e
    omega
/-- the least turn, as the law makes it -/
def lst (c : W) : W := low c ((List.range c.length).map (rot c))
theorem lst_spec (c : W) : Least (Rot c) (lst c) := by
  obtain ⟨h1, h2⟩ := low_spec ((List.range c.length).map (rot c)) c
  refine ⟨?_, fun r hr => ?_⟩
  · rcases List.mem_cons.mp h1 with h | h
    · show Rot c (low c _)
      rw [h]; exact Rot.refl c
    · obtain ⟨k, _, e⟩ := List.mem_map.mp h
      show Rot c (low c _)
      rw [← e]
      exact rot_Rot c k
  · obtain ⟨k, hk, rfl⟩ := rot_of hr
    refine h2 _ ?_
    rcases hk with hk | rfl
    · exact List.mem_cons_of_mem _ (List.mem_map.mpr ⟨k, List.mem_range.mpr hk, rfl⟩)
    · rw [rot_zero]; exact List.mem_cons_self
theorem lst_rot {c d : W} (h : Rot c d) : lst c = lst d := by
  refine (lst_spec c).unique ⟨h.trans (lst_spec d).1, fun r hr => (lst_spec d).2 r (h.symm.trans hr)⟩
theorem rot_lst {c d : W} (h : lst c = lst d) : Rot c d := (lst_spec c).1.trans (h ▸ (lst_spec d).1.symm)
theorem lst_lst (c : W) : lst (lst c) = lst c := (lst_rot (lst_spec c).1).symm
theorem lst_len (c : W) : (lst c).length = c.length := (lst_spec c).1.len.symm
/-- the least turn, as min tells it -/
theorem min_rots (c : W) (xs : List W) (h1 : ∀ x ∈ xs, Rot c x) (h2 : ∀ k, k < c.length → rot c k ∈ c :: xs) : W.minD (wD c) (xs.map wD) = wD (lst c) := by
  have e : ∀ (xs : List W) (x : W), W.minD (wD x) (xs.map wD) = wD (low x xs) := by
    intro xs
    induction xs with
    | nil => intro x; rfl
    | cons y ys ih =>
      intro x
      show W.minD (if W.dataLt (wD y) (wD x) = true then wD y else wD x) (ys.map wD) = wD (low (if wlt y x = true then y else x) ys)
      rw [← ih]
      congr 1
      show (if wlt y x = true then wD y else wD x) = _
      split <;> rfl
  rw [e]
  congr 1
  obtain ⟨m1, m2⟩ := low_spec xs c
  refine Least.unique (S := Rot c) ⟨?_, fun r hr => ?_⟩ (lst_spec c)
  · rcases List.mem_cons.mp m1 with h | h
    · rw [h]; exact Rot.refl c
    · exact h1 _ h
  · obtain ⟨k, hk, rfl⟩ := rot_of hr
    refine m2 _ ?_
    rcases hk with hk | rfl
    · exact h2 k hk
    · rw [rot_zero]; exact List.mem_cons_self
end M85
set_option Elab.async false
set_option linter.all false
set_option maxRecDepth 100000
set_option maxHeartbeats 1000000
/-! U85a: what the defs give, the small ones. -/
namespace M85
open Vm
def Ret (k : Nat) (ds : List D) (r : R) (outs : List D) (d : Nat) : Prop := ∀ n, d ≤ n → phi P85.prog n k ds = some (r, outs)
theorem ret_of {k : Nat} {ds : List D} {r : R} {outs : List D} {d : Nat} {f : FD} (hp : P85.prog k = some f) (h : ∀ n, d ≤ n → runFD (phi P85.prog n) f ds = some (r, outs)) : Ret k ds r outs (d + 1) := fun n hn => by
  obtain ⟨m, rfl⟩ : ∃ m, n = m + 1 := ⟨n - 1, by omega⟩
  show (match P85.prog k with | some f => runFD (phi P85.prog m) f ds | none => none) = _
  rw [hp]
  exact h m (by omega)
theorem Ret.mono {k : Nat} {ds : List D} {r : R} {outs : List D} {d e : Nat} (h : Ret k ds r outs d) (le : d ≤ e) : Ret k ds r outs e := fun n hn => h n (Nat.le_trans le hn)
def isI : D → Bool
  | .int _ => true
  | _ => false
def isB : D → Bool
  | .bool _ => true
  | _ => false
def isTup : D → Bool
  | .tuple _ => true
  | _ => false
theorem r0 (x : D) : Ret 0 [x] (.val (.bool (isI x))) [] 1 := by
  refine ret_of (d := 0) rfl fun n _ => ?_
  cases x <;> rfl
def within (x : D) (lo hi : Int) : Bool := match x with
  | .int i => decide (lo ≤ i) && decide (i ≤ hi)
  | _ => false
theorem r1 (x : D) (lo hi : Int) : Ret 1 [x, .int lo, .int hi] (.val (.bool (within x lo hi))) [] 2 := by
  refine ret_of (d := 1) rfl fun n hn => run_of rfl ?_ (fun _ z => nomatch z)
  have e : within x lo hi = (isI x && (match x with | .int i => decide (lo ≤ i) && decide (i ≤ hi) | _ => false)) := by cases x <;> simp [within, isI]
  rw [e]
  refine rt_ret (pv_and (pv_call (pvs_cons (pv_var rfl).pd pvs_nil) (r0 x n hn)) fun h => ?_)
  cases x with
  | int i => exact pv_chain (pv_var rfl) (pv_var rfl) (pv_var rfl) rfl fun _ => rfl
  | _ => cases h
theorem eq_ints (i j : Int) : cmpD .eq (.int i) (.int j) = some (decide (i = j)) := by
  show (if (PySem.SeqAt.shaped (.int i) && PySem.SeqAt.shaped (.int j)) = true then some (PySem.PyData.eqv (.int i) (.int j)) else none) = _
  rw [if_pos (show (PySem.SeqAt.shaped (.int i) && PySem.SeqAt.shaped (.int j)) = true from rfl)]
  simp only [PySem.PyData.eqv]
  congr 1
theorem ne_ints (i j : Int) : cmpD .ne (.int i) (.int j) = some (decide (i ≠ j)) := by
  show (if (PySem.SeqAt.shaped (.int i) && PySem.SeqAt.shaped (.int j)) = true then some (!PySem.PyData.eqv (.int i) (.int j)) else none) = _
  rw [if_pos (show (PySem.SeqAt.shaped (.int i) && PySem.SeqAt.shaped (.int j)) = true from rfl)]
  simp only [PySem.PyData.eqv]
  congr 1
  by_cases c : i = j <;> simp [c]
theorem ne_bools (i j : Bool) : cmpD .ne (.bool i) (.bool j) = some (i != j) := by
  cases i <;> cases j <;> rfl
def tupN (x : D) (k : Int) : Bool := match x with
  | .tuple xs => decide ((xs.length : Int) = k)
  | _ => false
theorem r2 (x : D) (k : Int) : Ret 2 [x, .int k] (.val (.bool (tupN x k))) [] 1 := by
  refine ret_of (d := 0) rfl fun n hn => run_of rfl ?_ (fun _ z => nomatch z)
  have e : tupN x k = (isTy .tuple x && tupN x k) := by cases x <;> simp [tupN, isTy]
  rw [e]
  refine rt_ret (pv_and (pv_blt (pvs_cons (pv_var rfl).pd pvs_nil) rfl) fun h => ?_)
  cases x with
  | tuple xs => exact pv_cmp (pv_blt (pvs_cons (pv_var rfl).pd pvs_nil) rfl).pd (pv_var rfl).pd (eq_ints _ _)
  | _ => cases h
def isPair (m : Int) (x : D) : Bool := match x with
  | .tuple [.int i, .bool _] => decide (0 ≤ i) && decide (i ≤ m - 1)
  | _ => false
theorem tupN_two {x : D} (h : tupN x 2 = true) : ∃ a b, x = .tuple [a, b] := by
  cases x with
  | tuple xs =>
    simp only [tupN, decide_eq_true_eq] at h
    match xs, h with
    | [a, b], _ => exact ⟨a, b, rfl⟩
    | [], h => simp at h
    | [_], h => simp at h
    | _ :: _ :: _ :: r, h => simp at h; omega
  | _ => cases h
theorem r3 (m : Int) (x : D) : Ret 3 [.int m, x] (.val (.bool (isPair m x))) [] 3 := by
  refine ret_of (d := 2) rfl fun n hn => run_of rfl ?_ (fun _ z => nomatch z)
  have e : isPair m x = (tupN x 2 && (match x with | .tuple [a, b] => (within a 0 (m - 1) && isTy .bool b) | _ => false)) := by
    cases z : tupN x 2 with
    | true =>
      obtain ⟨a, b, rfl⟩ := tupN_two z
      cases a <;> cases b <;> simp [isPair, within, isTy]
    | false =>
      unfold isPair
      split
      · simp [tupN] at z
      · rfl
  rw [e]
  refine rt_ret (pv_and (pv_call (pvs_cons (pv_var rfl).pd (pvs_cons pv_int.pd pvs_nil)) (r2 x 2 n (by omega))) fun h => ?_)
  obtain ⟨a, b, rfl⟩ := tupN_two h
  refine pv_and (pv_call (pvs_cons (pv_ix (pv_var rfl).pd pv_int rfl).pd (pvs_cons pv_int.pd (pvs_cons (pv_bin (pv_var rfl).pd pv_int.pd rfl).pd pvs_nil))) (r1 a 0 (m - 1) n (by omega))) fun h2 => ?_
  exact pv_blt (pvs_cons (pv_ix (pv_var rfl).pd pv_int rfl).pd pvs_nil) rfl
/-- two letters -/
theorem r4 (p q : L) : Ret 4 [lD p, lD q] (.val (.bool (decide (q = inv p)))) [] 1 := by
  refine ret_of (d := 0) rfl fun n hn => run_of rfl ?_ (fun _ z => nomatch z)
  have e : decide (q = inv p) = (decide (p.1 = q.1) && (p.2 != q.2)) := by
    obtain ⟨a, b⟩ := p
    obtain ⟨c, d⟩ := q
    simp only [inv, Prod.mk.injEq]
    by_cases h : a = c
    · subst h
      cases b <;> cases d <;> simp
    · simp [h, Ne.symm h]
  rw [e]
  refine rt_ret (pv_and (pv_cmp (pv_ix (pv_var rfl).pd pv_int rfl).pd (pv_ix (pv_var rfl).pd pv_int rfl).pd (eq_ints _ _)) fun h => ?_)
  exact pv_cmp (pv_ix (pv_var rfl).pd pv_int rfl).pd (pv_ix (pv_var rfl).pd pv_int rfl).pd (ne_bools _ _)
end M85
set_option Elab.async false
set_option linter.all false
set_option maxRecDepth 100000
set_option maxHeartbeats 1000000
/-! U85b: words that are reduced, elements. -/
namespace M85
open Vm
theorem at_of {xs : List D} {i : Int} {d : D} (h0 : 0 ≤ i) (h : xs[i.toNat]? = some d) : L2.atI xs i = some d := by
  have hl := (List.getElem?_eq_some_iff.mp h).1
  unfold L2.atI L2.ixN
  rw [if_pos h0, if_pos (by omega)]
  exact h
theorem ixT {xs : List D} {i : Int} {d : D} (h0 : 0 ≤ i) (h : xs[i.toNat]? = some d) : ixD (.tuple xs) (.int i) = some d := at_of h0 h
theorem ixL {xs : List D} {i : Int} {d : D} (h0 : 0 ≤ i) (h : xs[i.toNat]? = some d) : ixD (.list xs) (.int i) = some d := at_of h0 h
theorem bools_map {α : Type} (f : α → Bool) : ∀ xs : List α, bools? (xs.map fun x => PySem.PyData.bool (f x)) = some (xs.map f)
  | [] => rfl
  | x :: xs => by
    rw [List.map_cons, bools?, bools_map f xs]
    rfl
theorem all_map {α : Type} (f : α → Bool) (xs : List α) : bltD .all [.list (xs.map fun x => PySem.PyData.bool (f x))] = some (.val (.bool (xs.all f))) := by
  simp only [bltD, bools_map, Option.map_some, List.all_map]
  rfl
theorem any_map {α : Type} (f : α → Bool) (xs : List α) : bltD .any [.list (xs.map fun x => PySem.PyData.bool (f x))] = some (.val (.bool (xs.any f))) := by
  simp only [bltD, bools_map, Option.map_some, List.any_map]
  rfl
def rdB : W → Bool
  | a :: b :: r => !decide (b = inv a) && rdB (b :: r)
  | _ => true
theorem rdB_iff : ∀ {w : W}, rdB w = true ↔ Rd w
  | [] => by simp [rdB, Rd]
  | [a] => by simp [rdB, Rd]
  | a :: b :: r => by
    have ih := rdB_iff (w := b :: r)
    simp [rdB, Rd, ih]
/-- whether some letter stands ahead of its inverse -/
def adj (w : W) (i : Nat) : Bool := match w[i]?, w[i + 1]? with
  | some p, some q => decide (q = inv p)
  | _, _ => false
theorem adj_any : ∀ w : W, (List.range (w.length - 1)).any (adj w) = !rdB w
  | [] => rfl
  | [a] => rfl
  | a :: b :: r => by
    have ih := adj_any (b :: r)
    have e : (a :: b :: r).length - 1 = ((b :: r).length - 1) + 1 := by simp
    rw [e, List.range_succ_eq_map, List.any_cons, List.any_map]
    have e2 : (adj (a :: b :: r) ∘ Nat.succ) = adj (b :: r) := by
      funext i
      simp only [Function.comp, adj, List.getElem?_cons_succ, Nat.succ_eq_add_one]
    rw [e2, ih]
    simp [rdB, adj]
def isPairs (m : Int) (xs : List D) : Bool := xs.all (isPair m)
def Lett (m : Int) (w : W) : Prop := ∀ p ∈ w, 0 ≤ p.1 ∧ p.1 ≤ m - 1
theorem pair_of {m : Int} {x : D} (h : isPair m x = true) : ∃ p : L, x = lD p ∧ 0 ≤ p.1 ∧ p.1 ≤ m - 1 := by
  unfold isPair at h
  split at h
  · rename_i i b
    simp only [Bool.and_eq_true, decide_eq_true_eq] at h
    exact ⟨(i, b), rfl, h.1, h.2⟩
  · cases h
theorem pairs_of {m : Int} : ∀ {xs : List D}, xs.all (isPair m) = true → ∃ w : W, xs = w.map lD ∧ Lett m w
  | [], _ => ⟨[], rfl, fun p h => nomatch h⟩
  | x :: xs, h => by
    rw [List.all_cons, Bool.and_eq_true] at h
    obtain ⟨p, rfl, h1⟩ := pair_of h.1
    obtain ⟨w, rfl, h2⟩ := pairs_of h.2
    refine ⟨p :: w, rfl, fun q hq => ?_⟩
    rcases List.mem_cons.mp hq with rfl | hq
    · exact h1
    · exact h2 q hq
theorem pairs_ok {m : Int} {w : W} (h : Lett m w) : (w.map lD).all (isPair m) = true := by
  rw [List.all_map, List.all_eq_true]
  intro p hp
  have := h p hp
  simp [lD, isPair, this]
theorem lD_inj {p q : L} (h : lD p = lD q) : p = q := by
  simp only [lD, PySem.PyData.tuple.injEq, List.cons.injEq, PySem.PyData.int.injEq, PySem.PyData.bool.injEq, and_true] at h
  exact Prod.ext h.1 h.2
theorem wD_inj {v w : W} (h : wD v = wD w) : v = w := by
  unfold wD at h
  rw [PySem.PyData.tuple.injEq] at h
  exact List.map_inj_right (fun _ _ => lD_inj) |>.mp h
def unD : D → L
  | .tuple [.int i, .bool b] => (i, b)
  | _ => (0, false)
theorem unD_lD (p : L) : unD (lD p) = p := rfl
theorem unD_map (w : W) : (w.map lD).map unD = w := by
  rw [List.map_map]
  exact List.map_id'' unD_lD w
def isRed (m : Int) (x : D) : Bool := match x with
  | .tuple xs => xs.all (isPair m) && rdB (xs.map unD)
  | _ => false
theorem isRed_word {m : Int} {w : W} (h : Lett m w) : isRed m (wD w) = rdB w := by
  unfold isRed wD
  dsimp only
  rw [pairs_ok h, Bool.true_and, unD_map]
theorem rangeD_map (n : Nat) (f : Nat → D) (g : D → D) (h : ∀ i, i < n → g (.int (i : Nat)) = f i) : (rangeD 0 n).map g = (List.range n).map f := by
  unfold rangeD
  rw [List.map_map]
  apply List.map_congr_left
  intro i hi
  simp only [Function.comp, Int.zero_add]
  exact h i (List.mem_range.mp hi)
theorem rangeD_mem {n : Nat} {d : D} (h : d ∈ rangeD 0 n) : ∃ i : Nat, i < n ∧ d = .int (i : Nat) := by
  unfold rangeD at h
  obtain ⟨i, hi, e⟩ := List.mem_map.mp h
  exact ⟨i, List.mem_range.mp hi, by rw [← e]; simp⟩
theorem rangeD_len (n : Nat) : (rangeD 0 n).length = n := by simp [rangeD]
theorem small_nat {n : Nat} (h : n ≤ lim) : small62 (n : Int) = true := by
  unfold small62
  have : lim = 100000 := rfl
  simp only [Bool.and_eq_true, decide_eq_true_eq]
  omega
def asI : D → Int
  | .int i => i
  | _ => 0
theorem r5 (m : Int) (x : D) (hx : ∀ xs, x = .tuple xs → xs.length ≤ lim) : Ret 5 [.int m, x] (.val (.bool (isRed m x))) [] 4 := by
  refine ret_of (d := 3) rfl fun n hn => run_of rfl ?_ (fun _ z => nomatch z)
  cases ht : isTy .tuple x with
  | false =>
    have e : isRed m x = false := by
      cases x <;> first | rfl | (cases ht)
    rw [e]
    refine rt_if (k := true) (pt_or (k := true) (l := false) (pt_not (pt_b (pv_blt (pvs_cons (pv_var rfl).pd pvs_nil) (by rw [show bltD (.isi .tuple) [x] = some (.val (.bool (isTy .tuple x))) from rfl, ht]))))  (fun z => nomatch z)) (fun _ => rt_ret pv_bl) (fun z => nomatch z)
  | true =>
    obtain ⟨xs, rfl⟩ : ∃ xs, x = .tuple xs := by
      cases x <;> first | exact ⟨_, rfl⟩ | (cases ht)
    have hl := hx xs rfl
    have hall : PV (phi P85.prog n) (.blt .all (.cons (.lc [2] (.name 2) (.seq (.var 1)) .yes (.call 3 [] (.cons (.var 0) (.cons (.var 2) .nil)))) .nil)) [some (.int m), some (.tuple xs), none, none] (.bool (xs.all (isPair m))) := by
      refine pv_blt (pvs_cons (PO.pd (po_lc (pi_seq (pv_var rfl).pd rfl) (fun d => .bool (isPair m d)) hl rfl fun d _ => ⟨[some (.int m), some (.tuple xs), some d, none], rfl, rfl, pt_yes, PV.pd (pv_call (pvs_cons (pv_var rfl).pd (pvs_cons (pv_var rfl).pd pvs_nil)) (r3 m d n hn))⟩)) pvs_nil) ?_
      exact all_map (isPair m) xs
    refine rt_if (k := (!true) || !(xs.all (isPair m))) (pt_or (k := !true) (pt_not (pt_b (pv_blt (pvs_cons (pv_var rfl).pd pvs_nil) rfl))) (fun _ => pt_not (pt_b hall))) (fun h => ?_) (fun h => ?_)
    · have e : isRed m (.tuple xs) = false := by
        simp only [Bool.not_true, Bool.false_or, Bool.not_eq_true'] at h
        unfold isRed
        dsimp only
        rw [h, Bool.false_and]
      rw [e]
      exact rt_ret pv_bl
    · simp only [Bool.not_true, Bool.false_or, Bool.not_eq_false'] at h
      obtain ⟨w, rfl, hw⟩ := pairs_of h
      have e := isRed_word hw
      unfold wD at e
      rw [e]
      rw [List.length_map] at hl
      have e2 : rdB w = !((List.range (w.length - 1)).any (adj w)) := by rw [adj_any, Bool.not_not]
      rw [e2]
      refine rt_ret (pv_not (pv_blt (pvs_cons (PO.pd (po_lc (items := rangeD 0 (w.length - 1)) ?_ (fun d => .bool (adj w (asI d).toNat)) ?_ rfl ?_)) pvs_nil) ?_))
      · have hr := pi_range1 (Φ := phi P85.prog n) (ρ := [some (.int m), some (.tuple (w.map lD)), none, none]) (e := .bin .sub (.blt .len (.cons (.var 1) .nil)) (.int 1)) (n := (w.length : Int) - 1) (pv_bin (pv_blt (pvs_cons (pv_var rfl).pd pvs_nil) rfl).pd pv_int.pd (by rw [List.length_map]; rfl)) (by
          unfold small62
          have : lim = 100000 := rfl
          simp only [Bool.and_eq_true, decide_eq_true_eq]
          omega)
        rw [show ((w.length : Int) - 1).toNat = w.length - 1 by omega] at hr
        exact hr
      · rw [rangeD_len]; omega
      · intro d hd
        obtain ⟨i, hi, rfl⟩ := rangeD_mem hd
        refine ⟨[some (.int m), some (.tuple (w.map lD)), none, some (.int (i : Nat))], rfl, rfl, pt_yes, PV.pd ?_⟩
        have h1 : i < w.length := by omega
        have h2 : i + 1 < w.length := by omega
        have g1 : (w.map lD)[i]? = some (lD w[i]) := by rw [List.getElem?_map, List.getElem?_eq_getElem h1]; rfl
        have g2 : (w.map lD)[i + 1]? = some (lD w[i + 1]) := by rw [List.getElem?_map, List.getElem?_eq_getElem h2]; rfl
        have e3 : adj w (asI (.int (i : Nat))).toNat = decide (w[i + 1] = inv w[i]) := by
          simp only [asI, Int.toNat_natCast, adj, List.getElem?_eq_getElem h1, List.getElem?_eq_getElem h2]
        rw [e3]
        refine pv_call (pvs_cons (pv_ix (pv_var rfl).pd (pv_var rfl) (ixT (by omega) (by simpa using g1))).pd (pvs_cons (pv_ix (pv_var rfl).pd (pv_bin (pv_var rfl).pd pv_int.pd rfl) (ixT (by omega) (by rw [show ((i : Int) + 1).toNat = i + 1 by omega]; exact g2))).pd pvs_nil)) (r4 w[i] w[i + 1] n (by omega))
      · rw [rangeD_map (w.length - 1) (fun i => .bool (adj w i)) _ (fun i _ => by simp [asI])]
        exact any_map (adj w) (List.range (w.length - 1))
end M85
set_option Elab.async false
set_option linter.all false
set_option maxRecDepth 100000
set_option maxHeartbeats 1000000
/-! U85c: parts, elements, changes. -/
namespace M85
open Vm
inductive Part where
  | counter | dial (m : Nat) | deck (n : Nat) | rope (m : Nat)
def kn : Part → PySem.Str
  | .counter => "counter"
  | .dial _ => "dial"
  | .deck _ => "deck"
  | .rope _ => "rope"
def pD : Part → D
  | .counter => .tuple [.str "counter"]
  | .dial m => .tuple [.str "dial", .int (m : Nat)]
  | .deck n => .tuple [.str "deck", .int (n : Nat)]
  | .rope m => .tuple [.str "rope", .int (m : Nat)]
def POk : Part → Prop
  | .counter => True
  | .dial m => 1 ≤ m
  | .deck n => 1 ≤ n ∧ n ≤ 100
  | .rope m => 1 ≤ m
theorem pD_kind (p : Part) : ixD (pD p) (.int 0) = some (.str (kn p)) := by cases p <;> rfl
def isC : Part → Bool
  | .counter => true
  | _ => false
def isDi : Part → Bool
  | .dial _ => true
  | _ => false
def isDe : Part → Bool
  | .deck _ => true
  | _ => false
def isRo : Part → Bool
  | .rope _ => true
  | _ => false
theorem k_c : ∀ p : Part, cmpD .eq (.str (kn p)) (.str "counter") = some (isC p)
  | .counter => show cmpD .eq (.str "counter") (.str "counter") = some true from by decide +kernel
  | .dial _ => show cmpD .eq (.str "dial") (.str "counter") = some false from by decide +kernel
  | .deck _ => show cmpD .eq (.str "deck") (.str "counter") = some false from by decide +kernel
  | .rope _ => show cmpD .eq (.str "rope") (.str "counter") = some false from by decide +kernel
theorem k_di : ∀ p : Part, cmpD .eq (.str (kn p)) (.str "dial") = some (isDi p)
  | .counter => show cmpD .eq (.str "counter") (.str "dial") = some false from by decide +kernel
  | .dial _ => show cmpD .eq (.str "dial") (.str "dial") = some true from by decide +kernel
  | .deck _ => show cmpD .eq (.str "deck") (.str "dial") = some false from by decide +kernel
  | .rope _ => show cmpD .eq (.str "rope") (.str "dial") = some false from by decide +kernel
theorem k_de : ∀ p : Part, cmpD .eq (.str (kn p)) (.str "deck") = some (isDe p)
  | .counter => show cmpD .eq (.str "counter") (.str "deck") = some false from by decide +kernel
  | .dial _ => show cmpD .eq (.str "dial") (.str "deck") = some false from by decide +kernel
  | .deck _ => show cmpD .eq (.str "deck") (.str "deck") = some true from by decide +kernel
  | .rope _ => show cmpD .eq (.str "rope") (.str "deck") = some false from by decide +kernel
theorem k_ro : ∀ p : Part, cmpD .eq (.str (kn p)) (.str "rope") = some (isRo p)
  | .counter => show cmpD .eq (.str "counter") (.str "rope") = some false from by decide +kernel
  | .dial _ => show cmpD .eq (.str "dial") (.str "rope") = some false from by decide +kernel
  | .deck _ => show cmpD .eq (.str "deck") (.str "rope") = some false from by decide +kernel
  | .rope _ => show cmpD .eq (.str "rope") (.str "rope") = some true from by decide +kernel
section
variable {Φ : Fs} {ρ : Rho} {p : Part} {a : E}
theorem pt_c (h : PV Φ a ρ (pD p)) : PT Φ (.ofE (.cmp .eq (.ix a (.int 0)) (.str "counter"))) ρ (isC p) := pt_b (pv_cmp (pv_ix h.pd pv_int (pD_kind p)).pd pv_str.pd (k_c p))
theorem pt_di (h : PV Φ a ρ (pD p)) : PT Φ (.ofE (.cmp .eq (.ix a (.int 0)) (.str "dial"))) ρ (isDi p) := pt_b (pv_cmp (pv_ix h.pd pv_int (pD_kind p)).pd pv_str.pd (k_di p))
theorem pt_de (h : PV Φ a ρ (pD p)) : PT Φ (.ofE (.cmp .eq (.ix a (.int 0)) (.str "deck"))) ρ (isDe p) := pt_b (pv_cmp (pv_ix h.pd pv_int (pD_kind p)).pd pv_str.pd (k_de p))
theorem pt_ro (h : PV Φ a ρ (pD p)) : PT Φ (.ofE (.cmp .eq (.ix a (.int 0)) (.str "rope"))) ρ (isRo p) := pt_b (pv_cmp (pv_ix h.pd pv_int (pD_kind p)).pd pv_str.pd (k_ro p))
end
theorem ints_of : ∀ {xs : List D} {lo hi : Int}, xs.all (fun x => within x lo hi) = true → ints? xs = some (xs.map asI) ∧ xs = (xs.map asI).map .int ∧ ∀ i ∈ xs.map asI, lo ≤ i ∧ i ≤ hi
  | [], _, _, _ => ⟨rfl, rfl, fun i h => nomatch h⟩
  | x :: xs, lo, hi, h => by
    rw [List.all_cons, Bool.and_eq_true] at h
    obtain ⟨h1, h2, h3⟩ := ints_of h.2
    have hx := h.1
    cases x with
    | int i =>
      simp only [within, Bool.and_eq_true, decide_eq_true_eq] at hx
      refine ⟨?_, ?_, fun j hj => ?_⟩
      · simp only [ints?, h1, List.map_cons, asI, Option.map_some]
      · simp only [List.map_cons, asI]
        rw [← h2]
      · rcases List.mem_cons.mp hj with rfl | hj
        · exact hx
        · exact h3 j hj
    | _ => cases hx
def isEl : Part → D → Bool
  | .counter, x => isI x
  | .dial m, x => within x 0 ((m : Nat) - 1)
  | .rope m, x => isRed (m : Nat) x
  | .deck n, x => match x with
    | .tuple xs => decide (xs.length = n) && (xs.all (fun x => within x 0 ((n : Nat) - 1)) && decide ((dedup (xs.map asI)).length = n))
    | _ => false
def Sm (x : D) : Prop := ∀ xs, x = .tuple xs → xs.length ≤ lim
theorem r6 (p : Part) (hp : POk p) (x : D) (hx : Sm x) : Ret 6 [pD p, x] (.val (.bool (isEl p x))) [] 5 := by
  refine ret_of (d := 4) rfl fun n hn => run_of rfl ?_ (fun _ z => nomatch z)
  refine rt_if (pt_c (pv_var rfl)) (fun h => ?_) (fun h0 => ?_)
  · cases p <;> first | (cases h; done) | skip
    exact rt_ret (pv_call (pvs_cons (pv_var rfl).pd pvs_nil) (r0 x n (by omega)))
  refine rt_if (pt_di (pv_var rfl)) (fun h => ?_) (fun h1 => ?_)
  · cases p <;> first | (cases h; done) | skip
    exact rt_ret (pv_call (pvs_cons (pv_var rfl).pd (pvs_cons pv_int.pd (pvs_cons (pv_bin (pv_ix (pv_var rfl).pd pv_int rfl).pd pv_int.pd rfl).pd pvs_nil))) (r1 x _ _ n (by omega)))
  refine rt_if (pt_ro (pv_var rfl)) (fun h => ?_) (fun h2 => ?_)
  · cases p <;> first | (cases h; done) | skip
    exact rt_ret (pv_call (pvs_cons (pv_ix (pv_var rfl).pd pv_int rfl).pd (pvs_cons (pv_var rfl).pd pvs_nil)) (r5 _ x hx n (by omega)))
  cases p with
  | deck k =>
    have htup : PT (phi P85.prog n) (.not (.ofE (.call 2 [] (.cons (.var 1) (.cons (.ix (.var 0) (.int 1)) .nil))))) [some (pD (.deck k)), some x, none] (!(tupN x k)) := pt_not (pt_b (pv_call (pvs_cons (pv_var rfl).pd (pvs_cons (pv_ix (pv_var rfl).pd pv_int rfl).pd pvs_nil)) (r2 x k n (by omega))))
    cases e : tupN x k with
    | false =>
      have e2 : isEl (.deck k) x = false := by
        cases x with
        | tuple xs =>
          simp only [tupN, decide_eq_false_iff_not] at e
          unfold isEl
          dsimp only
          rw [decide_eq_false (by omega), Bool.false_and]
        | _ => rfl
      rw [e2]
      rw [e] at htup
      exact rt_if (k := true) (pt_or (k := true) (l := false) htup (fun z => nomatch z)) (fun _ => rt_ret pv_bl) (fun z => nomatch z)
    | true =>
      obtain ⟨xs, rfl⟩ : ∃ xs, x = .tuple xs := by
        cases x <;> first | exact ⟨_, rfl⟩ | (cases e)
      have hl := hx xs rfl
      rw [e] at htup
      have hk : xs.length = k := by
        simp only [tupN, decide_eq_true_eq] at e
        omega
      have hall : PV (phi P85.prog n) (.blt .all (.cons (.lc [2] (.name 2) (.seq (.var 1)) .yes (.call 1 [] (.cons (.var 2) (.cons (.int 0) (.cons (.bin .sub (.ix (.var 0) (.int 1)) (.int 1)) .nil))))) .nil)) [some (pD (.deck k)), some (.tuple xs), none] (.bool (xs.all fun x => within x 0 ((k : Nat) - 1))) := by
        refine pv_blt (pvs_cons (PO.pd (po_lc (pi_seq (pv_var rfl).pd rfl) (fun d => .bool (within d 0 ((k : Nat) - 1))) hl rfl fun d _ => ⟨[some (pD (.deck k)), some (.tuple xs), some d], rfl, rfl, pt_yes, PV.pd (pv_call (pvs_cons (pv_var rfl).pd (pvs_cons pv_int.pd (pvs_cons (pv_bin (pv_ix (pv_var rfl).pd pv_int rfl).pd pv_int.pd rfl).pd pvs_nil))) (r1 d _ _ n (by omega)))⟩)) pvs_nil) ?_
        exact all_map (fun d => within d 0 ((k : Nat) - 1)) xs
      refine rt_if (k := (!true) || !(xs.all fun x => within x 0 ((k : Nat) - 1))) (pt_or (k := !true) htup (fun _ => pt_not (pt_b hall))) (fun h => ?_) (fun h => ?_)
      · simp only [Bool.not_true, Bool.false_or, Bool.not_eq_true'] at h
        have e2 : isEl (.deck k) (.tuple xs) = false := by
          unfold isEl
          dsimp only
          rw [h, Bool.false_and, Bool.and_false]
        rw [e2]
        exact rt_ret pv_bl
      · simp only [Bool.not_true, Bool.false_or, Bool.not_eq_false'] at h
        obtain ⟨g1, g2, g3⟩ := ints_of h
        have e2 : isEl (.deck k) (.tuple xs) = decide ((dedup (xs.map asI)).length = k) := by
          unfold isEl
          dsimp only
          rw [h, decide_eq_true hk, Bool.true_and, Bool.true_and]
        rw [e2]
        have e3 : decide ((dedup (xs.map asI)).length = k) = decide ((((dedup (xs.map asI)).length : Nat) : Int) = ((k : Nat) : Int)) := by
          by_cases c : (dedup (xs.map asI)).length = k
          · rw [decide_eq_true c, decide_eq_true (by omega)]
          · rw [decide_eq_false c, decide_eq_false (by omega)]
        rw [e3]
        have hn4 : (xs.map asI).length ≤ 4000 := by
          rw [List.length_map, hk]
          have := hp.2
          omega
        refine rt_ret (pv_cmp (pv_blt (pvs_cons (pv_var rfl).pd pvs_nil) ?_).pd (pv_ix (pv_var rfl).pd pv_int rfl).pd (eq_ints _ _))
        show (ints? xs).bind _ = _
        rw [g1]
        show (if (xs.map asI).length ≤ 4000 then _ else _) = _
        rw [if_pos hn4]
  | counter => cases h0
  | dial m => cases h1
  | rope m => cases h2
end M85
set_option Elab.async false
set_option linter.all false
set_option maxRecDepth 100000
set_option maxHeartbeats 1000000
/-! U85d: reduced words. -/
namespace M85
open Vm
theorem at_last {xs : List D} {d : D} : L2.atI (xs ++ [d]) (-1) = some d := by
  unfold L2.atI L2.ixN
  rw [if_neg (by omega), if_pos (by simp; omega)]
  simp only [Option.bind_some]
  have : ((-1 : Int) + ((xs ++ [d]).length : Int)).toNat = xs.length := by simp; omega
  rw [this]
  simp
theorem red_take_succ {w : W} {i : Nat} (h : i < w.length) : red (w.take (i + 1)) = (push (act [] (w.take i)) w[i]).reverse := by
  unfold red
  rw [List.take_add_one, List.getElem?_eq_getElem h]
  simp only [Option.toList_some]
  rw [act_app]
  rfl
/-- the row of frames of a loop over w that gathers the reduced word -/
def frR (w : W) (i : Nat) : Rho := [some (wD w), some (.list ((red (w.take i)).map lD)), if i = 0 then none else (w[i - 1]?).map lD]
theorem r9 (w : W) (hw : w.length < lim) : Ret 9 [wD w] (.val (wD (red w))) [] 2 := by
  refine ret_of (d := 1) rfl fun n hn => run_of rfl ?_ (fun _ z => nomatch z)
  refine rt_masg (po_lst pvs_nil (Nat.zero_le _)) (show 1 < 3 by decide) ?_
  have h0 : frR w 0 = [some (wD w), some (.list []), none] := rfl
  show RT _ _ [some (wD w), some (.list []), none] _
  rw [← h0]
  refine rt_loop (items := w.map lD) (ρ1 := frR w w.length) (pi_seq (pv_var rfl).pd rfl) ?_ ?_
  · have := for_row (f := fun r => execs (phi P85.prog n) (.cons (.ite (.and (.ofE (.mvar 1)) (.ofE (.call 4 [] (.cons (.ix (.mvar 1) (.neg (.int 1))) (.cons (.var 2) .nil))))) (.cons (.expr (.pop 1)) .nil) (.cons (.append 1 (.var 2)) .nil)) .nil) r) (g := .name 2) (frR w) (w.map lD) 0 fun i d hd => ?_
    · rw [Nat.zero_add, List.length_map] at this
      exact this
    · rw [List.getElem?_map] at hd
      have hi : i < w.length := by
        cases e : w[i]? with
        | none => rw [e] at hd; cases hd
        | some p => exact (List.getElem?_eq_some_iff.mp e).1
      rw [List.getElem?_eq_getElem hi] at hd
      cases hd
      rw [Nat.zero_add]
      refine ⟨[some (wD w), some (.list ((red (w.take i)).map lD)), some (lD w[i])], rfl, ?_⟩
      have goal : frR w (i + 1) = [some (wD w), some (.list ((push (act [] (w.take i)) w[i]).reverse.map lD)), some (lD w[i])] := by
        unfold frR
        rw [red_take_succ hi]
        simp [List.getElem?_eq_getElem hi]
      rw [goal]
      have hlen : (act [] (w.take i)).length ≤ i := by
        have := act_len (w.take i) []
        simp only [List.length_nil, List.length_take, Nat.zero_add] at this
        omega
      unfold red
      refine bx_cons ?_ bx_nil
      cases es : act [] (w.take i) with
      | nil =>
        refine sx_ite (k := false) (pt_and (k := false) (l := false) (pt_ofR (pr_mvar rfl) rfl) (fun z => nomatch z)) (fun z => nomatch z) fun _ => bx_cons ?_ bx_nil
        exact sx_append (Φ := phi P85.prog n) (ρ := [some (wD w), some (.list []), some (lD w[i])]) (i := 1) (e := .var 2) (d := lD w[i]) (xs := []) rfl (pv_var rfl).pd (by decide)
      | cons q r =>
        have e1 : (q :: r).reverse.map lD = r.reverse.map lD ++ [lD q] := by simp
        have hp : PT (phi P85.prog n) (.and (.ofE (.mvar 1)) (.ofE (.call 4 [] (.cons (.ix (.mvar 1) (.neg (.int 1))) (.cons (.var 2) .nil))))) [some (wD w), some (.list (r.reverse.map lD ++ [lD q])), some (lD w[i])] (true && decide (w[i] = inv q)) := by
          refine pt_and (k := true) (pt_ofR (pr_mvar rfl) (by simp [truthD])) fun _ => pt_b (pv_call (pvs_cons (pv_ixR (pr_mvar rfl) (pv_neg pv_int) at_last).pd (pvs_cons (pv_var rfl).pd pvs_nil)) (r4 q w[i] n (by omega)))
        rw [e1]
        refine sx_ite hp (fun h => bx_cons ?_ bx_nil) (fun h => bx_cons ?_ bx_nil)
        · simp only [Bool.true_and, decide_eq_true_eq] at h
          have e2 : push (q :: r) w[i] = r := by unfold push; dsimp only; rw [if_pos h]
          rw [e2]
          have := sx_pop (Φ := phi P85.prog n) (ρ := [some (wD w), some (.list (r.reverse.map lD ++ [lD q])), some (lD w[i])]) (i := 1) rfl (z := lD q) (by simp)
          rw [List.dropLast_concat] at this
          exact this
        · simp only [Bool.true_and, decide_eq_false_iff_not] at h
          have e2 : push (q :: r) w[i] = w[i] :: q :: r := by unfold push; dsimp only; rw [if_neg h]
          rw [e2]
          have := sx_append (Φ := phi P85.prog n) (ρ := [some (wD w), some (.list (r.reverse.map lD ++ [lD q])), some (lD w[i])]) (i := 1) (e := .var 2) (d := lD w[i]) rfl (pv_var rfl).pd (by
            rw [es] at hlen
            simp only [List.length_append, List.length_map, List.length_reverse, List.length_cons, List.length_nil] at hlen ⊢
            omega)
          simpa using this
  · have e : frR w w.length = [some (wD w), some (.list ((red w).map lD)), if w.length = 0 then none else (w[w.length - 1]?).map lD] := by
      unfold frR
      rw [List.take_length]
    rw [e]
    exact rt_ret (pv_bltR (prs_cons (pr_mvar rfl) prs_nil) rfl)
end M85
set_option Elab.async false
set_option linter.all false
set_option maxRecDepth 100000
set_option maxHeartbeats 1000000
/-! U85e: the ends of a word. -/
namespace M85
open Vm
theorem first_no (p : Nat → Bool) : ∀ M, p M = false → ∃ N, N ≤ M ∧ (∀ i, i < N → p i = true) ∧ p N = false
  | 0, h => ⟨0, Nat.le_refl _, fun i hi => absurd hi (Nat.not_lt_zero _), h⟩
  | M + 1, h => by
    by_cases z : ∀ i, i < M + 1 → p i = true
    · exact ⟨M + 1, Nat.le_refl _, z, h⟩
    · have : ∃ j, j ≤ M ∧ p j = false := by
        apply Classical.byContradiction
        intro hn
        apply z
        intro i hi
        cases e : p i with
        | true => rfl
        | false => exact absurd ⟨i, by omega, e⟩ hn
      obtain ⟨j, hj, ej⟩ := this
      -- the first one up to j
      have key : ∀ m, m ≤ M → p m = false → ∃ N, N ≤ M ∧ (∀ i, i < N → p i = true) ∧ p N = false := by
        intro m
        induction m using Nat.strongRecOn with
        | _ m ih =>
          intro hm em
          by_cases y : ∀ i, i < m → p i = true
          · exact ⟨m, hm, y, em⟩
          · have : ∃ i, i < m ∧ p i = false := by
              apply Classical.byContradiction
              intro hn
              apply y
              intro i hi
              cases e : p i with
              | true => rfl
              | false => exact absurd ⟨i, hi, e⟩ hn
            obtain ⟨i, hi, ei⟩ := this
            exact ih i hi (by omega) ei
      obtain ⟨N, h1, h2, h3⟩ := key j hj ej
      exact ⟨N, by omega, h2, h3⟩
/-- whether the i-th letters from both ends undo one another -/
def strip (w : W) (i : Nat) : Bool := decide (2 * i + 1 < w.length) && (match w[i]?, w[w.length - 1 - i]? with
  | some p, some q => decide (q = inv p)
  | _, _ => false)
theorem strip_end (w : W) : strip w w.length = false := by
  unfold strip
  rw [decide_eq_false (by omega), Bool.false_and]
theorem winv_get {a : W} {j : Nat} (h : j < a.length) : (winv a)[j]? = (a[a.length - 1 - j]?).map inv := by
  unfold winv
  rw [List.getElem?_reverse (by simpa using h), List.length_map, List.getElem?_map]
theorem core_of {w : W} {N : Nat} (h1 : ∀ i, i < N → strip w i = true) (h2 : strip w N = false) : 2 * N ≤ w.length ∧ IsCore w (w.take N) ((w.drop N).take (w.length - N - N)) := by
  have hN : 2 * N ≤ w.length := by
    cases N with
    | zero => omega
    | succ k =>
      have := h1 k (Nat.lt_succ_self k)
      unfold strip at this
      simp only [Bool.and_eq_true, decide_eq_true_eq] at this
      omega
  have pair : ∀ i, i < N → ∃ (a : i < w.length) (b : w.length - 1 - i < w.length), w[w.length - 1 - i] = inv w[i] := fun i hi => by
    have := h1 i hi
    unfold strip at this
    simp only [Bool.and_eq_true, decide_eq_true_eq] at this
    obtain ⟨a, b⟩ := this
    have hi1 : i < w.length := by omega
    have hi2 : w.length - 1 - i < w.length := by omega
    rw [List.getElem?_eq_getElem hi1, List.getElem?_eq_getElem hi2] at b
    exact ⟨hi1, hi2, of_decide_eq_true b⟩
  refine ⟨hN, ?_, ?_⟩
  · have e1 : w.drop (w.length - N) = winv (w.take N) := by
      apply List.ext_getElem?
      intro j
      rw [List.getElem?_drop]
      by_cases hj : j < N
      · obtain ⟨a, b, e⟩ := pair (N - 1 - j) (by omega)
        have hm : (w.take N).length = N := by rw [List.length_take]; omega
        rw [winv_get (by rw [hm]; exact hj), hm, List.getElem?_take, if_pos (by omega), List.getElem?_eq_getElem a]
        rw [show w.length - N + j = w.length - 1 - (N - 1 - j) by omega, List.getElem?_eq_getElem b, e]
        rfl
      · rw [List.getElem?_eq_none (by omega), List.getElem?_eq_none (by rw [winv_len, List.length_take]; omega)]
    rw [← e1]
    have e2 : (w.drop N).take (w.length - N - N) ++ w.drop (w.length - N) = w.drop N := by
      have := List.take_append_drop (w.length - N - N) (w.drop N)
      rw [List.drop_drop] at this
      rw [show N + (w.length - N - N) = w.length - N by omega] at this
      exact this
    rw [e2, List.take_append_drop]
  · intro a b ha hb
    have hlen : ((w.drop N).take (w.length - N - N)).length = w.length - N - N := by simp
    rw [List.getLast?_eq_getElem?, hlen, List.getElem?_take] at ha
    rw [List.head?_eq_getElem?, List.getElem?_take] at hb
    split at hb
    · rename_i hpos
      rw [if_pos (by omega), List.getElem?_drop] at ha
      rw [List.getElem?_drop] at hb
      rw [Nat.add_zero] at hb
      by_cases h3 : 2 * N + 1 < w.length
      · unfold strip at h2
        rw [decide_eq_true h3, Bool.true_and, hb, show w.length - 1 - N = N + (w.length - N - N - 1) by omega, ha] at h2
        dsimp only at h2
        intro z
        have := of_decide_eq_false h2
        exact this (eq_inv.mp z)
      · have : w.length - N - N - 1 = 0 := by omega
        rw [this, Nat.add_zero, hb] at ha
        have e := Option.some.inj ha
        rw [← e]
        exact fun z => inv_ne b z.symm
    · cases hb
end M85
set_option Elab.async false
set_option linter.all false
set_option maxRecDepth 100000
set_option maxHeartbeats 1000000
/-! U85f: word_ends. -/
namespace M85
open Vm
theorem mul_two (i : Int) : binD .mul (.int 2) (.int i) = some (.val (.int (2 * i))) := by
  have : mulOk 2 i = true := by
    unfold mulOk
    rw [show (decide (-(2 ^ 64) < (2 : Int)) && decide ((2 : Int) < 2 ^ 64)) = true from by decide, Bool.true_or]
  simp only [binD, this, if_true]
theorem ixW {w : W} {i : Int} {p : L} (h0 : 0 ≤ i) (h : w[i.toNat]? = some p) : ixD (wD w) (.int i) = some (lD p) := ixT h0 (by rw [List.getElem?_map, h]; rfl)
theorem r11 (w : W) (hw : w.length < lim) : ∃ t c, IsCore w t c ∧ w = t ++ (c ++ winv t) ∧ Ret 11 [wD w] (.val (.tuple [wD t, wD c])) [] 2 := by
  obtain ⟨N, hN, h1, h2⟩ := first_no (strip w) w.length (strip_end w)
  obtain ⟨h3, h4⟩ := core_of h1 h2
  refine ⟨_, _, h4, h4.eq, ret_of (d := 1) rfl fun n hn => run_of rfl ?_ (fun _ z => nomatch z)⟩
  refine rt_asg (i := 1) pv_int.pd (show 1 < 2 by decide) ?_
  show RT _ _ [some (wD w), some (.int 0)] _
  have hlen : ∀ i : Int, PV (phi P85.prog n) (.blt .len (.cons (.var 0) .nil)) [some (wD w), some (.int i)] (.int (w.length : Nat)) := fun i => pv_blt (pvs_cons (pv_var rfl).pd pvs_nil) (by show some (R.val (.int ((w.map lD).length : Nat))) = _; rw [List.length_map])
  have cond : ∀ i : Nat, PT (phi P85.prog n) (.and (.ofE (.cmp .gt (.bin .sub (.blt .len (.cons (.var 0) .nil)) (.bin .mul (.int 2) (.var 1))) (.int 1))) (.ofE (.call 4 [] (.cons (.ix (.var 0) (.var 1)) (.cons (.ix (.var 0) (.bin .sub (.bin .sub (.blt .len (.cons (.var 0) .nil)) (.int 1)) (.var 1))) .nil))))) [some (wD w), some (.int (i : Nat))] (strip w i) := fun i => by
    have e : strip w i = (decide ((1 : Int) < (w.length : Nat) - 2 * (i : Nat)) && (match w[i]?, w[w.length - 1 - i]? with | some p, some q => decide (q = inv p) | _, _ => false)) := by
      unfold strip
      congr 1
      by_cases c : 2 * i + 1 < w.length
      · rw [decide_eq_true c, decide_eq_true (by omega)]
      · rw [decide_eq_false c, decide_eq_false (by omega)]
    rw [e]
    refine pt_and (pt_b (pv_cmp (pv_bin (hlen i).pd (pv_bin pv_int.pd (pv_var rfl).pd (mul_two _)).pd rfl).pd pv_int.pd rfl)) fun h => ?_
    have hc := of_decide_eq_true h
    have g1 : i < w.length := by omega
    have g2 : w.length - 1 - i < w.length := by omega
    rw [List.getElem?_eq_getElem g1, List.getElem?_eq_getElem g2]
    refine pt_b (pv_call (pvs_cons (pv_ix (pv_var rfl).pd (pv_var rfl) (ixW (by omega) (by rw [Int.toNat_natCast]; exact List.getElem?_eq_getElem g1))).pd (pvs_cons (pv_ix (pv_var rfl).pd (pv_bin (pv_bin (hlen i).pd pv_int.pd rfl).pd (pv_var rfl).pd rfl) (ixW (by omega) ?_)).pd pvs_nil)) (r4 _ _ n (by omega)))
    rw [show ((w.length : Nat) - 1 - (i : Nat) : Int).toNat = w.length - 1 - i by omega]
    exact List.getElem?_eq_getElem g2
  have lp := sx_whl (Φ := phi P85.prog n) (t := .and (.ofE (.cmp .gt (.bin .sub (.blt .len (.cons (.var 0) .nil)) (.bin .mul (.int 2) (.var 1))) (.int 1))) (.ofE (.call 4 [] (.cons (.ix (.var 0) (.var 1)) (.cons (.ix (.var 0) (.bin .sub (.bin .sub (.blt .len (.cons (.var 0) .nil)) (.int 1)) (.var 1))) .nil))))) (b := .cons (.aug 1 (.int 1)) .nil) (fun i => [some (wD w), some (.int (i : Nat))]) N (by
      have : lim = 100000 := rfl
      have : wfuel = 100000 := rfl
      omega) (fun i hi => ⟨by have := cond i; rw [h1 i hi] at this; exact this, bx_cons (sx_aug (i := 1) rfl pv_int) bx_nil⟩) (by have := cond N; rw [h2] at this; exact this)
  refine rt_cons lp ?_
  have s1 : slD (wD w) none (some ((N : Nat) : Int)) = some (.val (wD (w.take N))) := by
    show some (R.val (.tuple (cutL (w.map lD) none (some ((N : Nat) : Int))))) = _
    rw [cut_take _ _ (by rw [List.length_map]; omega), ← List.map_take]
    rfl
  have s2 : slD (wD w) (some ((N : Nat) : Int)) (some ((w.length : Nat) - (N : Nat) : Int)) = some (.val (wD ((w.drop N).take (w.length - N - N)))) := by
    have e : ((w.length : Nat) - (N : Nat) : Int) = ((w.length - N : Nat) : Int) := by omega
    show some (R.val (.tuple (cutL (w.map lD) (some ((N : Nat) : Int)) (some ((w.length : Nat) - (N : Nat) : Int))))) = _
    rw [e, cut_mid _ _ _ (by rw [List.length_map]; omega) (by rw [List.length_map]; omega), ← List.map_drop, ← List.map_take]
    rfl
  refine rt_ret (pv_tup (pvs_cons (PV.pd ?_) (pvs_cons (PV.pd ?_) pvs_nil)) (show 2 ≤ lim by decide))
  · exact pd_sl (pv_var rfl).pd pob_none (pob_some (pv_var rfl)) s1
  · exact pd_sl (pv_var rfl).pd (pob_some (pv_var rfl)) (pob_some (pv_bin (hlen N).pd (pv_var rfl).pd rfl)) s2
end M85
set_option Elab.async false
set_option linter.all false
set_option maxRecDepth 100000
set_option maxHeartbeats 1000000
/-! U85g: elements, their joining. -/
namespace M85
open Vm
inductive El where
  | z (i : Int) | k (c : List Nat) | w (v : W)
  deriving DecidableEq
def kL (c : List Nat) : List D := c.map fun i => .int (i : Nat)
def kD (c : List Nat) : D := .tuple (kL c)
def eD : El → D
  | .z i => .int i
  | .k c => kD c
  | .w v => wD v
/-- a deck of n cards -/
structure Deck (n : Nat) (c : List Nat) : Prop where
  len : c.length = n
  lt : ∀ i ∈ c, i < n
  nd : c.Nodup
/-- an element of the part, words of at most B letters -/
def EOk (B : Nat) : Part → El → Prop
  | .counter, .z _ => True
  | .dial m, .z i => 0 ≤ i ∧ i < m
  | .deck n, .k c => Deck n c
  | .rope m, .w v => Rd v ∧ Lett (m : Nat) v ∧ v.length ≤ B
  | _, _ => False
def comp (a b : List Nat) : List Nat := b.map fun i => a.getD i 0
def mulE : Part → El → El → El
  | .counter, .z i, .z j => .z (i + j)
  | .dial m, .z i, .z j => .z ((i + j).fmod m)
  | .deck _, .k a, .k b => .k (comp a b)
  | .rope _, .w a, .w b => .w (red (a ++ b))
  | _, a, _ => a
theorem getD_of {c : List Nat} {i : Nat} (h : i < c.length) : c[i]? = some (c.getD i 0) := by
  rw [List.getD_eq_getElem?_getD, List.getElem?_eq_getElem h]
  rfl
theorem ixK {c : List Nat} {i : Nat} (h : i < c.length) : ixD (kD c) (.int (i : Nat)) = some (.int (c.getD i 0 : Nat)) := ixT (by omega) (by
  unfold kL
  rw [Int.toNat_natCast, List.getElem?_map, getD_of h]
  rfl)
theorem lett_app {m : Int} {a b : W} (h : Lett m a) (h' : Lett m b) : Lett m (a ++ b) := fun p hp => (List.mem_append.mp hp).elim (h p) (h' p)
theorem lett_red {m : Int} {a : W} (h : Lett m a) : Lett m (red a) := fun p hp => h p (red_mem hp)
theorem add_words (a b : W) (h : a.length + b.length ≤ lim) : binD .add (wD a) (wD b) = some (.val (wD (a ++ b))) := by
  show (if (a.map lD).length + (b.map lD).length ≤ lim then some (R.val (.tuple (a.map lD ++ b.map lD))) else none) = _
  rw [List.length_map, List.length_map, if_pos h]
  unfold wD
  rw [List.map_append]
theorem cases_ok {B : Nat} {p : Part} {e : El} (h : EOk B p e) : (p = .counter ∧ ∃ i, e = .z i) ∨ (∃ m i, p = .dial m ∧ e = .z i ∧ 0 ≤ i ∧ i < m) ∨ (∃ n c, p = .deck n ∧ e = .k c ∧ Deck n c) ∨ ∃ m v, p = .rope m ∧ e = .w v ∧ Rd v ∧ Lett (m : Nat) v ∧ v.length ≤ B := by
  cases p <;> cases e <;> first | (exact absurd h id) | skip
  · exact .inl ⟨rfl, _, rfl⟩
  · exact .inr (.inl ⟨_, _, rfl, rfl, h⟩)
  · exact .inr (.inr (.inl ⟨_, _, rfl, rfl, h⟩))
  · exact .inr (.inr (.inr ⟨_, _, rfl, rfl, h⟩))
theorem r12 {B C : Nat} {p : Part} (hp : POk p) {a b : El} (ha : EOk B p a) (hb : EOk C p b) (hB : B + C < lim) : Ret 12 [pD p, eD a, eD b] (.val (eD (mulE p a b))) [] 3 := by
  refine ret_of (d := 2) rfl fun n hn => run_of rfl ?_ (fun _ z => nomatch z)
  refine rt_if (pt_c (pv_var rfl)) (fun h => ?_) (fun h0 => ?_)
  · cases p <;> first | (cases h; done) | skip
    cases a <;> first | (exact absurd ha id) | skip
    cases b <;> first | (exact absurd hb id) | skip
    exact rt_ret (pv_bin (pv_var rfl).pd (pv_var rfl).pd rfl)
  refine rt_if (pt_di (pv_var rfl)) (fun h => ?_) (fun h1 => ?_)
  · cases p <;> first | (cases h; done) | skip
    cases a <;> first | (exact absurd ha id) | skip
    cases b <;> first | (exact absurd hb id) | skip
    rename_i m i j
    have hm : ((m : Nat) : Int) ≠ 0 := by
      have : 1 ≤ m := hp
      omega
    exact rt_ret (pv_bin (pv_bin (pv_var rfl).pd (pv_var rfl).pd rfl).pd (pv_ix (pv_var rfl).pd pv_int rfl).pd (by
      show (if ((m : Nat) : Int) ≠ 0 then some (R.val (.int ((i + j).fmod m))) else none) = _
      rw [if_pos hm]
      rfl))
  refine rt_if (pt_de (pv_var rfl)) (fun h => ?_) (fun h2 => ?_)
  · cases p <;> first | (cases h; done) | skip
    cases a <;> first | (exact absurd ha id) | skip
    cases b <;> first | (exact absurd hb id) | skip
    rename_i k ca cb
    have hk : k ≤ 100 := hp.2
    have hlim : lim = 100000 := rfl
    refine rt_ret (pv_blt (pvs_cons (PO.pd (po_lc (items := kL cb) (pi_seq (pv_var rfl).pd rfl) (fun d => .int (ca.getD (asI d).toNat 0 : Nat)) ?_ rfl fun d hd => ?_)) pvs_nil) ?_)
    · unfold kL
      rw [List.length_map, hb.len]
      omega
    · unfold kL at hd
      obtain ⟨i, hi, rfl⟩ := List.mem_map.mp hd
      refine ⟨[some (pD (.deck k)), some (kD ca), some (kD cb), some (.int (i : Nat))], rfl, rfl, pt_yes, PV.pd ?_⟩
      refine pv_ix (pv_var rfl).pd (pv_var rfl) ?_
      rw [show (asI (.int (i : Nat))).toNat = i from Int.toNat_natCast i]
      exact ixK (by rw [ha.len]; exact hb.lt i hi)
    · show some (R.val (.tuple ((kL cb).map _))) = some (R.val (kD (comp ca cb)))
      unfold kL kD kL comp
      rw [List.map_map, List.map_map]
      rfl
  cases p with
  | rope m =>
    cases a <;> first | (exact absurd ha id) | skip
    cases b <;> first | (exact absurd hb id) | skip
    rename_i va vb
    obtain ⟨_, _, la⟩ := ha
    obtain ⟨_, _, lb⟩ := hb
    exact rt_ret (pv_call (pvs_cons (pv_bin (pv_var rfl).pd (pv_var rfl).pd (add_words va vb (by omega))).pd pvs_nil) (r9 (va ++ vb) (by rw [List.length_append]; omega) n (by omega)))
  | counter => cases h0
  | dial m => cases h1
  | deck m => cases h2
end M85
set_option Elab.async false
set_option linter.all false
set_option maxRecDepth 100000
set_option maxHeartbeats 1000000
/-! U85h: the law's own reducing, joining. -/
namespace M85
open Vm
theorem eq_letters (p q : L) : cmpD .eq (lD p) (lD q) = some (decide (p = q)) := by
  have hs : (PySem.SeqAt.shaped (lD p) && PySem.SeqAt.shaped (lD q)) = true := rfl
  show (if (PySem.SeqAt.shaped (lD p) && PySem.SeqAt.shaped (lD q)) = true then some (PySem.PyData.eqv (lD p) (lD q)) else none) = _
  rw [if_pos hs]
  obtain ⟨a, b⟩ := p
  obtain ⟨c, d⟩ := q
  simp only [lD, PySem.PyData.eqv, PySem.PyData.eqvAll, Bool.and_true, Prod.mk.injEq]
  congr 1
  by_cases h : a = c
  · subst h
    cases b <;> cases d <;> simp
  · simp [h]
theorem ne_letters (p q : L) : cmpD .ne (lD p) (lD q) = some (decide (p ≠ q)) := by
  have hs : (PySem.SeqAt.shaped (lD p) && PySem.SeqAt.shaped (lD q)) = true := rfl
  show (if (PySem.SeqAt.shaped (lD p) && PySem.SeqAt.shaped (lD q)) = true then some (!PySem.PyData.eqv (lD p) (lD q)) else none) = _
  rw [if_pos hs]
  obtain ⟨a, b⟩ := p
  obtain ⟨c, d⟩ := q
  simp only [lD, PySem.PyData.eqv, PySem.PyData.eqvAll, Bool.and_true, Prod.mk.injEq]
  congr 1
  by_cases h : a = c
  · subst h
    cases b <;> cases d <;> simp
  · simp [h]
def frS (x : D) (w : W) (i : Nat) : Rho := [some x, some (.list ((red (w.take i)).map lD)), if i = 0 then none else (w[i - 1]?).map fun p => .int p.1, if i = 0 then none else (w[i - 1]?).map fun p => .bool p.2]
theorem r30 (x : D) (w : W) (hx : seqOf x = some (w.map lD)) (hw : w.length < lim) : Ret 30 [x] (.val (wD (red w))) [] 1 := by
  refine ret_of (d := 0) rfl fun n hn => run_of rfl ?_ (fun _ z => nomatch z)
  refine rt_masg (po_lst pvs_nil (Nat.zero_le _)) (show 1 < 4 by decide) ?_
  have h0 : frS x w 0 = [some x, some (.list []), none, none] := rfl
  show RT _ _ [some x, some (.list []), none, none] _
  rw [← h0]
  refine rt_loop (items := w.map lD) (ρ1 := frS x w w.length) (pi_seq (pv_var rfl).pd hx) ?_ ?_
  · have := for_row (f := fun r => execs (phi P85.prog n) (.cons (.ite (.and (.ofE (.cmp .gt (.blt .len (.cons (.mvar 1) .nil)) (.int 0))) (.ofE (.cmp .eq (.ix (.mvar 1) (.neg (.int 1))) (.tup (.cons (.var 2) (.cons (.not (.var 3)) .nil)))))) (.cons (.expr (.pop 1)) .nil) (.cons (.append 1 (.tup (.cons (.var 2) (.cons (.var 3) .nil)))) .nil)) .nil) r) (g := .tup [2, 3]) (frS x w) (w.map lD) 0 fun i d hd => ?_
    · rw [Nat.zero_add, List.length_map] at this
      exact this
    · rw [List.getElem?_map] at hd
      have hi : i < w.length := by
        cases e : w[i]? with
        | none => rw [e] at hd; cases hd
        | some p => exact (List.getElem?_eq_some_iff.mp e).1
      rw [List.getElem?_eq_getElem hi] at hd
      cases hd
      rw [Nat.zero_add]
      refine ⟨[some x, some (.list ((red (w.take i)).map lD)), some (.int w[i].1), some (.bool w[i].2)], rfl, ?_⟩
      have goal : frS x w (i + 1) = [some x, some (.list ((push (act [] (w.take i)) w[i]).reverse.map lD)), some (.int w[i].1), some (.bool w[i].2)] := by
        unfold frS
        rw [red_take_succ hi]
        simp [List.getElem?_eq_getElem hi]
      rw [goal]
      have hlen : (act [] (w.take i)).length ≤ i := by
        have := act_len (w.take i) []
        simp only [List.length_nil, List.length_take, Nat.zero_add] at this
        omega
      unfold red
      refine bx_cons ?_ bx_nil
      cases es : act [] (w.take i) with
      | nil =>
        refine sx_ite (k := false) (pt_and (k := false) (l := false) (pt_b (pv_cmpR (PV.pr (pv_bltR (prs_cons (pr_mvar rfl) prs_nil) rfl)) pv_int.pr rfl)) (fun z => nomatch z)) (fun z => nomatch z) fun _ => bx_cons ?_ bx_nil
        exact sx_append (Φ := phi P85.prog n) (ρ := [some x, some (.list []), some (.int w[i].1), some (.bool w[i].2)]) (i := 1) (e := .tup (.cons (.var 2) (.cons (.var 3) .nil))) (d := lD w[i]) (xs := []) rfl (pv_tup (pvs_cons (pv_var rfl).pd (pvs_cons (pv_var rfl).pd pvs_nil)) (show 2 ≤ lim by decide)).pd (by decide)
      | cons q r =>
        have e1 : (q :: r).reverse.map lD = r.reverse.map lD ++ [lD q] := by simp
        have hp : PT (phi P85.prog n) (.and (.ofE (.cmp .gt (.blt .len (.cons (.mvar 1) .nil)) (.int 0))) (.ofE (.cmp .eq (.ix (.mvar 1) (.neg (.int 1))) (.tup (.cons (.var 2) (.cons (.not (.var 3)) .nil)))))) [some x, some (.list (r.reverse.map lD ++ [lD q])), some (.int w[i].1), some (.bool w[i].2)] (true && decide (q = inv w[i])) := by
          refine pt_and (k := true) (pt_b ?_) fun _ => pt_b (pv_cmpR (PV.pr (pv_ixR (pr_mvar rfl) (pv_neg pv_int) at_last)) (PV.pr (pv_tup (pvs_cons (pv_var rfl).pd (pvs_cons (pv_not (pv_var rfl)).pd pvs_nil)) (show 2 ≤ lim by decide))) (eq_letters q (inv w[i])))
          have h1 := pv_cmpR (Φ := phi P85.prog n) (ρ := [some x, some (.list (r.reverse.map lD ++ [lD q])), some (.int w[i].1), some (.bool w[i].2)]) (o := .gt) (a := .blt .len (.cons (.mvar 1) .nil)) (b := .int 0) (PV.pr (pv_bltR (prs_cons (pr_mvar rfl) prs_nil) rfl)) pv_int.pr (k := decide ((0 : Int) < ((r.reverse.map lD ++ [lD q]).length : Nat))) rfl
          rw [decide_eq_true (by simp)] at h1
          exact h1
        rw [e1]
        refine sx_ite hp (fun h => bx_cons ?_ bx_nil) (fun h => bx_cons ?_ bx_nil)
        · simp only [Bool.true_and, decide_eq_true_eq] at h
          have e2 : push (q :: r) w[i] = r := by unfold push; dsimp only; rw [if_pos (eq_inv.mp h)]
          rw [e2]
          have := sx_pop (Φ := phi P85.prog n) (ρ := [some x, some (.list (r.reverse.map lD ++ [lD q])), some (.int w[i].1), some (.bool w[i].2)]) (i := 1) rfl (z := lD q) (by simp)
          rw [List.dropLast_concat] at this
          exact this
        · simp only [Bool.true_and, decide_eq_false_iff_not] at h
          have e2 : push (q :: r) w[i] = w[i] :: q :: r := by unfold push; dsimp only; rw [if_neg (fun z => h (eq_inv.mp z))]
          rw [e2]
          have := sx_append (Φ := phi P85.prog n) (ρ := [some x, some (.list (r.reverse.map lD ++ [lD q])), some (.int w[i].1), some (.bool w[i].2)]) (i := 1) (e := .tup (.cons (.var 2) (.cons (.var 3) .nil))) (d := lD w[i]) rfl (pv_tup (pvs_cons (pv_var rfl).pd (pvs_cons (pv_var rfl).pd pvs_nil)) (show 2 ≤ lim by decide)).pd (by
            rw [es] at hlen
            simp only [List.length_append, List.length_map, List.length_reverse, List.length_cons, List.length_nil] at hlen ⊢
            omega)
          simpa using this
  · have e : frS x w w.length = [some x, some (.list ((red w).map lD)), if w.length = 0 then none else (w[w.length - 1]?).map fun p => .int p.1, if w.length = 0 then none else (w[w.length - 1]?).map fun p => .bool p.2] := by
      unfold frS
      rw [List.take_length]
    rw [e]
    exact rt_ret (pv_bltR (prs_cons (pr_mvar rfl) prs_nil) rfl)
end M85
set_option Elab.async false
set_option linter.all false
set_option maxRecDepth 100000
set_option maxHeartbeats 1000000
/-! U85i: the law's own joining, going back, turning. -/
namespace M85
open Vm
theorem r33 {B C : Nat} {p : Part} (hp : POk p) {a b : El} (ha : EOk B p a) (hb : EOk C p b) (hB : B + C < lim) : Ret 33 [pD p, eD a, eD b] (.val (eD (mulE p a b))) [] 3 := by
  refine ret_of (d := 2) rfl fun n hn => run_of rfl ?_ (fun _ z => nomatch z)
  refine rt_if (pt_c (pv_var rfl)) (fun h => ?_) (fun h0 => ?_)
  · cases p <;> first | (cases h; done) | skip
    cases a <;> first | (exact absurd ha id) | skip
    cases b <;> first | (exact absurd hb id) | skip
    exact rt_ret (pv_bin (pv_var rfl).pd (pv_var rfl).pd rfl)
  refine rt_if (pt_di (pv_var rfl)) (fun h => ?_) (fun h1 => ?_)
  · cases p <;> first | (cases h; done) | skip
    cases a <;> first | (exact absurd ha id) | skip
    cases b <;> first | (exact absurd hb id) | skip
    rename_i m i j
    have hm : ((m : Nat) : Int) ≠ 0 := by
      have : 1 ≤ m := hp
      omega
    exact rt_ret (pv_bin (pv_bin (pv_var rfl).pd (pv_var rfl).pd rfl).pd (pv_ix (pv_var rfl).pd pv_int rfl).pd (by
      show (if ((m : Nat) : Int) ≠ 0 then some (R.val (.int ((i + j).fmod m))) else none) = _
      rw [if_pos hm]
      rfl))
  refine rt_if (pt_de (pv_var rfl)) (fun h => ?_) (fun h2 => ?_)
  · cases p <;> first | (cases h; done) | skip
    cases a <;> first | (exact absurd ha id) | skip
    cases b <;> first | (exact absurd hb id) | skip
    rename_i k ca cb
    have hk : k ≤ 100 := hp.2
    have hlim : lim = 100000 := rfl
    refine rt_ret (pv_blt (pvs_cons (PO.pd (po_lc (items := kL cb) (pi_seq (pv_var rfl).pd rfl) (fun d => .int (ca.getD (asI d).toNat 0 : Nat)) ?_ rfl fun d hd => ?_)) pvs_nil) ?_)
    · unfold kL
      rw [List.length_map, hb.len]
      omega
    · unfold kL at hd
      obtain ⟨i, hi, rfl⟩ := List.mem_map.mp hd
      refine ⟨[some (pD (.deck k)), some (kD ca), some (kD cb), some (.int (i : Nat))], rfl, rfl, pt_yes, PV.pd ?_⟩
      refine pv_ix (pv_var rfl).pd (pv_var rfl) ?_
      rw [show (asI (.int (i : Nat))).toNat = i from Int.toNat_natCast i]
      exact ixK (by rw [ha.len]; exact hb.lt i hi)
    · show some (R.val (.tuple ((kL cb).map _))) = some (R.val (kD (comp ca cb)))
      unfold kL kD kL comp
      rw [List.map_map, List.map_map]
      rfl
  cases p with
  | rope m =>
    cases a <;> first | (exact absurd ha id) | skip
    cases b <;> first | (exact absurd hb id) | skip
    rename_i va vb
    obtain ⟨_, _, la⟩ := ha
    obtain ⟨_, _, lb⟩ := hb
    exact rt_ret (pv_call (pvs_cons (pv_bin (pv_var rfl).pd (pv_var rfl).pd (add_words va vb (by omega))).pd pvs_nil) (r30 (wD (va ++ vb)) (va ++ vb) rfl (by rw [List.length_append]; omega) n (by omega)))
  | counter => cases h0
  | dial m => cases h1
  | deck m => cases h2

def backK (n : Nat) (c : List Nat) : List Nat := (List.range n).map fun i => c.idxOf i
def backE : Part → El → El
  | .counter, .z i => .z (-i)
  | .dial m, .z i => .z ((m - i).fmod m)
  | .deck n, .k c => .k (backK n c)
  | .rope _, .w v => .w (winv v)
  | _, a => a
theorem pv_index {Φ : Fs} {a b : E} {ρ : Rho} {xs : List D} {k : Int} {ns : List Int} (ha : PV Φ a ρ (.tuple xs)) (hb : PV Φ b ρ (.int k)) (h : ints? xs = some ns) (hk : k ∈ ns) : PV Φ (.index a b) ρ (.int (ns.idxOf k : Nat)) := by
  unfold PV at *
  simp only [evalE, ha, hb, h, bind, Option.bind, if_pos hk]
theorem ints_kL (c : List Nat) : ints? (kL c) = some (c.map fun (i : Nat) => (i : Int)) := by
  induction c with
  | nil => rfl
  | cons i c ih =>
    show ints? (.int (i : Nat) :: kL c) = _
    rw [ints?, ih]
    rfl
theorem idxOf_cast (c : List Nat) (i : Nat) : (c.map fun (i : Nat) => (i : Int)).idxOf (i : Int) = c.idxOf i := by
  induction c with
  | nil => rfl
  | cons j c ih =>
    rw [List.map_cons, List.idxOf_cons, List.idxOf_cons, ih]
    by_cases h : j = i
    · subst h; simp
    · have h2 : ¬ ((j : Int) = (i : Int)) := by omega
      have e1 : ((j : Int) == (i : Int)) = false := beq_eq_false_iff_ne.mpr h2
      have e2 : (j == i) = false := beq_eq_false_iff_ne.mpr h
      rw [e1, e2]
theorem nodup_len : ∀ (l l' : List Nat), l.Nodup → (∀ x ∈ l, x ∈ l') → l.length ≤ l'.length
  | [], _, _, _ => Nat.zero_le _
  | a :: l, l', h, hs => by
    rw [List.nodup_cons] at h
    have ha := hs a List.mem_cons_self
    have ih := nodup_len l (l'.erase a) h.2 fun x hx => by
      have hne : x ≠ a := fun z => h.1 (by rw [← z]; exact hx)
      rw [List.mem_erase_of_ne hne]
      exact hs x (List.mem_cons_of_mem _ hx)
    rw [List.length_erase_of_mem ha] at ih
    have := List.length_pos_of_mem ha
    simp only [List.length_cons]
    omega
/-- each number below n is in a deck of n -/
theorem deck_mem {n : Nat} {c : List Nat} (h : Deck n c) : ∀ i, i < n → i ∈ c := fun i hi => by
  apply Classical.byContradiction
  intro hn
  have := nodup_len (i :: c) (List.range n) (List.nodup_cons.mpr ⟨hn, h.nd⟩) fun x hx => by
    rcases List.mem_cons.mp hx with rfl | hx
    · exact List.mem_range.mpr hi
    · exact List.mem_range.mpr (h.lt x hx)
  simp only [List.length_cons, List.length_range, h.len] at this
  omega
theorem r34 {B : Nat} {p : Part} (hp : POk p) {a : El} (ha : EOk B p a) (hB : B ≤ lim) : Ret 34 [pD p, eD a] (.val (eD (backE p a))) [] 1 := by
  refine ret_of (d := 0) rfl fun n hn => run_of rfl ?_ (fun _ z => nomatch z)
  refine rt_if (pt_c (pv_var rfl)) (fun h => ?_) (fun h0 => ?_)
  · cases p <;> first | (cases h; done) | skip
    cases a <;> first | (exact absurd ha id) | skip
    exact rt_ret (pv_neg (pv_var rfl))
  refine rt_if (pt_di (pv_var rfl)) (fun h => ?_) (fun h1 => ?_)
  · cases p <;> first | (cases h; done) | skip
    cases a <;> first | (exact absurd ha id) | skip
    rename_i m i
    have hm : ((m : Nat) : Int) ≠ 0 := by
      have : 1 ≤ m := hp
      omega
    exact rt_ret (pv_bin (pv_bin (pv_ix (pv_var rfl).pd pv_int rfl).pd (pv_var rfl).pd rfl).pd (pv_ix (pv_var rfl).pd pv_int rfl).pd (by
      show (if ((m : Nat) : Int) ≠ 0 then some (R.val (.int (((m : Nat) - i).fmod m))) else none) = _
      rw [if_pos hm]
      rfl))
  refine rt_if (pt_de (pv_var rfl)) (fun h => ?_) (fun h2 => ?_)
  · cases p <;> first | (cases h; done) | skip
    cases a <;> first | (exact absurd ha id) | skip
    rename_i k c
    have hk : k ≤ 100 := hp.2
    have hlim : lim = 100000 := rfl
    refine rt_ret (pv_blt (pvs_cons (PO.pd (po_lc (items := rangeD 0 k) ?_ (fun d => .int (c.idxOf (asI d).toNat : Nat)) ?_ rfl fun d hd => ?_)) pvs_nil) ?_)
    · have := pi_range1 (Φ := phi P85.prog n) (ρ := [some (pD (.deck k)), some (kD c), none, none]) (e := .ix (.var 0) (.int 1)) (n := (k : Nat)) (pv_ix (pv_var rfl).pd pv_int rfl) (small_nat (by omega))
      rw [Int.toNat_natCast] at this
      exact this
    · rw [rangeD_len]; omega
    · obtain ⟨i, hi, rfl⟩ := rangeD_mem hd
      refine ⟨[some (pD (.deck k)), some (kD c), some (.int (i : Nat)), none], rfl, rfl, pt_yes, PV.pd ?_⟩
      rw [show (asI (.int (i : Nat))).toNat = i from Int.toNat_natCast i, ← idxOf_cast]
      exact pv_index (pv_var rfl) (pv_var rfl) (ints_kL c) (List.mem_map.mpr ⟨i, deck_mem ha i hi, rfl⟩)
    · show some (R.val (.tuple ((rangeD 0 k).map _))) = some (R.val (kD (backK k c)))
      rw [rangeD_map k (fun i => .int (c.idxOf i : Nat)) _ (fun i _ => by rw [show (asI (.int (i : Nat))).toNat = i from Int.toNat_natCast i])]
      unfold kD kL backK
      rw [List.map_map]
      rfl
  cases p with
  | rope m =>
    cases a <;> first | (exact absurd ha id) | skip
    rename_i v
    obtain ⟨_, _, la⟩ := ha
    have hlen : ∀ z, PV (phi P85.prog n) (.blt .len (.cons (.var 1) .nil)) [some (pD (.rope m)), some (wD v), none, z] (.int (v.length : Nat)) := fun z => pv_blt (pvs_cons (pv_var rfl).pd pvs_nil) (by show some (R.val (.int ((v.map lD).length : Nat))) = _; rw [List.length_map])
    refine rt_ret (pv_blt (pvs_cons (PO.pd (po_lc (items := rangeD 0 v.length) ?_ (fun d => lD (inv (v.getD (v.length - 1 - (asI d).toNat) (0, false)))) ?_ rfl fun d hd => ?_)) pvs_nil) ?_)
    · have := pi_range1 (Φ := phi P85.prog n) (ρ := [some (pD (.rope m)), some (wD v), none, none]) (e := .blt .len (.cons (.var 1) .nil)) (n := (v.length : Nat)) (hlen none) (small_nat (by omega))
      rw [Int.toNat_natCast] at this
      exact this
    · rw [rangeD_len]; omega
    · obtain ⟨i, hi, rfl⟩ := rangeD_mem hd
      refine ⟨[some (pD (.rope m)), some (wD v), none, some (.int (i : Nat))], rfl, rfl, pt_yes, PV.pd ?_⟩
      rw [show (asI (.int (i : Nat))).toNat = i from Int.toNat_natCast i]
      have g : v.length - 1 - i < v.length := by omega
      have hix : PV (phi P85.prog n) (.ix (.var 1) (.bin .sub (.bin .sub (.blt .len (.cons (.var 1) .nil)) (.int 1)) (.var 3))) [some (pD (.rope m)), some (wD v), none, some (.int (i : Nat))] (lD (v.getD (v.length - 1 - i) (0, false))) := by
        refine pv_ix (pv_var rfl).pd (pv_bin (pv_bin (hlen _).pd pv_int.pd rfl).pd (pv_var rfl).pd rfl) (ixW (by omega) ?_)
        rw [show ((v.length : Nat) - 1 - (i : Nat) : Int).toNat = v.length - 1 - i by omega, List.getD_eq_getElem?_getD, List.getElem?_eq_getElem g]
        rfl
      exact pv_tup (pvs_cons (pv_ix hix.pd pv_int rfl).pd (pvs_cons (pv_not (pv_ix hix.pd pv_int rfl)).pd pvs_nil)) (show 2 ≤ lim by decide)
    · show some (R.val (.tuple ((rangeD 0 v.length).map _))) = some (R.val (wD (winv v)))
      rw [rangeD_map v.length (fun i => lD (inv (v.getD (v.length - 1 - i) (0, false)))) _ (fun i _ => by rw [show (asI (.int (i : Nat))).toNat = i from Int.toNat_natCast i])]
      have e : (List.range v.length).map (fun i => inv (v.getD (v.length - 1 - i) (0, false))) = winv v := by
        apply List.ext_getElem?
        intro j
        by_cases hj : j < v.length
        · rw [winv_get hj, List.getElem?_map, List.getElem?_range hj]
          have g : v.length - 1 - j < v.length := by omega
          rw [List.getElem?_eq_getElem g]
          simp only [Option.map_some]
          rw [List.getD_eq_getElem?_getD, List.getElem?_eq_getElem g]
          rfl
        · rw [List.getElem?_eq_none (by simpa using hj), List.getElem?_eq_none (by rw [winv_len]; omega)]
      rw [← e]
      unfold wD
      rw [List.map_map]
      rfl
  | counter => cases h0
  | dial m => cases h1
  | deck m => cases h2
end M85
set_option Elab.async false
set_option linter.all false
set_option maxRecDepth 100000
set_option maxHeartbeats 1000000
/-! U85j: worlds, joined. -/
namespace M85
open Vm
def WD (ps : List Part) : D := .tuple (ps.map pD)
def ED (es : List El) : D := .tuple (es.map eD)
/-- a change of the world -/
def COk (B : Nat) : List Part → List El → Prop
  | [], [] => True
  | p :: ps, e :: es => POk p ∧ EOk B p e ∧ COk B ps es
  | _, _ => False
theorem COk.len {B : Nat} : ∀ {ps : List Part} {es : List El}, COk B ps es → es.length = ps.length
  | [], [], _ => rfl
  | p :: ps, e :: es, h => by simp [COk.len h.2.2]
  | [], _ :: _, h => absurd h id
  | _ :: _, [], h => absurd h id
theorem COk.get {B : Nat} : ∀ {ps : List Part} {es : List El} {i : Nat} {p : Part} {e : El}, COk B ps es → ps[i]? = some p → es[i]? = some e → POk p ∧ EOk B p e
  | p :: ps, e :: es, 0, _, _, h, h1, h2 => by
    simp at h1 h2
    subst h1 h2
    exact ⟨h.1, h.2.1⟩
  | p :: ps, e :: es, i + 1, _, _, h, h1, h2 => COk.get h.2.2 (by simpa using h1) (by simpa using h2)
  | [], [], _, _, _, _, h1, _ => by simp at h1
  | [], _ :: _, _, _, _, h, _, _ => absurd h id
  | _ :: _, [], _, _, _, h, _, _ => absurd h id
def mulC : List Part → List El → List El → List El
  | p :: ps, a :: as, b :: bs => mulE p a b :: mulC ps as bs
  | _, _, _ => []
theorem mulC_len : ∀ {ps : List Part} {as bs : List El}, as.length = ps.length → bs.length = ps.length → (mulC ps as bs).length = ps.length
  | [], _, _, _, _ => rfl
  | p :: ps, a :: as, b :: bs, h1, h2 => by
    simp only [mulC, List.length_cons, mulC_len (Nat.succ.inj h1) (Nat.succ.inj h2)]
  | p :: ps, [], _, h, _ => by simp at h
  | p :: ps, _ :: _, [], _, h => by simp at h
theorem zip3_len : ∀ (xs ys zs : List D), ys.length = xs.length → zs.length = xs.length → (zipD3 xs ys zs).length = xs.length
  | [], _, _, _, _ => rfl
  | x :: xs, y :: ys, z :: zs, h1, h2 => by simp only [zipD3, List.length_cons, zip3_len xs ys zs (Nat.succ.inj h1) (Nat.succ.inj h2)]
  | x :: xs, [], _, h, _ => by simp at h
  | x :: xs, _ :: _, [], _, h => by simp at h
/-- what stands at i -/
theorem at_i : ∀ {ps : List Part} {as bs : List El} {i : Nat} {d : D}, (zipD3 (ps.map pD) (as.map eD) (bs.map eD))[i]? = some d → ∃ p a b, ps[i]? = some p ∧ as[i]? = some a ∧ bs[i]? = some b ∧ d = .tuple [pD p, eD a, eD b] ∧ (mulC ps as bs)[i]? = some (mulE p a b)
  | [], _, _, i, d, h => by simp [zipD3] at h
  | _ :: _, [], _, i, d, h => by simp [zipD3] at h
  | _ :: _, _ :: _, [], i, d, h => by simp [zipD3] at h
  | p :: ps, a :: as, b :: bs, 0, d, h => by
    simp only [List.map_cons, zipD3, List.getElem?_cons_zero] at h
    cases h
    exact ⟨p, a, b, rfl, rfl, rfl, rfl, rfl⟩
  | p :: ps, a :: as, b :: bs, i + 1, d, h => by
    simp only [List.map_cons, zipD3, List.getElem?_cons_succ] at h
    obtain ⟨p', a', b', h1, h2, h3, h4, h5⟩ := at_i h
    exact ⟨p', a', b', by simpa using h1, by simpa using h2, by simpa using h3, h4, by simpa [mulC] using h5⟩
theorem r15 {B C : Nat} {ps : List Part} {as bs : List El} (ha : COk B ps as) (hb : COk C ps bs) (hB : B + C < lim) (hl : ps.length ≤ lim) : Ret 15 [WD ps, ED as, ED bs] (.val (ED (mulC ps as bs))) [] 4 := by
  refine ret_of (d := 3) rfl fun n hn => run_of rfl ?_ (fun _ z => nomatch z)
  refine rt_ret (pv_blt (pvs_cons (PO.pd (po_lcI (items := zipD3 (ps.map pD) (as.map eD) (bs.map eD)) (pi_zip3 (pv_var rfl).pd (pv_var rfl).pd (pv_var rfl).pd) ((mulC ps as bs).map eD) ?_ ?_ rfl fun i d o hi ho => ?_)) pvs_nil) rfl)
  · rw [List.length_map, zip3_len _ _ _ (by simp [ha.len]) (by simp [hb.len]), List.length_map, mulC_len ha.len hb.len]
  · rw [zip3_len _ _ _ (by simp [ha.len]) (by simp [hb.len]), List.length_map]
    exact hl
  · obtain ⟨p, a, b, h1, h2, h3, rfl, h5⟩ := at_i hi
    rw [List.getElem?_map, h5] at ho
    cases ho
    obtain ⟨g1, g2⟩ := ha.get h1 h2
    obtain ⟨_, g3⟩ := hb.get h1 h3
    exact ⟨[some (WD ps), some (ED as), some (ED bs), some (pD p), some (eD a), some (eD b)], rfl, rfl, pt_yes, PV.pd (pv_call (pvs_cons (pv_var rfl).pd (pvs_cons (pv_var rfl).pd (pvs_cons (pv_var rfl).pd pvs_nil))) (r12 g1 g2 g3 hB n (by omega)))⟩
end M85
set_option Elab.async false
set_option linter.all false
set_option maxRecDepth 100000
set_option maxHeartbeats 1000000
/-! U85k: a word undone; changes of a world; the law's turning. -/
namespace M85
open Vm
theorem r14 (m : Nat) (v : W) (hv : v.length ≤ lim) : Ret 14 [pD (.rope m), wD v] (.val (wD (winv v))) [] 1 := by
  refine ret_of (d := 0) rfl fun n hn => run_of rfl ?_ (fun _ z => nomatch z)
  refine rt_if (pt_c (pv_var rfl)) (fun h => nomatch h) (fun h0 => ?_)
  refine rt_if (pt_di (pv_var rfl)) (fun h => nomatch h) (fun h1 => ?_)
  refine rt_if (pt_de (pv_var rfl)) (fun h => nomatch h) (fun h2 => ?_)
  refine rt_ret (pv_blt (pvs_cons (PO.pd (po_lcI (items := (v.map lD).reverse) (pi_rev (pv_var rfl).pd rfl) ((winv v).map lD) ?_ ?_ rfl fun i d o hi ho => ?_)) pvs_nil) rfl)
  · simp [winv]
  · simpa using hv
  · have hl : i < v.length := by
      have := (List.getElem?_eq_some_iff.mp hi).1
      simpa using this
    rw [List.getElem?_reverse (by simpa using hl), List.length_map, List.getElem?_map] at hi
    rw [List.getElem?_map, winv_get hl] at ho
    have g : v.length - 1 - i < v.length := by omega
    rw [List.getElem?_eq_getElem g] at hi ho
    cases hi
    cases ho
    exact ⟨[some (pD (.rope m)), some (wD v), some (.int (v[v.length - 1 - i]).1), some (.bool (v[v.length - 1 - i]).2)], rfl, rfl, pt_yes, PV.pd (pv_tup (pvs_cons (pv_var rfl).pd (pvs_cons (pv_not (pv_var rfl)).pd pvs_nil)) (show 2 ≤ lim by decide))⟩
def turnE (p : Part) (a x : El) : El := mulE p (mulE p (backE p x) a) x
end M85
set_option Elab.async false
set_option linter.all false
set_option maxRecDepth 100000
set_option maxHeartbeats 1000000
/-! U85l: elements stay elements. -/
namespace M85
open Vm
theorem getD_mem {c : List Nat} {i : Nat} (h : i < c.length) : c.getD i 0 ∈ c := List.mem_of_getElem? (getD_of h)
theorem getD_inj {c : List Nat} (nd : c.Nodup) {i j : Nat} (hi : i < c.length) (hj : j < c.length) (h : c.getD i 0 = c.getD j 0) : i = j := by
  have e1 := getD_of hi
  have e2 := getD_of hj
  rw [List.getElem?_eq_getElem hi] at e1
  rw [List.getElem?_eq_getElem hj] at e2
  have f1 := Option.some.inj e1
  have f2 := Option.some.inj e2
  exact (List.getElem_inj nd).mp (f1.trans (h.trans f2.symm))
theorem deck_comp {n : Nat} {a b : List Nat} (ha : Deck n a) (hb : Deck n b) : Deck n (comp a b) where
  len := by unfold comp; rw [List.length_map, hb.len]
  lt := fun i hi => by
    unfold comp at hi
    obtain ⟨j, hj, rfl⟩ := List.mem_map.mp hi
    exact ha.lt _ (getD_mem (by rw [ha.len]; exact hb.lt j hj))
  nd := by
    unfold comp
    refine List.pairwise_map.mpr (hb.nd.imp_of_mem fun {i j} hi hj ne z => ne ?_)
    exact getD_inj ha.nd (by rw [ha.len]; exact hb.lt i hi) (by rw [ha.len]; exact hb.lt j hj) z
theorem idx_lt {n : Nat} {c : List Nat} (h : Deck n c) {i : Nat} (hi : i < n) : c.idxOf i < n := by
  rw [← h.len]
  exact List.idxOf_lt_length_of_mem (deck_mem h i hi)
theorem getD_idx {n : Nat} {c : List Nat} (h : Deck n c) {i : Nat} (hi : i < n) : c.getD (c.idxOf i) 0 = i := by
  have hl : c.idxOf i < c.length := by rw [h.len]; exact idx_lt h hi
  have := getD_of hl
  rw [List.getElem?_eq_getElem hl, List.getElem_idxOf hl] at this
  exact (Option.some.inj this).symm
theorem idx_getD {n : Nat} {c : List Nat} (h : Deck n c) {i : Nat} (hi : i < n) : c.idxOf (c.getD i 0) = i := by
  have hm : c.getD i 0 < n := h.lt _ (getD_mem (by rw [h.len]; exact hi))
  exact getD_inj h.nd (by rw [h.len]; exact idx_lt h hm) (by rw [h.len]; exact hi) (getD_idx h hm)
theorem deck_back {n : Nat} {c : List Nat} (h : Deck n c) : Deck n (backK n c) where
  len := by simp [backK]
  lt := fun i hi => by
    unfold backK at hi
    obtain ⟨j, hj, rfl⟩ := List.mem_map.mp hi
    exact idx_lt h (List.mem_range.mp hj)
  nd := by
    unfold backK
    refine List.pairwise_map.mpr (List.nodup_range.imp_of_mem fun {i j} hi hj ne z => ne ?_)
    have e1 := getD_idx h (List.mem_range.mp hi)
    have e2 := getD_idx h (List.mem_range.mp hj)
    rw [← e1, ← e2, z]
theorem fmod_ok {i : Int} {m : Nat} (h : 1 ≤ m) : 0 ≤ i.fmod m ∧ i.fmod m < m := by
  rw [Int.fmod_eq_emod_of_nonneg i (by omega)]
  exact ⟨Int.emod_nonneg _ (by omega), Int.emod_lt_of_pos _ (by omega)⟩
theorem lett_winv {m : Int} {v : W} (h : Lett m v) : Lett m (winv v) := fun p hp => by
  unfold winv at hp
  obtain ⟨q, hq, rfl⟩ := List.mem_map.mp (List.mem_reverse.mp hp)
  exact h q hq
theorem mul_ok {B C : Nat} {p : Part} {a b : El} (hp : POk p) (ha : EOk B p a) (hb : EOk C p b) : EOk (B + C) p (mulE p a b) := by
  rcases cases_ok ha with ⟨rfl, i, rfl⟩ | ⟨m, i, rfl, rfl, h1, h2⟩ | ⟨n, c, rfl, rfl, h⟩ | ⟨m, v, rfl, rfl, h1, h2, h3⟩
  · cases b <;> first | (exact absurd hb id) | exact trivial
  · cases b <;> first | (exact absurd hb id) | exact fmod_ok hp
  · cases b <;> first | (exact absurd hb id) | exact deck_comp h hb
  · cases b <;> first | (exact absurd hb id) | skip
    rename_i u
    obtain ⟨g1, g2, g3⟩ := hb
    refine ⟨red_rd _, lett_red (lett_app h2 g2), ?_⟩
    have := red_len (v ++ u)
    rw [List.length_append] at this
    omega
theorem back_ok {B : Nat} {p : Part} {a : El} (hp : POk p) (ha : EOk B p a) : EOk B p (backE p a) := by
  rcases cases_ok ha with ⟨rfl, i, rfl⟩ | ⟨m, i, rfl, rfl, h1, h2⟩ | ⟨n, c, rfl, rfl, h⟩ | ⟨m, v, rfl, rfl, h1, h2, h3⟩
  · exact trivial
  · exact fmod_ok hp
  · exact deck_back h
  · exact ⟨winv_rd h1, lett_winv h2, by rw [winv_len]; exact h3⟩
theorem r35 {B C : Nat} {p : Part} (hp : POk p) {a x : El} (ha : EOk B p a) (hx : EOk C p x) (hB : C + B + C < lim) : Ret 35 [pD p, eD a, eD x] (.val (eD (turnE p a x))) [] 4 := by
  refine ret_of (d := 3) rfl fun n hn => run_of rfl ?_ (fun _ z => nomatch z)
  have b1 := back_ok hp hx
  have b2 := mul_ok hp b1 ha
  have v0 : PV (phi P85.prog n) (.var 0) [some (pD p), some (eD a), some (eD x)] (pD p) := pv_var rfl
  have c1 : PV (phi P85.prog n) (.call 34 [] (.cons (.var 0) (.cons (.var 2) .nil))) [some (pD p), some (eD a), some (eD x)] (eD (backE p x)) := pv_call (pvs_cons v0.pd (pvs_cons (pv_var rfl).pd pvs_nil)) (r34 hp hx (by omega) n (by omega))
  have c2 : PV (phi P85.prog n) (.call 33 [] (.cons (.var 0) (.cons (.call 34 [] (.cons (.var 0) (.cons (.var 2) .nil))) (.cons (.var 1) .nil)))) [some (pD p), some (eD a), some (eD x)] (eD (mulE p (backE p x) a)) := pv_call (pvs_cons v0.pd (pvs_cons c1.pd (pvs_cons (pv_var rfl).pd pvs_nil))) (r33 hp b1 ha (by omega) n (by omega))
  exact rt_ret (pv_call (pvs_cons v0.pd (pvs_cons c2.pd (pvs_cons (pv_var rfl).pd pvs_nil))) (r33 hp b2 hx (by omega) n (by omega)))
end M85
set_option Elab.async false
set_option linter.all false
set_option maxRecDepth 100000
set_option maxHeartbeats 1000000
/-! U85m: changes, told by form. -/
namespace M85
open Vm
/-- the first place that is no element of its part (-1: no tuple of that length) -/
def faultAt : Nat → List Part → List D → D
  | i, p :: ps, x :: xs => if isEl p x then faultAt (i + 1) ps xs else .int (i : Nat)
  | _, _, _ => .none
def SmL (xs : List D) : Prop := ∀ x ∈ xs, Sm x
theorem fault_loop {Φ : Fs} (ps0 : List Part) (xs0 : List D) (h6 : ∀ p x, p ∈ ps0 → x ∈ xs0 → Φ 6 [pD p, x] = some (.val (.bool (isEl p x)), [])) : ∀ (ps : List Part) (xs : List D) (k : Nat) (a b : Option D), (∀ p ∈ ps, p ∈ ps0) → (∀ x ∈ xs, x ∈ xs0) → ps.length = xs.length → (∀ i x, xs[i]? = some x → xs0[k + i]? = some x) →
    ∃ fl ρ', forLoop (fun r => execs Φ (.cons (.ite (.not (.ofE (.call 6 [] (.cons (.var 3) (.cons (.ix (.var 1) (.var 2)) .nil))))) (.cons (.ret (.var 2)) .nil) .nil) .nil) r) (.tup [2, 3]) (enumD k (ps.map pD)) [some (WD ps0), some (.tuple xs0), a, b] = some (fl, ρ') ∧
      ((faultAt k ps xs = .none ∧ fl = .nx ∧ ∃ a b, ρ' = [some (WD ps0), some (.tuple xs0), a, b]) ∨ (faultAt k ps xs ≠ .none ∧ fl = .rt (.val (faultAt k ps xs))))
  | [], [], k, a, b, _, _, _, _ => ⟨.nx, _, rfl, .inl ⟨rfl, rfl, a, b, rfl⟩⟩
  | [], _ :: _, _, _, _, _, _, h, _ => by simp at h
  | _ :: _, [], _, _, _, _, _, h, _ => by simp at h
  | p :: ps, x :: xs, k, a, b, hp, hx, hl, hi => by
    have hx0 : xs0[k]? = some x := hi 0 x rfl
    have ht : PT Φ (.not (.ofE (.call 6 [] (.cons (.var 3) (.cons (.ix (.var 1) (.var 2)) .nil))))) [some (WD ps0), some (.tuple xs0), some (.int (k : Nat)), some (pD p)] (!isEl p x) := pt_not (pt_b (pv_call (pvs_cons (pv_var rfl).pd (pvs_cons (pv_ix (pv_var rfl).pd (pv_var rfl) (ixT (by omega) (by rw [Int.toNat_natCast]; exact hx0))).pd pvs_nil)) (h6 p x (hp p List.mem_cons_self) (hx x List.mem_cons_self))))
    cases e : isEl p x with
    | true =>
      rw [e] at ht
      obtain ⟨fl, ρ', h1, h2⟩ := fault_loop ps0 xs0 h6 ps xs (k + 1) (some (.int (k : Nat))) (some (pD p)) (fun q hq => hp q (List.mem_cons_of_mem _ hq)) (fun q hq => hx q (List.mem_cons_of_mem _ hq)) (by simpa using hl) fun i y hy => by
        have := hi (i + 1) y (by simpa using hy)
        rw [show k + (i + 1) = k + 1 + i by omega] at this
        exact this
      refine ⟨fl, ρ', ?_, ?_⟩
      · have hb : BX Φ (.cons (.ite (.not (.ofE (.call 6 [] (.cons (.var 3) (.cons (.ix (.var 1) (.var 2)) .nil))))) (.cons (.ret (.var 2)) .nil) .nil) .nil) [some (WD ps0), some (.tuple xs0), some (.int (k : Nat)), some (pD p)] [some (WD ps0), some (.tuple xs0), some (.int (k : Nat)), some (pD p)] := bx_cons (sx_ite (k := false) ht (fun z => nomatch z) (fun _ => bx_nil)) bx_nil
        unfold BX at hb
        simp only [List.map_cons, enumD, forLoop]
        show ((assignG (.tup [2, 3]) (.tuple [.int (k : Nat), pD p]) [some (WD ps0), some (.tuple xs0), a, b]) >>= _) = _
        rw [show assignG (.tup [2, 3]) (.tuple [.int (k : Nat), pD p]) [some (WD ps0), some (.tuple xs0), a, b] = some [some (WD ps0), some (.tuple xs0), some (.int (k : Nat)), some (pD p)] from rfl]
        simp only [bind, Option.bind, hb]
        exact h1
      · have ef : faultAt k (p :: ps) (x :: xs) = faultAt (k + 1) ps xs := by simp only [faultAt, e, if_true]
        rw [ef]
        exact h2
    | false =>
      rw [e] at ht
      have ef : faultAt k (p :: ps) (x :: xs) = .int (k : Nat) := by simp only [faultAt, e, Bool.false_eq_true, if_false]
      have hr : RT Φ (.cons (.ite (.not (.ofE (.call 6 [] (.cons (.var 3) (.cons (.ix (.var 1) (.var 2)) .nil))))) (.cons (.ret (.var 2)) .nil) .nil) .nil) [some (WD ps0), some (.tuple xs0), some (.int (k : Nat)), some (pD p)] (.val (.int (k : Nat))) := rt_if (k := true) ht (fun _ => rt_ret (pv_var rfl)) (fun z => nomatch z)
      obtain ⟨ρ', hr⟩ := hr
      refine ⟨.rt (.val (.int (k : Nat))), ρ', ?_, .inr ⟨by rw [ef]; exact fun z => (nomatch z), by rw [ef]⟩⟩
      simp only [List.map_cons, enumD, forLoop]
      show ((assignG (.tup [2, 3]) (.tuple [.int (k : Nat), pD p]) [some (WD ps0), some (.tuple xs0), a, b]) >>= _) = _
      rw [show assignG (.tup [2, 3]) (.tuple [.int (k : Nat), pD p]) [some (WD ps0), some (.tuple xs0), a, b] = some [some (WD ps0), some (.tuple xs0), some (.int (k : Nat)), some (pD p)] from rfl]
      simp only [bind, Option.bind, hr]
def chF (ps : List Part) : D → D
  | .tuple xs => if xs.length = ps.length then faultAt 0 ps xs else .int (-1)
  | _ => .int (-1)
/-- what is small enough to be looked at -/
def SmW (x : D) : Prop := ∀ xs, x = .tuple xs → ∀ y ∈ xs, Sm y
theorem r7 (ps : List Part) (hps : ∀ p ∈ ps, POk p) (x : D) (hx : SmW x) : Ret 7 [WD ps, x] (.val (chF ps x)) [] 6 := by
  refine ret_of (d := 5) rfl fun n hn => run_of rfl ?_ (fun _ z => nomatch z)
  have ht : PT (phi P85.prog n) (.not (.ofE (.call 2 [] (.cons (.var 1) (.cons (.blt .len (.cons (.var 0) .nil)) .nil))))) [some (WD ps), some x, none, none] (!(tupN x (ps.length : Nat))) := by
    refine pt_not (pt_b (pv_call (pvs_cons (pv_var rfl).pd (pvs_cons (PV.pd (d := .int (ps.length : Nat)) (pv_blt (pvs_cons (pv_var rfl).pd pvs_nil) ?_)) pvs_nil)) (r2 x (ps.length : Nat) n (by omega))))
    show some (R.val (.int ((ps.map pD).length : Nat))) = _
    rw [List.length_map]
  cases e : tupN x (ps.length : Nat) with
  | false =>
    rw [e] at ht
    have ec : chF ps x = .int (-1) := by
      cases x with
      | tuple xs =>
        simp only [tupN, decide_eq_false_iff_not] at e
        unfold chF
        dsimp only
        rw [if_neg (by omega)]
      | _ => rfl
    rw [ec]
    exact rt_if (k := true) ht (fun _ => rt_ret (pv_neg pv_int)) (fun z => nomatch z)
  | true =>
    rw [e] at ht
    obtain ⟨xs, rfl⟩ : ∃ xs, x = .tuple xs := by
      cases x <;> first | exact ⟨_, rfl⟩ | (cases e)
    have hl : xs.length = ps.length := by
      simp only [tupN, decide_eq_true_eq] at e
      omega
    have ec : chF ps (.tuple xs) = faultAt 0 ps xs := by unfold chF; dsimp only; rw [if_pos hl]
    rw [ec]
    refine rt_if (k := false) ht (fun z => nomatch z) fun _ => ?_
    obtain ⟨fl, ρ', h1, h2⟩ := fault_loop (Φ := phi P85.prog n) ps xs (fun p y hp hy => r6 p (hps p hp) y (hx xs rfl y hy) n (by omega)) ps xs 0 none none (fun _ h => h) (fun _ h => h) hl.symm (fun i y h => by rw [Nat.zero_add]; exact h)
    have hI : PI (phi P85.prog n) (.enum (.var 0)) [some (WD ps), some (.tuple xs), none, none] (enumD 0 (ps.map pD)) := pi_enum (pv_var rfl).pd rfl
    rcases h2 with ⟨e1, rfl, a, b, rfl⟩ | ⟨e1, rfl⟩
    · rw [e1]
      exact rt_loop hI h1 (rt_ret pv_non)
    · exact rt_loopR hI h1
def isCh (ps : List Part) (x : D) : Bool := isNonD (chF ps x)
theorem r8 (ps : List Part) (hps : ∀ p ∈ ps, POk p) (x : D) (hx : SmW x) : Ret 8 [WD ps, x] (.val (.bool (isCh ps x))) [] 7 := by
  refine ret_of (d := 6) rfl fun n hn => run_of rfl ?_ (fun _ z => nomatch z)
  exact rt_ret (pv_isn (ng := false) (PV.pd (pv_call (pvs_cons (pv_var rfl).pd (pvs_cons (pv_var rfl).pd pvs_nil)) (r7 ps hps x hx n (by omega)))))
end M85
set_option Elab.async false
set_option linter.all false
set_option maxRecDepth 100000
set_option maxHeartbeats 1000000
/-! U85n: equal or not. -/
namespace M85
open Vm
theorem shaped_int (i : Int) : PySem.SeqAt.shaped (.int i) = true := rfl
theorem lay_kL : ∀ c : List Nat, PySem.PyData.canLayAll0 (kL c) = true
  | [] => rfl
  | i :: c => by
    show (PySem.PyData.canLay0 (.int (i : Nat)) && PySem.PyData.canLayAll0 (kL c)) = true
    rw [lay_kL c]
    rfl
theorem lay_lD : ∀ v : W, PySem.PyData.canLayAll0 (v.map lD) = true
  | [] => rfl
  | p :: v => by
    show (PySem.PyData.canLay0 (lD p) && PySem.PyData.canLayAll0 (v.map lD)) = true
    rw [lay_lD v]
    rfl
theorem dep_kL : ∀ c : List Nat, PySem.PyData.depthAll (kL c) ≤ 1
  | [] => by simp [kL, PySem.PyData.depthAll]
  | i :: c => by
    have := dep_kL c
    show PySem.PyData.depthAll (.int (i : Nat) :: kL c) ≤ 1
    simp only [PySem.PyData.depthAll, PySem.PyData.depth]
    omega
theorem dep_lD : ∀ v : W, PySem.PyData.depthAll (v.map lD) ≤ 2
  | [] => by simp [PySem.PyData.depthAll]
  | p :: v => by
    have := dep_lD v
    show PySem.PyData.depthAll (lD p :: v.map lD) ≤ 2
    have h : (lD p).depth ≤ 2 := by simp [lD, PySem.PyData.depth, PySem.PyData.depthAll]
    simp only [PySem.PyData.depthAll]
    omega
theorem eqv_kL : ∀ a b : List Nat, PySem.PyData.eqvAll (kL a) (kL b) = decide (a = b)
  | [], [] => rfl
  | [], b :: bs => by
    show PySem.PyData.eqvAll [] (.int (b : Nat) :: kL bs) = _
    simp [PySem.PyData.eqvAll]
  | a :: as, [] => by
    show PySem.PyData.eqvAll (.int (a : Nat) :: kL as) [] = _
    simp [PySem.PyData.eqvAll]
  | a :: as, b :: bs => by
    show PySem.PyData.eqvAll (.int (a : Nat) :: kL as) (.int (b : Nat) :: kL bs) = _
    rw [PySem.PyData.eqvAll, eqv_kL as bs]
    simp only [PySem.PyData.eqv]
    by_cases h : a = b
    · subst h; simp
    · have : ¬ ((a : Int) = (b : Int)) := by omega
      simp [h, this]
theorem eqv_lD (p q : L) : PySem.PyData.eqv (lD p) (lD q) = decide (p = q) := by
  have := eq_letters p q
  have hs : (PySem.SeqAt.shaped (lD p) && PySem.SeqAt.shaped (lD q)) = true := rfl
  have e : cmpD .eq (lD p) (lD q) = some (PySem.PyData.eqv (lD p) (lD q)) := by
    show (if (PySem.SeqAt.shaped (lD p) && PySem.SeqAt.shaped (lD q)) = true then some (PySem.PyData.eqv (lD p) (lD q)) else none) = _
    rw [if_pos hs]
  exact Option.some.inj (e.symm.trans this)
theorem eqv_wL : ∀ a b : W, PySem.PyData.eqvAll (a.map lD) (b.map lD) = decide (a = b)
  | [], [] => rfl
  | [], b :: bs => by simp [PySem.PyData.eqvAll]
  | a :: as, [] => by simp [PySem.PyData.eqvAll]
  | a :: as, b :: bs => by
    rw [List.map_cons, List.map_cons, PySem.PyData.eqvAll, eqv_wL as bs, eqv_lD]
    by_cases h : a = b
    · subst h; simp
    · simp [h]
theorem dep_tup (xs : List D) : (PySem.PyData.tuple xs).depth ≤ PySem.PyData.depthAll xs + 1 := by
  simp [PySem.PyData.depth]
theorem lay_el (e : El) : PySem.PyData.canLay0 (eD e) = true := by
  cases e with
  | z i => rfl
  | k c => exact lay_kL c
  | w v => exact lay_lD v
theorem dep_el (e : El) : (eD e).depth ≤ 3 := by
  cases e with
  | z i => simp [eD, PySem.PyData.depth]
  | k c =>
    have h1 := dep_tup (kL c)
    have h2 := dep_kL c
    show (PySem.PyData.tuple (kL c)).depth ≤ 3
    omega
  | w v =>
    have h1 := dep_tup (v.map lD)
    have h2 := dep_lD v
    show (PySem.PyData.tuple (v.map lD)).depth ≤ 3
    omega
theorem shaped_el (e : El) : PySem.SeqAt.shaped (eD e) = true := by
  unfold PySem.SeqAt.shaped
  rw [lay_el, Bool.true_and, decide_eq_true]
  have := dep_el e
  omega
theorem lay_es : ∀ es : List El, PySem.PyData.canLayAll0 (es.map eD) = true
  | [] => rfl
  | e :: es => by
    show (PySem.PyData.canLay0 (eD e) && PySem.PyData.canLayAll0 (es.map eD)) = true
    rw [lay_el, lay_es es]
    rfl
theorem dep_es : ∀ es : List El, PySem.PyData.depthAll (es.map eD) ≤ 3
  | [] => by simp [PySem.PyData.depthAll]
  | e :: es => by
    have h1 := dep_es es
    have h2 := dep_el e
    show PySem.PyData.depthAll (eD e :: es.map eD) ≤ 3
    simp only [PySem.PyData.depthAll]
    omega
theorem shaped_es (es : List El) : PySem.SeqAt.shaped (ED es) = true := by
  unfold PySem.SeqAt.shaped
  rw [show PySem.PyData.canLay0 (ED es) = PySem.PyData.canLayAll0 (es.map eD) from rfl, lay_es, Bool.true_and, decide_eq_true]
  have h1 := dep_tup (es.map eD)
  have h2 := dep_es es
  show (PySem.PyData.tuple (es.map eD)).depth ≤ 64
  omega
theorem eqv_el {B C : Nat} {p : Part} {a b : El} (ha : EOk B p a) (hb : EOk C p b) : PySem.PyData.eqv (eD a) (eD b) = decide (a = b) := by
  rcases cases_ok ha with ⟨rfl, i, rfl⟩ | ⟨m, i, rfl, rfl, h1, h2⟩ | ⟨n, c, rfl, rfl, h⟩ | ⟨m, v, rfl, rfl, h1, h2, h3⟩
  · cases b <;> first | (exact absurd hb id) | skip
    rename_i j
    show (i == j) = _
    by_cases h : i = j <;> simp [h]
  · cases b <;> first | (exact absurd hb id) | skip
    rename_i j
    show (i == j) = _
    by_cases h : i = j <;> simp [h]
  · cases b <;> first | (exact absurd hb id) | skip
    rename_i d
    show PySem.PyData.eqvAll (kL c) (kL d) = _
    rw [eqv_kL]
    by_cases h : c = d <;> simp [h]
  · cases b <;> first | (exact absurd hb id) | skip
    rename_i u
    show PySem.PyData.eqvAll (v.map lD) (u.map lD) = _
    rw [eqv_wL]
    by_cases h : v = u <;> simp [h]
theorem eqv_es {B C : Nat} : ∀ {ps : List Part} {as bs : List El}, COk B ps as → COk C ps bs → PySem.PyData.eqvAll (as.map eD) (bs.map eD) = decide (as = bs)
  | [], [], [], _, _ => rfl
  | p :: ps, a :: as, b :: bs, ha, hb => by
    rw [List.map_cons, List.map_cons, PySem.PyData.eqvAll, eqv_el ha.2.1 hb.2.1, eqv_es ha.2.2 hb.2.2]
    by_cases h : a = b
    · subst h; simp
    · simp [h]
  | [], _ :: _, _, h, _ => absurd h id
  | [], [], _ :: _, _, h => absurd h id
  | _ :: _, [], _, h, _ => absurd h id
  | _ :: _, _ :: _, [], _, h => absurd h id
theorem eq_el {B C : Nat} {p : Part} {a b : El} (ha : EOk B p a) (hb : EOk C p b) : cmpD .eq (eD a) (eD b) = some (decide (a = b)) := by
  show (if (PySem.SeqAt.shaped (eD a) && PySem.SeqAt.shaped (eD b)) = true then some (PySem.PyData.eqv (eD a) (eD b)) else none) = _
  rw [shaped_el, shaped_el, if_pos (show (true && true) = true from rfl), eqv_el ha hb]
theorem ne_el {B C : Nat} {p : Part} {a b : El} (ha : EOk B p a) (hb : EOk C p b) : cmpD .ne (eD a) (eD b) = some (!decide (a = b)) := by
  show (if (PySem.SeqAt.shaped (eD a) && PySem.SeqAt.shaped (eD b)) = true then some (!PySem.PyData.eqv (eD a) (eD b)) else none) = _
  rw [shaped_el, shaped_el, if_pos (show (true && true) = true from rfl), eqv_el ha hb]
theorem eq_es {B C : Nat} {ps : List Part} {as bs : List El} (ha : COk B ps as) (hb : COk C ps bs) : cmpD .eq (ED as) (ED bs) = some (decide (as = bs)) := by
  show (if (PySem.SeqAt.shaped (ED as) && PySem.SeqAt.shaped (ED bs)) = true then some (PySem.PyData.eqv (ED as) (ED bs)) else none) = _
  rw [shaped_es, shaped_es, if_pos (show (true && true) = true from rfl)]
  show some (PySem.PyData.eqvAll (as.map eD) (bs.map eD)) = _
  rw [eqv_es ha hb]
theorem mulC_ok {B C : Nat} : ∀ {ps : List Part} {as bs : List El}, COk B ps as → COk C ps bs → COk (B + C) ps (mulC ps as bs)
  | [], [], [], _, _ => trivial
  | p :: ps, a :: as, b :: bs, ha, hb => ⟨ha.1, mul_ok ha.1 ha.2.1 hb.2.1, mulC_ok ha.2.2 hb.2.2⟩
  | [], _ :: _, _, h, _ => absurd h id
  | [], [], _ :: _, _, h => absurd h id
  | _ :: _, [], _, h, _ => absurd h id
  | _ :: _, _ :: _, [], _, h => absurd h id
end M85
set_option Elab.async false
set_option linter.all false
set_option maxRecDepth 100000
set_option maxHeartbeats 1000000
/-! U85o: what is an element by form is one; is_turner. -/
namespace M85
open Vm
theorem dedup_sub : ∀ {ns : List Int} {k : Int}, k ∈ dedup ns → k ∈ ns
  | [], _, h => h
  | x :: r, k, h => by
    unfold dedup at h
    split at h
    · exact List.mem_cons_of_mem _ (dedup_sub h)
    · rcases List.mem_cons.mp h with rfl | h
      · exact List.mem_cons_self
      · exact List.mem_cons_of_mem _ (dedup_sub h)
theorem dedup_le : ∀ ns : List Int, (dedup ns).length ≤ ns.length
  | [] => Nat.le_refl _
  | x :: r => by
    unfold dedup
    split
    · have := dedup_le r; simp only [List.length_cons]; omega
    · have := dedup_le r; simp only [List.length_cons]; omega
theorem dedup_full : ∀ {ns : List Int}, (dedup ns).length = ns.length → ns.Nodup
  | [], _ => List.nodup_nil
  | x :: r, h => by
    unfold dedup at h
    split at h
    · have := dedup_le r
      simp only [List.length_cons] at h
      omega
    · rename_i hx
      simp only [List.length_cons, Nat.add_right_cancel_iff] at h
      exact List.nodup_cons.mpr ⟨hx, dedup_full h⟩
theorem dedup_of_nd : ∀ {ns : List Int}, ns.Nodup → dedup ns = ns
  | [], _ => rfl
  | x :: r, h => by
    rw [List.nodup_cons] at h
    unfold dedup
    rw [if_neg h.1, dedup_of_nd h.2]
/-- small: tuples of at most B -/
def SmB (B : Nat) (x : D) : Prop := ∀ xs, x = .tuple xs → xs.length ≤ B
theorem isEl_ok {B : Nat} {p : Part} {x : D} (hx : SmB B x) (h : isEl p x = true) : ∃ e, x = eD e ∧ EOk B p e := by
  cases p with
  | counter =>
    cases x with
    | int i => exact ⟨.z i, rfl, trivial⟩
    | _ => cases h
  | dial m =>
    cases x with
    | int i =>
      simp only [isEl, within, Bool.and_eq_true, decide_eq_true_eq] at h
      exact ⟨.z i, rfl, h.1, by omega⟩
    | _ => cases h
  | rope m =>
    cases x with
    | tuple xs =>
      simp only [isEl, isRed, Bool.and_eq_true] at h
      obtain ⟨v, rfl, hv⟩ := pairs_of h.1
      have h2 := h.2
      rw [unD_map] at h2
      have hl := hx _ rfl
      rw [List.length_map] at hl
      exact ⟨.w v, rfl, rdB_iff.mp h2, hv, hl⟩
    | _ => cases h
  | deck n =>
    cases x with
    | tuple xs =>
      simp only [isEl, Bool.and_eq_true, decide_eq_true_eq] at h
      obtain ⟨h1, h2, h3⟩ := h
      obtain ⟨g1, g2, g3⟩ := ints_of h2
      refine ⟨.k ((xs.map asI).map Int.toNat), ?_, ?_, ?_, ?_⟩
      · have e : kL ((xs.map asI).map Int.toNat) = (xs.map asI).map .int := by
          unfold kL
          rw [List.map_map]
          refine List.map_congr_left fun i hi => ?_
          have := g3 i hi
          simp only [Function.comp, PySem.PyData.int.injEq]
          omega
        show PySem.PyData.tuple xs = .tuple (kL _)
        rw [e, ← g2]
      · simp [h1]
      · intro i hi
        obtain ⟨j, hj, rfl⟩ := List.mem_map.mp hi
        have := g3 j hj
        omega
      · refine List.pairwise_map.mpr ((dedup_full (by rw [h3, List.length_map, h1])).imp_of_mem fun {i j} hi hj ne z => ne ?_)
        have a1 := g3 i hi
        have a2 := g3 j hj
        omega
    | _ => cases h
theorem fault_none {B : Nat} : ∀ {ps : List Part} {xs : List D} {k : Nat}, (∀ p ∈ ps, POk p) → ps.length = xs.length → (∀ y ∈ xs, SmB B y) → faultAt k ps xs = .none → ∃ es, xs = es.map eD ∧ COk B ps es
  | [], [], _, _, _, _, _ => ⟨[], rfl, trivial⟩
  | [], _ :: _, _, _, h, _, _ => by simp at h
  | _ :: _, [], _, _, h, _, _ => by simp at h
  | p :: ps, x :: xs, k, hp, hl, hs, h => by
    cases e : isEl p x with
    | false => simp only [faultAt, e, Bool.false_eq_true, if_false] at h; cases h
    | true =>
      simp only [faultAt, e, if_true] at h
      obtain ⟨es, rfl, he⟩ := fault_none (fun q hq => hp q (List.mem_cons_of_mem _ hq)) (by simpa using hl) (fun y hy => hs y (List.mem_cons_of_mem _ hy)) h
      obtain ⟨e0, rfl, h0⟩ := isEl_ok (hs x List.mem_cons_self) e
      exact ⟨e0 :: es, rfl, hp p List.mem_cons_self, h0, he⟩
theorem isCh_ok {B : Nat} {ps : List Part} {x : D} (hp : ∀ p ∈ ps, POk p) (hs : ∀ xs, x = .tuple xs → ∀ y ∈ xs, SmB B y) (h : isCh ps x = true) : ∃ es, x = ED es ∧ COk B ps es := by
  unfold isCh at h
  cases x with
  | tuple xs =>
    unfold chF at h
    dsimp only at h
    split at h
    · rename_i hl
      have : faultAt 0 ps xs = .none := by
        revert h
        cases faultAt 0 ps xs <;> simp [isNonD]
      obtain ⟨es, rfl, he⟩ := fault_none hp hl.symm (hs xs rfl) this
      exact ⟨es, rfl, he⟩
    · cases h
  | _ => cases h
/-- is_turner, told of elements -/
def turns (ps : List Part) (as bs xs : List El) : Bool := decide (mulC ps as xs = mulC ps xs bs)
theorem r22 {B C : Nat} {ps : List Part} {as bs : List El} (hp : ∀ p ∈ ps, POk p) (hl : ps.length ≤ lim) (ha : COk B ps as) (hb : COk B ps bs) (x : D) (hx : ∀ xs, x = .tuple xs → ∀ y ∈ xs, SmB C y) (hC : B + C < lim) (k : Bool)
    (h0 : isCh ps x = false → k = false) (h1 : ∀ es, x = ED es → COk C ps es → k = turns ps as bs es) : Ret 22 [WD ps, ED as, ED bs, x] (.val (.bool k)) [] 8 := by
  refine ret_of (d := 7) rfl fun n hn => run_of rfl ?_ (fun _ z => nomatch z)
  have hsm : SmW x := fun xs e y hy zs ez => by
    have := hx xs e y hy zs ez
    omega
  have c8 : PV (phi P85.prog n) (.call 8 [] (.cons (.var 0) (.cons (.var 3) .nil))) [some (WD ps), some (ED as), some (ED bs), some x] (.bool (isCh ps x)) := pv_call (pvs_cons (pv_var rfl).pd (pvs_cons (pv_var rfl).pd pvs_nil)) (r8 ps hp x hsm n (by omega))
  cases e : isCh ps x with
  | false =>
    rw [e] at c8
    rw [h0 e]
    exact rt_ret (pv_and (l := false) c8 (fun z => nomatch z))
  | true =>
    rw [e] at c8
    obtain ⟨es, rfl, he⟩ := isCh_ok hp hx e
    rw [h1 es rfl he, ← Bool.true_and (turns ps as bs es)]
    refine rt_ret (pv_and c8 fun _ => pv_cmp (PV.pd (pv_call (pvs_cons (pv_var rfl).pd (pvs_cons (pv_var rfl).pd (pvs_cons (pv_var rfl).pd pvs_nil))) (r15 ha he hC hl n (by omega)))) (PV.pd (pv_call (pvs_cons (pv_var rfl).pd (pvs_cons (pv_var rfl).pd (pvs_cons (pv_var rfl).pd pvs_nil))) (r15 he hb (by omega) hl n (by omega)))) ?_)
    exact eq_es (mulC_ok ha he) (mulC_ok he hb)
end M85
set_option Elab.async false
set_option linter.all false
set_option maxRecDepth 100000
set_option maxHeartbeats 1000000
/-! U85p: the turner of a rope. -/
namespace M85
open Vm
theorem rt_asgT {Φ : Fs} {e : E} {ρ : Rho} {is : List Nat} {ds : List D} {ρ1 : Rho} {rest : Ss} {r : R} (h : PV Φ e ρ (.tuple ds)) (ha : assignG (.tup is) (.tuple ds) ρ = some ρ1) (hr : RT Φ rest ρ1 r) : RT Φ (.cons (.asg (.tup is) e) rest) ρ r := by
  unfold PV at h
  exact rt_of (by simp only [exec, h, val?, ha, bind, Option.bind]) hr
theorem shaped_w (v : W) : PySem.SeqAt.shaped (wD v) = true := shaped_el (.w v)
theorem eq_words (a b : W) : cmpD .eq (wD a) (wD b) = some (decide (a = b)) := by
  show (if (PySem.SeqAt.shaped (wD a) && PySem.SeqAt.shaped (wD b)) = true then some (PySem.PyData.eqv (wD a) (wD b)) else none) = _
  rw [shaped_w, shaped_w, if_pos (show (true && true) = true from rfl)]
  show some (PySem.PyData.eqvAll (a.map lD) (b.map lD)) = _
  rw [eqv_wL]
theorem sl_take (v : W) (k : Nat) (h : k ≤ v.length) : slD (wD v) none (some (k : Int)) = some (.val (wD (v.take k))) := by
  show some (R.val (.tuple (cutL (v.map lD) none (some (k : Int))))) = _
  rw [cut_take _ _ (by rw [List.length_map]; exact h), ← List.map_take]
  rfl
theorem sl_drop (v : W) (k : Nat) (h : k ≤ v.length) : slD (wD v) (some (k : Int)) none = some (.val (wD (v.drop k))) := by
  show some (R.val (.tuple (cutL (v.map lD) (some (k : Int)) none))) = _
  rw [cut_drop _ _ (by rw [List.length_map]; exact h), ← List.map_drop]
  rfl
/-- the turner's law -/
theorem turner_law {ta ca tb u v : W} (hc : ca = u ++ v) : red ((ta ++ (ca ++ winv ta)) ++ red (ta ++ (u ++ winv tb))) = red (red (ta ++ (u ++ winv tb)) ++ (tb ++ ((v ++ u) ++ winv tb))) := by
  rw [red_app_red, red_red_app, hc]
  have e1 : (ta ++ ((u ++ v) ++ winv ta)) ++ (ta ++ (u ++ winv tb)) = (ta ++ (u ++ v)) ++ (winv ta ++ (ta ++ (u ++ winv tb))) := by simp
  have e2 : (ta ++ (u ++ winv tb)) ++ (tb ++ ((v ++ u) ++ winv tb)) = (ta ++ u) ++ (winv tb ++ (tb ++ ((v ++ u) ++ winv tb))) := by simp
  rw [e1, e2, red_cancel', red_cancel']
  simp
end M85
set_option Elab.async false
set_option linter.all false
set_option maxRecDepth 100000
set_option maxHeartbeats 1000000
/-! U85q: rope_turner. -/
namespace M85
open Vm
theorem r18 {B : Nat} (m : Nat) (a b : W) (ha : a.length ≤ B) (hb : b.length ≤ B) (hra : Rd a) (hrb : Rd b) (hla : Lett (m : Nat) a) (hlb : Lett (m : Nat) b) (hB : 3 * B + 3 < lim) : ∃ ta ca tb cb, IsCore a ta ca ∧ IsCore b tb cb ∧
    ((Rot ca cb ∧ ∃ t, Ret 18 [pD (.rope m), wD a, wD b] (.val (wD t)) [] 4 ∧ Rd t ∧ Lett (m : Nat) t ∧ t.length ≤ 3 * B ∧ red (a ++ t) = red (t ++ b)) ∨ (¬ Rot ca cb ∧ Ret 18 [pD (.rope m), wD a, wD b] (.val .none) [] 4)) := by
  obtain ⟨ta, ca, hca, ea, ra⟩ := r11 a (by omega)
  obtain ⟨tb, cb, hcb, eb, rb⟩ := r11 b (by omega)
  refine ⟨ta, ca, tb, cb, hca, hcb, ?_⟩
  have l1 : ta.length + ca.length ≤ B := by
    have := congrArg List.length ea
    simp only [List.length_append, winv_len] at this
    omega
  have l2 : tb.length + cb.length ≤ B := by
    have := congrArg List.length eb
    simp only [List.length_append, winv_len] at this
    omega
  have c1 := fun n (hn : 2 ≤ n) => ra n hn
  have c2 := fun n (hn : 2 ≤ n) => rb n hn
  let fr : Nat → Rho := fun i => [some (pD (.rope m)), some (wD a), some (wD b), some (wD ta), some (wD ca), some (wD tb), some (wD cb), if i = 0 then none else some (.int ((i - 1 : Nat) : Int))]
  have start : ∀ n, 3 ≤ n → ∀ r, (ca.length ≠ cb.length → r = .val .none) → (ca.length = cb.length → RT (phi P85.prog n) (.cons (.loop (.name 7) (.range (.cons (.blt .max (.cons (.int 1) (.cons (.blt .len (.cons (.var 4) .nil)) .nil))) .nil)) (.cons (.ite (.ofE (.cmp .eq (.bin .add (.sl (.var 4) (.some (.var 7)) .none) (.sl (.var 4) .none (.some (.var 7)))) (.var 6))) (.cons (.ret (.call 9 [] (.cons (.bin .add (.bin .add (.var 3) (.sl (.var 4) .none (.some (.var 7)))) (.call 14 [] (.cons (.var 0) (.cons (.var 5) .nil)))) .nil))) .nil) .nil) .nil)) (.cons (.ret .non) .nil)) (fr 0) r) → (∀ i, r ≠ .slot i) → runFD (phi P85.prog n) P85.f18 [pD (.rope m), wD a, wD b] = some (r, []) := by
    intro n hn r h1 h2 h3
    refine run_of rfl ?_ h3
    refine rt_asgT (ρ1 := [some (pD (.rope m)), some (wD a), some (wD b), some (wD ta), some (wD ca), none, none, none]) (pv_call (pvs_cons (pv_var rfl).pd pvs_nil) (c1 n (by omega))) rfl ?_
    refine rt_asgT (ρ1 := fr 0) (pv_call (pvs_cons (pv_var rfl).pd pvs_nil) (c2 n (by omega))) rfl ?_
    have hla : PV (phi P85.prog n) (.blt .len (.cons (.var 4) .nil)) (fr 0) (.int (ca.length : Nat)) := pv_blt (pvs_cons (pv_var rfl).pd pvs_nil) (by show some (R.val (.int ((ca.map lD).length : Nat))) = _; rw [List.length_map])
    have hlb : PV (phi P85.prog n) (.blt .len (.cons (.var 6) .nil)) (fr 0) (.int (cb.length : Nat)) := pv_blt (pvs_cons (pv_var rfl).pd pvs_nil) (by show some (R.val (.int ((cb.map lD).length : Nat))) = _; rw [List.length_map])
    refine rt_if (pt_b (pv_cmp hla.pd hlb.pd (ne_ints _ _))) (fun h => ?_) (fun h => h2 ?_)
    · rw [h1 (by have := of_decide_eq_true h; omega)]
      exact rt_ret pv_non
    · have := of_decide_eq_false h
      omega
  -- the loop's turns
  let p : Nat → Bool := fun k => decide (ca.drop k ++ ca.take k = cb)
  let tw : Nat → W := fun k => ta ++ (ca.take k ++ winv tb)
  have turn : ∀ n, 3 ≤ n → ((∀ i, i < max 1 ca.length → p i = false) ∧ forLoop (fun r => execs (phi P85.prog n) (.cons (.ite (.ofE (.cmp .eq (.bin .add (.sl (.var 4) (.some (.var 7)) .none) (.sl (.var 4) .none (.some (.var 7)))) (.var 6))) (.cons (.ret (.call 9 [] (.cons (.bin .add (.bin .add (.var 3) (.sl (.var 4) .none (.some (.var 7)))) (.call 14 [] (.cons (.var 0) (.cons (.var 5) .nil)))) .nil))) .nil) .nil) .nil) r) (.name 7) (rangeD 0 (max 1 ca.length)) (fr 0) = some (.nx, fr (max 1 ca.length))) ∨
      ∃ i ρ2, i < max 1 ca.length ∧ p i = true ∧ (∀ j, j < i → p j = false) ∧ forLoop (fun r => execs (phi P85.prog n) (.cons (.ite (.ofE (.cmp .eq (.bin .add (.sl (.var 4) (.some (.var 7)) .none) (.sl (.var 4) .none (.some (.var 7)))) (.var 6))) (.cons (.ret (.call 9 [] (.cons (.bin .add (.bin .add (.var 3) (.sl (.var 4) .none (.some (.var 7)))) (.call 14 [] (.cons (.var 0) (.cons (.var 5) .nil)))) .nil))) .nil) .nil) .nil) r) (.name 7) (rangeD 0 (max 1 ca.length)) (fr 0) = some (.rt (.val (wD (red (tw i)))), ρ2) := by
    intro n hn
    have := for_first (f := fun r => execs (phi P85.prog n) (.cons (.ite (.ofE (.cmp .eq (.bin .add (.sl (.var 4) (.some (.var 7)) .none) (.sl (.var 4) .none (.some (.var 7)))) (.var 6))) (.cons (.ret (.call 9 [] (.cons (.bin .add (.bin .add (.var 3) (.sl (.var 4) .none (.some (.var 7)))) (.call 14 [] (.cons (.var 0) (.cons (.var 5) .nil)))) .nil))) .nil) .nil) .nil) r) (g := .name 7) fr p (fun k => .val (wD (red (tw k)))) (rangeD 0 (max 1 ca.length)) 0 fun i d hd => by
      have hi := (List.getElem?_eq_some_iff.mp hd).1
      rw [rangeD_len] at hi
      have ed : d = .int (i : Nat) := by
        unfold rangeD at hd
        rw [List.getElem?_map, List.getElem?_range hi] at hd
        simpa using hd.symm
      subst ed
      rw [Nat.zero_add]
      have hk : i ≤ ca.length := by omega
      have v4 : PV (phi P85.prog n) (.var 4) (fr (i + 1)) (wD ca) := pv_var rfl
      have v7 : PV (phi P85.prog n) (.var 7) (fr (i + 1)) (.int (i : Nat)) := pv_var rfl
      have sd : PV (phi P85.prog n) (.sl (.var 4) (.some (.var 7)) .none) (fr (i + 1)) (wD (ca.drop i)) := pd_sl v4.pd (pob_some v7) pob_none (sl_drop ca i hk)
      have st : PV (phi P85.prog n) (.sl (.var 4) .none (.some (.var 7))) (fr (i + 1)) (wD (ca.take i)) := pd_sl v4.pd pob_none (pob_some v7) (sl_take ca i hk)
      have hc : PT (phi P85.prog n) (.ofE (.cmp .eq (.bin .add (.sl (.var 4) (.some (.var 7)) .none) (.sl (.var 4) .none (.some (.var 7)))) (.var 6))) (fr (i + 1)) (p i) := pt_b (pv_cmp (PV.pd (pv_bin sd.pd st.pd (add_words _ _ (by simp only [List.length_drop, List.length_take]; omega)))) (pv_var rfl).pd (eq_words _ _))
      refine ⟨fr (i + 1), ?_, fun h => ?_, fun h => ?_⟩
      · simp [assignG, fr]
      · rw [h] at hc
        exact bx_cons (sx_ite (k := false) hc (fun z => nomatch z) fun _ => bx_nil) bx_nil
      · rw [h] at hc
        have e : tw i = (ta ++ ca.take i) ++ winv tb := by simp [tw]
        rw [e]
        exact rt_if (k := true) hc (fun _ => rt_ret (pv_call (pvs_cons (PV.pd (pv_bin (PV.pd (pv_bin (pv_var rfl).pd st.pd (add_words _ _ (by simp only [List.length_take]; omega)))) (PV.pd (pv_call (pvs_cons (pv_var rfl).pd (pvs_cons (pv_var rfl).pd pvs_nil)) (r14 m tb (by omega) n (by omega)))) (add_words _ _ (by simp only [List.length_append, List.length_take, winv_len]; omega)))) pvs_nil) (r9 _ (by simp only [List.length_append, List.length_take, winv_len]; omega) n (by omega)))) (fun z => nomatch z)
    simpa only [Nat.zero_add, rangeD_len] using this
  have hrange : ∀ n, PI (phi P85.prog n) (.range (.cons (.blt .max (.cons (.int 1) (.cons (.blt .len (.cons (.var 4) .nil)) .nil))) .nil)) (fr 0) (rangeD 0 (max 1 ca.length)) := fun n => by
    have hl : PV (phi P85.prog n) (.blt .len (.cons (.var 4) .nil)) (fr 0) (.int (ca.length : Nat)) := pv_blt (pvs_cons (pv_var rfl).pd pvs_nil) (by show some (R.val (.int ((ca.map lD).length : Nat))) = _; rw [List.length_map])
    have hm : PV (phi P85.prog n) (.blt .max (.cons (.int 1) (.cons (.blt .len (.cons (.var 4) .nil)) .nil))) (fr 0) (.int ((max 1 ca.length : Nat) : Int)) := pv_blt (pvs_cons pv_int.pd (pvs_cons hl.pd pvs_nil)) (by
      show some (R.val (.int (if ((ca.length : Nat) : Int) > 1 then ((ca.length : Nat) : Int) else 1))) = _
      congr 3
      split <;> omega)
    have := pi_range1 hm (small_nat (by omega))
    rwa [Int.toNat_natCast] at this
  have p_rot : ∀ i, p i = true → Rot ca cb := fun i h => by
    have e := of_decide_eq_true h
    exact ⟨ca.take i, ca.drop i, (List.take_append_drop i ca).symm, e.symm⟩
  by_cases hR : Rot ca cb
  · obtain ⟨k, hk, ek⟩ := rot_of hR
    have hkm : k < max 1 ca.length := by omega
    have hpk : p k = true := decide_eq_true ek.symm
    obtain ⟨i, h1, h2, h3⟩ : ∃ i, i < max 1 ca.length ∧ p i = true ∧ ∀ j, j < i → p j = false := by
      rcases turn 3 (by omega) with ⟨z, _⟩ | ⟨i, _, h1, h2, h3, _⟩
      · rw [z k hkm] at hpk; cases hpk
      · exact ⟨i, h1, h2, h3⟩
    refine .inl ⟨hR, red (tw i), ret_of (d := 3) rfl fun n hn => start n hn _ (fun z => absurd hR.len z) (fun _ => ?_) (fun _ z => nomatch z), red_rd _, ?_, ?_, ?_⟩
    · rcases turn n hn with ⟨z, _⟩ | ⟨i', ρ2, g1, g2, g3, g4⟩
      · rw [z k hkm] at hpk; cases hpk
      · have : i' = i := by
          rcases Nat.lt_trichotomy i' i with q | q | q
          · rw [h3 i' q] at g2; cases g2
          · exact q
          · rw [g3 i q] at h2; cases h2
        subst this
        exact rt_loopR (hrange n) g4
    · have la : Lett (m : Nat) ta := fun q hq => hla q (by rw [ea]; exact List.mem_append_left _ hq)
      have lc : Lett (m : Nat) ca := fun q hq => hla q (by rw [ea]; exact List.mem_append_right _ (List.mem_append_left _ hq))
      have lb : Lett (m : Nat) tb := fun q hq => hlb q (by rw [eb]; exact List.mem_append_left _ hq)
      exact lett_red (lett_app la (lett_app (fun q hq => lc q (List.mem_of_mem_take hq)) (lett_winv lb)))
    · have := red_len (tw i)
      have e : (tw i).length ≤ 3 * B := by
        simp only [tw, List.length_append, List.length_take, winv_len]
        omega
      omega
    · have e := of_decide_eq_true h2
      have tl := turner_law (ta := ta) (tb := tb) (ca := ca) (u := ca.take i) (v := ca.drop i) (List.take_append_drop i ca).symm
      rw [ea, eb, ← e]
      exact tl
  · refine .inr ⟨hR, ret_of (d := 3) rfl fun n hn => start n hn _ (fun _ => rfl) (fun _ => ?_) (fun _ z => nomatch z)⟩
    rcases turn n hn with ⟨_, z⟩ | ⟨i', ρ2, g1, g2, g3, g4⟩
    · exact rt_loop (hrange n) z (rt_ret pv_non)
    · exact absurd (p_rot i' g2) hR
end M85
set_option Elab.async false
set_option linter.all false
set_option maxRecDepth 100000
set_option maxHeartbeats 1000000
/-! M85d: the rounds of a deck, plain. -/
namespace M85
open Vm
/-- k steps from i -/
def it (c : List Nat) : Nat → Nat → Nat
  | 0, i => i
  | k + 1, i => c.getD (it c k i) 0
theorem it_lt {n : Nat} {c : List Nat} (h : Deck n c) {i : Nat} (hi : i < n) : ∀ k, it c k i < n
  | 0 => hi
  | k + 1 => h.lt _ (getD_mem (by rw [h.len]; exact it_lt h hi k))
theorem it_add (c : List Nat) (i j : Nat) : ∀ k, it c (k + j) i = it c k (it c j i)
  | 0 => by rw [Nat.zero_add]; rfl
  | k + 1 => by
    rw [show k + 1 + j = (k + j) + 1 by omega]
    show c.getD (it c (k + j) i) 0 = c.getD (it c k (it c j i)) 0
    rw [it_add c i j k]
theorem it_inj {n : Nat} {c : List Nat} (h : Deck n c) {i j : Nat} (hi : i < n) (hj : j < n) : ∀ k, it c k i = it c k j → i = j
  | 0, e => e
  | k + 1, e => it_inj h hi hj k (getD_inj h.nd (by rw [h.len]; exact it_lt h hi k) (by rw [h.len]; exact it_lt h hj k) e)
/-- the least number of steps above 0 that leads back -/
def per (c : List Nat) (i : Nat) : Nat := (List.range c.length).findIdx (fun k => it c (k + 1) i == i) + 1
section
variable {n : Nat} {c : List Nat} {i : Nat}
theorem per_ex (h : Deck n c) (hi : i < n) : ∃ k, k < n ∧ it c (k + 1) i = i := by
  apply Classical.byContradiction
  intro hn
  have nd : ((List.range (n + 1)).map fun k => it c k i).Nodup := by
    refine List.pairwise_map.mpr ((List.pairwise_lt_range).imp_of_mem fun {a b} ha hb hlt e => hn ?_)
    have hb' := List.mem_range.mp hb
    refine ⟨b - a - 1, by omega, ?_⟩
    rw [show b = a + (b - a) by omega, it_add] at e
    have := it_inj h hi (it_lt h hi (b - a)) a e
    rw [show b - a - 1 + 1 = b - a by omega]
    exact this.symm
  have := nodup_len _ (List.range n) nd fun x hx => by
    obtain ⟨k, _, rfl⟩ := List.mem_map.mp hx
    exact List.mem_range.mpr (it_lt h hi k)
  simp only [List.length_map, List.length_range] at this
  omega
theorem per_pos : 1 ≤ per c i := Nat.succ_le_succ (Nat.zero_le _)
theorem per_lt (h : Deck n c) (hi : i < n) : (List.range c.length).findIdx (fun k => it c (k + 1) i == i) < (List.range c.length).length := by
  obtain ⟨k, hk, e⟩ := per_ex h hi
  exact List.findIdx_lt_length_of_exists ⟨k, List.mem_range.mpr (by rw [h.len]; exact hk), by rw [e]; exact beq_self_eq_true i⟩
theorem per_le (h : Deck n c) (hi : i < n) : per c i ≤ n := by
  have := per_lt h hi
  rw [List.length_range] at this
  unfold per
  rw [← h.len]
  exact this
theorem per_back (h : Deck n c) (hi : i < n) : it c (per c i) i = i := by
  have := List.findIdx_getElem (w := per_lt h hi)
  rw [List.getElem_range] at this
  exact eq_of_beq this
theorem per_min {k : Nat} (h0 : 0 < k) (hk : k < per c i) : it c k i ≠ i := fun e => by
  unfold per at hk
  have hk' : k - 1 < (List.range c.length).findIdx (fun k => it c (k + 1) i == i) := by omega
  have := List.not_of_lt_findIdx hk'
  rw [List.getElem_range, show k - 1 + 1 = k by omega, e] at this
  simp at this
theorem it_mul (h : Deck n c) (hi : i < n) : ∀ m, it c (per c i * m) i = i
  | 0 => rfl
  | m + 1 => by rw [Nat.mul_succ, it_add, per_back h hi, it_mul h hi m]
theorem it_mod (h : Deck n c) (hi : i < n) (k : Nat) : it c (k % per c i) i = it c k i := by
  have e : k % per c i + per c i * (k / per c i) = k := Nat.mod_add_div k (per c i)
  have := it_add c i (per c i * (k / per c i)) (k % per c i)
  rw [e, it_mul h hi] at this
  exact this.symm
def lap (c : List Nat) (i : Nat) : List Nat := (List.range (per c i)).map fun k => it c k i
theorem lap_len : (lap c i).length = per c i := by simp [lap]
theorem lap_get {k : Nat} (hk : k < per c i) : (lap c i)[k]? = some (it c k i) := by
  unfold lap
  rw [List.getElem?_map, List.getElem?_range hk]
  rfl
theorem lap_mem (h : Deck n c) (hi : i < n) {j : Nat} : j ∈ lap c i ↔ ∃ k, it c k i = j := by
  constructor
  · intro hj
    obtain ⟨k, _, e⟩ := List.mem_map.mp hj
    exact ⟨k, e⟩
  · rintro ⟨k, e⟩
    refine List.mem_map.mpr ⟨k % per c i, List.mem_range.mpr (Nat.mod_lt _ per_pos), ?_⟩
    rw [it_mod h hi]
    exact e
theorem lap_lt (h : Deck n c) (hi : i < n) {j : Nat} (hj : j ∈ lap c i) : j < n := by
  obtain ⟨k, e⟩ := (lap_mem h hi).mp hj
  rw [← e]; exact it_lt h hi k
theorem lap_self : i ∈ lap c i := List.mem_map.mpr ⟨0, List.mem_range.mpr per_pos, rfl⟩
theorem lap_nd (h : Deck n c) (hi : i < n) : (lap c i).Nodup := by
  unfold lap
  refine List.pairwise_map.mpr ((List.pairwise_lt_range).imp_of_mem fun {a b} ha hb hlt e => ?_)
  have hb' := List.mem_range.mp hb
  rw [show b = a + (b - a) by omega, it_add] at e
  have := it_inj h hi (it_lt h hi (b - a)) a e
  exact per_min (c := c) (i := i) (k := b - a) (by omega) (by omega) this.symm
theorem lap_sym (h : Deck n c) (hi : i < n) {j : Nat} (hj : j ∈ lap c i) : i ∈ lap c j := by
  have hl := lap_lt h hi hj
  obtain ⟨k, e⟩ := (lap_mem h hi).mp hj
  refine (lap_mem h hl).mpr ⟨per c i * (k + 1) - k, ?_⟩
  rw [← e, ← it_add, show per c i * (k + 1) - k + k = per c i * (k + 1) by
    have : 1 * (k + 1) ≤ per c i * (k + 1) := Nat.mul_le_mul_right _ per_pos
    omega, it_mul h hi]
theorem lap_trans (h : Deck n c) (hi : i < n) {j k : Nat} (hj : j ∈ lap c i) (hk : k ∈ lap c j) : k ∈ lap c i := by
  have hl := lap_lt h hi hj
  obtain ⟨a, e⟩ := (lap_mem h hi).mp hj
  obtain ⟨b, e2⟩ := (lap_mem h hl).mp hk
  exact (lap_mem h hi).mpr ⟨b + a, by rw [it_add, e, e2]⟩
/-- whether it is the least of its round -/
def led (c : List Nat) (i : Nat) : Bool := (lap c i).all fun j => decide (i ≤ j)
theorem led_iff (h : Deck n c) (hi : i < n) : led c i = true ↔ ∀ j, j < i → i ∉ lap c j := by
  unfold led
  rw [List.all_eq_true]
  constructor
  · intro hh j hj hm
    have := hh j (lap_sym h (by omega) hm)
    have := of_decide_eq_true this
    omega
  · intro hh j hj
    refine decide_eq_true ?_
    apply Classical.byContradiction
    intro hn
    exact hh j (by omega) (lap_sym h hi hj)
/-- the least ones of all rounds up to m -/
def leds (c : List Nat) (m : Nat) : List Nat := (List.range m).filter (led c)
theorem leds_succ (m : Nat) : leds c (m + 1) = leds c m ++ if led c m then [m] else [] := by
  unfold leds
  rw [List.range_succ, List.filter_append]
  congr 1
  simp only [List.filter_cons, List.filter_nil]
theorem leds_mem {m j : Nat} : j ∈ leds c m ↔ j < m ∧ led c j = true := by
  unfold leds
  rw [List.mem_filter, List.mem_range]
/-- each one is in the round of a least one -/
theorem leds_cover (h : Deck n c) : ∀ i, i < n → ∃ j, j ≤ i ∧ led c j = true ∧ i ∈ lap c j := by
  intro i
  induction i using Nat.strongRecOn with
  | _ i ih =>
    intro hi
    cases e : led c i with
    | true => exact ⟨i, Nat.le_refl _, e, lap_self⟩
    | false =>
      have : ∃ j, j < i ∧ i ∈ lap c j := by
        apply Classical.byContradiction
        intro hn
        have := (led_iff h hi).mpr fun j hj hm => hn ⟨j, hj, hm⟩
        rw [e] at this; cases this
      obtain ⟨j, hj, hm⟩ := this
      obtain ⟨k, h1, h2, h3⟩ := ih j hj (by omega)
      exact ⟨k, by omega, h2, lap_trans h (by omega) h3 hm⟩
/-- the rounds that are gathered cover what was met -/
theorem cover_iff (h : Deck n c) {m j : Nat} (hm : m ≤ n) : (∃ i, i < m ∧ j ∈ lap c i) ↔ ∃ i, i ∈ leds c m ∧ j ∈ lap c i := by
  constructor
  · rintro ⟨i, hi, hj⟩
    obtain ⟨k, h1, h2, h3⟩ := leds_cover h i (by omega)
    exact ⟨k, leds_mem.mpr ⟨by omega, h2⟩, lap_trans h (by omega) h3 hj⟩
  · rintro ⟨i, hi, hj⟩
    exact ⟨i, (leds_mem.mp hi).1, hj⟩
end
/-! ### rounds as lists -/
def Round (c m : List Nat) : Prop := ∀ (j x : Nat), m[j]? = some x → m[(j + 1) % m.length]? = some (c.getD x 0)
theorem lap_round {n : Nat} {c : List Nat} (h : Deck n c) {i : Nat} (hi : i < n) : Round c (lap c i) := fun j x hx => by
  have hj : j < per c i := by
    have := (List.getElem?_eq_some_iff.mp hx).1
    rwa [lap_len] at this
  rw [lap_get hj] at hx
  cases hx
  rw [lap_len, lap_get (Nat.mod_lt _ per_pos), it_mod h hi]
  rfl
/-- rounds of equal lengths lead on alike -/
theorem next_q (one other : List Nat) : ∀ (ms ys : List (List Nat)), ms.map List.length = ys.map List.length → (∀ m ∈ ms, Round one m) → (∀ y ∈ ys, Round other y) → ∀ (q a b : Nat), ms.flatten[q]? = some a → ys.flatten[q]? = some b → ∃ q' : Nat, ms.flatten[q']? = some (one.getD a 0) ∧ ys.flatten[q']? = some (other.getD b 0)
  | [], _, _, _, _, q, a, b, ha, _ => by simp at ha
  | m :: ms, [], e, _, _, _, _, _, _, _ => by simp at e
  | m :: ms, y :: ys, e, h1, h2, q, a, b, ha, hb => by
    simp only [List.map_cons, List.cons.injEq] at e
    rw [List.flatten_cons] at ha hb ⊢
    rw [List.flatten_cons]
    by_cases hq : q < m.length
    · rw [List.getElem?_append_left hq] at ha
      rw [List.getElem?_append_left (by omega)] at hb
      have r1 := h1 m List.mem_cons_self q a ha
      have r2 := h2 y List.mem_cons_self q b hb
      have hm : (q + 1) % m.length < m.length := Nat.mod_lt _ (by omega)
      refine ⟨(q + 1) % m.length, ?_, ?_⟩
      · rw [List.getElem?_append_left hm]; exact r1
      · rw [List.getElem?_append_left (by omega), e.1]; exact r2
    · rw [List.getElem?_append_right (by omega)] at ha hb
      rw [← e.1] at hb
      obtain ⟨q', g1, g2⟩ := next_q one other ms ys e.2 (fun x hx => h1 x (List.mem_cons_of_mem _ hx)) (fun x hx => h2 x (List.mem_cons_of_mem _ hx)) (q - m.length) a b ha hb
      refine ⟨q' + m.length, ?_, ?_⟩
      · rw [List.getElem?_append_right (by omega), Nat.add_sub_cancel]; exact g1
      · rw [List.getElem?_append_right (by omega), ← e.1, Nat.add_sub_cancel]; exact g2
/-! ### all rounds of a deck -/
def mov (c : List Nat) (m : Nat) : List (List Nat) := ((leds c m).filter fun i => decide (1 < per c i)).map (lap c)
def fixd (c : List Nat) : List Nat := (List.range c.length).filter fun i => decide (c.getD i 0 = i)
def rnds (c : List Nat) : List (List Nat) := mov c c.length ++ (fixd c).map fun i => [i]
section
variable {n : Nat} {c : List Nat}
theorem per_one (h : Deck n c) {i : Nat} (hi : i < n) : per c i = 1 ↔ c.getD i 0 = i := by
  constructor
  · intro e
    have := per_back h hi
    rw [e] at this
    exact this
  · intro e
    apply Classical.byContradiction
    intro hn
    have hp := per_pos (c := c) (i := i)
    exact per_min (c := c) (i := i) (k := 1) (by omega) (by omega) e
theorem led_fix (h : Deck n c) {i : Nat} (hi : i < n) (e : per c i = 1) : led c i = true := by
  unfold led
  rw [List.all_eq_true]
  intro j hj
  unfold lap at hj
  rw [e] at hj
  simp only [List.range_one, List.map_cons, List.map_nil, List.mem_singleton] at hj
  subst hj
  exact decide_eq_true (Nat.le_refl _)
theorem lap_fix {i : Nat} (e : per c i = 1) : lap c i = [i] := by
  unfold lap
  rw [e]
  rfl
theorem fixd_eq (h : Deck n c) : fixd c = (leds c n).filter fun i => decide (per c i = 1) := by
  unfold fixd leds
  rw [List.filter_filter, h.len]
  refine List.filter_congr fun i hi => ?_
  have hi := List.mem_range.mp hi
  by_cases e : per c i = 1
  · rw [decide_eq_true e, decide_eq_true ((per_one h hi).mp e), led_fix h hi e]
    rfl
  · rw [decide_eq_false e, decide_eq_false (fun z => e ((per_one h hi).mpr z)), Bool.false_and]
theorem rnds_eq (h : Deck n c) : rnds c = ((leds c n).filter fun i => decide (1 < per c i)).map (lap c) ++ ((leds c n).filter fun i => decide (per c i = 1)).map (lap c) := by
  unfold rnds mov
  rw [fixd_eq h, h.len]
  congr 1
  refine List.map_congr_left fun i hi => ?_
  have := of_decide_eq_true (List.mem_filter.mp hi).2
  exact (lap_fix this).symm
theorem rnds_perm (h : Deck n c) : (rnds c).Perm ((leds c n).map (lap c)) := by
  rw [rnds_eq h, ← List.map_append]
  refine List.Perm.map _ ?_
  have e : ((leds c n).filter fun i => decide (per c i = 1)) = (leds c n).filter fun i => !decide (1 < per c i) := by
    refine List.filter_congr fun i _ => ?_
    have := per_pos (c := c) (i := i)
    by_cases e : per c i = 1
    · rw [decide_eq_true e, decide_eq_false (by omega)]; rfl
    · rw [decide_eq_false e, decide_eq_true (by omega)]; rfl
  rw [e]
  exact List.filter_append_perm _ _
theorem flat_deck (h : Deck n c) : Deck n ((leds c n).map (lap c)).flatten := by
  have hm : ∀ x, x ∈ ((leds c n).map (lap c)).flatten ↔ x < n := fun x => by
    rw [List.mem_flatten]
    constructor
    · rintro ⟨l, hl, hx⟩
      obtain ⟨i, hi, rfl⟩ := List.mem_map.mp hl
      exact lap_lt h (leds_mem.mp hi).1 hx
    · intro hx
      obtain ⟨j, h1, h2, h3⟩ := leds_cover h x hx
      exact ⟨lap c j, List.mem_map.mpr ⟨j, leds_mem.mpr ⟨by omega, h2⟩, rfl⟩, h3⟩
  have nd : ((leds c n).map (lap c)).flatten.Nodup := by
    refine List.pairwise_flatten.mpr ⟨fun l hl => ?_, List.pairwise_map.mpr ?_⟩
    · obtain ⟨i, hi, rfl⟩ := List.mem_map.mp hl
      exact lap_nd h (leds_mem.mp hi).1
    · have hs : (leds c n).Pairwise (· < ·) := List.Pairwise.filter _ List.pairwise_lt_range
      refine hs.imp_of_mem fun {a b} ha hb hlt x hx y hy z => ?_
      subst z
      have ha' := leds_mem.mp ha
      have hb' := leds_mem.mp hb
      exact (led_iff h hb'.1).mp hb'.2 a hlt (lap_trans h ha'.1 hx (lap_sym h hb'.1 hy))
  refine ⟨?_, fun i hi => (hm i).mp hi, nd⟩
  have l1 := nodup_len _ (List.range n) nd fun x hx => List.mem_range.mpr ((hm x).mp hx)
  have l2 := nodup_len (List.range n) ((leds c n).map (lap c)).flatten List.nodup_range fun x hx => (hm x).mpr (List.mem_range.mp hx)
  simp only [List.length_range] at l1 l2
  omega
theorem deck_perm {a b : List Nat} (h : Deck n a) (p : a.Perm b) : Deck n b :=
  ⟨by rw [← p.length_eq]; exact h.len, fun i hi => h.lt i (p.mem_iff.mpr hi), p.nodup_iff.mp h.nd⟩
/-- sorted by lengths -/
def srt (ls : List (List Nat)) : List (List Nat) := ls.mergeSort fun a b => decide (a.length ≤ b.length)
def ar (c : List Nat) : List (List Nat) := srt (rnds c)
theorem ar_perm (h : Deck n c) : (ar c).Perm ((leds c n).map (lap c)) := (List.mergeSort_perm _ _).trans (rnds_perm h)
theorem ar_deck (h : Deck n c) : Deck n (ar c).flatten := deck_perm (flat_deck h) (ar_perm h).flatten.symm
theorem ar_round (h : Deck n c) : ∀ m ∈ ar c, Round c m := fun m hm => by
  obtain ⟨i, hi, rfl⟩ := List.mem_map.mp ((ar_perm h).mem_iff.mp hm)
  exact lap_round h (leds_mem.mp hi).1
theorem ar_pos (h : Deck n c) : ∀ m ∈ ar c, 1 ≤ m.length := fun m hm => by
  obtain ⟨i, hi, rfl⟩ := List.mem_map.mp ((ar_perm h).mem_iff.mp hm)
  rw [lap_len]
  exact per_pos
/-- the law's lengths -/
def lens (c : List Nat) : List Nat := ((leds c c.length).map (per c)).mergeSort fun a b => decide (a ≤ b)
theorem sorted_unique {a b : List Nat} (p : a.Perm b) (ha : a.Pairwise (· ≤ ·)) (hb : b.Pairwise (· ≤ ·)) : a = b :=
  List.Perm.eq_of_pairwise (fun a b _ _ h1 h2 => Nat.le_antisymm h1 h2) ha hb p
theorem sort_nat (l : List Nat) : (l.mergeSort fun a b => decide (a ≤ b)).Pairwise (· ≤ ·) := by
  have := List.pairwise_mergeSort (le := fun a b : Nat => decide (a ≤ b)) (fun a b c h1 h2 => decide_eq_true (Nat.le_trans (of_decide_eq_true h1) (of_decide_eq_true h2))) (fun a b => by
    rcases Nat.le_total a b with h | h
    · rw [decide_eq_true h]; rfl
    · rw [decide_eq_true h, Bool.or_true]) l
  exact this.imp fun h => of_decide_eq_true h
theorem ar_lens (h : Deck n c) : (ar c).map List.length = lens c := by
  refine sorted_unique ?_ ?_ (sort_nat _)
  · refine ((ar_perm h).map List.length).trans ?_
    rw [List.map_map]
    have e : (List.length ∘ lap c) = per c := funext fun i => lap_len
    rw [e, ← h.len]
    exact (List.mergeSort_perm _ _).symm
  · refine List.pairwise_map.mpr ?_
    have := List.pairwise_mergeSort (le := fun a b : List Nat => decide (a.length ≤ b.length)) (fun a b c h1 h2 => decide_eq_true (Nat.le_trans (of_decide_eq_true h1) (of_decide_eq_true h2))) (fun a b => by
      rcases Nat.le_total a.length b.length with h | h
      · rw [decide_eq_true h]; rfl
      · rw [decide_eq_true h, Bool.or_true]) (rnds c)
    exact this.imp fun h => of_decide_eq_true h
end
/-! ### the first deck that has rounds of given lengths -/
def canon : Nat → List Nat → List Nat
  | _, [] => []
  | o, l :: ls => (List.range (l - 1)).map (fun k => o + k + 1) ++ (o :: canon (o + l) ls)
theorem canon_len : ∀ (ls : List Nat) (o : Nat), (∀ l ∈ ls, 1 ≤ l) → (canon o ls).length = ls.sum
  | [], _, _ => rfl
  | l :: ls, o, h => by
    have := h l List.mem_cons_self
    simp only [canon, List.length_append, List.length_map, List.length_range, List.length_cons, List.sum_cons, canon_len ls (o + l) fun x hx => h x (List.mem_cons_of_mem _ hx)]
    omega
theorem canon_head (o l : Nat) (ls : List Nat) (h : 1 ≤ l) : (canon o (l :: ls))[l - 1]? = some o := by
  simp only [canon]
  rw [List.getElem?_append_right (by simp), List.length_map, List.length_range, Nat.sub_self]
  rfl
theorem canon_in (o l : Nat) (ls : List Nat) {k : Nat} (h : k < l - 1) : (canon o (l :: ls))[k]? = some (o + k + 1) := by
  simp only [canon]
  rw [List.getElem?_append_left (by simpa using h), List.getElem?_map, List.getElem?_range h]
  rfl
theorem canon_inj : ∀ (ls ls' : List Nat) (o : Nat), (∀ l ∈ ls, 1 ≤ l) → (∀ l ∈ ls', 1 ≤ l) → canon o ls = canon o ls' → ls = ls'
  | [], [], _, _, _, _ => rfl
  | [], l :: ls, o, _, h', e => by
    have := congrArg List.length e
    simp [canon] at this
  | l :: ls, [], o, h, _, e => by
    have := congrArg List.length e
    simp [canon] at this
  | l :: ls, l' :: ls', o, h, h', e => by
    have p := h l List.mem_cons_self
    have p' := h' l' List.mem_cons_self
    have el : l = l' := by
      rcases Nat.lt_trichotomy l l' with q | q | q
      · have e1 := canon_head o l ls p
        rw [e, canon_in o l' ls' (by omega)] at e1
        have := Option.some.inj e1
        omega
      · exact q
      · have e1 := canon_head o l' ls' p'
        rw [← e, canon_in o l ls (by omega)] at e1
        have := Option.some.inj e1
        omega
    subst el
    simp only [canon] at e
    have e2 := List.append_cancel_left e
    injection e2 with _ e3
    rw [canon_inj ls ls' (o + l) (fun x hx => h x (List.mem_cons_of_mem _ hx)) (fun x hx => h' x (List.mem_cons_of_mem _ hx)) e3]
end M85
set_option Elab.async false
set_option linter.all false
set_option maxRecDepth 100000
set_option maxHeartbeats 1000000
/-! U85r: deck_rounds. -/
namespace M85
open Vm
theorem rangeD_at {n i : Nat} {d : D} (h : (rangeD 0 n)[i]? = some d) : i < n ∧ d = .int (i : Nat) := by
  have hi := (List.getElem?_eq_some_iff.mp h).1
  rw [rangeD_len] at hi
  refine ⟨hi, ?_⟩
  unfold rangeD at h
  rw [List.getElem?_map, List.getElem?_range hi] at h
  simpa using h.symm
theorem pv_lenk {Φ : Fs} {ρ : Rho} {i : Nat} {c : List Nat} (h : ρ[i]? = some (some (kD c))) : PV Φ (.blt .len (.cons (.var i) .nil)) ρ (.int (c.length : Nat)) := pv_blt (pvs_cons (pv_var h).pd pvs_nil) (by
  show some (R.val (.int ((kL c).length : Nat))) = _
  unfold kL
  rw [List.length_map])
/-- the first j + 1 steps -/
def stps (c : List Nat) (i j : Nat) : List D := kL ((List.range (j + 1)).map fun k => it c k i)
theorem stps_succ (c : List Nat) (i j : Nat) : stps c i j = kL ((List.range j).map fun k => it c k i) ++ [.int (it c j i : Nat)] := by
  unfold stps kL
  rw [List.range_succ, List.map_append, List.map_append]
  rfl
theorem stps_last (c : List Nat) (i j : Nat) : L2.atI (stps c i j) (-1) = some (.int (it c j i : Nat)) := by
  rw [stps_succ]
  exact at_last
theorem stps_app (c : List Nat) (i j : Nat) : stps c i j ++ [.int (it c (j + 1) i : Nat)] = stps c i (j + 1) := by
  rw [stps_succ c i (j + 1)]
  rfl
theorem stps_lap (c : List Nat) (i : Nat) : stps c i (per c i - 1) = kL (lap c i) := by
  unfold stps lap
  rw [show per c i - 1 + 1 = per c i by have := per_pos (c := c) (i := i); omega]
theorem po_dict0 {Φ : Fs} {ρ : Rho} : PO Φ .dict0 ρ (.dict []) := rfl
theorem mov_succ (c : List Nat) (m : Nat) : mov c (m + 1) = mov c m ++ if led c m && decide (1 < per c m) then [lap c m] else [] := by
  unfold mov
  rw [leds_succ, List.filter_append, List.map_append]
  congr 1
  cases led c m with
  | true =>
    by_cases h : 1 < per c m
    · simp [h]
    · simp [h]
  | false => simp
theorem mov_le {n : Nat} {c : List Nat} : ∀ m, (mov c m).length ≤ m := fun m => by
  unfold mov leds
  rw [List.length_map]
  exact Nat.le_trans (List.length_filter_le _ _) (Nat.le_trans (List.length_filter_le _ _) (by simp))
theorem r10 {n : Nat} {c : List Nat} (h : Deck n c) (hn : n ≤ 100) : Ret 10 [kD c] (.val (.tuple ((mov c n).map kD))) [] 1 := by
  have hlim : lim = 100000 := rfl
  have hwf : wfuel = 100000 := rfl
  refine ret_of (d := 0) rfl fun q _ => run_of rfl ?_ (fun _ z => nomatch z)
  refine rt_cons (sx_masg (po_lst pvs_nil (Nat.zero_le _)) (Nat.le_of_ble_eq_true rfl)) ?_
  refine rt_cons (sx_masg po_dict0 (Nat.le_of_ble_eq_true rfl)) ?_
  show RT (phi P85.prog q) _ [some (kD c), some (.list []), some (.dict []), none, none, none] _
  let I : Nat → Rho → Prop := fun m ρ => ∃ ps a3 a5, ρ = [some (kD c), some (.list ((mov c m).map kD)), some (.dict ps), a3, none, a5] ∧ (∀ k : Nat, hasP (k : Int) ps = true ↔ ∃ i, i < m ∧ k ∈ lap c i) ∧ ps.length ≤ m * n
  have hr : PI (phi P85.prog q) (.range (.cons (.blt .len (.cons (.var 0) .nil)) .nil)) [some (kD c), some (.list []), some (.dict []), none, none, none] (rangeD 0 n) := by
    have := pi_range1 (Φ := phi P85.prog q) (ρ := [some (kD c), some (.list []), some (.dict []), none, none, none]) (pv_lenk (i := 0) (c := c) rfl) (small_nat (by rw [h.len]; omega))
    rw [Int.toNat_natCast, h.len] at this
    exact this
  obtain ⟨ρ', h1, h2⟩ := for_inv (f := fun r => execs (phi P85.prog q) (.cons (.masg 4 (.lst (.cons (.var 3) .nil))) (.cons (.whl (.ofE (.cmp .ne (.ix (.var 0) (.ix (.mvar 4) (.neg (.int 1)))) (.var 3))) (.cons (.append 4 (.ix (.var 0) (.ix (.mvar 4) (.neg (.int 1))))) .nil)) (.cons (.ite (.and (.ofE (.din true (.var 3) 2)) (.ofE (.cmp .gt (.blt .len (.cons (.mvar 4) .nil)) (.int 1)))) (.cons (.append 1 (.blt .tuple (.cons (.mvar 4) .nil))) .nil) .nil) (.cons (.loop (.name 5) (.seq (.mv 4)) (.cons (.dput 2 (.var 5) (.bl true)) .nil)) .nil)))) r) (g := .name 3) I (rangeD 0 n) 0 [some (kD c), some (.list []), some (.dict []), none, none, none] ⟨[], none, none, rfl, fun k => Iff.intro (fun z => nomatch z) (fun z => match z with | ⟨i, hi, _⟩ => absurd hi (Nat.not_lt_zero _)), Nat.zero_le _⟩ fun m d ρ hd hI => by
    obtain ⟨hm, rfl⟩ := rangeD_at hd
    rw [Nat.zero_add] at hI ⊢
    obtain ⟨ps, a3, a5, rfl, hps, hpl⟩ := hI
    have hp1 := per_pos (c := c) (i := m)
    have hp2 := per_le h hm
    have hnn : m * n ≤ 100 * 100 := Nat.mul_le_mul (by omega) hn
    have ht : (!hasP (m : Int) ps) = led c m := by
      cases e : led c m with
      | true =>
        have := (led_iff h hm).mp e
        cases e2 : hasP (m : Int) ps with
        | false => rfl
        | true =>
          obtain ⟨i, hi, hmem⟩ := (hps m).mp e2
          exact absurd hmem (this i hi)
      | false =>
        have : ∃ j, j < m ∧ m ∈ lap c j := by
          apply Classical.byContradiction
          intro hn
          have := (led_iff h hm).mpr fun j hj hm => hn ⟨j, hj, hm⟩
          rw [e] at this; cases this
        rw [(hps m).mpr this]
        rfl
    let fr : Nat → Rho := fun j => [some (kD c), some (.list ((mov c m).map kD)), some (.dict ps), some (.int (m : Nat)), some (.list (stps c m j)), a5]
    have hix : ∀ j, PV (phi P85.prog q) (.ix (.var 0) (.ix (.mvar 4) (.neg (.int 1)))) (fr j) (.int (it c (j + 1) m : Nat)) := fun j => pv_ix (pv_var rfl).pd (pv_ixR (pr_mvar rfl) (pv_neg pv_int) (stps_last c m j)) (ixK (by rw [h.len]; exact it_lt h hm j))
    have s2 : SX (phi P85.prog q) (.whl (.ofE (.cmp .ne (.ix (.var 0) (.ix (.mvar 4) (.neg (.int 1)))) (.var 3))) (.cons (.append 4 (.ix (.var 0) (.ix (.mvar 4) (.neg (.int 1))))) .nil)) (fr 0) (fr (per c m - 1)) := by
      refine sx_whl fr (per c m - 1) (by omega) (fun j hj => ⟨?_, bx_cons ?_ bx_nil⟩) ?_
      · have := pt_b (pv_cmp (hix j).pd (pv_var (i := 3) rfl).pd (nei _ _))
        rw [decide_eq_true (by have := per_min (c := c) (i := m) (k := j + 1) (by omega) (by omega); omega)] at this
        exact this
      · have := sx_append (Φ := phi P85.prog q) (i := 4) (ρ := fr j) rfl (hix j).pd (by
          show (stps c m j).length < lim
          unfold stps kL
          simp only [List.length_map, List.length_range]
          omega)
        rw [stps_app] at this
        exact this
      · have := pt_b (pv_cmp (hix (per c m - 1)).pd (pv_var (i := 3) rfl).pd (nei _ _))
        rw [decide_eq_false (by
          rw [show per c m - 1 + 1 = per c m by omega, per_back h hm]
          exact fun z => z rfl)] at this
        exact this
    have efr : fr (per c m - 1) = [some (kD c), some (.list ((mov c m).map kD)), some (.dict ps), some (.int (m : Nat)), some (.list (kL (lap c m))), a5] := by
      show [_, _, _, _, some (PySem.PyData.list (stps c m (per c m - 1))), _] = _
      rw [stps_lap]
    rw [efr] at s2
    have s3 : SX (phi P85.prog q) (.ite (.and (.ofE (.din true (.var 3) 2)) (.ofE (.cmp .gt (.blt .len (.cons (.mvar 4) .nil)) (.int 1)))) (.cons (.append 1 (.blt .tuple (.cons (.mvar 4) .nil))) .nil) .nil) [some (kD c), some (.list ((mov c m).map kD)), some (.dict ps), some (.int (m : Nat)), some (.list (kL (lap c m))), a5] [some (kD c), some (.list ((mov c (m + 1)).map kD)), some (.dict ps), some (.int (m : Nat)), some (.list (kL (lap c m))), a5] := by
      have e2 : decide ((1 : Int) < ((kL (lap c m)).length : Nat)) = decide (1 < per c m) := by
        have : (kL (lap c m)).length = per c m := by unfold kL; rw [List.length_map, lap_len]
        rw [this]
        by_cases z : 1 < per c m
        · rw [decide_eq_true z, decide_eq_true (by omega)]
        · rw [decide_eq_false z, decide_eq_false (by omega)]
      have hc : PT (phi P85.prog q) (.and (.ofE (.din true (.var 3) 2)) (.ofE (.cmp .gt (.blt .len (.cons (.mvar 4) .nil)) (.int 1)))) [some (kD c), some (.list ((mov c m).map kD)), some (.dict ps), some (.int (m : Nat)), some (.list (kL (lap c m))), a5] (led c m && decide (1 < per c m)) := by
        rw [← ht, ← e2]
        exact pt_and (pt_b (pv_din (ng := true) (pv_var rfl) rfl)) fun _ => pt_b (pv_cmpR (PV.pr (pv_bltR (prs_cons (pr_mvar rfl) prs_nil) rfl)) pv_int.pr rfl)
      refine sx_ite hc (fun z => bx_cons ?_ bx_nil) (fun z => ?_)
      · have e3 : (mov c (m + 1)).map kD = (mov c m).map kD ++ [kD (lap c m)] := by rw [mov_succ, if_pos z, List.map_append]; rfl
        rw [e3]
        refine sx_append (Φ := phi P85.prog q) (i := 1) (ρ := [some (kD c), some (.list ((mov c m).map kD)), some (.dict ps), some (.int (m : Nat)), some (.list (kL (lap c m))), a5]) (d := kD (lap c m)) rfl (PV.pd (pv_bltR (prs_cons (pr_mvar rfl) prs_nil) rfl)) ?_
        rw [List.length_map]
        have := mov_le (n := n) (c := c) m
        omega
      · have e3 : mov c (m + 1) = mov c m := by rw [mov_succ, if_neg (by rw [z]; exact Bool.false_ne_true), List.append_nil]
        rw [e3]
        exact bx_nil
    -- the places that are met
    let J : Nat → Rho → Prop := fun t ρ => ∃ ps' a5', ρ = [some (kD c), some (.list ((mov c (m + 1)).map kD)), some (.dict ps'), some (.int (m : Nat)), none, a5'] ∧ (∀ k : Nat, hasP (k : Int) ps' = true ↔ (hasP (k : Int) ps = true ∨ k ∈ (lap c m).take t)) ∧ ps'.length ≤ ps.length + t
    obtain ⟨ρ4, g1, g2⟩ := for_inv (f := fun r => execs (phi P85.prog q) (.cons (.dput 2 (.var 5) (.bl true)) .nil) r) (g := .name 5) J (kL (lap c m)) 0 [some (kD c), some (.list ((mov c (m + 1)).map kD)), some (.dict ps), some (.int (m : Nat)), none, a5] ⟨ps, a5, rfl, fun k => by simp, Nat.le_refl _⟩ fun t d ρ hd hJ => by
      rw [Nat.zero_add] at hJ ⊢
      obtain ⟨ps', a5', rfl, hp', hl'⟩ := hJ
      have htl : t < (lap c m).length := by
        have := (List.getElem?_eq_some_iff.mp hd).1
        unfold kL at this
        rwa [List.length_map] at this
      unfold kL at hd
      rw [List.getElem?_map, List.getElem?_eq_getElem htl] at hd
      cases hd
      have htl' : t < per c m := by rwa [lap_len] at htl
      refine ⟨_, .nx, _, rfl, bx_cons (sx_dput (i := 2) (PV.pd pv_bl) (pv_var rfl) rfl (by omega)) bx_nil, .inl rfl, ⟨_, some (.int ((lap c m)[t] : Nat)), rfl, fun k => ?_, ?_⟩⟩
      · rw [hasP_put, Bool.or_eq_true, hp' k, decide_eq_true_eq, List.take_add_one, List.getElem?_eq_getElem htl, List.mem_append]
        simp only [Option.toList_some, List.mem_singleton]
        have : ((((lap c m)[t] : Nat) : Int) = (k : Int)) ↔ k = (lap c m)[t] := by omega
        rw [this]
        constructor
        · rintro (z | z | z)
          · exact .inr (.inr z)
          · exact .inl z
          · exact .inr (.inl z)
        · rintro (z | z | z)
          · exact .inr (.inl z)
          · exact .inr (.inr z)
          · exact .inl z
      · have := put_len ((lap c m)[t] : Nat) (.bool true) ps'
        omega
    have s4 : SX (phi P85.prog q) (.loop (.name 5) (.seq (.mv 4)) (.cons (.dput 2 (.var 5) (.bl true)) .nil)) [some (kD c), some (.list ((mov c (m + 1)).map kD)), some (.dict ps), some (.int (m : Nat)), some (.list (kL (lap c m))), a5] ρ4 := sx_loopM (it_mv (i := 4) rfl) g1
    have hkl : (kL (lap c m)).length = (lap c m).length := by unfold kL; rw [List.length_map]
    rw [Nat.zero_add, hkl] at g2
    obtain ⟨ps', a5', rfl, hp', hl'⟩ := g2
    have s1 : SX (phi P85.prog q) (.masg 4 (.lst (.cons (.var 3) .nil))) [some (kD c), some (.list ((mov c m).map kD)), some (.dict ps), some (.int (m : Nat)), none, a5] (fr 0) := sx_masg (po_lst (pvs_cons (pv_var rfl).pd pvs_nil) (Nat.le_of_ble_eq_true rfl)) (Nat.le_of_ble_eq_true rfl)
    refine ⟨[some (kD c), some (.list ((mov c m).map kD)), some (.dict ps), some (.int (m : Nat)), none, a5], .nx, _, rfl, bx_cons s1 (bx_cons s2 (bx_cons s3 (bx_cons s4 bx_nil))), .inl rfl, ⟨ps', _, a5', rfl, fun k => ?_, ?_⟩⟩
    · rw [hp' k, hps k, List.take_length]
      constructor
      · rintro (⟨i, hi, z⟩ | z)
        · exact ⟨i, by omega, z⟩
        · exact ⟨m, by omega, z⟩
      · rintro ⟨i, hi, z⟩
        by_cases e : i = m
        · subst e; exact .inr z
        · exact .inl ⟨i, by omega, z⟩
    · rw [lap_len] at hl'
      have : (m + 1) * n = m * n + n := Nat.succ_mul m n
      omega
  rw [Nat.zero_add, rangeD_len] at h2
  obtain ⟨ps, a3, a5, rfl, _, _⟩ := h2
  exact rt_loop hr h1 (rt_ret (pv_bltR (prs_cons (pr_mvar rfl) prs_nil) rfl))
end M85
set_option Elab.async false
set_option linter.all false
set_option maxRecDepth 100000
set_option maxHeartbeats 1000000
/-! U85s: all_rounds. -/
namespace M85
open Vm
def lL (m : List Nat) : D := .list (kL m)
def LL (ls : List (List Nat)) : D := .list (ls.map lL)
theorem enumD_eq : ∀ (xs : List D) (k : Nat), enumD k xs = (List.range xs.length).map fun i => .tuple [.int ((k + i : Nat) : Int), xs.getD i .none]
  | [], k => rfl
  | x :: xs, k => by
    rw [enumD, enumD_eq xs (k + 1), List.length_cons, List.range_succ_eq_map, List.map_cons, List.map_map]
    congr 1
    refine List.map_congr_left fun i _ => ?_
    simp only [Function.comp, Nat.succ_eq_add_one, List.getD_cons_succ]
    rw [show k + (i + 1) = k + 1 + i by omega]
theorem kL_len (c : List Nat) : (kL c).length = c.length := by unfold kL; rw [List.length_map]
theorem kL_getD {c : List Nat} {i : Nat} (h : i < c.length) : (kL c).getD i .none = .int (c.getD i 0 : Nat) := by
  rw [List.getD_eq_getElem?_getD]
  unfold kL
  rw [List.getElem?_map, getD_of h]
  rfl
theorem lens_map : ∀ ls : List (List Nat), lens? (ls.map lL) = some (ls.map kL)
  | [] => rfl
  | m :: ls => by
    show (lens? (ls.map lL)).map _ = _
    rw [lens_map ls]
    rfl
theorem sort_map (ls : List (List Nat)) : bltD .sortlen [LL ls] = some (.own (LL (srt ls))) := by
  show (lens? (ls.map lL)).map _ = _
  rw [lens_map]
  show some (R.own (.list (((ls.map kL).mergeSort _).map .list))) = some (R.own (.list ((srt ls).map lL)))
  unfold srt
  rw [← List.map_mergeSort (f := kL) (r := fun a b : List Nat => decide (a.length ≤ b.length)) (fun a _ b _ => by rw [kL_len, kL_len]), List.map_map]
  rfl
theorem rnds_len {n : Nat} {c : List Nat} (h : Deck n c) : (rnds c).length ≤ 2 * n := by
  unfold rnds
  have h1 := mov_le (n := n) (c := c) c.length
  have h2 : (fixd c).length ≤ c.length := by
    unfold fixd
    exact Nat.le_trans (List.length_filter_le _ _) (by simp)
  rw [List.length_append, List.length_map]
  rw [h.len] at h1 h2
  rw [h.len]
  omega
theorem r16 {n : Nat} {c : List Nat} (h : Deck n c) (hn : n ≤ 100) : Ret 16 [kD c] (.own (LL (ar c))) [] 2 := by
  have hlim : lim = 100000 := rfl
  refine ret_of (d := 1) rfl fun q hq => run_of rfl ?_ (fun _ z => nomatch z)
  have hml := mov_le (n := n) (c := c) n
  refine rt_cons (ρ1 := [some (kD c), some (LL (mov c n)), none, none, none]) (sx_asg (i := 1) (PO.pd (po_lcI (items := (mov c n).map kD) (pi_seq (PV.pd (pv_call (pvs_cons (pv_var rfl).pd pvs_nil) (r10 h hn q hq))) rfl) ((mov c n).map lL) ?_ ?_ rfl fun i d o hi ho => ?_)) (Nat.le_of_ble_eq_true rfl)) ?_
  · rw [List.length_map, List.length_map]
  · rw [List.length_map]; omega
  · rw [List.getElem?_map] at hi ho
    cases e : (mov c n)[i]? with
    | none => rw [e] at hi; cases hi
    | some m =>
      rw [e] at hi ho
      cases hi
      cases ho
      exact ⟨[some (kD c), none, some (kD m), none, none], rfl, rfl, pt_yes, PO.pd (po_blt (pvs_cons (pv_var rfl).pd pvs_nil) rfl)⟩
  -- the places that stay
  let p : D → Bool := fun d => match d with
    | .tuple [.int i, .int j] => decide (i = j)
    | _ => false
  let g : D → D := fun d => match d with
    | .tuple [.int i, .int j] => .list [.int i]
    | _ => .none
  have hi : PI (phi P85.prog q) (.enum (.var 0)) [some (kD c), some (LL (mov c n)), none, none, none] (enumD 0 (kL c)) := pi_enum (pv_var rfl).pd rfl
  have hel : (enumD 0 (kL c)).length = n := by rw [enumD_eq, List.length_map, List.length_range, kL_len, h.len]
  have hfix : ((enumD 0 (kL c)).filter p).map g = ((fixd c).map fun i => [i]).map lL := by
    rw [enumD_eq, List.filter_map, List.map_map, List.map_map, kL_len]
    unfold fixd
    have e1 : (List.range c.length).filter (p ∘ fun i => .tuple [.int ((0 + i : Nat) : Int), (kL c).getD i .none]) = (List.range c.length).filter fun i => decide (c.getD i 0 = i) := by
      refine List.filter_congr fun i hi => ?_
      simp only [Function.comp]
      rw [kL_getD (List.mem_range.mp hi), Nat.zero_add]
      show decide (((i : Nat) : Int) = ((c.getD i 0 : Nat) : Int)) = _
      by_cases z : c.getD i 0 = i
      · rw [decide_eq_true z, decide_eq_true (by omega)]
      · rw [decide_eq_false z, decide_eq_false (by omega)]
    rw [e1]
    refine List.map_congr_left fun i hi => ?_
    simp only [Function.comp]
    rw [kL_getD (List.mem_range.mp (List.mem_filter.mp hi).1), Nat.zero_add]
    rfl
  have hlc : PO (phi P85.prog q) (.lc [3, 4] (.tup [3, 4]) (.enum (.var 0)) (.ofE (.cmp .eq (.var 3) (.var 4))) (.lst (.cons (.var 3) .nil))) [some (kD c), some (LL (mov c n)), none, none, none] (.list (((enumD 0 (kL c)).filter p).map g)) := by
    refine po_lcf hi p g (by omega) rfl fun d hd => ?_
    rw [enumD_eq] at hd
    obtain ⟨i, hi, rfl⟩ := List.mem_map.mp hd
    rw [kL_len] at hi
    rw [kL_getD (List.mem_range.mp hi)]
    exact ⟨[some (kD c), some (LL (mov c n)), none, some (.int ((0 + i : Nat) : Int)), some (.int (c.getD i 0 : Nat))], rfl, rfl, pt_b (pv_cmp (pv_var rfl).pd (pv_var rfl).pd (eqi _ _)), fun _ => PO.pd (po_lst (pvs_cons (pv_var rfl).pd pvs_nil) (Nat.le_of_ble_eq_true rfl))⟩
  rw [hfix] at hlc
  have hrl := rnds_len h
  have eLL : (mov c n).map lL ++ ((fixd c).map fun i => [i]).map lL = (rnds c).map lL := by
    unfold rnds
    rw [h.len, List.map_append]
  refine rt_cons (ρ1 := [some (kD c), some (LL (rnds c)), none, none, none]) (sx_asg (i := 1) (d := LL (rnds c)) (PO.pd (po_bin (pv_var (i := 1) rfl).pd hlc.pd ?_)) (Nat.le_of_ble_eq_true rfl)) ?_
  · show (if ((mov c n).map lL).length + (((fixd c).map fun i => [i]).map lL).length ≤ lim then some (R.own (.list ((mov c n).map lL ++ ((fixd c).map fun i => [i]).map lL))) else none) = _
    have : ((mov c n).map lL).length + (((fixd c).map fun i => [i]).map lL).length = (rnds c).length := by rw [← List.length_append, eLL, List.length_map]
    rw [if_pos (by omega), eLL]
  exact rt_retO (po_blt (pvs_cons (pv_var rfl).pd pvs_nil) (sort_map _))
end M85
set_option Elab.async false
set_option linter.all false
set_option maxRecDepth 100000
set_option maxHeartbeats 1000000
/-! U85t: deck_turner. -/
namespace M85
open Vm
def puts (F : List Nat) (ps : List (Nat × Nat)) : List Nat := ps.foldl (fun F p => F.set p.1 p.2) F
theorem puts_app (F : List Nat) (a b : List (Nat × Nat)) : puts F (a ++ b) = puts (puts F a) b := List.foldl_append ..
theorem puts_len : ∀ (ps : List (Nat × Nat)) (F : List Nat), (puts F ps).length = F.length
  | [], _ => rfl
  | p :: ps, F => by
    show (puts (F.set p.1 p.2) ps).length = _
    rw [puts_len ps, List.length_set]
theorem puts_other : ∀ (ps : List (Nat × Nat)) (F : List Nat) (k : Nat), k ∉ ps.map Prod.fst → (puts F ps)[k]? = F[k]?
  | [], _, _, _ => rfl
  | p :: ps, F, k, h => by
    simp only [List.map_cons, List.mem_cons, not_or] at h
    show (puts (F.set p.1 p.2) ps)[k]? = _
    rw [puts_other ps _ k h.2, List.getElem?_set_ne (fun z => h.1 z.symm)]
theorem puts_get : ∀ (ps : List (Nat × Nat)) (F : List Nat), (ps.map Prod.fst).Nodup → ∀ p ∈ ps, p.1 < F.length → (puts F ps)[p.1]? = some p.2
  | [], _, _, p, h, _ => nomatch h
  | q :: ps, F, nd, p, h, hl => by
    rw [List.map_cons, List.nodup_cons] at nd
    show (puts (F.set q.1 q.2) ps)[p.1]? = _
    rcases List.mem_cons.mp h with rfl | h
    · rw [puts_other ps _ _ nd.1, List.getElem?_set_self hl]
    · exact puts_get ps _ nd.2 p h (by rw [List.length_set]; exact hl)
/-- the pairs, round by round -/
def prs (ys ms : List (List Nat)) : List (List (Nat × Nat)) := List.zipWith List.zip ys ms
theorem prs_flat : ∀ (ys ms : List (List Nat)), ys.map List.length = ms.map List.length → (prs ys ms).flatten = ys.flatten.zip ms.flatten
  | [], [], _ => rfl
  | [], _ :: _, h => by simp at h
  | _ :: _, [], h => by simp at h
  | y :: ys, m :: ms, h => by
    simp only [List.map_cons, List.cons.injEq] at h
    show (y.zip m :: prs ys ms).flatten = _
    rw [List.flatten_cons, List.flatten_cons, List.flatten_cons, prs_flat ys ms h.2, List.zip_append h.1]
theorem zipD2_at : ∀ (xs ys : List D) (i : Nat) (d : D), (zipD2 xs ys)[i]? = some d → ∃ x y, xs[i]? = some x ∧ ys[i]? = some y ∧ d = .tuple [x, y]
  | [], _, _, _, h => by simp [zipD2] at h
  | _ :: _, [], _, _, h => by simp [zipD2] at h
  | x :: xs, y :: ys, 0, d, h => by
    simp only [zipD2, List.getElem?_cons_zero] at h
    cases h
    exact ⟨x, y, rfl, rfl, rfl⟩
  | x :: xs, y :: ys, i + 1, d, h => by
    simp only [zipD2, List.getElem?_cons_succ] at h
    exact zipD2_at xs ys i d h
theorem zipD2_len : ∀ (xs ys : List D), xs.length = ys.length → (zipD2 xs ys).length = xs.length
  | [], [], _ => rfl
  | [], _ :: _, h => by simp at h
  | _ :: _, [], h => by simp at h
  | x :: xs, y :: ys, h => by
    simp only [zipD2, List.length_cons, zipD2_len xs ys (by simpa using h)]
theorem kL_at {c : List Nat} {i : Nat} {d : D} (h : (kL c)[i]? = some d) : ∃ k, c[i]? = some k ∧ d = .int (k : Nat) := by
  unfold kL at h
  rw [List.getElem?_map] at h
  cases e : c[i]? with
  | none => rw [e] at h; cases h
  | some k => rw [e] at h; cases h; exact ⟨k, rfl, rfl⟩
theorem kL_set (F : List Nat) (i v : Nat) : kL (F.set i v) = (kL F).set i (.int (v : Nat)) := by
  unfold kL
  rw [List.map_set]
/-- the decks that are joined lead on alike -/
theorem turned_deck {n : Nat} {a b : List Nat} (ha : Deck n a) (hb : Deck n b) (hl : lens a = lens b) (F : List Nat) (hF : F.length = n) : Deck n (puts F (prs (ar b) (ar a)).flatten) ∧ comp a (puts F (prs (ar b) (ar a)).flatten) = comp (puts F (prs (ar b) (ar a)).flatten) b := by
  have el : (ar b).map List.length = (ar a).map List.length := by rw [ar_lens ha, ar_lens hb, hl]
  have dM := ar_deck ha
  have dY := ar_deck hb
  rw [prs_flat _ _ el]
  have ef : ((ar b).flatten.zip (ar a).flatten).map Prod.fst = (ar b).flatten := List.map_fst_zip (by rw [dM.len, dY.len]; exact Nat.le_refl _)
  -- what stands where
  have key : ∀ q y m, (ar b).flatten[q]? = some y → (ar a).flatten[q]? = some m → (puts F ((ar b).flatten.zip (ar a).flatten))[y]? = some m := fun q y m hy hm => by
    have hmem : (y, m) ∈ (ar b).flatten.zip (ar a).flatten := by
      refine List.mem_of_getElem? (i := q) ?_
      rw [List.getElem?_zip_eq_some]
      exact ⟨hy, hm⟩
    exact puts_get _ F (by rw [ef]; exact dY.nd) (y, m) hmem (by rw [hF]; exact dY.lt y (List.mem_of_getElem? hy))
  have at_p : ∀ p, p < n → ∃ q m, (ar b).flatten[q]? = some p ∧ (ar a).flatten[q]? = some m := fun p hp => by
    have hq := idx_lt dY hp
    have e := getD_of (c := (ar b).flatten) (by rw [dY.len]; exact hq)
    rw [getD_idx dY hp] at e
    exact ⟨_, _, e, getD_of (by rw [dM.len]; exact hq)⟩
  have hlen : (puts F ((ar b).flatten.zip (ar a).flatten)).length = n := by rw [puts_len, hF]
  have eX : puts F ((ar b).flatten.zip (ar a).flatten) = comp (ar a).flatten (backK n (ar b).flatten) := by
    apply List.ext_getElem?
    intro p
    by_cases hp : p < n
    · obtain ⟨q, m, h1, h2⟩ := at_p p hp
      rw [key q p m h1 h2]
      have hq : q < n := by
        have := (List.getElem?_eq_some_iff.mp h1).1
        rwa [dY.len] at this
      have e1 : (ar b).flatten.idxOf p = q := by
        have := idx_getD dY hq
        rw [getD_of (by rw [dY.len]; exact hq)] at h1
        rw [← Option.some.inj h1]
        exact this
      unfold comp backK
      rw [List.getElem?_map, List.getElem?_map, List.getElem?_range hp]
      simp only [Option.map_some]
      rw [e1]
      rw [getD_of (by rw [dM.len]; exact hq)] at h2
      exact h2.symm
    · rw [List.getElem?_eq_none (by omega), List.getElem?_eq_none (by simp only [comp, backK, List.length_map, List.length_range]; omega)]
  have dX : Deck n (puts F ((ar b).flatten.zip (ar a).flatten)) := by
    rw [eX]
    exact deck_comp dM (deck_back dY)
  refine ⟨dX, ?_⟩
  apply List.ext_getElem?
  intro p
  unfold comp
  rw [List.getElem?_map, List.getElem?_map]
  by_cases hp : p < n
  · obtain ⟨q, m, h1, h2⟩ := at_p p hp
    obtain ⟨q', g1, g2⟩ := next_q a b (ar a) (ar b) el.symm (ar_round ha) (ar_round hb) q m p h2 h1
    have k1 := key q p m h1 h2
    have k2 := key q' _ _ g2 g1
    rw [k1, getD_of (by rw [hb.len]; exact hp)]
    simp only [Option.map_some]
    rw [List.getD_eq_getElem?_getD (l := puts F ((ar b).flatten.zip (ar a).flatten)), k2]
    rfl
  · rw [List.getElem?_eq_none (by omega), List.getElem?_eq_none (by rw [hb.len]; omega)]
    rfl
theorem shaped_nats (c : List Nat) : PySem.SeqAt.shaped (.list (kL c)) = true := by
  unfold PySem.SeqAt.shaped
  rw [show PySem.PyData.canLay0 (.list (kL c)) = PySem.PyData.canLayAll0 (kL c) from rfl, lay_kL, Bool.true_and, decide_eq_true]
  have := dep_kL c
  have : (PySem.PyData.list (kL c)).depth ≤ PySem.PyData.depthAll (kL c) + 1 := by simp [PySem.PyData.depth]
  omega
theorem ne_nats (a b : List Nat) : cmpD .ne (.list (kL a)) (.list (kL b)) = some (!decide (a = b)) := by
  show (if (PySem.SeqAt.shaped (.list (kL a)) && PySem.SeqAt.shaped (.list (kL b))) = true then some (!PySem.PyData.eqv (.list (kL a)) (.list (kL b))) else none) = _
  rw [shaped_nats, shaped_nats, if_pos (show (true && true) = true from rfl)]
  show some (!PySem.PyData.eqvAll (kL a) (kL b)) = _
  rw [eqv_kL]
theorem ar_len {n : Nat} {c : List Nat} (h : Deck n c) : (ar c).length ≤ 2 * n := by
  unfold ar srt
  rw [(List.mergeSort_perm _ _).length_eq]
  exact rnds_len h
theorem lc_lens {n : Nat} {c : List Nat} (h : Deck n c) (hn : n ≤ 100) {Φ : Fs} {ρ : Rho} {i : Nat} (hi : ρ[i]? = some (some (LL (ar c)))) (hc : restore ρ [4] (clear [4] ρ) = ρ) (h4 : 4 < (clear [4] ρ).length) (hcl : ∀ d, clear [4] ((clear [4] ρ).set 4 (some d)) = clear [4] ρ) : PO Φ (.lc [4] (.name 4) (.seq (.var i)) .yes (.blt .len (.cons (.var 4) .nil))) ρ (.list (kL (lens c))) := by
  have hal := ar_len h
  have hlim : lim = 100000 := rfl
  have e : kL (lens c) = ((ar c).map lL).map fun d => match d with | .list xs => .int (xs.length : Nat) | _ => .none := by
    rw [← ar_lens h]
    unfold kL
    rw [List.map_map, List.map_map]
    refine List.map_congr_left fun m _ => ?_
    simp only [Function.comp, lL, kL_len]
  rw [e]
  refine po_lc (pi_seq (pv_var hi).pd rfl) _ (by rw [List.length_map]; omega) hc fun d hd => ?_
  obtain ⟨m, hm, rfl⟩ := List.mem_map.mp hd
  refine ⟨(clear [4] ρ).set 4 (some (lL m)), by simp only [assignG]; rw [if_pos h4], hcl _, pt_yes, PV.pd (pv_blt (pvs_cons (pv_var (d := lL m) ?_).pd pvs_nil) rfl)⟩
  rw [List.getElem?_set_self h4]
theorem r17 {n : Nat} {a b : List Nat} (ha : Deck n a) (hb : Deck n b) (hn : n ≤ 100) : (lens a = lens b ∧ ∃ X, Ret 17 [kD a, kD b] (.val (kD X)) [] 3 ∧ Deck n X ∧ comp a X = comp X b) ∨ (lens a ≠ lens b ∧ Ret 17 [kD a, kD b] (.val .none) [] 3) := by
  have hal := ar_len ha
  have hbl := ar_len hb
  have hlim : lim = 100000 := rfl
  have start : ∀ q, 2 ≤ q → ∀ r, (lens a ≠ lens b → r = .val .none) → (lens a = lens b → RT (phi P85.prog q) (.cons (.masg 5 (.blt .list (.cons (.var 0) .nil))) (.cons (.loop (.tup [4, 6]) (.zip (.cons (.var 2) (.cons (.var 3) .nil))) (.cons (.loop (.tup [7, 8]) (.zip (.cons (.var 6) (.cons (.var 4) .nil))) (.cons (.setix 5 (.var 7) (.var 8)) .nil)) .nil)) (.cons (.ret (.blt .tuple (.cons (.mvar 5) .nil))) .nil))) [some (kD a), some (kD b), some (LL (ar a)), some (LL (ar b)), none, none, none, none, none] r) → (∀ i, r ≠ .slot i) → runFD (phi P85.prog q) P85.f17 [kD a, kD b] = some (r, []) := by
    intro q hq r h1 h2 h3
    refine run_of rfl ?_ h3
    refine rt_cons (ρ1 := [some (kD a), some (kD b), some (LL (ar a)), none, none, none, none, none, none]) (sx_asg (i := 2) (PO.pd (po_call (pvs_cons (pv_var rfl).pd pvs_nil) (r16 ha hn q hq))) (Nat.le_of_ble_eq_true rfl)) ?_
    refine rt_cons (ρ1 := [some (kD a), some (kD b), some (LL (ar a)), some (LL (ar b)), none, none, none, none, none]) (sx_asg (i := 3) (PO.pd (po_call (pvs_cons (pv_var rfl).pd pvs_nil) (r16 hb hn q hq))) (Nat.le_of_ble_eq_true rfl)) ?_
    have hA : PO (phi P85.prog q) (.lc [4] (.name 4) (.seq (.var 2)) .yes (.blt .len (.cons (.var 4) .nil))) [some (kD a), some (kD b), some (LL (ar a)), some (LL (ar b)), none, none, none, none, none] (.list (kL (lens a))) := lc_lens ha hn rfl rfl (Nat.le_of_ble_eq_true rfl) (fun _ => rfl)
    have hB : PO (phi P85.prog q) (.lc [4] (.name 4) (.seq (.var 3)) .yes (.blt .len (.cons (.var 4) .nil))) [some (kD a), some (kD b), some (LL (ar a)), some (LL (ar b)), none, none, none, none, none] (.list (kL (lens b))) := lc_lens hb hn rfl rfl (Nat.le_of_ble_eq_true rfl) (fun _ => rfl)
    refine rt_if (pt_b (pv_cmp hA.pd hB.pd (ne_nats _ _))) (fun h => ?_) (fun h => h2 ?_)
    · rw [h1 (by simpa using h)]
      exact rt_ret pv_non
    · simpa using h
  by_cases hl : lens a = lens b
  · obtain ⟨dX, eX⟩ := turned_deck ha hb hl a ha.len
    refine .inl ⟨hl, _, ret_of (d := 2) rfl fun q hq => start q hq _ (fun z => absurd hl z) (fun _ => ?_) (fun _ z => nomatch z), dX, eX⟩
    refine rt_cons (ρ1 := [some (kD a), some (kD b), some (LL (ar a)), some (LL (ar b)), none, some (.list (kL a)), none, none, none]) (sx_masg (i := 5) (po_blt (pvs_cons (pv_var rfl).pd pvs_nil) rfl) (Nat.le_of_ble_eq_true rfl)) ?_
    have el : (ar b).map List.length = (ar a).map List.length := by rw [ar_lens ha, ar_lens hb, hl]
    have ell : (ar a).length = (ar b).length := by
      have := congrArg List.length el
      rw [List.length_map, List.length_map] at this
      exact this.symm
    have hzl : (prs (ar b) (ar a)).length = (ar a).length := by
      unfold prs
      rw [List.length_zipWith]
      omega
    let I : Nat → Rho → Prop := fun t ρ => ∃ a4 a6 a7 a8, ρ = [some (kD a), some (kD b), some (LL (ar a)), some (LL (ar b)), a4, some (.list (kL (puts a ((prs (ar b) (ar a)).take t).flatten))), a6, a7, a8]
    obtain ⟨ρ', h1, h2⟩ := for_inv (f := fun r => execs (phi P85.prog q) (.cons (.loop (.tup [7, 8]) (.zip (.cons (.var 6) (.cons (.var 4) .nil))) (.cons (.setix 5 (.var 7) (.var 8)) .nil)) .nil) r) (g := .tup [4, 6]) I (zipD2 ((ar a).map lL) ((ar b).map lL)) 0 [some (kD a), some (kD b), some (LL (ar a)), some (LL (ar b)), none, some (.list (kL a)), none, none, none] ⟨none, none, none, none, rfl⟩ fun t d ρ hd hI => by
      rw [Nat.zero_add] at hI ⊢
      obtain ⟨a4, a6, a7, a8, rfl⟩ := hI
      obtain ⟨x, y, hx, hy, rfl⟩ := zipD2_at _ _ _ _ hd
      rw [List.getElem?_map] at hx hy
      obtain ⟨m, em⟩ : ∃ m, (ar a)[t]? = some m := by
        cases e : (ar a)[t]? with
        | none => rw [e] at hx; cases hx
        | some m => exact ⟨m, rfl⟩
      obtain ⟨y', ey⟩ : ∃ m, (ar b)[t]? = some m := by
        cases e : (ar b)[t]? with
        | none => rw [e] at hy; cases hy
        | some m => exact ⟨m, rfl⟩
      rw [em] at hx
      rw [ey] at hy
      cases hx
      cases hy
      have hml : y'.length = m.length := by
        have := congrArg (fun l => l[t]?) el
        simp only [List.getElem?_map, em, ey, Option.map_some] at this
        exact Option.some.inj this
      have ezt : (prs (ar b) (ar a))[t]? = some (y'.zip m) := by
        unfold prs
        rw [List.getElem?_zipWith, em, ey]
      have hylt : ∀ v ∈ y', v < n := fun v hv => (ar_deck hb).lt v (List.mem_flatten.mpr ⟨y', List.mem_of_getElem? ey, hv⟩)
      let F := puts a ((prs (ar b) (ar a)).take t).flatten
      have hF : F.length = n := by
        show (puts a _).length = n
        rw [puts_len, ha.len]
      let J : Nat → Rho → Prop := fun s ρ => ∃ a7 a8, ρ = [some (kD a), some (kD b), some (LL (ar a)), some (LL (ar b)), some (lL m), some (.list (kL (puts F ((y'.zip m).take s)))), some (lL y'), a7, a8]
      obtain ⟨ρ2, g1, g2⟩ := for_inv (f := fun r => execs (phi P85.prog q) (.cons (.setix 5 (.var 7) (.var 8)) .nil) r) (g := .tup [7, 8]) J (zipD2 (kL y') (kL m)) 0 [some (kD a), some (kD b), some (LL (ar a)), some (LL (ar b)), some (lL m), some (.list (kL F)), some (lL y'), a7, a8] ⟨a7, a8, rfl⟩ fun s d ρ hd hJ => by
        rw [Nat.zero_add] at hJ ⊢
        obtain ⟨a7, a8, rfl⟩ := hJ
        obtain ⟨x, v, hx, hv, rfl⟩ := zipD2_at _ _ _ _ hd
        obtain ⟨k, ek, rfl⟩ := kL_at hx
        obtain ⟨w, ew, rfl⟩ := kL_at hv
        have hk := hylt k (List.mem_of_getElem? ek)
        have ez : (y'.zip m)[s]? = some (k, w) := by
          rw [List.getElem?_zip_eq_some]
          exact ⟨ek, ew⟩
        have e1 : puts F ((y'.zip m).take (s + 1)) = (puts F ((y'.zip m).take s)).set k w := by
          rw [List.take_add_one, ez, puts_app]
          rfl
        have hl2 : (kL (puts F ((y'.zip m).take s))).length = n := by rw [kL_len, puts_len, hF]
        refine ⟨[some (kD a), some (kD b), some (LL (ar a)), some (LL (ar b)), some (lL m), some (.list (kL (puts F ((y'.zip m).take s)))), some (lL y'), some (.int (k : Nat)), some (.int (w : Nat))], .nx, _, rfl, bx_cons (sx_setix (i := 5) (n := k) rfl (pv_var rfl).pd (pv_var rfl) ?_) bx_nil, .inl rfl, ⟨some (.int (k : Nat)), some (.int (w : Nat)), ?_⟩⟩
        · unfold L2.ixN
          rw [if_pos (by omega), if_pos (by rw [hl2]; omega), Int.toNat_natCast]
        · rw [e1, kL_set]
          rfl
      have hzz : (zipD2 (kL y') (kL m)).length = (y'.zip m).length := by
        rw [zipD2_len _ _ (by rw [kL_len, kL_len, hml]), kL_len, List.length_zip, hml, Nat.min_self]
      rw [Nat.zero_add, hzz] at g2
      obtain ⟨a7', a8', rfl⟩ := g2
      rw [List.take_length] at g1
      refine ⟨[some (kD a), some (kD b), some (LL (ar a)), some (LL (ar b)), some (lL m), some (.list (kL F)), some (lL y'), a7, a8], .nx, _, rfl, bx_cons (sx_loop (pi_zipL (pv_var rfl).pd (pv_var rfl).pd) g1) bx_nil, .inl rfl, ⟨some (lL m), some (lL y'), a7', a8', ?_⟩⟩
      have e3 : puts a ((prs (ar b) (ar a)).take (t + 1)).flatten = puts F (y'.zip m) := by
        rw [List.take_add_one, ezt, List.flatten_append, puts_app]
        show puts F [y'.zip m].flatten = _
        rw [List.flatten_cons, List.flatten_nil, List.append_nil]
      rw [e3]
    rw [Nat.zero_add, zipD2_len _ _ (by rw [List.length_map, List.length_map, ell]), List.length_map, ← hzl] at h2
    obtain ⟨a4, a6, a7, a8, rfl⟩ := h2
    rw [List.take_length] at h1
    refine rt_loop (pi_zipL (pv_var rfl).pd (pv_var rfl).pd) h1 (rt_ret (pv_bltR (prs_cons (pr_mvar rfl) prs_nil) rfl))
  · exact .inr ⟨hl, ret_of (d := 2) rfl fun q hq => start q hq _ (fun _ => rfl) (fun z => absurd z hl) (fun _ z => nomatch z)⟩
end M85
set_option Elab.async false
set_option linter.all false
set_option maxRecDepth 100000
set_option maxHeartbeats 1000000
/-! U85u: classes; turners of elements and of changes. -/
namespace M85
open Vm
theorem core_ex (w : W) : ∃ c t, IsCore w t c := by
  obtain ⟨N, _, h1, h2⟩ := first_no (strip w) w.length (strip_end w)
  exact ⟨_, _, (core_of h1 h2).2⟩
noncomputable def coreW (w : W) : W := Classical.choose (core_ex w)
theorem coreW_of {w t c : W} (h : IsCore w t c) : coreW w = c := by
  obtain ⟨t', h'⟩ := Classical.choose_spec (core_ex w)
  exact (core_unique t' t h' h).2
/-- the first of all that are turned of one -/
noncomputable def cls : Part → El → El
  | .deck _, .k c => .k (canon 0 (lens c))
  | .rope _, .w v => .w (lst (coreW v))
  | _, a => a
noncomputable def clsC : List Part → List El → List El
  | p :: ps, a :: as => cls p a :: clsC ps as
  | _, _ => []
theorem lens_pos {n : Nat} {c : List Nat} (h : Deck n c) : ∀ l ∈ lens c, 1 ≤ l := fun l hl => by
  rw [← ar_lens h] at hl
  obtain ⟨m, hm, rfl⟩ := List.mem_map.mp hl
  exact ar_pos h m hm
theorem lens_sum {n : Nat} {c : List Nat} (h : Deck n c) : (lens c).sum = n := by
  rw [← ar_lens h, ← List.length_flatten, (ar_deck h).len]
theorem deck_pd {p : Part} {Φ : Fs} {ρ : Rho} (h : ρ[0]? = some (some (pD p))) : PT Φ (.ofE (.cmp .eq (.ix (.var 0) (.int 0)) (.str "deck"))) ρ (isDe p) := pt_de (pv_var h)
theorem r19 {B : Nat} {p : Part} (hp : POk p) {a b : El} (ha : EOk B p a) (hb : EOk B p b) (hB : 3 * B + 3 < lim) : (cls p a = cls p b ∧ ∃ t, Ret 19 [pD p, eD a, eD b] (.val (eD t)) [] 5 ∧ EOk (3 * B) p t ∧ mulE p a t = mulE p t b) ∨ (cls p a ≠ cls p b ∧ Ret 19 [pD p, eD a, eD b] (.val .none) [] 5) := by
  have head : ∀ q r, (isDe p = true → RT (phi P85.prog q) (.cons (.ret (.call 17 [] (.cons (.var 1) (.cons (.var 2) .nil)))) .nil) [some (pD p), some (eD a), some (eD b)] r) → (isRo p = true → RT (phi P85.prog q) (.cons (.ret (.call 18 [] (.cons (.var 0) (.cons (.var 1) (.cons (.var 2) .nil))))) .nil) [some (pD p), some (eD a), some (eD b)] r) → (isDe p = false → isRo p = false → RT (phi P85.prog q) (.cons (.ret (.ife (.ofE (.cmp .eq (.var 1) (.var 2))) (.int 0) .non)) .nil) [some (pD p), some (eD a), some (eD b)] r) → (∀ i, r ≠ .slot i) → runFD (phi P85.prog q) P85.f19 [pD p, eD a, eD b] = some (r, []) := fun q r h1 h2 h3 h4 => by
    refine run_of rfl ?_ h4
    refine rt_if (pt_de (pv_var rfl)) h1 fun e1 => rt_if (pt_ro (pv_var rfl)) h2 fun e2 => h3 e1 e2
  have last : ∀ q, isDe p = false → isRo p = false → RT (phi P85.prog q) (.cons (.ret (.ife (.ofE (.cmp .eq (.var 1) (.var 2))) (.int 0) .non)) .nil) [some (pD p), some (eD a), some (eD b)] (.val (if decide (a = b) then .int 0 else .none)) := fun q _ _ => rt_ret (pv_ife (pt_b (pv_cmp (pv_var rfl).pd (pv_var rfl).pd (eq_el ha hb))) (fun _ => pv_int) (fun _ => pv_non))
  rcases cases_ok ha with ⟨rfl, i, rfl⟩ | ⟨m, i, rfl, rfl, h1, h2⟩ | ⟨n, c, rfl, rfl, h⟩ | ⟨m, v, rfl, rfl, h1, h2, h3⟩
  · cases b <;> first | (exact absurd hb id) | skip
    rename_i j
    by_cases e : i = j
    · subst e
      refine .inl ⟨rfl, .z 0, ret_of (d := 4) rfl fun q hq => head q _ (fun z => nomatch z) (fun z => nomatch z) (fun _ _ => ?_) (fun _ z => nomatch z), trivial, ?_⟩
      · have := last q rfl rfl
        rw [decide_eq_true rfl] at this
        exact this
      · simp [mulE]
    · refine .inr ⟨fun z => e (by injection z), ret_of (d := 4) rfl fun q hq => head q _ (fun z => nomatch z) (fun z => nomatch z) (fun _ _ => ?_) (fun _ z => nomatch z)⟩
      have := last q rfl rfl
      rw [decide_eq_false (fun z => e (by injection z))] at this
      exact this
  · cases b <;> first | (exact absurd hb id) | skip
    rename_i j
    by_cases e : i = j
    · subst e
      refine .inl ⟨rfl, .z 0, ret_of (d := 4) rfl fun q hq => head q _ (fun z => nomatch z) (fun z => nomatch z) (fun _ _ => ?_) (fun _ z => nomatch z), ⟨Int.le_refl _, by have : 1 ≤ m := hp; omega⟩, ?_⟩
      · have := last q rfl rfl
        rw [decide_eq_true rfl] at this
        exact this
      · simp [mulE]
    · refine .inr ⟨fun z => e (by injection z), ret_of (d := 4) rfl fun q hq => head q _ (fun z => nomatch z) (fun z => nomatch z) (fun _ _ => ?_) (fun _ z => nomatch z)⟩
      have := last q rfl rfl
      rw [decide_eq_false (fun z => e (by injection z))] at this
      exact this
  · cases b <;> first | (exact absurd hb id) | skip
    rename_i c'
    have h' : Deck n c' := hb
    rcases r17 h h' hp.2 with ⟨e, X, g1, g2, g3⟩ | ⟨e, g1⟩
    · refine .inl ⟨?_, .k X, ret_of (d := 4) rfl fun q hq => head q _ (fun _ => rt_ret (pv_call (pvs_cons (pv_var rfl).pd (pvs_cons (pv_var rfl).pd pvs_nil)) (g1 q (by omega)))) (fun z => nomatch z) (fun z => nomatch z) (fun _ z => nomatch z), g2, ?_⟩
      · simp only [cls, e]
      · simp only [mulE, g3]
    · refine .inr ⟨fun z => e ?_, ret_of (d := 4) rfl fun q hq => head q _ (fun _ => rt_ret (pv_call (pvs_cons (pv_var rfl).pd (pvs_cons (pv_var rfl).pd pvs_nil)) (g1 q (by omega)))) (fun z => nomatch z) (fun z => nomatch z) (fun _ z => nomatch z)⟩
      simp only [cls, El.k.injEq] at z
      exact canon_inj _ _ 0 (lens_pos h) (lens_pos h') z
  · cases b <;> first | (exact absurd hb id) | skip
    rename_i u
    obtain ⟨k1, k2, k3⟩ := hb
    obtain ⟨ta, ca, tb, cb, ea, eb, g⟩ := r18 m v u h3 k3 h1 k1 h2 k2 hB
    have e1 := coreW_of ea
    have e2 := coreW_of eb
    rcases g with ⟨hr, t, g1, g2, g3, g4, g5⟩ | ⟨hr, g1⟩
    · refine .inl ⟨?_, .w t, ret_of (d := 4) rfl fun q hq => head q _ (fun z => nomatch z) (fun _ => rt_ret (pv_call (pvs_cons (pv_var rfl).pd (pvs_cons (pv_var rfl).pd (pvs_cons (pv_var rfl).pd pvs_nil))) (g1 q (by omega)))) (fun _ z => nomatch z) (fun _ z => nomatch z), ⟨g2, g3, g4⟩, ?_⟩
      · simp only [cls, e1, e2, lst_rot hr]
      · simp only [mulE, g5]
    · refine .inr ⟨fun z => hr ?_, ret_of (d := 4) rfl fun q hq => head q _ (fun z => nomatch z) (fun _ => rt_ret (pv_call (pvs_cons (pv_var rfl).pd (pvs_cons (pv_var rfl).pd (pvs_cons (pv_var rfl).pd pvs_nil))) (g1 q (by omega)))) (fun _ z => nomatch z) (fun _ z => nomatch z)⟩
      simp only [cls, El.w.injEq, e1, e2] at z
      exact rot_lst z
/-! changes -/
def oD : Option El → D
  | none => .none
  | some e => eD e
theorem rows {B : Nat} (hB : 3 * B + 3 < lim) : ∀ {ps : List Part} {as bs : List El}, COk B ps as → COk B ps bs → ∃ os : List (Option El), os.length = ps.length ∧ (∀ (i : Nat) p a b, ps[i]? = some p → as[i]? = some a → bs[i]? = some b → ∃ o, os[i]? = some o ∧ Ret 19 [pD p, eD a, eD b] (.val (oD o)) [] 5) ∧
    ((clsC ps as = clsC ps bs ∧ ∃ ts, os = ts.map some ∧ COk (3 * B) ps ts ∧ mulC ps as ts = mulC ps ts bs) ∨ (clsC ps as ≠ clsC ps bs ∧ none ∈ os))
  | [], [], [], _, _ => ⟨[], rfl, fun i p a b h => by simp at h, .inl ⟨rfl, [], rfl, trivial, rfl⟩⟩
  | p :: ps, a :: as, b :: bs, ha, hb => by
    obtain ⟨os, l1, l2, l3⟩ := rows hB ha.2.2 hb.2.2
    rcases r19 ha.1 ha.2.1 hb.2.1 hB with ⟨e, t, g1, g2, g3⟩ | ⟨e, g1⟩
    · refine ⟨some t :: os, by simp [l1], fun i p' a' b' h1 h2 h3 => ?_, ?_⟩
      · cases i with
        | zero => simp at h1 h2 h3; subst h1 h2 h3; exact ⟨some t, rfl, g1⟩
        | succ i => simp at h1 h2 h3; simpa using l2 i p' a' b' h1 h2 h3
      · rcases l3 with ⟨c1, ts, c2, c3, c4⟩ | ⟨c1, c2⟩
        · refine .inl ⟨?_, t :: ts, by rw [c2]; rfl, ⟨ha.1, g2, c3⟩, ?_⟩
          · simp only [clsC, e, c1]
          · simp only [mulC, g3, c4]
        · refine .inr ⟨fun z => c1 ?_, List.mem_cons_of_mem _ c2⟩
          simp only [clsC, List.cons.injEq] at z
          exact z.2
    · refine ⟨none :: os, by simp [l1], fun i p' a' b' h1 h2 h3 => ?_, .inr ⟨fun z => e ?_, List.mem_cons_self⟩⟩
      · cases i with
        | zero => simp at h1 h2 h3; subst h1 h2 h3; exact ⟨none, rfl, g1⟩
        | succ i => simp at h1 h2 h3; simpa using l2 i p' a' b' h1 h2 h3
      · simp only [clsC, List.cons.injEq] at z
        exact z.1
  | [], _ :: _, _, h, _ => absurd h id
  | [], [], _ :: _, _, h => absurd h id
  | _ :: _, [], _, h, _ => absurd h id
  | _ :: _, _ :: _, [], _, h => absurd h id
theorem lay_o : ∀ os : List (Option El), PySem.PyData.canLayAll0 (os.map oD) = true
  | [] => rfl
  | o :: os => by
    show (PySem.PyData.canLay0 (oD o) && PySem.PyData.canLayAll0 (os.map oD)) = true
    rw [lay_o os]
    cases o with
    | none => rfl
    | some e =>
      show (PySem.PyData.canLay0 (eD e) && true) = true
      rw [lay_el]
      rfl
theorem dep_o : ∀ os : List (Option El), PySem.PyData.depthAll (os.map oD) ≤ 3
  | [] => by simp [PySem.PyData.depthAll]
  | o :: os => by
    have h1 := dep_o os
    have h2 : (oD o).depth ≤ 3 := by
      cases o with
      | none => simp [oD, PySem.PyData.depth]
      | some e => exact dep_el e
    show PySem.PyData.depthAll (oD o :: os.map oD) ≤ 3
    simp only [PySem.PyData.depthAll]
    omega
theorem isin_none (os : List (Option El)) : cmpD .isin .none (.list (os.map oD)) = some (os.any Option.isNone) := by
  have hs : PySem.SeqAt.shaped (.list (os.map oD)) = true := by
    unfold PySem.SeqAt.shaped
    rw [show PySem.PyData.canLay0 (.list (os.map oD)) = PySem.PyData.canLayAll0 (os.map oD) from rfl, lay_o, Bool.true_and, decide_eq_true]
    have h2 := dep_o os
    have : (PySem.PyData.list (os.map oD)).depth ≤ PySem.PyData.depthAll (os.map oD) + 1 := by simp [PySem.PyData.depth]
    omega
  show (if (PySem.SeqAt.shaped .none && PySem.SeqAt.shaped (.list (os.map oD))) = true then some ((os.map oD).any fun z => PySem.PyData.eqv z .none) else none) = _
  rw [hs, show PySem.SeqAt.shaped .none = true from rfl, if_pos (show (true && true) = true from rfl), List.any_map]
  congr 2
  funext o
  cases o with
  | none => rfl
  | some e => cases e <;> rfl
/-- turner_of -/
theorem r20 {B : Nat} {ps : List Part} {as bs : List El} (ha : COk B ps as) (hb : COk B ps bs) (hB : 3 * B + 3 < lim) (hl : ps.length ≤ lim) : (clsC ps as = clsC ps bs ∧ ∃ ts, Ret 20 [WD ps, ED as, ED bs] (.val (ED ts)) [] 6 ∧ COk (3 * B) ps ts ∧ mulC ps as ts = mulC ps ts bs) ∨ (clsC ps as ≠ clsC ps bs ∧ Ret 20 [WD ps, ED as, ED bs] (.val .none) [] 6) := by
  obtain ⟨os, l1, l2, l3⟩ := rows hB ha hb
  have main : Ret 20 [WD ps, ED as, ED bs] (.val (if os.any Option.isNone then .none else .tuple (os.map oD))) [] 6 := by
    refine ret_of (d := 5) rfl fun q hq => run_of rfl ?_ (fun _ z => nomatch z)
    refine rt_cons (ρ1 := [some (WD ps), some (ED as), some (ED bs), some (.list (os.map oD)), none, none, none]) (sx_asg (i := 3) (PO.pd (po_lcI (items := zipD3 (ps.map pD) (as.map eD) (bs.map eD)) (pi_zip3 (pv_var rfl).pd (pv_var rfl).pd (pv_var rfl).pd) (os.map oD) ?_ ?_ rfl fun i d o hi ho => ?_)) (Nat.le_of_ble_eq_true rfl)) ?_
    · rw [List.length_map, zip3_len _ _ _ (by simp [ha.len]) (by simp [hb.len]), List.length_map, l1]
    · rw [zip3_len _ _ _ (by simp [ha.len]) (by simp [hb.len]), List.length_map]
      exact hl
    · obtain ⟨p, a, b, h1, h2, h3, rfl, h5⟩ := at_i hi
      obtain ⟨o', g1, g2⟩ := l2 i p a b h1 h2 h3
      rw [List.getElem?_map, g1] at ho
      cases ho
      exact ⟨[some (WD ps), some (ED as), some (ED bs), none, some (pD p), some (eD a), some (eD b)], rfl, rfl, pt_yes, PV.pd (pv_call (pvs_cons (pv_var rfl).pd (pvs_cons (pv_var rfl).pd (pvs_cons (pv_var rfl).pd pvs_nil))) (g2 q (by omega)))⟩
    · exact rt_ret (pv_ife (pt_b (pv_cmp pv_non.pd (pv_var rfl).pd (isin_none os))) (fun _ => pv_non) (fun _ => pv_blt (pvs_cons (pv_var rfl).pd pvs_nil) rfl))
  rcases l3 with ⟨c1, ts, rfl, c3, c4⟩ | ⟨c1, c2⟩
  · refine .inl ⟨c1, ts, ?_, c3, c4⟩
    have e : (ts.map some).any Option.isNone = false := by
      rw [List.any_map]
      have : (Option.isNone ∘ some : El → Bool) = fun _ => false := rfl
      rw [this]
      simp
    rw [e, if_neg Bool.false_ne_true, List.map_map] at main
    exact main
  · refine .inr ⟨c1, ?_⟩
    rw [if_pos (List.any_eq_true.mpr ⟨none, c2, rfl⟩)] at main
    exact main
/-- are_turned -/
theorem r21 {B : Nat} {ps : List Part} {as bs : List El} (ha : COk B ps as) (hb : COk B ps bs) (hB : 3 * B + 3 < lim) (hl : ps.length ≤ lim) (k : Bool) (h1 : clsC ps as = clsC ps bs → k = true) (h2 : clsC ps as ≠ clsC ps bs → k = false) : Ret 21 [WD ps, ED as, ED bs] (.val (.bool k)) [] 7 := by
  refine ret_of (d := 6) rfl fun q hq => run_of rfl ?_ (fun _ z => nomatch z)
  rcases r20 ha hb hB hl with ⟨e, ts, g1, _⟩ | ⟨e, g1⟩
  · rw [h1 e]
    exact rt_ret (pv_isT (PV.pd (pv_call (pvs_cons (pv_var rfl).pd (pvs_cons (pv_var rfl).pd (pvs_cons (pv_var rfl).pd pvs_nil))) (g1 q hq))))
  · rw [h2 e]
    exact rt_ret (pv_isT (PV.pd (pv_call (pvs_cons (pv_var rfl).pd (pvs_cons (pv_var rfl).pd (pvs_cons (pv_var rfl).pd pvs_nil))) (g1 q hq))))
end M85
set_option Elab.async false
set_option linter.all false
set_option maxRecDepth 100000
set_option maxHeartbeats 1000000
/-! U85v: least_turned. -/
namespace M85
open Vm
/-- one round more -/
def blk (o l : Nat) : List Nat := (List.range (l - 1)).map (fun k => o + k + 1) ++ [o]
theorem canon_cons (o l : Nat) (ls : List Nat) : canon o (l :: ls) = blk o l ++ canon (o + l) ls := by
  simp [canon, blk]
theorem canon_snoc : ∀ (ls : List Nat) (o l : Nat), canon o (ls ++ [l]) = canon o ls ++ blk (o + ls.sum) l
  | [], o, l => by simp [canon, blk]
  | x :: ls, o, l => by
    rw [List.cons_append, canon_cons, canon_snoc ls, canon_cons, List.append_assoc, List.sum_cons]
    rw [show o + x + ls.sum = o + (x + ls.sum) by omega]
/-- the list that grows by a round: what the statement gives -/
theorem kL_app (a b : List Nat) : kL (a ++ b) = kL a ++ kL b := by unfold kL; rw [List.map_append]
theorem grow_ok {Φ : Fs} {ρ : Rho} {xs : List Nat} {l o i1 i3 i4 : Nat} {n : E} (h1 : ρ[i1]? = some (some (.list (kL xs)))) (h3 : ρ[i3]? = some (some (.int (o : Nat)))) (hn : PV Φ n ρ (.int ((l : Nat) - 1))) (hl : 1 ≤ l) (hb : xs.length + l ≤ 1000)
    (hc : restore ρ [i4] (clear [i4] ρ) = ρ) (h4 : i4 < (clear [i4] ρ).length) (hcl : ∀ d, clear [i4] ((clear [i4] ρ).set i4 (some d)) = clear [i4] ρ) (h34 : ∀ d, ((clear [i4] ρ).set i4 (some d))[i3]? = some (some (.int (o : Nat)))) :
    PO Φ (.bin .add (.bin .add (.var i1) (.lc [i4] (.name i4) (.range (.cons n .nil)) .yes (.bin .add (.bin .add (.var i3) (.var i4)) (.int 1)))) (.lst (.cons (.var i3) .nil))) ρ (.list (kL (xs ++ blk o l))) := by
  have hlim : lim = 100000 := rfl
  have hr : PI Φ (.range (.cons n .nil)) ρ (rangeD 0 (l - 1)) := by
    have := pi_range1 hn (by
      unfold small62
      simp only [Bool.and_eq_true, decide_eq_true_eq]
      omega)
    rw [show ((l : Nat) - 1 : Int).toNat = l - 1 by omega] at this
    exact this
  have hlc : PO Φ (.lc [i4] (.name i4) (.range (.cons n .nil)) .yes (.bin .add (.bin .add (.var i3) (.var i4)) (.int 1))) ρ (.list (kL ((List.range (l - 1)).map (fun k => o + k + 1)))) := by
    refine po_lcI hr _ (by rw [kL_len, List.length_map, List.length_range, rangeD_len]) (by rw [rangeD_len]; omega) hc fun i d x hd hx => ?_
    obtain ⟨hi, rfl⟩ := rangeD_at hd
    obtain ⟨k, ek, rfl⟩ := kL_at hx
    rw [List.getElem?_map, List.getElem?_range hi] at ek
    simp only [Option.map_some, Option.some.injEq] at ek
    subst ek
    refine ⟨(clear [i4] ρ).set i4 (some (.int (i : Nat))), by simp only [assignG]; rw [if_pos h4], hcl _, pt_yes, PV.pd (pv_bin (PV.pd (pv_bin (pv_var (h34 _)).pd (pv_var (List.getElem?_set_self h4)).pd rfl)) pv_int.pd ?_)⟩
    show some (R.val (.int ((o : Nat) + (i : Nat) + 1))) = _
    congr 3
  have e1 : binD .add (.list (kL xs)) (.list (kL ((List.range (l - 1)).map (fun k => o + k + 1)))) = some (.own (.list (kL (xs ++ (List.range (l - 1)).map (fun k => o + k + 1))))) := by
    show (if _ then _ else _) = _
    rw [if_pos (by rw [kL_len, kL_len, List.length_map, List.length_range]; omega), kL_app]
  refine po_bin (PO.pd (po_bin (pv_var h1).pd hlc.pd e1)) (PO.pd (po_lst (pvs_cons (pv_var h3).pd pvs_nil) (Nat.le_of_ble_eq_true rfl))) ?_
  show (if _ then _ else _) = _
  rw [if_pos (by rw [kL_len, List.length_append, List.length_map, List.length_range]; simp only [List.length_cons, List.length_nil]; omega)]
  unfold blk
  rw [← List.append_assoc, kL_app _ [o]]
  rfl
theorem canon_take {ls : List Nat} (hp : ∀ l ∈ ls, 1 ≤ l) (t : Nat) : (canon 0 (ls.take t)).length = (ls.take t).sum := canon_len _ 0 fun l hl => hp l (List.mem_of_mem_take hl)
theorem sum_take_le : ∀ (ls : List Nat) (t : Nat), (ls.take t).sum ≤ ls.sum
  | [], t => by simp
  | l :: ls, 0 => by simp
  | l :: ls, t + 1 => by
    have := sum_take_le ls t
    simp only [List.take_succ_cons, List.sum_cons]
    omega
theorem sum_take_succ {ls : List Nat} {t l : Nat} (h : ls[t]? = some l) : (ls.take (t + 1)).sum = (ls.take t).sum + l := by
  rw [List.take_add_one, h, List.sum_append]
  simp
theorem r23 {n : Nat} {c : List Nat} (h : Deck n c) (hn : n ≤ 100) : Ret 23 [kD c] (.val (kD (canon 0 (lens c)))) [] 3 := by
  have hlim : lim = 100000 := rfl
  refine ret_of (d := 2) rfl fun q hq => run_of rfl ?_ (fun _ z => nomatch z)
  refine rt_cons (ρ1 := [some (kD c), some (.list []), none, none, none]) (sx_asg (i := 1) (PO.pd (po_lst pvs_nil (Nat.zero_le _))) (Nat.le_of_ble_eq_true rfl)) ?_
  have hp := lens_pos h
  have hs := lens_sum h
  let I : Nat → Rho → Prop := fun t ρ => ∃ a2 a3, ρ = [some (kD c), some (.list (kL (canon 0 ((lens c).take t)))), a2, a3, none]
  obtain ⟨ρ', h1, h2⟩ := for_inv (f := fun r => execs (phi P85.prog q) (.cons (.asg (.name 3) (.blt .len (.cons (.var 1) .nil))) (.cons (.asg (.name 1) (.bin .add (.bin .add (.var 1) (.lc [4] (.name 4) (.range (.cons (.bin .sub (.blt .len (.cons (.var 2) .nil)) (.int 1)) .nil)) .yes (.bin .add (.bin .add (.var 3) (.var 4)) (.int 1)))) (.lst (.cons (.var 3) .nil)))) .nil)) r) (g := .name 2) I ((ar c).map lL) 0 [some (kD c), some (.list []), none, none, none] ⟨none, none, rfl⟩ fun t d ρ hd hI => by
    rw [Nat.zero_add] at hI ⊢
    obtain ⟨a2, a3, rfl⟩ := hI
    rw [List.getElem?_map] at hd
    obtain ⟨m, em⟩ : ∃ m, (ar c)[t]? = some m := by
      cases e : (ar c)[t]? with
      | none => rw [e] at hd; cases hd
      | some m => exact ⟨m, rfl⟩
    rw [em] at hd
    cases hd
    have el : (lens c)[t]? = some m.length := by rw [← ar_lens h, List.getElem?_map, em]; rfl
    have hm := ar_pos h m (List.mem_of_getElem? em)
    have hcl := canon_take hp t
    have hsum := sum_take_succ el
    have hle := sum_take_le (lens c) (t + 1)
    have e2 : canon 0 ((lens c).take (t + 1)) = canon 0 ((lens c).take t) ++ blk (canon 0 ((lens c).take t)).length m.length := by
      rw [List.take_add_one, el]
      show canon 0 (_ ++ [m.length]) = _
      rw [canon_snoc, Nat.zero_add, hcl]
    refine ⟨[some (kD c), some (.list (kL (canon 0 ((lens c).take t)))), some (lL m), a3, none], .nx, [some (kD c), some (.list (kL (canon 0 ((lens c).take (t + 1))))), some (lL m), some (.int ((canon 0 ((lens c).take t)).length : Nat)), none], rfl, bx_cons (ρ1 := [some (kD c), some (.list (kL (canon 0 ((lens c).take t)))), some (lL m), some (.int ((canon 0 ((lens c).take t)).length : Nat)), none]) ?_ (bx_cons ?_ bx_nil), .inl rfl, ⟨_, _, rfl⟩⟩
    · refine sx_asg (i := 3) (PV.pd (pv_blt (pvs_cons (pv_var rfl).pd pvs_nil) ?_)) (Nat.le_of_ble_eq_true rfl)
      show some (R.val (.int ((kL _).length : Nat))) = _
      rw [kL_len]
    · rw [e2]
      refine sx_asg (i := 1) (PO.pd (grow_ok (i3 := 3) rfl rfl (pv_bin (PV.pd (pv_blt (pvs_cons (pv_var rfl).pd pvs_nil) (d := .int (m.length : Nat)) ?_)) pv_int.pd rfl) hm ?_ rfl (Nat.le_of_ble_eq_true rfl) (fun _ => rfl) (fun _ => rfl))) (Nat.le_of_ble_eq_true rfl)
      · show some (R.val (.int ((kL m).length : Nat))) = _
        rw [kL_len]
      · omega
  rw [Nat.zero_add, List.length_map] at h2
  obtain ⟨a2, a3, rfl⟩ := h2
  have e3 : (lens c).take (ar c).length = lens c := by
    rw [← ar_lens h]
    exact List.take_of_length_le (by simp)
  rw [e3] at h1
  exact rt_loop (pi_seq (PO.pd (po_call (pvs_cons (pv_var rfl).pd pvs_nil) (r16 h hn q hq))) rfl) h1 (rt_ret (pv_blt (pvs_cons (pv_var rfl).pd pvs_nil) rfl))
theorem alike_w : ∀ a b : W, PySem.W.alikeAll (a.map lD) (b.map lD) = true
  | [], _ => by simp [PySem.W.alikeAll]
  | p :: a, [] => by simp [PySem.W.alikeAll]
  | p :: a, q :: b => by
    rw [List.map_cons, List.map_cons, PySem.W.alikeAll, alike_w a b]
    rfl
theorem dep_wD (a : W) : (wD a).depth ≤ 3 := by
  have h1 := dep_tup (a.map lD)
  have h2 := dep_lD a
  show (PySem.PyData.tuple (a.map lD)).depth ≤ 3
  omega
theorem dep_wDs : ∀ ws : List W, PySem.PyData.depthAll (ws.map wD) ≤ 3
  | [] => by simp [PySem.PyData.depthAll]
  | w :: ws => by
    have h1 := dep_wDs ws
    have h2 := dep_wD w
    show PySem.PyData.depthAll (wD w :: ws.map wD) ≤ 3
    simp only [PySem.PyData.depthAll]
    omega
theorem min_words (w : W) (ws : List W) : bltD .min [.list (wD w :: ws.map wD)] = some (.val (PySem.W.minD (wD w) (ws.map wD))) := by
  have h1 : alikeB (wD w :: ws.map wD) = true := by
    unfold alikeB
    rw [← List.map_cons (f := wD), Bool.and_eq_true]
    refine ⟨?_, ?_⟩
    · rw [List.all_map, List.all_eq_true]
      intro a _
      simp only [Function.comp]
      rw [List.all_map, List.all_eq_true]
      intro b _
      exact alike_w a b
    · rw [List.all_map, List.all_eq_true]
      intro a _
      rfl
  have h2 : PySem.PyData.depthAll (wD w :: ws.map wD) ≤ 60 := by
    have := dep_wDs (w :: ws)
    rw [List.map_cons] at this
    omega
  show (if (alikeB (wD w :: ws.map wD) && decide (PySem.PyData.depthAll (wD w :: ws.map wD) ≤ 60)) = true then _ else _) = _
  rw [h1, decide_eq_true h2]
  rfl
theorem r24 (w : W) (hw : 2 * w.length < lim) : Ret 24 [wD w] (.val (wD (lst (coreW w)))) [] 3 := by
  obtain ⟨t, c, hc, e, r⟩ := r11 w (by omega)
  rw [coreW_of hc]
  have hlen : c.length ≤ w.length := by
    have := congrArg List.length e
    simp only [List.length_append] at this
    omega
  refine ret_of (d := 2) rfl fun q hq => run_of rfl ?_ (fun _ z => nomatch z)
  refine rt_cons (ρ1 := [some (wD w), some (wD c), none]) (sx_asg (i := 1) (PV.pd (pv_ix (PV.pd (pv_call (pvs_cons (pv_var rfl).pd pvs_nil) (r q hq))) pv_int rfl)) (Nat.le_of_ble_eq_true rfl)) ?_
  have hrange : PI (phi P85.prog q) (.range (.cons (.blt .max (.cons (.int 1) (.cons (.blt .len (.cons (.var 1) .nil)) .nil))) .nil)) [some (wD w), some (wD c), none] (rangeD 0 (max 1 c.length)) := by
    have hl : PV (phi P85.prog q) (.blt .len (.cons (.var 1) .nil)) [some (wD w), some (wD c), none] (.int (c.length : Nat)) := pv_blt (pvs_cons (pv_var rfl).pd pvs_nil) (by show some (R.val (.int ((c.map lD).length : Nat))) = _; rw [List.length_map])
    have hm : PV (phi P85.prog q) (.blt .max (.cons (.int 1) (.cons (.blt .len (.cons (.var 1) .nil)) .nil))) [some (wD w), some (wD c), none] (.int ((max 1 c.length : Nat) : Int)) := pv_blt (pvs_cons pv_int.pd (pvs_cons hl.pd pvs_nil)) (by
      show some (R.val (.int (if ((c.length : Nat) : Int) > 1 then ((c.length : Nat) : Int) else 1))) = _
      congr 3
      split <;> omega)
    have := pi_range1 hm (small_nat (by omega))
    rwa [Int.toNat_natCast] at this
  have hlc : PO (phi P85.prog q) (.lc [2] (.name 2) (.range (.cons (.blt .max (.cons (.int 1) (.cons (.blt .len (.cons (.var 1) .nil)) .nil))) .nil)) .yes (.bin .add (.sl (.var 1) (.some (.var 2)) .none) (.sl (.var 1) .none (.some (.var 2))))) [some (wD w), some (wD c), none] (.list (((List.range (max 1 c.length)).map (rot c)).map wD)) := by
    refine po_lcI hrange _ (by rw [List.length_map, List.length_map, List.length_range, rangeD_len]) (by rw [rangeD_len]; omega) rfl fun i d x hd hx => ?_
    obtain ⟨hi, rfl⟩ := rangeD_at hd
    rw [List.getElem?_map, List.getElem?_map, List.getElem?_range hi] at hx
    cases hx
    have hk : i ≤ c.length := by omega
    refine ⟨[some (wD w), some (wD c), some (.int (i : Nat))], rfl, rfl, pt_yes, PV.pd (pv_bin (PV.pd (pd_sl (pv_var rfl).pd (pob_some (pv_var rfl)) pob_none (sl_drop c i hk))) (PV.pd (pd_sl (pv_var rfl).pd pob_none (pob_some (pv_var rfl)) (sl_take c i hk))) (add_words _ _ (by simp only [List.length_drop, List.length_take]; omega)))⟩
  have e0 : (List.range (max 1 c.length)).map (rot c) = c :: (List.range (max 1 c.length - 1)).map fun k => rot c (k + 1) := by
    obtain ⟨m, hm⟩ : ∃ m, max 1 c.length = m + 1 := ⟨max 1 c.length - 1, by omega⟩
    rw [hm, List.range_succ_eq_map, List.map_cons, List.map_map, rot_zero]
    rfl
  rw [e0, List.map_cons] at hlc
  refine rt_ret (pv_blt (pvs_cons hlc.pd pvs_nil) ?_)
  rw [min_words, min_rots]
  · intro x hx
    obtain ⟨k, _, rfl⟩ := List.mem_map.mp hx
    exact rot_Rot c _
  · intro k hk
    cases k with
    | zero => rw [rot_zero]; exact List.mem_cons_self
    | succ k => exact List.mem_cons_of_mem _ (List.mem_map.mpr ⟨k, List.mem_range.mpr (by omega), rfl⟩)
theorem clsC_len : ∀ {ps : List Part} {as : List El}, as.length = ps.length → (clsC ps as).length = ps.length
  | [], _, _ => rfl
  | p :: ps, a :: as, h => by simp only [clsC, List.length_cons, clsC_len (Nat.succ.inj h)]
  | p :: ps, [], h => by simp at h
theorem clsC_at : ∀ {ps : List Part} {as : List El} {i : Nat} {p : Part} {a : El}, ps[i]? = some p → as[i]? = some a → (clsC ps as)[i]? = some (cls p a)
  | p :: ps, a :: as, 0, _, _, h1, h2 => by
    simp at h1 h2
    subst h1 h2
    rfl
  | p :: ps, a :: as, i + 1, _, _, h1, h2 => by
    simp only [List.getElem?_cons_succ] at h1 h2
    simpa [clsC] using clsC_at h1 h2
  | [], _, _, _, _, h1, _ => by simp at h1
  | _ :: _, [], _, _, _, _, h2 => by simp at h2
/-- least_turned -/
theorem r25 {B : Nat} {ps : List Part} {as : List El} (ha : COk B ps as) (hB : 2 * B < lim) (hl : ps.length < lim) : Ret 25 [WD ps, ED as] (.val (ED (clsC ps as))) [] 4 := by
  refine ret_of (d := 3) rfl fun q hq => run_of rfl ?_ (fun _ z => nomatch z)
  refine rt_cons (ρ1 := [some (WD ps), some (ED as), some (.list []), none, none]) (sx_masg (i := 2) (po_lst pvs_nil (Nat.zero_le _)) (Nat.le_of_ble_eq_true rfl)) ?_
  let I : Nat → Rho → Prop := fun t ρ => ∃ a3 a4, ρ = [some (WD ps), some (ED as), some (.list (((clsC ps as).take t).map eD)), a3, a4]
  obtain ⟨ρ', h1, h2⟩ := for_inv (f := fun r => execs (phi P85.prog q) (.cons (.ite (.ofE (.cmp .eq (.ix (.var 3) (.int 0)) (.str "deck"))) (.cons (.asg (.name 4) (.call 23 [] (.cons (.var 4) .nil))) .nil) (.cons (.ite (.ofE (.cmp .eq (.ix (.var 3) (.int 0)) (.str "rope"))) (.cons (.asg (.name 4) (.call 24 [] (.cons (.var 4) .nil))) .nil) .nil) .nil)) (.cons (.append 2 (.var 4)) .nil)) r) (g := .tup [3, 4]) I (zipD2 (ps.map pD) (as.map eD)) 0 [some (WD ps), some (ED as), some (.list []), none, none] ⟨none, none, rfl⟩ fun t d ρ hd hI => by
    rw [Nat.zero_add] at hI ⊢
    obtain ⟨a3, a4, rfl⟩ := hI
    obtain ⟨x, y, hx, hy, rfl⟩ := zipD2_at _ _ _ _ hd
    rw [List.getElem?_map] at hx hy
    obtain ⟨p, ep⟩ : ∃ m, ps[t]? = some m := by
      cases e : ps[t]? with
      | none => rw [e] at hx; cases hx
      | some m => exact ⟨m, rfl⟩
    obtain ⟨a, ea⟩ : ∃ m, as[t]? = some m := by
      cases e : as[t]? with
      | none => rw [e] at hy; cases hy
      | some m => exact ⟨m, rfl⟩
    rw [ep] at hx
    rw [ea] at hy
    cases hx
    cases hy
    obtain ⟨hp, he⟩ := ha.get ep ea
    have ecl := clsC_at ep ea
    have e1 : ((clsC ps as).take (t + 1)).map eD = ((clsC ps as).take t).map eD ++ [eD (cls p a)] := by
      rw [List.take_add_one, ecl, List.map_append]
      rfl
    have htl : t < ps.length := (List.getElem?_eq_some_iff.mp ep).1
    refine ⟨[some (WD ps), some (ED as), some (.list (((clsC ps as).take t).map eD)), some (pD p), some (eD a)], .nx, [some (WD ps), some (ED as), some (.list (((clsC ps as).take (t + 1)).map eD)), some (pD p), some (eD (cls p a))], rfl, bx_cons (ρ1 := [some (WD ps), some (ED as), some (.list (((clsC ps as).take t).map eD)), some (pD p), some (eD (cls p a))]) ?_ (bx_cons ?_ bx_nil), .inl rfl, ⟨_, _, rfl⟩⟩
    · refine sx_ite (pt_de (pv_var rfl)) (fun h => ?_) (fun h0 => bx_cons (sx_ite (pt_ro (pv_var rfl)) (fun h => ?_) (fun h1 => ?_)) bx_nil)
      · cases p <;> first | (cases h; done) | skip
        cases a <;> first | (exact absurd he id) | skip
        exact bx_cons (sx_asg (i := 4) (PV.pd (pv_call (pvs_cons (pv_var rfl).pd pvs_nil) (r23 he hp.2 q hq))) (Nat.le_of_ble_eq_true rfl)) bx_nil
      · cases p <;> first | (cases h; done) | skip
        cases a <;> first | (exact absurd he id) | skip
        obtain ⟨_, _, hv⟩ := he
        exact bx_cons (sx_asg (i := 4) (PV.pd (pv_call (pvs_cons (pv_var rfl).pd pvs_nil) (r24 _ (by omega) q hq))) (Nat.le_of_ble_eq_true rfl)) bx_nil
      · cases p <;> first | (cases h0; done) | (cases h1; done) | exact bx_nil
    · rw [e1]
      refine sx_append (Φ := phi P85.prog q) (i := 2) rfl (pv_var rfl).pd ?_
      simp only [List.length_map, List.length_take]
      omega
  rw [Nat.zero_add, zipD2_len _ _ (by rw [List.length_map, List.length_map, ha.len]), List.length_map] at h2
  obtain ⟨a3, a4, rfl⟩ := h2
  rw [List.take_of_length_le (by rw [clsC_len ha.len]; exact Nat.le_refl _)] at h1
  exact rt_loop (pi_zip2 (pv_var rfl).pd (pv_var rfl).pd) h1 (rt_ret (pv_bltR (prs_cons (pr_mvar rfl) prs_nil) rfl))
end M85
set_option Elab.async false
set_option linter.all false
set_option maxRecDepth 100000
set_option maxHeartbeats 1000000
/-! U85w: the law's heap of numbers. -/
namespace M85
open Vm
theorem fmod_lt {i m : Int} (h : 1 ≤ m) : 0 ≤ i.fmod m ∧ i.fmod m < m := by
  rw [Int.fmod_eq_emod_of_nonneg i (by omega)]
  exact ⟨Int.emod_nonneg _ (by omega), Int.emod_lt_of_pos _ (by omega)⟩
theorem ixn_nat {n j : Nat} (h : j < n) : L2.ixN n (j : Int) = some j := by
  unfold L2.ixN
  rw [if_pos (by omega), if_pos (by omega), Int.toNat_natCast]
theorem mul_two64 {x y : Int} (h0 : 0 ≤ x) (h : x < 2 ^ 64) : binD .mul (.int x) (.int y) = some (.val (.int (x * y))) := by
  have : mulOk x y = true := by
    unfold mulOk
    rw [decide_eq_true (show -(2 ^ 64) < x by omega), decide_eq_true h]
    rfl
  simp only [binD, this, if_true]
theorem r27 (H : List Int) (hH : HOk H) (m : Int) (hm : 1 ≤ m) : ∃ r H', HOk H' ∧ (0 ≤ r ∧ r < m) ∧ Ret 27 [hD H, .int m] (.val (.int r)) [hD H'] 1 := by
  obtain ⟨x0, x1, t, rfl⟩ : ∃ x0 x1 t, H = x0 :: x1 :: t := by
    match H, hH with
    | x0 :: x1 :: t, _ => exact ⟨x0, x1, t, rfl⟩
    | [_], h => exact absurd h (by unfold HOk; simp)
    | [], h => exact absurd h (by unfold HOk; simp)
  have s1 : ∀ q, SX (phi P85.prog q) (.setix 0 (.int 1) (.bin .add (.ix (.mvar 0) (.int 1)) (.int 1))) [some (hD (x0 :: x1 :: t)), some (.int m), none, none] [some (hD (x0 :: (x1 + 1) :: t)), some (.int m), none, none] := fun q =>
    sx_setix (i := 0) (n := 1) (xs := .int x0 :: .int x1 :: t.map .int) rfl (PV.pd (pv_bin (PV.pd (pv_ixR (pr_mvar (xs := .int x0 :: .int x1 :: t.map .int) rfl) pv_int (ixL (by decide) rfl))) pv_int.pd rfl)) pv_int (ixn_nat (j := 1) (by simp))
  have hlen : ∀ (q : Nat) (a b : Option D), PV (phi P85.prog q) (.blt .len (.cons (.mvar 0) .nil)) [some (hD (x0 :: (x1 + 1) :: t)), some (.int m), a, b] (.int ((t.length + 2 : Nat) : Int)) := fun q a b => pv_bltR (prs_cons (pr_mvar (xs := .int x0 :: .int (x1 + 1) :: t.map .int) rfl) prs_nil) (by
    show some (R.val (.int ((PySem.PyData.int x0 :: PySem.PyData.int (x1 + 1) :: t.map PySem.PyData.int).length : Nat))) = _
    simp only [List.length_cons, List.length_map])
  have hgt : ∀ q, PT (phi P85.prog q) (.ofE (.cmp .gt (.blt .len (.cons (.mvar 0) .nil)) (.int 2))) [some (hD (x0 :: (x1 + 1) :: t)), some (.int m), none, none] (decide ((2 : Int) < ((t.length + 2 : Nat) : Int))) := fun q => pt_b (pv_cmpR (hlen q _ _).pr pv_int.pr rfl)
  have hm0 : m ≠ 0 := by omega
  cases t with
  | cons z zs =>
    refine ⟨z.fmod m, x0 :: (x1 + 1) :: zs, (by unfold HOk; simp), fmod_lt hm, ret_of (d := 0) rfl fun q _ => ?_⟩
    have hp : popAtD 2 (.int x0 :: .int (x1 + 1) :: .int z :: zs.map .int) = some (.int z, .int x0 :: .int (x1 + 1) :: zs.map .int) := by
      have e : PySem.seqIndex? 2 (PySem.PyData.int x0 :: PySem.PyData.int (x1 + 1) :: PySem.PyData.int z :: zs.map PySem.PyData.int).length = some 2 := by
        unfold PySem.seqIndex?
        simp only [List.length_cons, List.length_map]
        have : ¬ ((2 : Int) < 0) := by omega
        simp [this]
        omega
      unfold popAtD
      rw [e]
      rfl
    have key := run_ofO (Φ := phi P85.prog q) (np := 2) (ns := 4) (M := [0]) (mps := [0]) (b := P85.b27) (ds := [hD (x0 :: x1 :: z :: zs), .int m]) (Q := fun r outs => r = .val (.int (z.fmod m)) ∧ outs = [hD (x0 :: (x1 + 1) :: zs)]) rfl (by
      refine wb_cons (s1 q) ?_
      refine ⟨.rt (.val (.int (z.fmod m))), [some (hD (x0 :: (x1 + 1) :: zs)), some (.int m), none, none], ?_, _, _, rfl, (fun _ z => nomatch z), rfl, rfl, rfl⟩
      have ht := hgt q
      rw [decide_eq_true (by simp only [List.length_cons]; omega)] at ht
      unfold PT at ht
      have e1 : evalE (phi P85.prog q) (.popAt 0 (.int 2)) [some (hD (x0 :: (x1 + 1) :: z :: zs)), some (.int m), none, none] = some (.val (.int z), [some (hD (x0 :: (x1 + 1) :: zs)), some (.int m), none, none]) := by
        have ei : isListAt [some (hD (x0 :: (x1 + 1) :: z :: zs)), some (.int m), none, none] 0 = true := rfl
        have e0 : [some (hD (x0 :: (x1 + 1) :: z :: zs)), some (.int m), none, none][0]? = some (some (.list (.int x0 :: .int (x1 + 1) :: .int z :: zs.map .int))) := rfl
        simp only [evalE, ei, e0, hp, bind, Option.bind, if_true, show small62 2 = true from rfl, Option.map_some]
        rfl
      have e2 : evalE (phi P85.prog q) (.bin .mod (.blt .int (.cons (.popAt 0 (.int 2)) .nil)) (.var 1)) [some (hD (x0 :: (x1 + 1) :: z :: zs)), some (.int m), none, none] = some (.val (.int (z.fmod m)), [some (hD (x0 :: (x1 + 1) :: zs)), some (.int m), none, none]) := by
        have e3 : evalE (phi P85.prog q) (.blt .int (.cons (.popAt 0 (.int 2)) .nil)) [some (hD (x0 :: (x1 + 1) :: z :: zs)), some (.int m), none, none] = some (.val (.int z), [some (hD (x0 :: (x1 + 1) :: zs)), some (.int m), none, none]) := by
          rw [evalE]
          simp only [evalAs, e1, bind, Option.bind, resAll, res, bltD]
        have e4 : evalE (phi P85.prog q) (.var 1) [some (hD (x0 :: (x1 + 1) :: zs)), some (.int m), none, none] = some (.val (.int m), [some (hD (x0 :: (x1 + 1) :: zs)), some (.int m), none, none]) := rfl
        rw [evalE]
        simp only [e3, e4, res, bind, Option.bind, modz hm0]
      have e5 : exec (phi P85.prog q) (.ite (.ofE (.cmp .gt (.blt .len (.cons (.mvar 0) .nil)) (.int 2))) (.cons (.ret (.bin .mod (.blt .int (.cons (.popAt 0 (.int 2)) .nil)) (.var 1))) .nil) .nil) [some (hD (x0 :: (x1 + 1) :: z :: zs)), some (.int m), none, none] = some (.rt (.val (.int (z.fmod m))), [some (hD (x0 :: (x1 + 1) :: zs)), some (.int m), none, none]) := by
        rw [exec]
        simp only [ht, bind, Option.bind, if_true, execs, exec, e2]
      rw [execs]
      simp only [e5, bind, Option.bind])
    obtain ⟨r, outs, k1, rfl, rfl⟩ := key
    exact k1
  | nil =>
    let one : Int := (x0 * 22695477 + (x1 + 1) * 1103 + 9).fmod 4294967279
    let two : Int := (one * one + 43 * (x1 + 1)).fmod 1000000033
    refine ⟨(((two * 61 + one).fmod 999999929).fdiv 41).fmod m, [x0, x1 + 1], (by unfold HOk; simp), fmod_lt hm, ret_of (d := 0) rfl fun q _ => ?_⟩
    have key := run_ofO (Φ := phi P85.prog q) (np := 2) (ns := 4) (M := [0]) (mps := [0]) (b := P85.b27) (ds := [hD [x0, x1], .int m]) (Q := fun r outs => r = .val (.int ((((two * 61 + one).fmod 999999929).fdiv 41).fmod m)) ∧ outs = [hD [x0, x1 + 1]]) rfl (by
      refine wb_cons (s1 q) ?_
      have ht := hgt q
      rw [decide_eq_false (by simp)] at ht
      refine wb_cons (sx_ite (k := false) ht (fun z => nomatch z) (fun _ => bx_nil)) ?_
      have h0 : ∀ a b, PV (phi P85.prog q) (.ix (.mvar 0) (.int 0)) [some (hD [x0, x1 + 1]), some (.int m), a, b] (.int x0) := fun a b => pv_ixR (pr_mvar (xs := [.int x0, .int (x1 + 1)]) rfl) pv_int rfl
      have h1 : ∀ a b, PV (phi P85.prog q) (.ix (.mvar 0) (.int 1)) [some (hD [x0, x1 + 1]), some (.int m), a, b] (.int (x1 + 1)) := fun a b => pv_ixR (pr_mvar (xs := [.int x0, .int (x1 + 1)]) rfl) pv_int rfl
      have hone : 0 ≤ one ∧ one < 4294967279 := fmod_lt (by decide)
      refine wb_cons (ρ1 := [some (hD [x0, x1 + 1]), some (.int m), some (.int one), none]) (sx_asg (i := 2) (PV.pd ?_) (Nat.le_of_ble_eq_true rfl)) ?_
      · refine pv_bin (PV.pd (pv_bin (PV.pd (pv_bin (PV.pd (pv_bin (PV.pd (pv_blt (pvs_cons (h0 _ _).pd pvs_nil) rfl)) pv_int.pd (mulr rfl))) (PV.pd (pv_bin (h1 _ _).pd pv_int.pd (mulr rfl))) rfl)) pv_int.pd rfl)) pv_int.pd (modz (by decide))
      refine wb_cons (ρ1 := [some (hD [x0, x1 + 1]), some (.int m), some (.int one), some (.int two)]) (sx_asg (i := 3) (PV.pd ?_) (Nat.le_of_ble_eq_true rfl)) ?_
      · refine pv_bin (PV.pd (pv_bin (PV.pd (pv_bin (pv_var rfl).pd (pv_var rfl).pd (mul_two64 hone.1 (by omega)))) (PV.pd (pv_bin pv_int.pd (h1 _ _).pd (mull rfl))) rfl)) pv_int.pd (modz (by decide))
      refine wb_ret (d := .int ((((two * 61 + one).fmod 999999929).fdiv 41).fmod m)) (pv_bin (PV.pd (pv_bin (PV.pd (pv_bin (PV.pd (pv_bin (PV.pd (pv_bin (pv_var rfl).pd pv_int.pd (mulr rfl))) (pv_var rfl).pd rfl)) pv_int.pd (modz (by decide)))) pv_int.pd (fdivz (by decide)))) (pv_var rfl).pd (modz hm0)) ?_
      exact ⟨_, _, rfl, (fun _ z => nomatch z), rfl, rfl, rfl⟩)
    obtain ⟨r, outs, k1, rfl, rfl⟩ := key
    exact k1
end M85
set_option Elab.async false
set_option linter.all false
set_option maxRecDepth 100000
set_option maxHeartbeats 1000000
/-! U85x: what the law draws. -/
namespace M85
open Vm
section
variable {q : Nat} {e : E} {F : List Int → Rho} {H : List Int} {P : D → Prop}
theorem hv_take {i : Nat} {m : Int} (hq : 1 ≤ q) (hH : HOk H) (hi : ∀ H, (F H)[i]? = some (some (hD H))) (hs : ∀ H H', (F H).set i (some (hD H')) = F H') (he : PV (phi P85.prog q) e (F H) (.int m)) (hm : 1 ≤ m) (p : ∀ r, 0 ≤ r → r < m → P (.int r)) : HV (phi P85.prog q) (.call 27 [0] (.cons (.mvar i) (.cons e .nil))) F H P := by
  refine hv_callH hi hs (ha_cons (hg_pv hH he fun H' h' => ha_nil h' fun H2 h2 => ?_))
  obtain ⟨r, H3, o3, ⟨r1, r2⟩, g⟩ := r27 H2 h2 m hm
  exact ⟨.int r, H3, g q hq, o3, p r r1 r2⟩
end
/-- the worlds of the law -/
def WOk (ps : List Part) : Prop := (∀ p ∈ ps, POk p) ∧ 1 ≤ ps.length ∧ ps.length ≤ 4
theorem eq_is {i : Int} (k : Int) : ∀ {b : Bool}, decide (i = k) = b → cmpD .eq (.int i) (.int k) = some b := fun h => by rw [← h]; exact eqi _ _
theorem r28 (H : List Int) (hH : HOk H) : ∀ q, 2 ≤ q → ∃ r outs, phi P85.prog q 28 [hD H] = some (r, outs) ∧ ∃ ps H', r = .val (WD ps) ∧ outs = [hD H'] ∧ HOk H' ∧ WOk ps := by
  intro q hq
  obtain ⟨q, rfl⟩ : ∃ n, q = n + 1 := ⟨q - 1, by omega⟩
  show ∃ r outs, runFD (phi P85.prog q) P85.f28 [hD H] = some (r, outs) ∧ _
  have hlim : lim = 100000 := rfl
  refine run_ofO rfl ?_
  refine wb_cons (ρ1 := [some (hD H), some (.list []), none, none]) (sx_masg (i := 1) (po_lst pvs_nil (Nat.zero_le _)) (Nat.le_of_ble_eq_true rfl)) ?_
  -- how many parts
  have hr : HI (phi P85.prog q) (.range (.cons (.bin .add (.int 1) (.call 27 [0] (.cons (.mvar 0) (.cons (.int 4) .nil)))) .nil)) (fun H => [some (hD H), some (.list []), none, none]) H (fun items => ∃ n : Nat, items = rangeD 0 n ∧ 1 ≤ n ∧ n ≤ 4) := by
    refine hi_range (HV.hg (hv_bin (hg_pv hH pv_int fun H' h' => HV.hg (hv_take (by omega) h' (fun _ => rfl) (fun _ _ => rfl) pv_int (by decide) fun r r1 r2 => ⟨.int (1 + r), rfl, 1 + r, rfl, ?_, (1 + r).toNat, rfl, by omega, by omega⟩))))
    unfold small62
    simp only [Bool.and_eq_true, decide_eq_true_eq]
    omega
  obtain ⟨items, H1, o1, e1, n, rfl, n1, n2⟩ := hr
  let I : Nat → Rho → Prop := fun t ρ => ∃ (H : List Int) (ps : List Part) (a2 a3 : Option D), HOk H ∧ ρ = [some (hD H), some (.list (ps.map pD)), a2, a3] ∧ (∀ p ∈ ps, POk p) ∧ ps.length = t
  obtain ⟨ρ', f1, f2⟩ := for_inv (f := fun r => execs (phi P85.prog q) (.cons (.asg (.name 3) (.call 27 [0] (.cons (.mvar 0) (.cons (.int 6) .nil)))) (.cons (.ite (.ofE (.cmp .eq (.var 3) (.int 0))) (.cons (.append 1 (.tup (.cons (.str "counter") .nil))) .nil) (.cons (.ite (.ofE (.cmp .eq (.var 3) (.int 1))) (.cons (.append 1 (.tup (.cons (.str "dial") (.cons (.ix (.lst (.cons (.int 1) (.cons (.int 2) (.cons (.int 7) (.cons (.int 1000000) .nil))))) (.call 27 [0] (.cons (.mvar 0) (.cons (.int 4) .nil)))) .nil)))) .nil) (.cons (.ite (.ofE (.cmp .lt (.var 3) (.int 4))) (.cons (.append 1 (.tup (.cons (.str "deck") (.cons (.bin .add (.int 1) (.call 27 [0] (.cons (.mvar 0) (.cons (.int 8) .nil)))) .nil)))) .nil) (.cons (.append 1 (.tup (.cons (.str "rope") (.cons (.bin .add (.int 1) (.call 27 [0] (.cons (.mvar 0) (.cons (.int 6) .nil)))) .nil)))) .nil)) .nil)) .nil)) .nil)) r) (g := .name 2) I (rangeD 0 n) 0 [some (hD H1), some (.list []), none, none] ⟨H1, [], none, none, o1, rfl, (fun _ h => nomatch h), rfl⟩ fun t d ρ hd hI => by
    rw [Nat.zero_add] at hI ⊢
    obtain ⟨H2, ps, a2, a3, o2, rfl, hps, hl⟩ := hI
    obtain ⟨ht, rfl⟩ := rangeD_at hd
    refine ⟨[some (hD H2), some (.list (ps.map pD)), some (.int (t : Nat)), a3], ?_⟩
    have hlt : (ps.map pD).length < lim := by rw [List.length_map]; omega
    have one : ∀ (p : Part) (H3 : List Int) (x3 : Option D), HOk H3 → POk p → I (t + 1) (([some (hD H3), some (.list (ps.map pD)), some (.int (t : Nat)), x3] : Rho).set 1 (some (.list (ps.map pD ++ [pD p])))) := fun p H3 x3 o3 hp => ⟨H3, ps ++ [p], some (.int (t : Nat)), x3, o3, by rw [List.map_append]; rfl, fun p' hp' => by
      rcases List.mem_append.mp hp' with z | z
      · exact hps p' z
      · rw [List.mem_singleton.mp z]; exact hp, by simp [hl]⟩
    have w : WB (phi P85.prog q) (.cons (.asg (.name 3) (.call 27 [0] (.cons (.mvar 0) (.cons (.int 6) .nil)))) (.cons (.ite (.ofE (.cmp .eq (.var 3) (.int 0))) (.cons (.append 1 (.tup (.cons (.str "counter") .nil))) .nil) (.cons (.ite (.ofE (.cmp .eq (.var 3) (.int 1))) (.cons (.append 1 (.tup (.cons (.str "dial") (.cons (.ix (.lst (.cons (.int 1) (.cons (.int 2) (.cons (.int 7) (.cons (.int 1000000) .nil))))) (.call 27 [0] (.cons (.mvar 0) (.cons (.int 4) .nil)))) .nil)))) .nil) (.cons (.ite (.ofE (.cmp .lt (.var 3) (.int 4))) (.cons (.append 1 (.tup (.cons (.str "deck") (.cons (.bin .add (.int 1) (.call 27 [0] (.cons (.mvar 0) (.cons (.int 8) .nil)))) .nil)))) .nil) (.cons (.append 1 (.tup (.cons (.str "rope") (.cons (.bin .add (.int 1) (.call 27 [0] (.cons (.mvar 0) (.cons (.int 6) .nil)))) .nil)))) .nil)) .nil)) .nil)) .nil)) [some (hD H2), some (.list (ps.map pD)), some (.int (t : Nat)), a3] (fun fl ρ => fl = .nx ∧ I (t + 1) ρ) := by
      refine wb_asgH (F := fun H => [some (hD H), some (.list (ps.map pD)), some (.int (t : Nat)), a3]) (P := fun d => ∃ r : Int, d = .int r ∧ 0 ≤ r ∧ r < 6) (HV.hg (hv_take (by omega) o2 (fun _ => rfl) (fun _ _ => rfl) pv_int (by decide) fun r r1 r2 => ⟨r, rfl, r1, r2⟩)) (fun _ => Nat.le_of_ble_eq_true rfl) ?_
      rintro d H3 o3 ⟨r, rfl, r1, r2⟩
      refine wb_ite (F := fun H => [some (hD H), some (.list (ps.map pD)), some (.int (t : Nat)), some (.int r)]) (P := fun k => k = decide (r = 0)) (ht_pt o3 (pt_b (pv_cmp (pv_var rfl).pd pv_int.pd (eqi _ _))) rfl) ?_
      rintro k H4 o4 rfl
      by_cases c0 : r = 0
      · rw [decide_eq_true c0, if_pos rfl]
        refine wb_appendH (F := fun H => [some (hD H), some (.list (ps.map pD)), some (.int (t : Nat)), some (.int r)]) (P := fun d => d = pD .counter) (fun _ => rfl) hlt (hg_pv o4 (pv_tup (pvs_cons pv_str.pd pvs_nil) (Nat.le_of_ble_eq_true rfl)) rfl) ?_
        rintro d H5 o5 rfl
        exact wb_nil ⟨fun _ => wb_nil ⟨rfl, one .counter H5 _ o5 trivial⟩, fun z => absurd rfl z⟩
      rw [decide_eq_false c0, if_neg Bool.false_ne_true]
      refine wb_ite (F := fun H => [some (hD H), some (.list (ps.map pD)), some (.int (t : Nat)), some (.int r)]) (P := fun k => k = decide (r = 1)) (ht_pt o4 (pt_b (pv_cmp (pv_var rfl).pd pv_int.pd (eqi _ _))) rfl) ?_
      rintro k H5 o5 rfl
      by_cases c1 : r = 1
      · rw [decide_eq_true c1, if_pos rfl]
        refine wb_appendH (F := fun H => [some (hD H), some (.list (ps.map pD)), some (.int (t : Nat)), some (.int r)]) (P := fun d => ∃ m : Nat, d = pD (.dial m) ∧ 1 ≤ m) (fun _ => rfl) hlt (HV.hg (hv_tup (ha_cons (hg_pv o5 pv_str fun H' h' => ha_cons (HV.hg (hv_ix (hg_po h' (po_lst (pvs_cons pv_int.pd (pvs_cons pv_int.pd (pvs_cons pv_int.pd (pvs_cons pv_int.pd pvs_nil)))) (Nat.le_of_ble_eq_true rfl)) fun H2 h2 => HV.hg (hv_take (by omega) h2 (fun _ => rfl) (fun _ _ => rfl) pv_int (by decide) fun s s1 s2 => ?_)))))))) ?_
        · have : ∃ m : Nat, 1 ≤ m ∧ ixD (.list [.int 1, .int 2, .int 7, .int 1000000]) (.int s) = some (.int (m : Nat)) := by
            have : s = 0 ∨ s = 1 ∨ s = 2 ∨ s = 3 := by omega
            rcases this with rfl | rfl | rfl | rfl
            · exact ⟨1, by decide, rfl⟩
            · exact ⟨2, by decide, rfl⟩
            · exact ⟨7, by decide, rfl⟩
            · exact ⟨1000000, by decide, rfl⟩
          obtain ⟨m, m1, m2⟩ := this
          exact ⟨_, m2, fun H3 h3 => ha_nil h3 ⟨Nat.le_of_ble_eq_true rfl, m, rfl, m1⟩⟩
        rintro d H6 o6 ⟨m, rfl, m1⟩
        exact wb_nil ⟨fun _ => wb_nil ⟨fun _ => wb_nil ⟨rfl, one (.dial m) H6 _ o6 m1⟩, fun z => absurd rfl z⟩, fun z => absurd rfl z⟩
      rw [decide_eq_false c1, if_neg Bool.false_ne_true]
      refine wb_ite (F := fun H => [some (hD H), some (.list (ps.map pD)), some (.int (t : Nat)), some (.int r)]) (P := fun _ => True) (ht_pt o5 (pt_b (pv_cmp (pv_var rfl).pd pv_int.pd rfl)) trivial) ?_
      rintro k H6 o6 _
      cases k with
      | true =>
        rw [if_pos rfl]
        refine wb_appendH (F := fun H => [some (hD H), some (.list (ps.map pD)), some (.int (t : Nat)), some (.int r)]) (P := fun d => ∃ m : Nat, d = pD (.deck m) ∧ 1 ≤ m ∧ m ≤ 8) (fun _ => rfl) hlt (HV.hg (hv_tup (ha_cons (hg_pv o6 pv_str fun H' h' => ha_cons (HV.hg (hv_bin (hg_pv h' pv_int fun H2 h2 => HV.hg (hv_take (by omega) h2 (fun _ => rfl) (fun _ _ => rfl) pv_int (by decide) fun s s1 s2 => ⟨.int (1 + s), rfl, fun H3 h3 => ha_nil h3 ⟨Nat.le_of_ble_eq_true rfl, (1 + s).toNat, ?_, by omega, by omega⟩⟩)))))))) ?_
        · show PySem.PyData.tuple [.str "deck", .int (1 + s)] = .tuple [.str "deck", .int ((1 + s).toNat : Nat)]
          rw [Int.toNat_of_nonneg (by omega)]
        rintro d H7 o7 ⟨m, rfl, m1, m2⟩
        exact wb_nil ⟨fun _ => wb_nil ⟨fun _ => wb_nil ⟨fun _ => wb_nil ⟨rfl, one (.deck m) H7 _ o7 ⟨m1, by omega⟩⟩, fun z => absurd rfl z⟩, fun z => absurd rfl z⟩, fun z => absurd rfl z⟩
      | false =>
        rw [if_neg Bool.false_ne_true]
        refine wb_appendH (F := fun H => [some (hD H), some (.list (ps.map pD)), some (.int (t : Nat)), some (.int r)]) (P := fun d => ∃ m : Nat, d = pD (.rope m) ∧ 1 ≤ m) (fun _ => rfl) hlt (HV.hg (hv_tup (ha_cons (hg_pv o6 pv_str fun H' h' => ha_cons (HV.hg (hv_bin (hg_pv h' pv_int fun H2 h2 => HV.hg (hv_take (by omega) h2 (fun _ => rfl) (fun _ _ => rfl) pv_int (by decide) fun s s1 s2 => ⟨.int (1 + s), rfl, fun H3 h3 => ha_nil h3 ⟨Nat.le_of_ble_eq_true rfl, (1 + s).toNat, ?_, by omega⟩⟩)))))))) ?_
        · show PySem.PyData.tuple [.str "rope", .int (1 + s)] = .tuple [.str "rope", .int ((1 + s).toNat : Nat)]
          rw [Int.toNat_of_nonneg (by omega)]
        rintro d H7 o7 ⟨m, rfl, m1⟩
        exact wb_nil ⟨fun _ => wb_nil ⟨fun _ => wb_nil ⟨fun _ => wb_nil ⟨rfl, one (.rope m) H7 _ o7 m1⟩, fun z => absurd rfl z⟩, fun z => absurd rfl z⟩, fun z => absurd rfl z⟩
    obtain ⟨fl, ρ2, w1, rfl, w3⟩ := w
    exact ⟨.nx, ρ2, rfl, w1, .inl rfl, w3⟩
  rw [Nat.zero_add, rangeD_len] at f2
  obtain ⟨H9, ps, a2, a3, o9, rfl, hps, hl⟩ := f2
  refine wb_loop e1 f1 (wb_ret (pv_bltR (prs_cons (pr_mvar rfl) prs_nil) rfl) ⟨_, _, rfl, (fun _ z => nomatch z), rfl, ps, H9, rfl, rfl, o9, hps, by omega, by omega⟩)
end M85
set_option Elab.async false
set_option linter.all false
set_option maxRecDepth 100000
set_option maxHeartbeats 1000000
/-! U85y: decks, elements that are drawn. -/
namespace M85
open Vm
theorem kL_erase (rs : List Nat) (i : Nat) : kL (rs.eraseIdx i) = (kL rs).eraseIdx i := by
  induction rs generalizing i with
  | nil => rfl
  | cons x rs ih =>
    cases i with
    | zero => rfl
    | succ i =>
      show PySem.PyData.int (x : Nat) :: kL (rs.eraseIdx i) = PySem.PyData.int (x : Nat) :: (kL rs).eraseIdx i
      rw [ih]
theorem popAt_kL {rs : List Nat} {s : Int} (h0 : 0 ≤ s) (h : s < (rs.length : Nat)) : ∃ hl : s.toNat < rs.length, popAtD s (kL rs) = some (.int (rs[s.toNat] : Nat), kL (rs.eraseIdx s.toNat)) := by
  have hl : s.toNat < rs.length := by omega
  refine ⟨hl, ?_⟩
  have e : PySem.seqIndex? s (kL rs).length = some s.toNat := by
    unfold PySem.seqIndex?
    rw [kL_len]
    have : ¬ (s < 0) := by omega
    simp only [this, if_false]
    rw [if_pos (by simp only [Bool.and_eq_true, decide_eq_true_eq]; omega)]
  unfold popAtD
  rw [e]
  have e2 : (kL rs)[s.toNat]? = some (.int (rs[s.toNat] : Nat)) := by
    unfold kL
    rw [List.getElem?_map, List.getElem?_eq_getElem hl]
    rfl
  simp only [e2, kL_erase]
theorem erase_perm : ∀ (rs : List Nat) (i : Nat) (h : i < rs.length), ([rs[i]] ++ rs.eraseIdx i).Perm rs
  | x :: rs, 0, h => List.Perm.refl _
  | x :: rs, i + 1, h => by
    have ih := erase_perm rs i (by simpa using h)
    show (rs[i]'(by simpa using h) :: x :: rs.eraseIdx i).Perm (x :: rs)
    exact (List.Perm.swap x _ _).trans (List.Perm.cons x ih)
theorem r29 (H : List Int) (hH : HOk H) {n : Nat} (hn : 1 ≤ n ∧ n ≤ 100) : ∀ q, 2 ≤ q → ∃ r outs, phi P85.prog q 29 [hD H, .int (n : Nat)] = some (r, outs) ∧ ∃ c H', r = .val (kD c) ∧ outs = [hD H'] ∧ HOk H' ∧ Deck n c := by
  intro q hq
  obtain ⟨q, rfl⟩ : ∃ n, q = n + 1 := ⟨q - 1, by omega⟩
  show ∃ r outs, runFD (phi P85.prog q) P85.f29 [hD H, .int (n : Nat)] = some (r, outs) ∧ _
  have hlim : lim = 100000 := rfl
  refine run_ofO rfl ?_
  refine wb_cons (ρ1 := [some (hD H), some (.int (n : Nat)), some (.list []), none, none]) (sx_masg (i := 2) (po_lst pvs_nil (Nat.zero_le _)) (Nat.le_of_ble_eq_true rfl)) ?_
  have hr : ∀ a b c d, PI (phi P85.prog q) (.range (.cons (.var 1) .nil)) [a, some (.int (n : Nat)), b, c, d] (rangeD 0 n) := fun a b c d => by
    have := pi_range1 (Φ := phi P85.prog q) (ρ := [a, some (.int (n : Nat)), b, c, d]) (e := .var 1) (n := (n : Nat)) (pv_var rfl) (small_nat (by omega))
    rwa [Int.toNat_natCast] at this
  have hlc : PO (phi P85.prog q) (.lc [4] (.name 4) (.range (.cons (.var 1) .nil)) .yes (.var 4)) [some (hD H), some (.int (n : Nat)), some (.list []), none, none] (.list (kL (List.range n))) := by
    refine po_lcI (hr _ _ _ _) _ (by rw [kL_len, List.length_range, rangeD_len]) (by rw [rangeD_len]; omega) rfl fun i d x hd hx => ?_
    obtain ⟨hi, rfl⟩ := rangeD_at hd
    obtain ⟨k, ek, rfl⟩ := kL_at hx
    rw [List.getElem?_range hi] at ek
    cases ek
    exact ⟨[some (hD H), some (.int (n : Nat)), some (.list []), none, some (.int (i : Nat))], rfl, rfl, pt_yes, (pv_var rfl).pd⟩
  refine wb_cons (ρ1 := [some (hD H), some (.int (n : Nat)), some (.list []), some (.list (kL (List.range n))), none]) (sx_masg (i := 3) hlc (Nat.le_of_ble_eq_true rfl)) ?_
  let I : Nat → Rho → Prop := fun t ρ => ∃ (H : List Int) (cs rs : List Nat) (a4 : Option D), HOk H ∧ ρ = [some (hD H), some (.int (n : Nat)), some (.list (kL cs)), some (.list (kL rs)), a4] ∧ cs.length = t ∧ (cs ++ rs).Perm (List.range n)
  obtain ⟨ρ', f1, f2⟩ := for_inv (f := fun r => execs (phi P85.prog q) (.cons (.append 2 (.popAt 3 (.call 27 [0] (.cons (.mvar 0) (.cons (.blt .len (.cons (.mvar 3) .nil)) .nil))))) .nil) r) (g := .name 4) I (rangeD 0 n) 0 [some (hD H), some (.int (n : Nat)), some (.list []), some (.list (kL (List.range n))), none] ⟨H, [], List.range n, none, hH, rfl, rfl, List.Perm.refl _⟩ fun t d ρ hd hI => by
    rw [Nat.zero_add] at hI ⊢
    obtain ⟨H2, cs, rs, a4, o2, rfl, hl, hp⟩ := hI
    obtain ⟨ht, rfl⟩ := rangeD_at hd
    have hrl : cs.length + rs.length = n := by
      have := hp.length_eq
      rw [List.length_append, List.length_range] at this
      exact this
    have hv : HV (phi P85.prog q) (.call 27 [0] (.cons (.mvar 0) (.cons (.blt .len (.cons (.mvar 3) .nil)) .nil))) (fun H => [some (hD H), some (.int (n : Nat)), some (.list (kL cs)), some (.list (kL rs)), some (.int (t : Nat))]) H2 (fun d => ∃ s : Int, d = .int s ∧ 0 ≤ s ∧ s < (rs.length : Nat)) := by
      refine hv_take (m := (rs.length : Nat)) (by omega) o2 (fun _ => rfl) (fun _ _ => rfl) (pv_bltR (prs_cons (pr_mvar rfl) prs_nil) ?_) (by omega) fun r r1 r2 => ⟨r, rfl, r1, r2⟩
      show some (R.val (.int ((kL rs).length : Nat))) = _
      rw [kL_len]
    obtain ⟨_, H3, o3, e3, s, rfl, s1, s2⟩ := hv
    obtain ⟨hsl, hpop⟩ := popAt_kL s1 s2
    have hsm : small62 s = true := by
      unfold small62
      simp only [Bool.and_eq_true, decide_eq_true_eq]
      omega
    refine ⟨[some (hD H2), some (.int (n : Nat)), some (.list (kL cs)), some (.list (kL rs)), some (.int (t : Nat))], .nx, [some (hD H3), some (.int (n : Nat)), some (.list (kL (cs ++ [rs[s.toNat]]))), some (.list (kL (rs.eraseIdx s.toNat))), some (.int (t : Nat))], rfl, ?_, .inl rfl, ⟨H3, _, _, _, o3, rfl, by simp [hl], ?_⟩⟩
    · have ei : ∀ a b, isListAt [some (hD H2), some (.int (n : Nat)), some (.list a), some (.list b), some (.int (t : Nat))] 3 = true := fun _ _ => rfl
      have e4 : evalE (phi P85.prog q) (.popAt 3 (.call 27 [0] (.cons (.mvar 0) (.cons (.blt .len (.cons (.mvar 3) .nil)) .nil)))) [some (hD H2), some (.int (n : Nat)), some (.list (kL cs)), some (.list (kL rs)), some (.int (t : Nat))] = some (.val (.int (rs[s.toNat] : Nat)), [some (hD H3), some (.int (n : Nat)), some (.list (kL cs)), some (.list (kL (rs.eraseIdx s.toNat))), some (.int (t : Nat))]) := by
        rw [evalE]
        have ek : [some (hD H3), some (.int (n : Nat)), some (.list (kL cs)), some (.list (kL rs)), some (.int (t : Nat))][3]? = some (some (.list (kL rs))) := rfl
        simp only [ei, if_true, e3, bind, Option.bind, ek, hsm, hpop, Option.map_some]
        rfl
      have e5 : SX (phi P85.prog q) (.append 2 (.popAt 3 (.call 27 [0] (.cons (.mvar 0) (.cons (.blt .len (.cons (.mvar 3) .nil)) .nil))))) [some (hD H2), some (.int (n : Nat)), some (.list (kL cs)), some (.list (kL rs)), some (.int (t : Nat))] [some (hD H3), some (.int (n : Nat)), some (.list (kL (cs ++ [rs[s.toNat]]))), some (.list (kL (rs.eraseIdx s.toNat))), some (.int (t : Nat))] := by
        unfold SX
        rw [exec]
        have ej : isListAt [some (hD H2), some (.int (n : Nat)), some (.list (kL cs)), some (.list (kL rs)), some (.int (t : Nat))] 2 = true := rfl
        have ek : [some (hD H3), some (.int (n : Nat)), some (.list (kL cs)), some (.list (kL (rs.eraseIdx s.toNat))), some (.int (t : Nat))][2]? = some (some (.list (kL cs))) := rfl
        simp only [ej, if_true, e4, val?, ek, bind, Option.bind]
        rw [if_pos (by rw [kL_len]; omega), kL_app]
        rfl
      exact bx_cons e5 bx_nil
    · refine List.Perm.trans ?_ hp
      rw [List.append_assoc]
      exact List.Perm.append_left cs (erase_perm rs _ hsl)
  rw [Nat.zero_add, rangeD_len] at f2
  obtain ⟨H9, cs, rs, a4, o9, rfl, hl, hp⟩ := f2
  have hrs : rs = [] := by
    have := hp.length_eq
    rw [List.length_append, List.length_range] at this
    exact List.length_eq_zero_iff.mp (by omega)
  subst hrs
  rw [List.append_nil] at hp
  refine wb_loop (hr _ _ _ _) f1 (wb_ret (pv_bltR (prs_cons (pr_mvar rfl) prs_nil) rfl) ⟨_, _, rfl, (fun _ z => nomatch z), rfl, cs, H9, rfl, rfl, o9, hl, fun i hi => List.mem_range.mp (hp.mem_iff.mp hi), hp.nodup_iff.mpr List.nodup_range⟩)
theorem letters_of (m : Int) : ∀ outs : List D, (∀ o ∈ outs, ∃ p : L, o = lD p ∧ 0 ≤ p.1 ∧ p.1 ≤ m - 1) → ∃ w : W, outs = w.map lD ∧ Lett m w
  | [], _ => ⟨[], rfl, fun _ h => nomatch h⟩
  | o :: outs, h => by
    obtain ⟨p, rfl, hp⟩ := h o List.mem_cons_self
    obtain ⟨w, rfl, hw⟩ := letters_of m outs fun o' ho => h o' (List.mem_cons_of_mem _ ho)
    refine ⟨p :: w, rfl, fun q hq => ?_⟩
    rcases List.mem_cons.mp hq with rfl | hq
    · exact hp
    · exact hw q hq
/-- counters that are drawn are not great -/
def CB (p : Part) (e : El) : Prop := p = .counter → ∀ i, e = .z i → i.natAbs < 2 ^ 64
/-- an element that is drawn -/
theorem r31 (H : List Int) (hH : HOk H) {p : Part} (hp : POk p) {L : Nat} (hL : L ≤ 1000) : ∀ q, 3 ≤ q → ∃ r outs, phi P85.prog q 31 [hD H, pD p, .int (L : Nat)] = some (r, outs) ∧ ∃ e H', r = .val (eD e) ∧ outs = [hD H'] ∧ HOk H' ∧ EOk L p e ∧ CB p e := by
  intro q hq
  obtain ⟨q, rfl⟩ : ∃ n, q = n + 1 := ⟨q - 1, by omega⟩
  show ∃ r outs, runFD (phi P85.prog q) P85.f31 [hD H, pD p, .int (L : Nat)] = some (r, outs) ∧ _
  have hlim : lim = 100000 := rfl
  refine run_ofO rfl ?_
  let F : List Int → Rho := fun H => [some (hD H), some (pD p), some (.int (L : Nat)), none]
  show WB (phi P85.prog q) P85.b31 (F H) _
  have fin : ∀ (d : D) (H' : List Int), HOk H' → (∃ e, d = eD e ∧ EOk L p e ∧ CB p e) → ∃ r outs, (Fl.rt (.val d)) = .rt r ∧ (∀ i, r ≠ .slot i) ∧ outsOf (F H') [0] = some outs ∧ ∃ e H', r = .val (eD e) ∧ outs = [hD H'] ∧ HOk H' ∧ EOk L p e ∧ CB p e := fun d H' o' he => by
    obtain ⟨e, rfl, he⟩ := he
    exact ⟨_, _, rfl, (fun _ z => nomatch z), rfl, e, H', rfl, rfl, o', he⟩
  refine wb_ite (F := F) (P := fun k => k = isC p) (ht_pt hH (pt_c (pv_var rfl)) rfl) ?_
  rintro k H1 o1 rfl
  cases c0 : isC p with
  | true =>
    rw [if_pos rfl]
    cases p <;> first | (cases c0; done) | skip
    refine wb_retH (F := F) (P := fun d => ∃ i : Int, d = .int i ∧ i.natAbs < 2 ^ 64) ?_ ?_
    · refine hv_ix <| hg_lst <| ha_cons <| hg_pv o1 pv_int fun H2 o2 => ha_cons <| hg_pv o2 pv_int fun H3 o3 => ha_cons <| hg_pv o3 (pv_neg pv_int) fun H4 o4 => ha_cons <| hg_pv o4 pv_int fun H5 o5 => ha_cons <| HV.hg <| hv_bin <| HV.hg <| hv_take (by omega) o5 (fun _ => rfl) (fun _ _ => rfl) pv_int (by decide) fun r r1 r2 H6 o6 => hg_pv o6 pv_int ⟨.int (r - 1000), rfl, fun H7 o7 => ha_nil o7 ⟨Nat.le_of_ble_eq_true rfl, fun H8 o8 => HV.hg <| hv_take (by omega) o8 (fun _ => rfl) (fun _ _ => rfl) pv_int (by decide) fun s s1 s2 => ?_⟩⟩
      have : s = 0 ∨ s = 1 ∨ s = 2 ∨ s = 3 ∨ s = 4 := by omega
      rcases this with rfl | rfl | rfl | rfl | rfl <;> exact ⟨_, rfl, _, rfl, by omega⟩
    · rintro d H2 o2 ⟨i, rfl, hi⟩
      exact ⟨fun z => (nomatch z), fun _ => fin _ _ o2 ⟨.z i, rfl, trivial, fun _ j ej => by injection ej with ej; rw [← ej]; exact hi⟩⟩
  | false =>
  rw [if_neg Bool.false_ne_true]
  refine wb_nil ⟨fun _ => ?_, fun z => absurd rfl z⟩
  refine wb_ite (F := F) (P := fun k => k = isDi p) (ht_pt o1 (pt_di (pv_var rfl)) rfl) ?_
  rintro k H2 o2 rfl
  cases c1 : isDi p with
  | true =>
    rw [if_pos rfl]
    cases p <;> first | (cases c1; done) | skip
    rename_i m
    have hm : 1 ≤ m := hp
    refine wb_retH (F := F) (P := fun d => ∃ i : Int, d = .int (i.fmod (m : Nat))) ?_ ?_
    · exact hv_bin (HV.hg (hv_take (by omega) o2 (fun _ => rfl) (fun _ _ => rfl) pv_int (by decide) fun r r1 r2 H6 o6 => hg_pv o6 (pv_ix (pv_var rfl).pd pv_int rfl) ⟨.int (r.fmod (m : Nat)), modz (by omega), r, rfl⟩))
    · rintro d H3 o3 ⟨i, rfl⟩
      exact ⟨fun z => (nomatch z), fun _ => fin _ _ o3 ⟨.z _, rfl, fmod_ok hm, fun z => nomatch z⟩⟩
  | false =>
  rw [if_neg Bool.false_ne_true]
  refine wb_nil ⟨fun _ => ?_, fun z => absurd rfl z⟩
  refine wb_ite (F := F) (P := fun k => k = isDe p) (ht_pt o2 (pt_de (pv_var rfl)) rfl) ?_
  rintro k H3 o3 rfl
  cases c2 : isDe p with
  | true =>
    rw [if_pos rfl]
    cases p <;> first | (cases c2; done) | skip
    rename_i n
    refine wb_retH (F := F) (P := fun d => ∃ c, d = kD c ∧ Deck n c) ?_ ?_
    · refine hv_callH (fun _ => rfl) (fun _ _ => rfl) (ha_cons (hg_pv o3 (pv_ix (pv_var rfl).pd pv_int rfl) fun H4 o4 => ha_nil o4 fun H5 o5 => ?_))
      obtain ⟨r, outs, g1, c, H6, rfl, rfl, o6, hc⟩ := r29 H5 o5 (n := n) hp q (by omega)
      exact ⟨kD c, H6, g1, o6, c, rfl, hc⟩
    · rintro d H4 o4 ⟨c, rfl, hc⟩
      exact ⟨fun z => (nomatch z), fun _ => fin _ _ o4 ⟨.k c, rfl, hc, fun z => nomatch z⟩⟩
  | false =>
  rw [if_neg Bool.false_ne_true]
  refine wb_nil ⟨fun _ => ?_, fun z => absurd rfl z⟩
  cases p <;> first | (cases c0; done) | (cases c1; done) | (cases c2; done) | skip
  rename_i m
  have hm : 1 ≤ m := hp
  refine wb_retH (F := F) (P := fun d => ∃ v, d = wD v ∧ Rd v ∧ Lett (m : Nat) v ∧ v.length ≤ L) ?_ ?_
  · refine hv_call (ha_cons (hg_lc (F0 := F) (fun d H => [some (hD H), some (pD (.rope m)), some (.int (L : Nat)), some d]) (fun _ o => ∃ p : M85.L, o = lD p ∧ 0 ≤ p.1 ∧ p.1 ≤ (m : Nat) - 1) (fun _ => rfl) (fun _ _ => rfl) ?_))
    refine hi_range (HV.hg (hv_bin (hg_pv o3 (pv_var rfl) fun H4 o4 => HV.hg (hv_take (by omega) o4 (fun _ => rfl) (fun _ _ => rfl) pv_int (by decide) fun r r1 r2 => ⟨.int ((L : Nat) - r), rfl, (L : Nat) - r, rfl, ?_, ?_, ?_, ?_⟩))))
    · unfold small62
      simp only [Bool.and_eq_true, decide_eq_true_eq]
      omega
    · rw [rangeD_len]; omega
    · intro d hd H5 o5
      refine ⟨rfl, rfl, HV.hg <| hv_tup <| ha_cons <| HV.hg <| hv_take (by omega) o5 (fun _ => rfl) (fun _ _ => rfl) (pv_ix (pv_var rfl).pd pv_int rfl) (by omega) fun s s1 s2 H6 o6 => ha_cons <| HV.hg <| hv_cmp <| HV.hg <| hv_take (by omega) o6 (fun _ => rfl) (fun _ _ => rfl) pv_int (by decide) fun t t1 t2 H7 o7 => hg_pv o7 pv_int ⟨_, eqi _ _, fun H8 o8 => ha_nil o8 ⟨Nat.le_of_ble_eq_true rfl, (s, decide (t = 1)), rfl, s1, ?_⟩⟩⟩
      show s ≤ (m : Nat) - 1
      omega
    · intro outs hl hP H5 o5
      rw [rangeD_len] at hl
      obtain ⟨w, rfl, hw⟩ := letters_of (m : Nat) outs fun o ho => by
        obtain ⟨i, hi⟩ := List.getElem?_of_mem ho
        have hlt := (List.getElem?_eq_some_iff.mp hi).1
        have : ∃ d, (rangeD 0 ((L : Nat) - r : Int).toNat)[i]? = some d := ⟨_, List.getElem?_eq_getElem (by rw [rangeD_len]; omega)⟩
        obtain ⟨d, hd⟩ := this
        exact hP i d o hd hi
      rw [List.length_map] at hl
      have hrl := red_len w
      exact ha_nil o5 ⟨wD (red w), r30 (.list (w.map lD)) w rfl (by omega) q (by omega), red w, rfl, red_rd w, lett_red hw, by omega⟩
  · rintro d H4 o4 ⟨v, rfl, v1, v2, v3⟩
    exact fin _ _ o4 ⟨.w v, rfl, ⟨v1, v2, v3⟩, fun z => nomatch z⟩
end M85
set_option Elab.async false
set_option linter.all false
set_option maxRecDepth 100000
set_option maxHeartbeats 1000000
/-! U85A: seeds, elements ahead, yes, apart, same. -/
namespace M85
open Vm
theorem hD_app (H : List Int) (x : Int) : hD (H ++ [x]) = .list (H.map .int ++ [.int x]) := by unfold hD; rw [List.map_append]; rfl
theorem ints_at {ns : List Int} {i : Nat} {d : D} (h : (ns.map PySem.PyData.int)[i]? = some d) : ∃ k, d = .int k := by
  rw [List.getElem?_map] at h
  cases e : ns[i]? with
  | none => rw [e] at h; cases h
  | some k => rw [e] at h; cases h; exact ⟨k, rfl⟩
theorem append_int {q : Nat} {H : List Int} {x : Int} {e : E} {a b c d : Option D} (h : PV (phi P85.prog q) e [a, some (hD H), b, c, d] (.int x)) (hl : H.length < lim) : SX (phi P85.prog q) (.append 1 e) [a, some (hD H), b, c, d] [a, some (hD (H ++ [x])), b, c, d] := by
  have := sx_append (Φ := phi P85.prog q) (ρ := [a, some (hD H), b, c, d]) (i := 1) (xs := H.map .int) rfl h.pd (by rw [List.length_map]; exact hl)
  rw [← hD_app] at this
  exact this
theorem r26 (ns : List Int) (hn : ns.length ≤ 63) : ∀ q, 1 ≤ q → ∃ H, HOk H ∧ phi P85.prog q 26 [.list (ns.map .int)] = some (.own (hD H), []) := by
  intro q hq
  obtain ⟨q, rfl⟩ : ∃ n, q = n + 1 := ⟨q - 1, by omega⟩
  show ∃ H, HOk H ∧ runFD (phi P85.prog q) P85.f26 [.list (ns.map .int)] = some (.own (hD H), [])
  have hlim : lim = 100000 := rfl
  have key := run_ofO (Φ := phi P85.prog q) (np := 1) (ns := 5) (M := [1]) (mps := []) (b := P85.b26) (ds := [.list (ns.map .int)]) (Q := fun r outs => ∃ H, HOk H ∧ r = .own (hD H) ∧ outs = []) rfl (by
    let S : D := .list (ns.map .int)
    refine wb_cons (ρ1 := [some S, some (hD [433, 0]), none, none, none]) (sx_masg (i := 1) (po_lst (pvs_cons pv_int.pd (pvs_cons pv_int.pd pvs_nil)) (Nat.le_of_ble_eq_true rfl)) (Nat.le_of_ble_eq_true rfl)) ?_
    let I : Nat → Rho → Prop := fun t ρ => ∃ (H : List Int) (a2 a3 a4 : Option D), ρ = [some S, some (hD H), a2, a3, a4] ∧ 2 ≤ H.length ∧ H.length ≤ 2 + 450 * t
    have hcut : ∀ d ∈ cutL (ns.map PySem.PyData.int) none (some 40), ∃ k, d = .int k := fun d hd => by
      unfold cutL at hd
      obtain ⟨k, _, e⟩ := List.mem_map.mp (List.mem_of_mem_drop (List.mem_of_mem_take hd))
      exact ⟨k, e.symm⟩
    have hcl : (cutL (ns.map PySem.PyData.int) none (some 40)).length ≤ 63 := by
      unfold cutL
      rw [List.length_take, List.length_drop, List.length_map]
      omega
    obtain ⟨ρ', f1, f2⟩ := for_inv (f := fun r => execs (phi P85.prog q) (.cons (.asg (.name 3) (.blt .abs (.cons (.blt .int (.cons (.var 2) .nil)) .nil))) (.cons (.setix 1 (.int 0) (.bin .mod (.bin .add (.bin .mul (.ix (.mvar 1) (.int 0)) (.int 71)) (.var 3)) (.int 1000121))) (.cons (.ite (.ofE (.cmp .ge (.var 3) (.bin .pow (.int 10) (.int 18)))) (.cons (.loop (.name 4) (.range (.cons (.int 450) .nil)) (.cons (.ite (.ofE (.cmp .eq (.var 3) (.int 0))) (.cons (.brk) .nil) .nil) (.cons (.append 1 (.bin .mod (.var 3) (.int 5040))) (.cons (.asg (.name 3) (.bin .fdiv (.var 3) (.int 5040))) .nil)))) .nil) (.cons (.loop (.name 4) (.range (.cons (.int 7) .nil)) (.cons (.append 1 (.bin .fdiv (.bin .mod (.bin .mul (.bin .mod (.bin .add (.bin .add (.bin .mul (.var 3) (.int 22695477)) (.bin .mul (.var 4) (.int 12345))) (.int 1)) (.int 4294967279)) (.int 907)) (.int 1000000033)) (.int 37))) .nil)) .nil)) .nil))) r) (g := .name 2) I (cutL (ns.map PySem.PyData.int) none (some 40)) 0 [some S, some (hD [433, 0]), none, none, none] ⟨[433, 0], none, none, none, rfl, by simp, by simp⟩ fun t d ρ hd hI => by
      rw [Nat.zero_add] at hI ⊢
      obtain ⟨H, a2, a3, a4, rfl, hl1, hl2⟩ := hI
      have ht : t < 63 := by
        have := (List.getElem?_eq_some_iff.mp hd).1
        omega
      obtain ⟨k, rfl⟩ := hcut d (List.mem_of_getElem? hd)
      obtain ⟨x0, t0, rfl⟩ : ∃ x0 t0, H = x0 :: t0 := by
        match H, hl1 with
        | x0 :: t0, _ => exact ⟨x0, t0, rfl⟩
        | [], h => exact absurd h (by simp)
      let g : Int := if k < 0 then -k else k
      let y0 : Int := (x0 * 71 + g).fmod 1000121
      have s1 : SX (phi P85.prog q) (.asg (.name 3) (.blt .abs (.cons (.blt .int (.cons (.var 2) .nil)) .nil))) [some S, some (hD (x0 :: t0)), some (.int k), a3, a4] [some S, some (hD (x0 :: t0)), some (.int k), some (.int g), a4] := sx_asg (i := 3) (PV.pd (pv_blt (pvs_cons (PV.pd (pv_blt (pvs_cons (pv_var rfl).pd pvs_nil) rfl)) pvs_nil) rfl)) (Nat.le_of_ble_eq_true rfl)
      have s2 : SX (phi P85.prog q) (.setix 1 (.int 0) (.bin .mod (.bin .add (.bin .mul (.ix (.mvar 1) (.int 0)) (.int 71)) (.var 3)) (.int 1000121))) [some S, some (hD (x0 :: t0)), some (.int k), some (.int g), a4] [some S, some (hD (y0 :: t0)), some (.int k), some (.int g), a4] :=
        sx_setix (i := 1) (n := 0) (xs := .int x0 :: t0.map .int) rfl (PV.pd (pv_bin (PV.pd (pv_bin (PV.pd (pv_bin (PV.pd (pv_ixR (pr_mvar (xs := .int x0 :: t0.map .int) rfl) pv_int (ixL (by decide) rfl))) pv_int.pd (mulr rfl))) (pv_var rfl).pd rfl)) pv_int.pd (modz (by decide)))) pv_int (ixn_nat (j := 0) (by simp))
      -- the two ways
      have w1 : ∃ (H' : List Int) (x3 x4 : Option D), SX (phi P85.prog q) (.loop (.name 4) (.range (.cons (.int 450) .nil)) (.cons (.ite (.ofE (.cmp .eq (.var 3) (.int 0))) (.cons (.brk) .nil) .nil) (.cons (.append 1 (.bin .mod (.var 3) (.int 5040))) (.cons (.asg (.name 3) (.bin .fdiv (.var 3) (.int 5040))) .nil)))) [some S, some (hD (y0 :: t0)), some (.int k), some (.int g), a4] [some S, some (hD H'), some (.int k), x3, x4] ∧ 2 ≤ H'.length ∧ H'.length ≤ 2 + 450 * (t + 1) := by
        let I2 : Nat → Rho → Prop := fun s ρ => ∃ (H' : List Int) (g' : Int) (x4 : Option D), ρ = [some S, some (hD H'), some (.int k), some (.int g'), x4] ∧ 2 ≤ H'.length ∧ H'.length ≤ 2 + 450 * t + s
        let J2 : Rho → Prop := fun ρ => ∃ (H' : List Int) (g' : Int) (x4 : Option D), ρ = [some S, some (hD H'), some (.int k), some (.int g'), x4] ∧ 2 ≤ H'.length ∧ H'.length ≤ 2 + 450 * (t + 1)
        obtain ⟨ρ2, k1, k2⟩ := for_invB (f := fun r => execs (phi P85.prog q) (.cons (.ite (.ofE (.cmp .eq (.var 3) (.int 0))) (.cons (.brk) .nil) .nil) (.cons (.append 1 (.bin .mod (.var 3) (.int 5040))) (.cons (.asg (.name 3) (.bin .fdiv (.var 3) (.int 5040))) .nil))) r) (g := .name 4) I2 J2 (rangeD 0 450) 0 [some S, some (hD (y0 :: t0)), some (.int k), some (.int g), a4] ⟨y0 :: t0, g, a4, rfl, by simpa using hl1, by simpa using hl2⟩ fun s d ρ hd hI => by
          rw [Nat.zero_add] at hI ⊢
          obtain ⟨H', g', x4, rfl, m1, m2⟩ := hI
          obtain ⟨hs, rfl⟩ := rangeD_at hd
          refine ⟨[some S, some (hD H'), some (.int k), some (.int g'), some (.int (s : Nat))], ?_⟩
          have hc : PT (phi P85.prog q) (.ofE (.cmp .eq (.var 3) (.int 0))) [some S, some (hD H'), some (.int k), some (.int g'), some (.int (s : Nat))] (decide (g' = 0)) := pt_b (pv_cmp (pv_var rfl).pd pv_int.pd (eqi _ _))
          by_cases c : g' = 0
          · rw [decide_eq_true c] at hc
            unfold PT at hc
            exact ⟨.br, [some S, some (hD H'), some (.int k), some (.int g'), some (.int (s : Nat))], rfl, by simp only [execs, exec, hc, bind, Option.bind, if_true], .inr ⟨rfl, H', g', _, rfl, m1, by omega⟩⟩
          · rw [decide_eq_false c] at hc
            have b : BX (phi P85.prog q) (.cons (.ite (.ofE (.cmp .eq (.var 3) (.int 0))) (.cons (.brk) .nil) .nil) (.cons (.append 1 (.bin .mod (.var 3) (.int 5040))) (.cons (.asg (.name 3) (.bin .fdiv (.var 3) (.int 5040))) .nil))) [some S, some (hD H'), some (.int k), some (.int g'), some (.int (s : Nat))] [some S, some (hD (H' ++ [g'.fmod 5040])), some (.int k), some (.int (g'.fdiv 5040)), some (.int (s : Nat))] := by
              refine bx_cons (sx_ite (k := false) hc (fun z => nomatch z) (fun _ => bx_nil)) (bx_cons (append_int (pv_bin (pv_var rfl).pd pv_int.pd (modz (by decide))) (by omega)) (bx_cons (sx_asg (i := 3) (PV.pd (pv_bin (pv_var rfl).pd pv_int.pd (fdivz (by decide)))) (Nat.le_of_ble_eq_true rfl)) bx_nil))
            exact ⟨.nx, _, rfl, b, .inl ⟨.inl rfl, _, _, _, rfl, by rw [List.length_append]; omega, by simp only [List.length_append, List.length_cons, List.length_nil]; omega⟩⟩
        have hfin : J2 ρ2 := by
          rcases k2 with k2 | k2
          · rw [Nat.zero_add, rangeD_len] at k2
            obtain ⟨H', g', x4, rfl, m1, m2⟩ := k2
            exact ⟨H', g', x4, rfl, m1, by omega⟩
          · exact k2
        obtain ⟨H', g', x4, rfl, m1, m2⟩ := hfin
        exact ⟨H', _, x4, sx_loop (pi_range1 pv_int (by decide)) k1, m1, m2⟩
      have w2 : ∃ (H' : List Int) (x3 x4 : Option D), SX (phi P85.prog q) (.loop (.name 4) (.range (.cons (.int 7) .nil)) (.cons (.append 1 (.bin .fdiv (.bin .mod (.bin .mul (.bin .mod (.bin .add (.bin .add (.bin .mul (.var 3) (.int 22695477)) (.bin .mul (.var 4) (.int 12345))) (.int 1)) (.int 4294967279)) (.int 907)) (.int 1000000033)) (.int 37))) .nil)) [some S, some (hD (y0 :: t0)), some (.int k), some (.int g), a4] [some S, some (hD H'), some (.int k), x3, x4] ∧ 2 ≤ H'.length ∧ H'.length ≤ 2 + 450 * (t + 1) := by
        let I2 : Nat → Rho → Prop := fun s ρ => ∃ (H' : List Int) (x4 : Option D), ρ = [some S, some (hD H'), some (.int k), some (.int g), x4] ∧ 2 ≤ H'.length ∧ H'.length ≤ 2 + 450 * t + s
        obtain ⟨ρ2, k1, k2⟩ := for_inv (f := fun r => execs (phi P85.prog q) (.cons (.append 1 (.bin .fdiv (.bin .mod (.bin .mul (.bin .mod (.bin .add (.bin .add (.bin .mul (.var 3) (.int 22695477)) (.bin .mul (.var 4) (.int 12345))) (.int 1)) (.int 4294967279)) (.int 907)) (.int 1000000033)) (.int 37))) .nil) r) (g := .name 4) I2 (rangeD 0 7) 0 [some S, some (hD (y0 :: t0)), some (.int k), some (.int g), a4] ⟨y0 :: t0, a4, rfl, by simpa using hl1, by simpa using hl2⟩ fun s d ρ hd hI => by
          rw [Nat.zero_add] at hI ⊢
          obtain ⟨H', x4, rfl, m1, m2⟩ := hI
          obtain ⟨hs, rfl⟩ := rangeD_at hd
          refine ⟨[some S, some (hD H'), some (.int k), some (.int g), some (.int (s : Nat))], .nx, [some S, some (hD (H' ++ [(((((g * 22695477 + (s : Nat) * 12345 + 1) : Int).fmod 4294967279) * 907).fmod 1000000033).fdiv 37])), some (.int k), some (.int g), some (.int (s : Nat))], rfl, bx_cons (append_int ?_ (by omega)) bx_nil, .inl rfl, ⟨_, _, rfl, by rw [List.length_append]; omega, by simp only [List.length_append, List.length_cons, List.length_nil]; omega⟩⟩
          exact pv_bin (PV.pd (pv_bin (PV.pd (pv_bin (PV.pd (pv_bin (PV.pd (pv_bin (PV.pd (pv_bin (PV.pd (pv_bin (pv_var rfl).pd pv_int.pd (mulr rfl))) (PV.pd (pv_bin (pv_var rfl).pd pv_int.pd (mulr rfl))) rfl)) pv_int.pd rfl)) pv_int.pd (modz (by decide)))) pv_int.pd (mulr rfl))) pv_int.pd (modz (by decide)))) pv_int.pd (fdivz (by decide))
        rw [Nat.zero_add, rangeD_len] at k2
        obtain ⟨H', x4, rfl, m1, m2⟩ := k2
        exact ⟨H', _, x4, sx_loop (pi_range1 pv_int (by decide)) k1, m1, by omega⟩
      have hc : PT (phi P85.prog q) (.ofE (.cmp .ge (.var 3) (.bin .pow (.int 10) (.int 18)))) [some S, some (hD (y0 :: t0)), some (.int k), some (.int g), a4] (decide ((10 : Int) ^ 18 ≤ g)) := pt_b (pv_cmp (pv_var rfl).pd (PV.pd (pv_bin pv_int.pd pv_int.pd (by
        show (if (0 : Int) ≤ 18 ∧ (18 : Int) ≤ 1000000 ∧ (10 : Int).natAbs < 2 ^ 64 then some (R.val (.int ((10 : Int) ^ (18 : Int).toNat))) else none) = _
        rw [if_pos (by decide)]))) rfl)
      refine ⟨[some S, some (hD (x0 :: t0)), some (.int k), a3, a4], .nx, ?_⟩
      by_cases c : (10 : Int) ^ 18 ≤ g
      · rw [decide_eq_true c] at hc
        obtain ⟨H', x3, x4, u1, u2, u3⟩ := w1
        exact ⟨_, rfl, bx_cons s1 (bx_cons s2 (bx_cons (sx_ite (k := true) hc (fun _ => bx_cons u1 bx_nil) (fun z => nomatch z)) bx_nil)), .inl rfl, H', _, x3, x4, rfl, u2, u3⟩
      · rw [decide_eq_false c] at hc
        obtain ⟨H', x3, x4, u1, u2, u3⟩ := w2
        exact ⟨_, rfl, bx_cons s1 (bx_cons s2 (bx_cons (sx_ite (k := false) hc (fun z => nomatch z) (fun _ => bx_cons u1 bx_nil)) bx_nil)), .inl rfl, H', _, x3, x4, rfl, u2, u3⟩
    obtain ⟨H, a2, a3, a4, rfl, hl1, hl2⟩ := f2
    refine wb_loop (pi_seq (PO.pd (pd_sl (pv_var rfl).pd pob_none (pob_some pv_int) rfl)) rfl) f1 ⟨.rt (.own (hD H)), [some S, none, a2, a3, a4], rfl, _, [], rfl, (fun _ z => nomatch z), rfl, H, hl1, rfl, rfl⟩)
  obtain ⟨r, outs, k1, H, k2, rfl, rfl⟩ := key
  exact ⟨H, k2, k1⟩
end M85
set_option Elab.async false
set_option linter.all false
set_option maxRecDepth 100000
set_option maxHeartbeats 1000000
/-! U85B: elements ahead, yes, apart, same. -/
namespace M85
open Vm
theorem r41 (a b : Bool) : Ret 41 [.bool a, .bool b] (.val (.bool (a == b))) [] 1 := by
  refine ret_of (d := 0) rfl fun q _ => run_of rfl ?_ (fun _ z => nomatch z)
  have e : (a == b) = (true && (a == b)) := by simp
  rw [e]
  exact rt_ret (pv_and (pv_blt (pvs_cons (pv_var rfl).pd pvs_nil) rfl) fun _ => pv_cmp (pv_var rfl).pd (pv_var rfl).pd (by cases a <;> cases b <;> rfl))
section
variable {q : Nat} {a : E} {F : List Int → Rho} {H : List Int} {P : D → Prop}
theorem hv_slTo {hi : E} {x : D} (ha : ∀ H, PV (phi P85.prog q) a (F H) x) (h : HV (phi P85.prog q) hi F H (fun d => ∃ i v, d = .int i ∧ slD x none (some i) = some (.val v) ∧ P v)) : HV (phi P85.prog q) (.sl a .none (.some hi)) F H P := by
  obtain ⟨_, H1, o1, e1, i, v, rfl, q1, q2⟩ := h
  refine ⟨v, H1, o1, ?_, q2⟩
  have h0 := ha H
  unfold PV at h0
  simp only [evalE, evalO, h0, e1, res, q1, bind, Option.bind]
end
theorem EOk.mono {B C : Nat} {p : Part} {e : El} (hBC : B ≤ C) (h : EOk B p e) : EOk C p e := by
  revert h
  cases p <;> cases e <;> first | exact id | exact fun h => ⟨h.1, h.2.1, by have := h.2.2; omega⟩
theorem r32 (H : List Int) (hH : HOk H) {p : Part} (hp : POk p) {L B : Nat} (hL : L ≤ B) (hB : B ≤ 1000) {e : El} (he : EOk B p e) : ∀ q, 4 ≤ q → ∃ r outs, phi P85.prog q 32 [hD H, pD p, eD e, .int (L : Nat)] = some (r, outs) ∧ ∃ e' H', r = .val (eD e') ∧ outs = [hD H'] ∧ HOk H' ∧ EOk B p e' ∧ CB p e' := by
  intro q hq
  obtain ⟨q, rfl⟩ : ∃ n, q = n + 1 := ⟨q - 1, by omega⟩
  show ∃ r outs, runFD (phi P85.prog q) P85.f32 [hD H, pD p, eD e, .int (L : Nat)] = some (r, outs) ∧ _
  have hlim : lim = 100000 := rfl
  refine run_ofO rfl ?_
  let F : List Int → Rho := fun H => [some (hD H), some (pD p), some (eD e), some (.int (L : Nat))]
  show WB (phi P85.prog q) P85.b32 (F H) _
  have fin : ∀ (d : D) (H' : List Int), HOk H' → (∃ e, d = eD e ∧ EOk B p e ∧ CB p e) → ∃ r outs, (Fl.rt (.val d)) = .rt r ∧ (∀ i, r ≠ .slot i) ∧ outsOf (F H') [0] = some outs ∧ ∃ e H', r = .val (eD e) ∧ outs = [hD H'] ∧ HOk H' ∧ EOk B p e ∧ CB p e := fun d H' o' he => by
    obtain ⟨e, rfl, he⟩ := he
    exact ⟨_, _, rfl, (fun _ z => nomatch z), rfl, e, H', rfl, rfl, o', he⟩
  refine wb_ite (F := F) (P := fun k => k = true → ∃ m v, p = .rope m ∧ e = .w v ∧ 0 < v.length) ?_ ?_
  · refine ht_and (ht_pt hH (pt_ro (pv_var rfl)) fun H1 o1 => ⟨fun h => ?_, fun h z => nomatch z⟩)
    cases p <;> first | (cases h; done) | skip
    cases e <;> first | (exact absurd he id) | skip
    rename_i m v
    have hlen : ∀ H, PV (phi P85.prog q) (.blt .len (.cons (.var 2) .nil)) (F H) (.int (v.length : Nat)) := fun H => pv_blt (pvs_cons (pv_var rfl).pd pvs_nil) (by show some (R.val (.int ((v.map lD).length : Nat))) = _; rw [List.length_map])
    refine ht_and (ht_pt o1 (pt_b (pv_cmp (hlen H1).pd pv_int.pd rfl)) fun H2 o2 => ⟨fun h2 => ?_, fun h z => nomatch z⟩)
    have hv : 0 < v.length := by
      have := of_decide_eq_true h2
      omega
    refine ht_or (ht_pt o2 (pt_b (pv_cmp (pv_var rfl).pd pv_int.pd rfl)) fun H3 o3 => ⟨fun _ => ?_, fun _ _ => ⟨m, v, rfl, rfl, hv⟩⟩)
    exact ht_ofE (HV.hg (hv_cmp (HV.hg (hv_take (by omega) o3 (fun _ => rfl) (fun _ _ => rfl) pv_int (by decide) fun r r1 r2 H4 o4 => hg_pv o4 pv_int ⟨_, eqi _ _, _, rfl, fun _ => ⟨m, v, rfl, rfl, hv⟩⟩))))
  · intro k H1 o1 hk
    cases k with
    | true =>
      obtain ⟨m, v, rfl, rfl, hv⟩ := hk rfl
      rw [if_pos rfl]
      obtain ⟨v1, v2, v3⟩ := he
      have hlen : ∀ H, PV (phi P85.prog q) (.blt .len (.cons (.var 2) .nil)) (F H) (.int (v.length : Nat)) := fun H => pv_blt (pvs_cons (pv_var rfl).pd pvs_nil) (by show some (R.val (.int ((v.map lD).length : Nat))) = _; rw [List.length_map])
      refine wb_retH (F := F) (P := fun d => ∃ u, d = wD u ∧ Rd u ∧ Lett (m : Nat) u ∧ u.length ≤ B) ?_ ?_
      · refine hv_slTo (x := wD v) (fun _ => pv_var rfl) (hv_take (by omega) o1 (fun _ => rfl) (fun _ _ => rfl) (hlen H1) (by omega) fun r r1 r2 => ⟨r, wD (v.take r.toNat), rfl, ?_, v.take r.toNat, rfl, ?_, ?_, ?_⟩)
        · have := sl_take v r.toNat (by omega)
          rwa [Int.toNat_of_nonneg r1] at this
        · have : Rd (v.take r.toNat ++ v.drop r.toNat) := by rw [List.take_append_drop]; exact v1
          exact rd_left this
        · exact fun x hx => v2 x (List.mem_of_mem_take hx)
        · rw [List.length_take]; omega
      · rintro d H2 o2 ⟨u, rfl, u1, u2, u3⟩
        exact ⟨fun z => (nomatch z), fun _ => fin _ _ o2 ⟨.w u, rfl, ⟨u1, u2, u3⟩, fun z => nomatch z⟩⟩
    | false =>
      rw [if_neg Bool.false_ne_true]
      refine wb_nil ⟨fun _ => ?_, fun z => absurd rfl z⟩
      refine wb_retH (F := F) (P := fun d => ∃ e, d = eD e ∧ EOk B p e ∧ CB p e) ?_ (fun d H2 o2 h => fin d H2 o2 h)
      refine hv_callH (fun _ => rfl) (fun _ _ => rfl) (ha_cons (hg_pv o1 (pv_var rfl) fun H4 o4 => ha_cons (hg_pv o4 (pv_var rfl) fun H5 o5 => ha_nil o5 fun H6 o6 => ?_)))
      obtain ⟨r, outs, g1, c, H7, rfl, rfl, o7, hc, hcb⟩ := r31 H6 o6 hp (L := L) (by omega) q (by omega)
      exact ⟨eD c, H7, g1, o7, c, rfl, EOk.mono hL hc, hcb⟩
/-! an element that no turner leads to -/
theorem deck_range (n : Nat) : Deck n (List.range n) := ⟨List.length_range, fun i hi => List.mem_range.mp hi, List.nodup_range⟩
theorem deck_swap (n : Nat) : Deck (n + 2) ([1, 0] ++ (List.range (n + 2)).drop 2) := by
  have e : List.range (n + 2) = [0, 1] ++ (List.range (n + 2)).drop 2 := by
    have := List.take_append_drop 2 (List.range (n + 2))
    rw [List.take_range, Nat.min_eq_left (by omega)] at this
    exact this.symm
  refine deck_perm (deck_range (n + 2)) ?_
  conv => lhs; rw [e]
  exact List.Perm.append_right _ (List.Perm.swap 1 0 [])
theorem r42 {B : Nat} {p : Part} (hp : POk p) {a : El} (ha : EOk B p a) : ∃ e, Ret 42 [pD p, eD a] (.val (eD e)) [] 1 ∧ EOk (B + 1) p e := by
  have hlim : lim = 100000 := rfl
  rcases cases_ok ha with ⟨rfl, i, rfl⟩ | ⟨m, i, rfl, rfl, h1, h2⟩ | ⟨n, c, rfl, rfl, h⟩ | ⟨m, v, rfl, rfl, h1, h2, h3⟩
  · exact ⟨.z (i + 1), ret_of (d := 0) rfl fun q _ => run_of rfl (rt_if (pt_c (p := .counter) (pv_var rfl)) (fun _ => rt_ret (pv_bin (pv_var rfl).pd pv_int.pd rfl)) (fun z => nomatch z)) (fun _ z => nomatch z), trivial⟩
  · have hm : 1 ≤ m := hp
    exact ⟨.z ((i + 1).fmod m), ret_of (d := 0) rfl fun q _ => run_of rfl (rt_if (pt_c (p := .dial m) (pv_var rfl)) (fun z => nomatch z) fun _ => rt_if (pt_di (p := .dial m) (pv_var rfl)) (fun _ => rt_ret (pv_bin (PV.pd (pv_bin (pv_var rfl).pd pv_int.pd rfl)) (pv_ix (pv_var rfl).pd pv_int rfl).pd (modz (by omega)))) (fun z => nomatch z)) (fun _ z => nomatch z), fmod_ok hm⟩
  · obtain ⟨n1, n2⟩ := hp
    have hlc : ∀ q, PV (phi P85.prog q) (.blt .tuple (.cons (.lc [3] (.name 3) (.range (.cons (.ix (.var 0) (.int 1)) .nil)) .yes (.var 3)) .nil)) [some (pD (.deck n)), some (kD c), none, none] (kD (List.range n)) := fun q => by
      refine pv_blt (pvs_cons (PO.pd (xs := kL (List.range n)) (po_lcI (items := rangeD 0 n) ?_ _ (by rw [kL_len, List.length_range, rangeD_len]) (by rw [rangeD_len]; omega) rfl fun i d x hd hx => ?_)) pvs_nil) rfl
      · have := pi_range1 (Φ := phi P85.prog q) (ρ := [some (pD (.deck n)), some (kD c), none, none]) (e := .ix (.var 0) (.int 1)) (n := (n : Nat)) (pv_ix (pv_var rfl).pd pv_int rfl) (small_nat (by omega))
        rwa [Int.toNat_natCast] at this
      · obtain ⟨hi, rfl⟩ := rangeD_at hd
        obtain ⟨k, ek, rfl⟩ := kL_at hx
        rw [List.getElem?_range hi] at ek
        cases ek
        exact ⟨[some (pD (.deck n)), some (kD c), none, some (.int (i : Nat))], rfl, rfl, pt_yes, (pv_var rfl).pd⟩
    have start : ∀ q r, RT (phi P85.prog q) (.cons (.ite (.or (.ofE (.cmp .lt (.ix (.var 0) (.int 1)) (.int 2))) (.ofE (.cmp .ne (.var 1) (.var 2)))) (.cons (.ret (.var 2)) .nil) .nil) (.cons (.ret (.bin .add (.tup (.cons (.int 1) (.cons (.int 0) .nil))) (.sl (.var 2) (.some (.int 2)) .none))) .nil)) [some (pD (.deck n)), some (kD c), some (kD (List.range n)), none] r → (∀ i, r ≠ .slot i) → runFD (phi P85.prog q) P85.f42 [pD (.deck n), kD c] = some (r, []) := fun q r h h' => by
      refine run_of rfl ?_ h'
      refine rt_if (pt_c (p := .deck n) (pv_var rfl)) (fun z => nomatch z) fun _ => rt_if (pt_di (p := .deck n) (pv_var rfl)) (fun z => nomatch z) fun _ => rt_if (pt_ro (p := .deck n) (pv_var rfl)) (fun z => nomatch z) fun _ => ?_
      exact rt_cons (sx_asg (i := 2) (hlc q).pd (Nat.le_of_ble_eq_true rfl)) h
    have hc : ∀ q, PT (phi P85.prog q) (.or (.ofE (.cmp .lt (.ix (.var 0) (.int 1)) (.int 2))) (.ofE (.cmp .ne (.var 1) (.var 2)))) [some (pD (.deck n)), some (kD c), some (kD (List.range n)), none] (decide (((n : Nat) : Int) < 2) || !decide (El.k c = El.k (List.range n))) := fun q => pt_or (pt_b (pv_cmp (pv_ix (pv_var rfl).pd pv_int rfl).pd pv_int.pd rfl)) fun _ => pt_b (pv_cmp (pv_var rfl).pd (pv_var rfl).pd (ne_el (B := 0) (C := 0) (p := .deck n) (a := .k c) (b := .k (List.range n)) h (deck_range n)))
    cases e : (decide (((n : Nat) : Int) < 2) || !decide (El.k c = El.k (List.range n))) with
    | true => exact ⟨.k (List.range n), ret_of (d := 0) rfl fun q _ => start q _ (rt_if (k := true) (by have := hc q; rw [e] at this; exact this) (fun _ => rt_ret (pv_var rfl)) (fun z => nomatch z)) (fun _ z => nomatch z), deck_range n⟩
    | false =>
      rw [Bool.or_eq_false_iff, decide_eq_false_iff_not] at e
      obtain ⟨n', rfl⟩ : ∃ k, n = k + 2 := ⟨n - 2, by omega⟩
      refine ⟨.k ([1, 0] ++ (List.range (n' + 2)).drop 2), ret_of (d := 0) rfl fun q _ => start q _ (rt_if (k := false) (by have := hc q; rw [e.2, decide_eq_false (by omega)] at this; exact this) (fun z => nomatch z) (fun _ => rt_ret (pv_bin (PV.pd (pv_tup (pvs_cons pv_int.pd (pvs_cons pv_int.pd pvs_nil)) (Nat.le_of_ble_eq_true rfl))) (PV.pd (d := kD ((List.range (n' + 2)).drop 2)) (pd_sl (pv_var rfl).pd (pob_some pv_int) pob_none ?_)) ?_))) (fun _ z => nomatch z), deck_swap n'⟩
      · show some (R.val (.tuple (cutL (kL (List.range (n' + 2))) (some ((2 : Nat) : Int)) none))) = _
        rw [cut_drop _ _ (by rw [kL_len, List.length_range]; omega)]
        unfold kD kL
        rw [List.map_drop]
      · show (if _ then _ else _) = _
        rw [if_pos (by rw [kL_len, List.length_drop, List.length_range]; simp only [List.length_cons, List.length_nil]; omega)]
        rfl
  · have hm : 1 ≤ m := hp
    have hlen : ∀ q, PV (phi P85.prog q) (.blt .len (.cons (.var 1) .nil)) [some (pD (.rope m)), some (wD v), none, none] (.int (v.length : Nat)) := fun q => pv_blt (pvs_cons (pv_var rfl).pd pvs_nil) (by show some (R.val (.int ((v.map lD).length : Nat))) = _; rw [List.length_map])
    have main : ∀ q, runFD (phi P85.prog q) P85.f42 [pD (.rope m), wD v] = some (.val (if decide ((0 : Int) < (v.length : Nat)) = true then .tuple [] else .tuple [lD (0, false)]), []) := fun q => run_of rfl (rt_if (pt_c (p := .rope m) (pv_var rfl)) (fun z => nomatch z) fun _ => rt_if (pt_di (p := .rope m) (pv_var rfl)) (fun z => nomatch z) fun _ => rt_if (pt_ro (p := .rope m) (pv_var rfl)) (fun _ => rt_ret (pv_ife (pt_b (pv_cmp (hlen q).pd pv_int.pd rfl)) (fun _ => pv_tup pvs_nil (Nat.zero_le _)) (fun _ => pv_tup (pvs_cons (PV.pd (pv_tup (pvs_cons pv_int.pd (pvs_cons pv_bl.pd pvs_nil)) (Nat.le_of_ble_eq_true rfl))) pvs_nil) (Nat.le_of_ble_eq_true rfl)))) (fun z => nomatch z)) (fun _ z => nomatch z)
    by_cases c : 0 < v.length
    · refine ⟨.w [], ret_of (d := 0) rfl fun q _ => ?_, trivial, (fun _ z => nomatch z), Nat.zero_le _⟩
      have := main q
      rw [decide_eq_true (by omega), if_pos rfl] at this
      exact this
    · refine ⟨.w [(0, false)], ret_of (d := 0) rfl fun q _ => ?_, trivial, (fun x hx => ?_), by simp⟩
      · have := main q
        rw [decide_eq_false (by omega), if_neg Bool.false_ne_true] at this
        exact this
      · rw [List.mem_singleton.mp hx]
        exact ⟨Int.le_refl _, by show (0 : Int) ≤ _; omega⟩
/-! the same, told of themselves -/
theorem same_int (i : Int) : Ret 45 [.int i, .int i] (.val (.bool true)) [] 1 := by
  refine ret_of (d := 0) rfl fun q _ => run_of rfl ?_ (fun _ z => nomatch z)
  refine rt_if (pt_b (pv_blt (pvs_cons (pv_var rfl).pd pvs_nil) rfl)) (fun z => nomatch z) fun _ => ?_
  refine rt_if (pt_or (l := false) (pt_b (pv_blt (pvs_cons (pv_var rfl).pd pvs_nil) rfl)) fun _ => pt_b (pv_blt (pvs_cons (pv_var rfl).pd pvs_nil) rfl)) (fun z => nomatch z) fun _ => ?_
  have e : true = (true && decide (i = i)) := by simp
  rw [e]
  exact rt_ret (pv_and (pv_blt (pvs_cons (pv_var rfl).pd pvs_nil) rfl) fun _ => pv_cmp (pv_var rfl).pd (pv_var rfl).pd (eqi _ _))
theorem same_bool (b : Bool) : Ret 45 [.bool b, .bool b] (.val (.bool true)) [] 1 := by
  refine ret_of (d := 0) rfl fun q _ => run_of rfl ?_ (fun _ z => nomatch z)
  refine rt_if (pt_b (pv_blt (pvs_cons (pv_var rfl).pd pvs_nil) rfl)) (fun z => nomatch z) fun _ => ?_
  refine rt_if (pt_or (l := true) (pt_b (pv_blt (pvs_cons (pv_var rfl).pd pvs_nil) rfl)) fun _ => pt_b (pv_blt (pvs_cons (pv_var rfl).pd pvs_nil) rfl)) (fun _ => ?_) (fun z => nomatch z)
  have hv : PV (phi P85.prog q) (.cmp .eq (.var 0) (.var 1)) (List.map some [PySem.PyData.bool b, PySem.PyData.bool b] ++ List.replicate (3 - 2) none) (.bool true) := pv_cmp (x := .bool b) (y := .bool b) (pv_var rfl).pd (pv_var rfl).pd (by cases b <;> rfl)
  exact rt_ret (pv_and (k := true) (l := true) (pv_blt (pvs_cons (pv_var rfl).pd pvs_nil) rfl) fun _ => pv_and (k := true) (l := true) (pv_blt (pvs_cons (pv_var rfl).pd pvs_nil) rfl) fun _ => hv)
theorem same_tup (xs : List D) (hl : xs.length ≤ lim) {d : Nat} (h : ∀ x ∈ xs, Ret 45 [x, x] (.val (.bool true)) [] d) : Ret 45 [.tuple xs, .tuple xs] (.val (.bool true)) [] (d + 1) := by
  refine ret_of rfl fun q hq => run_of rfl ?_ (fun _ z => nomatch z)
  have hlen : ∀ (a : Nat), a = 0 ∨ a = 1 → ∀ c, PV (phi P85.prog q) (.blt .len (.cons (.var a) .nil)) [some (.tuple xs), some (.tuple xs), c] (.int (xs.length : Nat)) := fun a ha c => by
    rcases ha with rfl | rfl <;> exact pv_blt (pvs_cons (pv_var rfl).pd pvs_nil) rfl
  refine rt_if (pt_b (pv_blt (pvs_cons (pv_var rfl).pd pvs_nil) rfl)) (fun _ => ?_) (fun z => nomatch z)
  refine rt_if (k := false) ?_ (fun z => nomatch z) fun _ => ?_
  · have h2 : decide ((xs.length : Int) ≠ (xs.length : Int)) = false := by simp
    have := pt_or (Φ := phi P85.prog q) (ρ := [some (.tuple xs), some (.tuple xs), none]) (k := false) (l := false) (t := .not (.ofE (.blt (.isi .tuple) (.cons (.var 0) .nil)))) (u := .ofE (.cmp .ne (.blt .len (.cons (.var 0) .nil)) (.blt .len (.cons (.var 1) .nil)))) (pt_not (k := true) (pt_b (pv_blt (pvs_cons (pv_var rfl).pd pvs_nil) rfl))) fun _ => by
      rw [← h2]
      exact pt_b (pv_cmp (hlen 0 (.inl rfl) _).pd (hlen 1 (.inr rfl) _).pd (nei _ _))
    exact this
  let I : Nat → Rho → Prop := fun t ρ => ∃ a2, ρ = [some (.tuple xs), some (.tuple xs), a2]
  obtain ⟨ρ', f1, f2⟩ := for_inv (f := fun r => execs (phi P85.prog q) (.cons (.ite (.not (.ofE (.call 45 [] (.cons (.ix (.var 0) (.var 2)) (.cons (.ix (.var 1) (.var 2)) .nil))))) (.cons (.ret (.bl false)) .nil) .nil) .nil) r) (g := .name 2) I (rangeD 0 xs.length) 0 [some (.tuple xs), some (.tuple xs), none] ⟨none, rfl⟩ fun t d ρ hd hI => by
    obtain ⟨a2, rfl⟩ := hI
    obtain ⟨ht, rfl⟩ := rangeD_at hd
    refine ⟨[some (.tuple xs), some (.tuple xs), some (.int (t : Nat))], .nx, _, rfl, bx_cons (sx_ite (k := false) (pt_not (k := true) (pt_b ?_)) (fun z => nomatch z) (fun _ => bx_nil)) bx_nil, .inl rfl, ⟨_, rfl⟩⟩
    have hx : ∀ a, a = 0 ∨ a = 1 → PV (phi P85.prog q) (.ix (.var a) (.var 2)) [some (.tuple xs), some (.tuple xs), some (.int (t : Nat))] xs[t] := fun a ha => by
      rcases ha with rfl | rfl <;> exact pv_ix (pv_var rfl).pd (pv_var rfl) (ixT (by omega) (by rw [Int.toNat_natCast]; exact List.getElem?_eq_getElem ht))
    exact pv_call (pvs_cons (hx 0 (.inl rfl)).pd (pvs_cons (hx 1 (.inr rfl)).pd pvs_nil)) (h _ (List.getElem_mem ht) q hq)
  obtain ⟨a2, rfl⟩ := f2
  refine rt_loop ?_ f1 (rt_ret pv_bl)
  have := pi_range1 (Φ := phi P85.prog q) (hlen 1 (.inr rfl) none) (small_nat hl)
  rwa [Int.toNat_natCast] at this
theorem r45 {B : Nat} {ps : List Part} {es : List El} (h : COk B ps es) (hB : B ≤ 1000) (hl : ps.length ≤ 4) : Ret 45 [ED es, ED es] (.val (.bool true)) [] 4 := by
  have hlim : lim = 100000 := rfl
  refine same_tup (d := 3) _ (by rw [List.length_map, h.len]; omega) fun x hx => ?_
  obtain ⟨e, he, rfl⟩ := List.mem_map.mp hx
  obtain ⟨i, hi⟩ := List.getElem?_of_mem he
  have hilt : i < ps.length := by
    have := (List.getElem?_eq_some_iff.mp hi).1
    rwa [h.len] at this
  obtain ⟨hp, hok⟩ := h.get (List.getElem?_eq_getElem hilt) hi
  rcases cases_ok hok with ⟨_, i, rfl⟩ | ⟨m, i, _, rfl, h1, h2⟩ | ⟨n, c, ep, rfl, h⟩ | ⟨m, v, _, rfl, h1, h2, h3⟩
  · exact (same_int i).mono (by omega)
  · exact (same_int i).mono (by omega)
  · rw [ep] at hp
    have := hp.2
    refine (same_tup (d := 1) _ (by rw [kL_len, h.len]; omega) fun x hx => ?_).mono (by omega)
    obtain ⟨k, hk⟩ := List.getElem?_of_mem hx
    obtain ⟨j, _, rfl⟩ := kL_at hk
    exact same_int _
  · refine same_tup (d := 2) _ (by rw [List.length_map]; omega) fun x hx => ?_
    obtain ⟨l, _, rfl⟩ := List.mem_map.mp hx
    refine same_tup (d := 1) _ (Nat.le_of_ble_eq_true rfl) fun x hx => ?_
    rcases List.mem_cons.mp hx with rfl | hx
    · exact same_int _
    · rw [List.mem_singleton.mp hx]
      exact same_bool _
end M85
set_option Elab.async false
set_option linter.all false
set_option maxRecDepth 100000
set_option maxHeartbeats 1000000
/-! U85C: the law's lengths, core, least. -/
namespace M85
open Vm
theorem isin_nats (k : Nat) (S : List Nat) : cmpD .isin (.int (k : Nat)) (.list (kL S)) = some (decide (k ∈ S)) := by
  show (if (PySem.SeqAt.shaped (.int (k : Nat)) && PySem.SeqAt.shaped (.list (kL S))) = true then some ((kL S).any fun z => PySem.PyData.eqv z (.int (k : Nat))) else none) = _
  rw [shaped_nats, shaped_int, if_pos (show (true && true) = true from rfl)]
  congr 1
  unfold kL
  rw [List.any_map]
  induction S with
  | nil => rfl
  | cons x S ih =>
    rw [List.any_cons, ih]
    simp only [Function.comp, PySem.PyData.eqv]
    by_cases h : x = k
    · subst h; simp
    · have h2 : ¬ ((x : Int) = (k : Int)) := by omega
      have h3 : (((x : Nat) : Int) == ((k : Nat) : Int)) = false := beq_eq_false_iff_ne.mpr h2
      rw [h3, Bool.false_or]
      have : (k ∈ x :: S) ↔ k ∈ S := by
        rw [List.mem_cons]
        exact ⟨fun z => z.resolve_left (fun e => h e.symm), .inr⟩
      simp only [this]
/-- what was seen, up to m -/
def seenK (c : List Nat) (m : Nat) : List Nat := ((leds c m).map (lap c)).flatten
theorem seenK_mem {c : List Nat} {m k : Nat} : k ∈ seenK c m ↔ ∃ i, i ∈ leds c m ∧ k ∈ lap c i := by
  unfold seenK
  rw [List.mem_flatten]
  constructor
  · rintro ⟨l, hl, hk⟩
    obtain ⟨i, hi, rfl⟩ := List.mem_map.mp hl
    exact ⟨i, hi, hk⟩
  · rintro ⟨i, hi, hk⟩
    exact ⟨_, List.mem_map.mpr ⟨i, hi, rfl⟩, hk⟩
theorem seenK_succ (c : List Nat) (m : Nat) : seenK c (m + 1) = seenK c m ++ if led c m then lap c m else [] := by
  unfold seenK
  rw [leds_succ, List.map_append, List.flatten_append]
  congr 1
  cases led c m <;> simp
theorem seenK_len {n : Nat} {c : List Nat} (h : Deck n c) : ∀ m, m ≤ n → (seenK c m).length ≤ n := fun m hm => by
  have h2 := (flat_deck h).len
  have e : ∀ k, (seenK c m).length ≤ (seenK c (m + k)).length := by
    intro k
    induction k with
    | zero => exact Nat.le_refl _
    | succ k ih =>
      rw [show m + (k + 1) = m + k + 1 by omega, seenK_succ, List.length_append]
      omega
  have := e (n - m)
  rw [show m + (n - m) = n by omega] at this
  unfold seenK at this h2 ⊢
  omega
theorem per_take {c : List Nat} {m j : Nat} (hj : j < per c m) : (lap c m).take (j + 1) = (lap c m).take j ++ [it c j m] := by
  rw [List.take_add_one, lap_get hj]
  rfl
theorem sorted_nats (l : List Nat) : bltD .sorted [.list (kL l)] = some (.own (.list (kL (l.mergeSort fun a b => decide (a ≤ b))))) := by
  show (ints? (kL l)).map _ = _
  rw [ints_kL]
  show some (R.own (.list (((l.map fun (i : Nat) => (i : Int)).mergeSort (fun a b => decide (a ≤ b))).map .int))) = _
  rw [← List.map_mergeSort (f := fun (i : Nat) => (i : Int)) (r := fun a b : Nat => decide (a ≤ b)) (fun a _ b _ => by
    by_cases z : a ≤ b
    · rw [decide_eq_true z, decide_eq_true (by omega)]
    · rw [decide_eq_false z, decide_eq_false (by omega)]), List.map_map]
  rfl
theorem r36 {n : Nat} {c : List Nat} (h : Deck n c) (hn : n ≤ 100) : Ret 36 [kD c] (.own (.list (kL (lens c)))) [] 1 := by
  have hlim : lim = 100000 := rfl
  refine ret_of (d := 0) rfl fun q _ => run_of rfl ?_ (fun _ z => nomatch z)
  refine rt_cons (sx_masg (po_lst pvs_nil (Nat.zero_le _)) (Nat.le_of_ble_eq_true rfl)) ?_
  refine rt_cons (ρ1 := [some (kD c), some (.list []), some (.list []), none, none, none]) (sx_masg (i := 2) (po_lst pvs_nil (Nat.zero_le _)) (Nat.le_of_ble_eq_true rfl)) ?_
  have hr : ∀ a1 a2 a3 a4 a5, PI (phi P85.prog q) (.range (.cons (.blt .len (.cons (.var 0) .nil)) .nil)) [some (kD c), a1, a2, a3, a4, a5] (rangeD 0 n) := fun a1 a2 a3 a4 a5 => by
    have := pi_range1 (Φ := phi P85.prog q) (ρ := [some (kD c), a1, a2, a3, a4, a5]) (pv_lenk (i := 0) (c := c) rfl) (small_nat (by rw [h.len]; omega))
    rw [Int.toNat_natCast, h.len] at this
    exact this
  let I : Nat → Rho → Prop := fun m ρ => ∃ a3 a4 a5, ρ = [some (kD c), some (.list (kL ((leds c m).map (per c)))), some (.list (kL (seenK c m))), a3, a4, a5]
  obtain ⟨ρ', h1, h2⟩ := for_inv (f := fun r => execs (phi P85.prog q) (.cons (.asg (.name 4) (.int 0)) (.cons (.loop (.name 5) (.range (.cons (.blt .len (.cons (.var 0) .nil)) .nil)) (.cons (.ite (.ofE (.cmp .isin (.var 3) (.mvar 2))) (.cons (.brk) .nil) .nil) (.cons (.append 2 (.var 3)) (.cons (.asg (.name 3) (.ix (.var 0) (.var 3))) (.cons (.asg (.name 4) (.bin .add (.var 4) (.int 1))) .nil))))) (.cons (.ite (.ofE (.cmp .gt (.var 4) (.int 0))) (.cons (.append 1 (.var 4)) .nil) .nil) .nil))) r) (g := .name 3) I (rangeD 0 n) 0 [some (kD c), some (.list []), some (.list []), none, none, none] ⟨none, none, none, rfl⟩ fun m d ρ hd hI => by
    obtain ⟨hm, rfl⟩ := rangeD_at hd
    rw [Nat.zero_add] at hI ⊢
    obtain ⟨a3, a4, a5, rfl⟩ := hI
    have hp1 := per_pos (c := c) (i := m)
    have hp2 := per_le h hm
    have hsl := seenK_len h m (by omega)
    have hll : (leds c m).length ≤ m := by
      unfold leds
      exact Nat.le_trans (List.length_filter_le _ _) (by simp)
    have hseen : ∀ k, k ∈ seenK c m ↔ ∃ i, i < m ∧ k ∈ lap c i := fun k => by rw [seenK_mem]; exact (cover_iff h (by omega)).symm
    have s1 : SX (phi P85.prog q) (.asg (.name 4) (.int 0)) [some (kD c), some (.list (kL ((leds c m).map (per c)))), some (.list (kL (seenK c m))), some (.int (m : Nat)), a4, a5] [some (kD c), some (.list (kL ((leds c m).map (per c)))), some (.list (kL (seenK c m))), some (.int (m : Nat)), some (.int (0 : Nat)), a5] := sx_asg (i := 4) (PV.pd pv_int) (Nat.le_of_ble_eq_true rfl)
    -- the inner loop
    let P : Nat := if led c m then per c m else 0
    let J : Rho → Prop := fun ρ => ∃ a3 a5, ρ = [some (kD c), some (.list (kL ((leds c m).map (per c)))), some (.list (kL (seenK c (m + 1)))), a3, some (.int (P : Nat)), a5]
    have hloop : ∃ ρ2, SX (phi P85.prog q) (.loop (.name 5) (.range (.cons (.blt .len (.cons (.var 0) .nil)) .nil)) (.cons (.ite (.ofE (.cmp .isin (.var 3) (.mvar 2))) (.cons (.brk) .nil) .nil) (.cons (.append 2 (.var 3)) (.cons (.asg (.name 3) (.ix (.var 0) (.var 3))) (.cons (.asg (.name 4) (.bin .add (.var 4) (.int 1))) .nil))))) [some (kD c), some (.list (kL ((leds c m).map (per c)))), some (.list (kL (seenK c m))), some (.int (m : Nat)), some (.int (0 : Nat)), a5] ρ2 ∧ J ρ2 := by
      let I2 : Nat → Rho → Prop := fun j ρ => j ≤ P ∧ ∃ a5, ρ = [some (kD c), some (.list (kL ((leds c m).map (per c)))), some (.list (kL (seenK c m ++ (lap c m).take j))), some (.int (it c j m : Nat)), some (.int (j : Nat)), a5]
      have eP : ∀ j, j = P → seenK c m ++ (lap c m).take j = seenK c (m + 1) := fun j hj => by
        rw [seenK_succ, hj]
        show _ ++ (lap c m).take (if led c m then per c m else 0) = _
        cases led c m with
        | true => simp only [if_true]; rw [List.take_of_length_le (by rw [lap_len]; exact Nat.le_refl _)]
        | false => simp
      obtain ⟨ρ2, g1, g2⟩ := for_invB (f := fun r => execs (phi P85.prog q) (.cons (.ite (.ofE (.cmp .isin (.var 3) (.mvar 2))) (.cons (.brk) .nil) .nil) (.cons (.append 2 (.var 3)) (.cons (.asg (.name 3) (.ix (.var 0) (.var 3))) (.cons (.asg (.name 4) (.bin .add (.var 4) (.int 1))) .nil)))) r) (g := .name 5) I2 J (rangeD 0 n) 0 [some (kD c), some (.list (kL ((leds c m).map (per c)))), some (.list (kL (seenK c m))), some (.int (m : Nat)), some (.int (0 : Nat)), a5] ⟨Nat.zero_le _, a5, by rw [List.take_zero, List.append_nil]; rfl⟩ fun j d ρ hd hI => by
        rw [Nat.zero_add] at hI ⊢
        obtain ⟨hjP, a5, rfl⟩ := hI
        obtain ⟨hj, rfl⟩ := rangeD_at hd
        have hc : PT (phi P85.prog q) (.ofE (.cmp .isin (.var 3) (.mvar 2))) [some (kD c), some (.list (kL ((leds c m).map (per c)))), some (.list (kL (seenK c m ++ (lap c m).take j))), some (.int (it c j m : Nat)), some (.int (j : Nat)), some (.int (j : Nat))] (decide (it c j m ∈ seenK c m ++ (lap c m).take j)) := pt_b (pv_cmpR (PV.pr (pv_var rfl)) (pr_mvar rfl) (isin_nats _ _))
        refine ⟨[some (kD c), some (.list (kL ((leds c m).map (per c)))), some (.list (kL (seenK c m ++ (lap c m).take j))), some (.int (it c j m : Nat)), some (.int (j : Nat)), some (.int (j : Nat))], ?_⟩
        by_cases e : j = P
        · have hin : it c j m ∈ seenK c m ++ (lap c m).take j := by
            cases el : led c m with
            | true =>
              have ej : j = per c m := by rw [e]; show (if led c m then per c m else 0) = _; rw [el]; rfl
              rw [ej, per_back h hm, List.take_of_length_le (by rw [lap_len]; exact Nat.le_refl _)]
              exact List.mem_append_right _ lap_self
            | false =>
              have ej : j = 0 := by rw [e]; show (if led c m then per c m else 0) = _; rw [el]; rfl
              rw [ej]
              refine List.mem_append_left _ ((hseen _).mpr ?_)
              apply Classical.byContradiction
              intro hn
              have := (led_iff h hm).mpr fun i hi hmem => hn ⟨i, hi, hmem⟩
              rw [el] at this; cases this
          rw [decide_eq_true hin] at hc
          unfold PT at hc
          refine ⟨.br, [some (kD c), some (.list (kL ((leds c m).map (per c)))), some (.list (kL (seenK c m ++ (lap c m).take j))), some (.int (it c j m : Nat)), some (.int (j : Nat)), some (.int (j : Nat))], rfl, by simp only [execs, exec, hc, bind, Option.bind, if_true], .inr ⟨rfl, some (.int (it c j m : Nat)), some (.int (j : Nat)), ?_⟩⟩
          rw [eP j e, ← e]
        · have hjl : j < P := by omega
          have el : led c m = true := by
            cases el : led c m with
            | true => rfl
            | false =>
              have : P = 0 := by show (if led c m then per c m else 0) = _; rw [el]; rfl
              omega
          have ePp : P = per c m := by show (if led c m then per c m else 0) = _; rw [el]; rfl
          have hjp : j < per c m := by omega
          have hnin : ¬ it c j m ∈ seenK c m ++ (lap c m).take j := fun z => by
            rcases List.mem_append.mp z with z | z
            · obtain ⟨i, hi, hmem⟩ := (hseen _).mp z
              have hjm : it c j m ∈ lap c m := (lap_mem h hm).mpr ⟨j, rfl⟩
              exact (led_iff h hm).mp el i hi (lap_trans h (by omega) hmem (lap_sym h hm hjm))
            · obtain ⟨i, hi⟩ := List.getElem?_of_mem z
              rw [List.getElem?_take] at hi
              split at hi
              · rename_i hij
                rw [lap_get (by omega)] at hi
                have e2 := Option.some.inj hi
                rw [show j = i + (j - i) by omega, it_add] at e2
                have := it_inj h hm (it_lt h hm (j - i)) i e2
                exact per_min (c := c) (i := m) (k := j - i) (by omega) (by omega) this.symm
              · cases hi
          rw [decide_eq_false hnin] at hc
          have b : BX (phi P85.prog q) (.cons (.ite (.ofE (.cmp .isin (.var 3) (.mvar 2))) (.cons (.brk) .nil) .nil) (.cons (.append 2 (.var 3)) (.cons (.asg (.name 3) (.ix (.var 0) (.var 3))) (.cons (.asg (.name 4) (.bin .add (.var 4) (.int 1))) .nil)))) [some (kD c), some (.list (kL ((leds c m).map (per c)))), some (.list (kL (seenK c m ++ (lap c m).take j))), some (.int (it c j m : Nat)), some (.int (j : Nat)), some (.int (j : Nat))] [some (kD c), some (.list (kL ((leds c m).map (per c)))), some (.list (kL (seenK c m ++ (lap c m).take (j + 1)))), some (.int (it c (j + 1) m : Nat)), some (.int (j + 1 : Nat)), some (.int (j : Nat))] := by
            refine bx_cons (sx_ite (k := false) hc (fun z => nomatch z) (fun _ => bx_nil)) (bx_cons (ρ1 := [some (kD c), some (.list (kL ((leds c m).map (per c)))), some (.list (kL (seenK c m ++ (lap c m).take (j + 1)))), some (.int (it c j m : Nat)), some (.int (j : Nat)), some (.int (j : Nat))]) ?_ (bx_cons (sx_asg (i := 3) (PV.pd (pv_ix (pv_var rfl).pd (pv_var rfl) (ixK (by rw [h.len]; exact it_lt h hm j)))) (Nat.le_of_ble_eq_true rfl)) (bx_cons (sx_asg (i := 4) (PV.pd (pv_bin (pv_var rfl).pd pv_int.pd rfl)) (Nat.le_of_ble_eq_true rfl)) bx_nil)))
            rw [per_take hjp, ← List.append_assoc, kL_app _ [it c j m]]
            refine sx_append (Φ := phi P85.prog q) (i := 2) rfl (pv_var rfl).pd ?_
            rw [kL_len, List.length_append, List.length_take]
            omega
          exact ⟨.nx, _, rfl, b, .inl ⟨.inl rfl, by omega, _, rfl⟩⟩
      refine ⟨ρ2, sx_loop (hr _ _ _ _ _) g1, ?_⟩
      rcases g2 with g2 | g2
      · rw [Nat.zero_add, rangeD_len] at g2
        obtain ⟨hnP, a5, rfl⟩ := g2
        have hPn : P ≤ n := by
          show (if led c m then per c m else 0) ≤ n
          split <;> omega
        have e : n = P := by omega
        exact ⟨some (.int (it c n m : Nat)), a5, by rw [eP n e]; rw [← e]⟩
      · exact g2
    obtain ⟨ρ2, s2, a3', a5', rfl⟩ := hloop
    have eL : (leds c (m + 1)).map (per c) = (leds c m).map (per c) ++ if led c m then [per c m] else [] := by
      rw [leds_succ, List.map_append]
      cases led c m <;> simp
    have s3 : SX (phi P85.prog q) (.ite (.ofE (.cmp .gt (.var 4) (.int 0))) (.cons (.append 1 (.var 4)) .nil) .nil) [some (kD c), some (.list (kL ((leds c m).map (per c)))), some (.list (kL (seenK c (m + 1)))), a3', some (.int (P : Nat)), a5'] [some (kD c), some (.list (kL ((leds c (m + 1)).map (per c)))), some (.list (kL (seenK c (m + 1)))), a3', some (.int (P : Nat)), a5'] := by
      have hc : PT (phi P85.prog q) (.ofE (.cmp .gt (.var 4) (.int 0))) [some (kD c), some (.list (kL ((leds c m).map (per c)))), some (.list (kL (seenK c (m + 1)))), a3', some (.int (P : Nat)), a5'] (decide ((0 : Int) < (P : Nat))) := pt_b (pv_cmp (pv_var rfl).pd pv_int.pd rfl)
      rw [eL]
      cases el : led c m with
      | true =>
        have ePp : P = per c m := by show (if led c m then per c m else 0) = _; rw [el]; rfl
        rw [decide_eq_true (by omega)] at hc
        refine sx_ite (k := true) hc (fun _ => bx_cons ?_ bx_nil) (fun z => nomatch z)
        rw [if_pos rfl, kL_app, ePp]
        rw [ePp] at hc
        have := sx_append (Φ := phi P85.prog q) (ρ := [some (kD c), some (.list (kL ((leds c m).map (per c)))), some (.list (kL (seenK c (m + 1)))), a3', some (.int (per c m : Nat)), a5']) (i := 1) (e := .var 4) (d := .int (per c m : Nat)) rfl (pv_var rfl).pd (by
          rw [kL_len, List.length_map]
          omega)
        exact this
      | false =>
        have eP0 : P = 0 := by show (if led c m then per c m else 0) = _; rw [el]; rfl
        rw [decide_eq_false (by omega)] at hc
        rw [if_neg Bool.false_ne_true, List.append_nil]
        exact sx_ite (k := false) hc (fun z => nomatch z) (fun _ => bx_nil)
    exact ⟨[some (kD c), some (.list (kL ((leds c m).map (per c)))), some (.list (kL (seenK c m))), some (.int (m : Nat)), a4, a5], .nx, _, rfl, bx_cons s1 (bx_cons s2 (bx_cons s3 bx_nil)), .inl rfl, ⟨_, _, _, rfl⟩⟩
  rw [Nat.zero_add, rangeD_len] at h2
  obtain ⟨a3, a4, a5, rfl⟩ := h2
  refine rt_loop (hr _ _ _ _ _) h1 (rt_retO (po_bltR (prs_cons (pr_mvar rfl) prs_nil) ?_))
  rw [sorted_nats]
  unfold lens
  rw [h.len]
end M85
set_option Elab.async false
set_option linter.all false
set_option maxRecDepth 100000
set_option maxHeartbeats 1000000
/-! U85D: the law's core, least. -/
namespace M85
open Vm
theorem r37 (w : W) (hw : w.length < lim) : Ret 37 [wD w] (.val (wD (coreW w))) [] 1 := by
  have hlim : lim = 100000 := rfl
  obtain ⟨N, hN, h1, h2⟩ := first_no (strip w) w.length (strip_end w)
  obtain ⟨h3, h4⟩ := core_of h1 h2
  rw [coreW_of h4]
  refine ret_of (d := 0) rfl fun q _ => run_of rfl ?_ (fun _ z => nomatch z)
  have hlen : ∀ a b c, PV (phi P85.prog q) (.blt .len (.cons (.var 0) .nil)) [some (wD w), a, b, c] (.int (w.length : Nat)) := fun a b c => pv_blt (pvs_cons (pv_var rfl).pd pvs_nil) (by show some (R.val (.int ((w.map lD).length : Nat))) = _; rw [List.length_map])
  refine rt_cons (sx_asg (i := 1) (d := .int (0 : Nat)) pv_int.pd (Nat.le_of_ble_eq_true rfl)) ?_
  refine rt_cons (ρ1 := [some (wD w), some (.int (0 : Nat)), some (.int (w.length : Nat)), none]) (sx_asg (i := 2) (hlen _ _ _).pd (Nat.le_of_ble_eq_true rfl)) ?_
  let fr : Nat → Option D → Rho := fun j a => [some (wD w), some (.int (j : Nat)), some (.int ((w.length : Nat) - (j : Nat))), a]
  let I : Nat → Rho → Prop := fun j ρ => j ≤ N ∧ ∃ a, ρ = fr j a
  let J : Rho → Prop := fun ρ => ∃ a, ρ = fr N a
  obtain ⟨ρ', g1, g2⟩ := for_invB (f := fun r => execs (phi P85.prog q) (.cons (.ite (.or (.ofE (.cmp .lt (.bin .sub (.var 2) (.var 1)) (.int 2))) (.ofE (.cmp .ne (.ix (.var 0) (.var 1)) (.tup (.cons (.ix (.ix (.var 0) (.bin .sub (.var 2) (.int 1))) (.int 0)) (.cons (.not (.ix (.ix (.var 0) (.bin .sub (.var 2) (.int 1))) (.int 1))) .nil)))))) (.cons (.brk) .nil) .nil) (.cons (.asg (.name 1) (.bin .add (.var 1) (.int 1))) (.cons (.asg (.name 2) (.bin .sub (.var 2) (.int 1))) .nil))) r) (g := .name 3) I J (rangeD 0 w.length) 0 [some (wD w), some (.int (0 : Nat)), some (.int (w.length : Nat)), none] ⟨Nat.zero_le _, none, by
    show _ = [some (wD w), some (.int ((0 : Nat) : Int)), some (.int ((w.length : Nat) - ((0 : Nat) : Int))), none]
    rw [show ((w.length : Nat) - ((0 : Nat) : Int)) = (w.length : Nat) by omega]⟩ fun j d ρ hd hI => by
    rw [Nat.zero_add] at hI ⊢
    obtain ⟨hjN, a, rfl⟩ := hI
    obtain ⟨hj, rfl⟩ := rangeD_at hd
    refine ⟨fr j (some (.int (j : Nat))), ?_⟩
    have hc : PT (phi P85.prog q) (.or (.ofE (.cmp .lt (.bin .sub (.var 2) (.var 1)) (.int 2))) (.ofE (.cmp .ne (.ix (.var 0) (.var 1)) (.tup (.cons (.ix (.ix (.var 0) (.bin .sub (.var 2) (.int 1))) (.int 0)) (.cons (.not (.ix (.ix (.var 0) (.bin .sub (.var 2) (.int 1))) (.int 1))) .nil)))))) (fr j (some (.int (j : Nat)))) (!strip w j) := by
      have e : (!strip w j) = (decide (((w.length : Nat) - (j : Nat) - (j : Nat) : Int) < 2) || !(match w[j]?, w[w.length - 1 - j]? with | some p, some q => decide (q = inv p) | _, _ => false)) := by
        unfold strip
        rw [Bool.not_and]
        congr 1
        by_cases c : 2 * j + 1 < w.length
        · rw [decide_eq_true c, decide_eq_false (by omega)]; rfl
        · rw [decide_eq_false c, decide_eq_true (by omega)]; rfl
      rw [e]
      refine pt_or (pt_b (pv_cmp (PV.pd (pv_bin (pv_var rfl).pd (pv_var rfl).pd rfl)) pv_int.pd rfl)) fun hz => ?_
      have hz := of_decide_eq_false hz
      have g1 : j < w.length := by omega
      have g2 : w.length - 1 - j < w.length := by omega
      rw [List.getElem?_eq_getElem g1, List.getElem?_eq_getElem g2]
      have hx : PV (phi P85.prog q) (.ix (.var 0) (.bin .sub (.var 2) (.int 1))) (fr j (some (.int (j : Nat)))) (lD w[w.length - 1 - j]) := pv_ix (pv_var rfl).pd (pv_bin (pv_var rfl).pd pv_int.pd rfl) (ixW (by omega) (by
        rw [show (((w.length : Nat) - (j : Nat) : Int) - 1).toNat = w.length - 1 - j by omega]
        exact List.getElem?_eq_getElem g2))
      have hy : PV (phi P85.prog q) (.tup (.cons (.ix (.ix (.var 0) (.bin .sub (.var 2) (.int 1))) (.int 0)) (.cons (.not (.ix (.ix (.var 0) (.bin .sub (.var 2) (.int 1))) (.int 1))) .nil))) (fr j (some (.int (j : Nat)))) (lD (inv w[w.length - 1 - j])) := pv_tup (pvs_cons (PV.pd (pv_ix hx.pd pv_int rfl)) (pvs_cons (PV.pd (pv_not (pv_ix hx.pd pv_int rfl))) pvs_nil)) (Nat.le_of_ble_eq_true rfl)
      have e2 : (!decide (w[w.length - 1 - j] = inv w[j])) = decide (w[j] ≠ inv w[w.length - 1 - j]) := by
        by_cases c : w[w.length - 1 - j] = inv w[j]
        · rw [decide_eq_true c]; exact (decide_eq_false (fun z => z (eq_inv.mp c))).symm
        · rw [decide_eq_false c]; exact (decide_eq_true (show w[j] ≠ inv w[w.length - 1 - j] from fun z => c (eq_inv.mpr z))).symm
      show PT _ _ _ (!decide (w[w.length - 1 - j] = inv w[j]))
      rw [e2]
      exact pt_b (pv_cmp (PV.pd (pv_ix (pv_var rfl).pd (pv_var rfl) (ixW (by omega) (by rw [Int.toNat_natCast]; exact List.getElem?_eq_getElem g1)))) hy.pd (ne_letters _ _))
    by_cases e : j = N
    · subst e
      rw [h2] at hc
      unfold PT at hc
      exact ⟨.br, fr j (some (.int (j : Nat))), rfl, by simp only [execs, exec, hc, bind, Option.bind, Bool.not_false, if_true], .inr ⟨rfl, _, rfl⟩⟩
    · rw [h1 j (by omega)] at hc
      refine ⟨.nx, fr (j + 1) (some (.int (j : Nat))), rfl, ?_, .inl ⟨.inl rfl, by omega, _, rfl⟩⟩
      have b : BX (phi P85.prog q) (.cons (.ite (.or (.ofE (.cmp .lt (.bin .sub (.var 2) (.var 1)) (.int 2))) (.ofE (.cmp .ne (.ix (.var 0) (.var 1)) (.tup (.cons (.ix (.ix (.var 0) (.bin .sub (.var 2) (.int 1))) (.int 0)) (.cons (.not (.ix (.ix (.var 0) (.bin .sub (.var 2) (.int 1))) (.int 1))) .nil)))))) (.cons (.brk) .nil) .nil) (.cons (.asg (.name 1) (.bin .add (.var 1) (.int 1))) (.cons (.asg (.name 2) (.bin .sub (.var 2) (.int 1))) .nil))) (fr j (some (.int (j : Nat)))) [some (wD w), some (.int ((j : Nat) + 1)), some (.int ((w.length : Nat) - (j : Nat) - 1)), some (.int (j : Nat))] := bx_cons (sx_ite (k := false) hc (fun z => nomatch z) (fun _ => bx_nil)) (bx_cons (sx_asg (i := 1) (PV.pd (pv_bin (pv_var rfl).pd pv_int.pd rfl)) (Nat.le_of_ble_eq_true rfl)) (bx_cons (sx_asg (i := 2) (PV.pd (pv_bin (pv_var rfl).pd pv_int.pd rfl)) (Nat.le_of_ble_eq_true rfl)) bx_nil))
      have e2 : fr (j + 1) (some (.int (j : Nat))) = [some (wD w), some (.int ((j : Nat) + 1)), some (.int ((w.length : Nat) - (j : Nat) - 1)), some (.int (j : Nat))] := by
        show [some (wD w), some (PySem.PyData.int ((j + 1 : Nat) : Int)), some (PySem.PyData.int ((w.length : Nat) - ((j + 1 : Nat) : Int))), some (.int (j : Nat))] = _
        rw [show ((j + 1 : Nat) : Int) = (j : Nat) + 1 by omega, show ((w.length : Nat) - ((j : Nat) + 1) : Int) = (w.length : Nat) - (j : Nat) - 1 by omega]
      rw [e2]
      exact b
  have hJ : J ρ' := by
    rcases g2 with g2 | g2
    · rw [Nat.zero_add, rangeD_len] at g2
      obtain ⟨hh, a, rfl⟩ := g2
      exact ⟨a, by rw [show w.length = N by omega]⟩
    · exact g2
  obtain ⟨a, rfl⟩ := hJ
  refine rt_loop ?_ g1 (rt_ret ?_)
  · have := pi_range1 (Φ := phi P85.prog q) (hlen (some (.int (0 : Nat))) (some (.int (w.length : Nat))) none) (small_nat (by omega))
    rwa [Int.toNat_natCast] at this
  · refine pd_sl (pv_var rfl).pd (pob_some (pv_var rfl)) (pob_some (pv_var rfl)) ?_
    have e : ((w.length : Nat) - (N : Nat) : Int) = ((w.length - N : Nat) : Int) := by omega
    show some (R.val (.tuple (cutL (w.map lD) (some ((N : Nat) : Int)) (some ((w.length : Nat) - (N : Nat) : Int))))) = _
    rw [e, cut_mid _ _ _ (by rw [List.length_map]; omega) (by rw [List.length_map]; omega), ← List.map_drop, ← List.map_take]
    rfl
theorem k_cd : ∀ p : Part, cmpD .isin (.str (kn p)) (.list [.str "counter", .str "dial"]) = some (isC p || isDi p)
  | .counter => show cmpD .isin (.str "counter") (.list [.str "counter", .str "dial"]) = some true from by decide +kernel
  | .dial _ => show cmpD .isin (.str "dial") (.list [.str "counter", .str "dial"]) = some true from by decide +kernel
  | .deck _ => show cmpD .isin (.str "deck") (.list [.str "counter", .str "dial"]) = some false from by decide +kernel
  | .rope _ => show cmpD .isin (.str "rope") (.list [.str "counter", .str "dial"]) = some false from by decide +kernel
theorem pt_cd {Φ : Fs} {ρ : Rho} {p : Part} {a : E} (h : PV Φ a ρ (pD p)) : PT Φ (.ofE (.cmp .isin (.ix a (.int 0)) (.lst (.cons (.str "counter") (.cons (.str "dial") .nil))))) ρ (isC p || isDi p) := pt_b (pv_cmp (pv_ix h.pd pv_int (pD_kind p)).pd (PO.pd (po_lst (pvs_cons pv_str.pd (pvs_cons pv_str.pd pvs_nil)) (Nat.le_of_ble_eq_true rfl))) (k_cd p))
theorem lt_words (a b : W) : cmpD .lt (wD a) (wD b) = some (wlt a b) := by
  have h : ltOk (wD a) (wD b) = true := by
    unfold ltOk
    rw [show PySem.W.alike (wD a) (wD b) = PySem.W.alikeAll (a.map lD) (b.map lD) from by simp only [wD, PySem.W.alike], alike_w]
    have := dep_wD a
    rw [decide_eq_true (by omega)]
    rfl
  show (if ltOk (wD a) (wD b) = true then some (PySem.W.dataLt (wD a) (wD b)) else none) = _
  rw [if_pos h]
  rfl
theorem low_snoc (x : W) (xs : List W) (y : W) : low x (xs ++ [y]) = if wlt y (low x xs) = true then y else low x xs := by
  unfold low
  rw [List.foldl_append]
  rfl
/-- the law's least -/
theorem r38 {B : Nat} {p : Part} (hp : POk p) {a : El} (ha : EOk B p a) (hB : B < 1000) : Ret 38 [pD p, eD a] (.val (eD (cls p a))) [] 2 := by
  have hlim : lim = 100000 := rfl
  refine ret_of (d := 1) rfl fun q hq => run_of rfl ?_ (fun _ z => nomatch z)
  refine rt_if (pt_cd (pv_var rfl)) (fun h => ?_) (fun h => ?_)
  · cases p <;> first | (cases h; done) | skip
    · cases a <;> first | (exact absurd ha id) | exact rt_ret (pv_var rfl)
    · cases a <;> first | (exact absurd ha id) | exact rt_ret (pv_var rfl)
  refine rt_if (pt_ro (pv_var rfl)) (fun h2 => ?_) (fun h2 => ?_)
  · cases p <;> first | (cases h2; done) | skip
    cases a <;> first | (exact absurd ha id) | skip
    rename_i m v
    obtain ⟨_, _, hv⟩ := ha
    have hcl : (coreW v).length ≤ v.length := by
      obtain ⟨c, t, hc⟩ := core_ex v
      rw [coreW_of hc]
      have := congrArg List.length hc.eq
      simp only [List.length_append] at this
      omega
    show RT _ _ [some (pD (.rope m)), some (wD v), none, none, none, none, none, none] (.val (wD (lst (coreW v))))
    refine rt_cons (ρ1 := [some (pD (.rope m)), some (wD v), some (wD (coreW v)), none, none, none, none, none]) (sx_asg (i := 2) (PV.pd (pv_call (pvs_cons (pv_var rfl).pd pvs_nil) (r37 v (by omega) q hq))) (Nat.le_of_ble_eq_true rfl)) ?_
    refine rt_cons (ρ1 := [some (pD (.rope m)), some (wD v), some (wD (coreW v)), some (wD (coreW v)), none, none, none, none]) (sx_asg (i := 3) (pv_var rfl).pd (Nat.le_of_ble_eq_true rfl)) ?_
    let c := coreW v
    let fr : Nat → Rho := fun t => [some (pD (.rope m)), some (wD v), some (wD c), some (wD (low c (((List.range c.length).map (rot c)).take t))), if t = 0 then none else some (.int ((t - 1 : Nat) : Int)), none, none, none]
    have lp := for_row (f := fun r => execs (phi P85.prog q) (.cons (.ite (.ofE (.cmp .lt (.bin .add (.sl (.var 2) (.some (.var 4)) .none) (.sl (.var 2) .none (.some (.var 4)))) (.var 3))) (.cons (.asg (.name 3) (.bin .add (.sl (.var 2) (.some (.var 4)) .none) (.sl (.var 2) .none (.some (.var 4))))) .nil) .nil) .nil) r) (g := .name 4) fr (rangeD 0 c.length) 0 fun i d hd => by
      obtain ⟨hi, rfl⟩ := rangeD_at hd
      rw [Nat.zero_add]
      let x := low c (((List.range c.length).map (rot c)).take i)
      have ex : low c (((List.range c.length).map (rot c)).take (i + 1)) = if wlt (rot c i) x = true then rot c i else x := by
        rw [List.take_add_one, List.getElem?_map, List.getElem?_range hi]
        exact low_snoc c _ (rot c i)
      refine ⟨[some (pD (.rope m)), some (wD v), some (wD c), some (wD x), some (.int (i : Nat)), none, none, none], rfl, ?_⟩
      have hrot : ∀ z, PV (phi P85.prog q) (.bin .add (.sl (.var 2) (.some (.var 4)) .none) (.sl (.var 2) .none (.some (.var 4)))) [some (pD (.rope m)), some (wD v), some (wD c), z, some (.int (i : Nat)), none, none, none] (wD (rot c i)) := fun z => by
        have hk : i ≤ c.length := by omega
        exact pv_bin (PV.pd (pd_sl (pv_var rfl).pd (pob_some (pv_var rfl)) pob_none (sl_drop c i hk))) (PV.pd (pd_sl (pv_var rfl).pd pob_none (pob_some (pv_var rfl)) (sl_take c i hk))) (add_words _ _ (by
          have : c.length ≤ v.length := hcl
          simp only [List.length_drop, List.length_take]
          omega))
      have efr : fr (i + 1) = [some (pD (.rope m)), some (wD v), some (wD c), some (wD (if wlt (rot c i) x = true then rot c i else x)), some (.int (i : Nat)), none, none, none] := by
        show [_, _, _, some (wD (low c (((List.range c.length).map (rot c)).take (i + 1)))), _, _, _, _] = _
        rw [ex]
        rfl
      rw [efr]
      have ht : PT (phi P85.prog q) (.ofE (.cmp .lt (.bin .add (.sl (.var 2) (.some (.var 4)) .none) (.sl (.var 2) .none (.some (.var 4)))) (.var 3))) [some (pD (.rope m)), some (wD v), some (wD c), some (wD x), some (.int (i : Nat)), none, none, none] (wlt (rot c i) x) := pt_b (pv_cmp (hrot _).pd (pv_var rfl).pd (lt_words _ _))
      refine bx_cons (sx_ite ht (fun z => ?_) (fun z => ?_)) bx_nil
      · rw [if_pos z]
        exact bx_cons (sx_asg (i := 3) (hrot _).pd (Nat.le_of_ble_eq_true rfl)) bx_nil
      · rw [if_neg (by rw [z]; exact Bool.false_ne_true)]
        exact bx_nil
    rw [Nat.zero_add, rangeD_len] at lp
    have hr : PI (phi P85.prog q) (.range (.cons (.blt .len (.cons (.var 2) .nil)) .nil)) [some (pD (.rope m)), some (wD v), some (wD c), some (wD c), none, none, none, none] (rangeD 0 c.length) := by
      have hl : PV (phi P85.prog q) (.blt .len (.cons (.var 2) .nil)) [some (pD (.rope m)), some (wD v), some (wD c), some (wD c), none, none, none, none] (.int (c.length : Nat)) := pv_blt (pvs_cons (pv_var rfl).pd pvs_nil) (by show some (R.val (.int ((c.map lD).length : Nat))) = _; rw [List.length_map])
      have : c.length ≤ v.length := hcl
      have := pi_range1 hl (small_nat (by omega))
      rwa [Int.toNat_natCast] at this
    refine rt_loop hr lp (rt_ret (pv_var ?_))
    show some (some (wD (low c (((List.range c.length).map (rot c)).take c.length)))) = _
    rw [List.take_of_length_le (by rw [List.length_map, List.length_range]; exact Nat.le_refl _)]
    rfl
  · cases p <;> first | (cases h; done) | (cases h2; done) | skip
    cases a <;> first | (exact absurd ha id) | skip
    rename_i n c
    have hd' : Deck n c := ha
    have hn : n ≤ 100 := hp.2
    show RT _ _ [some (pD (.deck n)), some (kD c), none, none, none, none, none, none] (.val (kD (canon 0 (lens c))))
    refine rt_cons (ρ1 := [some (pD (.deck n)), some (kD c), none, none, none, some (.list []), none, none]) (sx_asg (i := 5) (PO.pd (po_lst pvs_nil (Nat.zero_le _))) (Nat.le_of_ble_eq_true rfl)) ?_
    have hpos := lens_pos hd'
    have hs := lens_sum hd'
    let I : Nat → Rho → Prop := fun t ρ => ∃ a6 a7, ρ = [some (pD (.deck n)), some (kD c), none, none, none, some (.list (kL (canon 0 ((lens c).take t)))), a6, a7]
    obtain ⟨ρ', h1, h2⟩ := for_inv (f := fun r => execs (phi P85.prog q) (.cons (.asg (.name 7) (.blt .len (.cons (.var 5) .nil))) (.cons (.asg (.name 5) (.bin .add (.bin .add (.var 5) (.lc [4] (.name 4) (.range (.cons (.bin .sub (.var 6) (.int 1)) .nil)) .yes (.bin .add (.bin .add (.var 7) (.var 4)) (.int 1)))) (.lst (.cons (.var 7) .nil)))) .nil)) r) (g := .name 6) I (kL (lens c)) 0 [some (pD (.deck n)), some (kD c), none, none, none, some (.list []), none, none] ⟨none, none, rfl⟩ fun t d ρ hd hI => by
      rw [Nat.zero_add] at hI ⊢
      obtain ⟨a6, a7, rfl⟩ := hI
      obtain ⟨l, el, rfl⟩ := kL_at hd
      have hl := hpos l (List.mem_of_getElem? el)
      have hcl := canon_take hpos t
      have hsum := sum_take_succ el
      have hle := sum_take_le (lens c) (t + 1)
      have e2 : canon 0 ((lens c).take (t + 1)) = canon 0 ((lens c).take t) ++ blk (canon 0 ((lens c).take t)).length l := by
        rw [List.take_add_one, el]
        show canon 0 (_ ++ [l]) = _
        rw [canon_snoc, Nat.zero_add, hcl]
      refine ⟨[some (pD (.deck n)), some (kD c), none, none, none, some (.list (kL (canon 0 ((lens c).take t)))), some (.int (l : Nat)), a7], .nx, [some (pD (.deck n)), some (kD c), none, none, none, some (.list (kL (canon 0 ((lens c).take (t + 1))))), some (.int (l : Nat)), some (.int ((canon 0 ((lens c).take t)).length : Nat))], rfl, bx_cons (ρ1 := [some (pD (.deck n)), some (kD c), none, none, none, some (.list (kL (canon 0 ((lens c).take t)))), some (.int (l : Nat)), some (.int ((canon 0 ((lens c).take t)).length : Nat))]) ?_ (bx_cons ?_ bx_nil), .inl rfl, ⟨_, _, rfl⟩⟩
      · refine sx_asg (i := 7) (PV.pd (pv_blt (pvs_cons (pv_var rfl).pd pvs_nil) ?_)) (Nat.le_of_ble_eq_true rfl)
        show some (R.val (.int ((kL _).length : Nat))) = _
        rw [kL_len]
      · rw [e2]
        refine sx_asg (i := 5) (PO.pd (grow_ok (i3 := 7) rfl rfl (pv_bin (pv_var rfl).pd pv_int.pd rfl) hl ?_ rfl (Nat.le_of_ble_eq_true rfl) (fun _ => rfl) (fun _ => rfl))) (Nat.le_of_ble_eq_true rfl)
        omega
    rw [Nat.zero_add, kL_len, ] at h2
    obtain ⟨a6, a7, rfl⟩ := h2
    rw [List.take_length] at h1
    exact rt_loop (pi_seq (PO.pd (po_call (pvs_cons (pv_var rfl).pd pvs_nil) (r36 hd' hn q hq))) rfl) h1 (rt_ret (pv_blt (pvs_cons (pv_var rfl).pd pvs_nil) rfl))
end M85
set_option Elab.async false
set_option linter.all false
set_option maxRecDepth 100000
set_option maxHeartbeats 1000000
/-! U85E: what the law takes for an element. -/
namespace M85
open Vm
theorem for_firstP {f : Rho → Option (Fl × Rho)} {g : G} (fr : Nat → Rho) (p : Nat → Bool) (res : Nat → R) : ∀ (items : List D) (k : Nat), (∀ j, j < k → p j = false) → (∀ i d, items[i]? = some d → (∀ j, j < k + i → p j = false) → ∃ ρ1, assignG g d (fr (k + i)) = some ρ1 ∧ (p (k + i) = false → f ρ1 = some (.nx, fr (k + i + 1))) ∧ (p (k + i) = true → ∃ ρ2, f ρ1 = some (.rt (res (k + i)), ρ2))) →
    ((∀ i, i < k + items.length → p i = false) ∧ forLoop f g items (fr k) = some (.nx, fr (k + items.length))) ∨ ∃ i ρ2, i < k + items.length ∧ p i = true ∧ forLoop f g items (fr k) = some (.rt (res i), ρ2)
  | [], k, h, _ => .inl ⟨by simpa using h, rfl⟩
  | d :: items, k, h, hs => by
    obtain ⟨ρ1, h1, h2, h3⟩ := hs 0 d rfl (by simpa using h)
    simp only [Nat.add_zero] at h1 h2 h3
    cases e : p k with
    | true =>
      obtain ⟨ρ2, h4⟩ := h3 e
      exact .inr ⟨k, ρ2, by simp, e, by simp only [forLoop, h1, h4, bind, Option.bind]⟩
    | false =>
      have h4 := h2 e
      have rest := for_firstP fr p res items (k + 1) (fun j hj => by
        by_cases c : j = k
        · rw [c]; exact e
        · exact h j (by omega)) fun i d' hi hj => by
        have := hs (i + 1) d' (by simpa using hi) (fun j hj' => hj j (by omega))
        rw [show k + (i + 1) = k + 1 + i by omega] at this
        exact this
      have el : k + (d :: items).length = k + 1 + items.length := by simp; omega
      rw [el]
      rcases rest with ⟨r1, r2⟩ | ⟨i, ρ2, r1, r2, r3⟩
      · exact .inl ⟨r1, by simp only [forLoop, h1, h4, bind, Option.bind]; exact r2⟩
      · exact .inr ⟨i, ρ2, r1, r2, by simp only [forLoop, h1, h4, bind, Option.bind]; exact r3⟩
theorem isin_any (k : Nat) (S : List Nat) : cmpD .notin (.int (k : Nat)) (.list (kL S)) = some (!decide (k ∈ S)) := by
  have h := isin_nats k S
  have e1 : cmpD .isin (.int (k : Nat)) (.list (kL S)) = some ((kL S).any fun z => PySem.PyData.eqv z (.int (k : Nat))) := by
    show (if (PySem.SeqAt.shaped (.int (k : Nat)) && PySem.SeqAt.shaped (.list (kL S))) = true then some ((kL S).any fun z => PySem.PyData.eqv z (.int (k : Nat))) else none) = _
    rw [shaped_nats, shaped_int, if_pos (show (true && true) = true from rfl)]
  show (if (PySem.SeqAt.shaped (.int (k : Nat)) && PySem.SeqAt.shaped (.list (kL S))) = true then some (!(kL S).any fun z => PySem.PyData.eqv z (.int (k : Nat))) else none) = _
  rw [shaped_nats, shaped_int, if_pos (show (true && true) = true from rfl)]
  rw [e1] at h
  rw [Option.some.inj h]
theorem nodup_lenG {α : Type} [DecidableEq α] : ∀ (l l' : List α), l.Nodup → (∀ x ∈ l, x ∈ l') → l.length ≤ l'.length
  | [], _, _, _ => Nat.zero_le _
  | a :: l, l', h, hs => by
    rw [List.nodup_cons] at h
    have ha := hs a List.mem_cons_self
    have ih := nodup_lenG l (l'.erase a) h.2 fun x hx => by
      have hne : x ≠ a := fun z => h.1 (by rw [← z]; exact hx)
      rw [List.mem_erase_of_ne hne]
      exact hs x (List.mem_cons_of_mem _ hx)
    rw [List.length_erase_of_mem ha] at ih
    have := List.length_pos_of_mem ha
    simp only [List.length_cons]
    omega
theorem mem_dedup : ∀ {ns : List Int} {k : Int}, k ∈ ns → k ∈ dedup ns
  | x :: r, k, h => by
    unfold dedup
    rcases List.mem_cons.mp h with rfl | h
    · split
      · rename_i hx
        exact mem_dedup hx
      · exact List.mem_cons_self
    · split
      · exact mem_dedup h
      · exact List.mem_cons_of_mem _ (mem_dedup h)
/-- a deck, told by what stands in it -/
theorem dedup_all {n : Nat} {ns : List Int} (hl : ns.length = n) (hr : ∀ i ∈ ns, 0 ≤ i ∧ i ≤ (n : Nat) - 1) : decide ((dedup ns).length = n) = decide (∀ i, i < n → ((i : Nat) : Int) ∈ ns) := by
  by_cases c : (dedup ns).length = n
  · rw [decide_eq_true c, decide_eq_true]
    intro i hi
    have nd := dedup_full (c.trans hl.symm)
    apply Classical.byContradiction
    intro hn
    have := nodup_lenG ((i : Int) :: ns) ((List.range n).map fun (i : Nat) => (i : Int)) (List.nodup_cons.mpr ⟨hn, nd⟩) fun x hx => by
      rcases List.mem_cons.mp hx with rfl | hx
      · exact List.mem_map.mpr ⟨i, List.mem_range.mpr hi, rfl⟩
      · have := hr x hx
        exact List.mem_map.mpr ⟨x.toNat, List.mem_range.mpr (by omega), by omega⟩
    simp only [List.length_cons, List.length_map, List.length_range, hl] at this
    omega
  · rw [decide_eq_false c, decide_eq_false]
    intro hall
    refine c (Nat.le_antisymm (by rw [← hl]; exact dedup_le ns) ?_)
    have nd : ((List.range n).map fun (i : Nat) => (i : Int)).Nodup := List.pairwise_map.mpr (List.nodup_range.imp fun ne z => ne (by omega))
    have := nodup_lenG _ (dedup ns) nd fun x hx => by
      obtain ⟨i, hi, rfl⟩ := List.mem_map.mp hx
      exact mem_dedup (hall i (List.mem_range.mp hi))
    simpa using this
/-- which places were met, of n -/
def thereL (n : Nat) (xs : List D) (t : Nat) : List Nat := (List.range n).map fun (i : Nat) => if ((i : Nat) : Int) ∈ (xs.take t).map asI then 1 else 0
theorem thereL_len (n : Nat) (xs : List D) (t : Nat) : (thereL n xs t).length = n := by simp [thereL]
theorem thereL_succ {n t : Nat} {xs : List D} {k : Int} (h : xs[t]? = some (.int k)) (h0 : 0 ≤ k) (hk : k < n) : (thereL n xs t).set k.toNat 1 = thereL n xs (t + 1) := by
  apply List.ext_getElem?
  intro j
  by_cases hj : j < n
  · have e1 : ∀ s, (thereL n xs s)[j]? = some (if (j : Int) ∈ (xs.take s).map asI then 1 else 0) := fun s => by
      unfold thereL
      rw [List.getElem?_map, List.getElem?_range hj]
      rfl
    rw [List.getElem?_set, e1, e1, List.take_add_one, h, List.map_append, thereL_len]
    by_cases c : k.toNat = j
    · rw [if_pos c, if_pos (by omega), if_pos]
      refine List.mem_append_right _ ?_
      show (j : Int) ∈ [k]
      rw [List.mem_singleton]
      omega
    · rw [if_neg c]
      congr 1
      have : ((j : Int) ∈ (xs.take t).map asI ++ [k]) ↔ (j : Int) ∈ (xs.take t).map asI := by
        rw [List.mem_append, List.mem_singleton]
        exact ⟨fun z => z.resolve_right (by omega), .inl⟩
      show _ = if (j : Int) ∈ (xs.take t).map asI ++ [k] then 1 else 0
      simp only [this]
  · rw [List.getElem?_eq_none (by rw [List.length_set, thereL_len]; omega), List.getElem?_eq_none (by rw [thereL_len]; omega)]
theorem within_int {x : D} {lo hi : Int} (h : within x lo hi = true) : ∃ k, x = .int k ∧ lo ≤ k ∧ k ≤ hi := by
  cases x with
  | int k =>
    simp only [within, Bool.and_eq_true, decide_eq_true_eq] at h
    exact ⟨k, rfl, h⟩
  | _ => cases h
def outB (n : Nat) : D → Bool
  | .int k => decide (k < 0) || decide (((n : Nat) : Int) ≤ k)
  | _ => true
theorem pair_bad {m : Int} {a b : D} (h : (!isTy .int a || (isTy .bool a || !isTy .bool b)) = true) : isPair m (.tuple [a, b]) = false := by
  cases a with
  | int i =>
    cases b with
    | bool c => simp [isTy] at h
    | _ => rfl
  | _ => rfl
theorem pair_good {a b : D} (h : (!isTy .int a || (isTy .bool a || !isTy .bool b)) = false) : ∃ i c, a = .int i ∧ b = .bool c := by
  cases a with
  | int i =>
    cases b with
    | bool c => exact ⟨i, c, rfl, rfl⟩
    | _ => simp [isTy] at h
  | _ => simp [isTy] at h
theorem r39 {p : Part} (hp : POk p) (x : D) (hx : Sm x) : Ret 39 [pD p, x] (.val (.bool (isEl p x))) [] 1 := by
  have hlim : lim = 100000 := rfl
  refine ret_of (d := 0) rfl fun q _ => run_of rfl ?_ (fun _ z => nomatch z)
  show RT _ _ [some (pD p), some x, none, none, none, none, none] _
  have tI : ∀ a b c d e, PT (phi P85.prog q) (.or (.not (.ofE (.blt (.isi .int) (.cons (.var 1) .nil)))) (.ofE (.blt (.isi .bool) (.cons (.var 1) .nil)))) [some (pD p), some x, a, b, c, d, e] (!isTy .int x || isTy .bool x) := fun _ _ _ _ _ => pt_or (pt_not (pt_b (pv_blt (pvs_cons (pv_var rfl).pd pvs_nil) rfl))) fun _ => pt_b (pv_blt (pvs_cons (pv_var rfl).pd pvs_nil) rfl)
  refine rt_if (pt_cd (pv_var rfl)) (fun h => ?_) (fun h => ?_)
  · refine rt_if (tI _ _ _ _ _) (fun h2 => ?_) (fun h2 => ?_)
    · have e : isEl p x = false := by
        cases p <;> first | (cases h; done) | skip
        · cases x <;> first | rfl | (cases h2)
        · cases x <;> first | rfl | (cases h2)
      rw [e]
      exact rt_ret pv_bl
    · obtain ⟨i, rfl⟩ : ∃ i, x = .int i := by
        cases x <;> first | exact ⟨_, rfl⟩ | (cases h2)
      cases p <;> first | (cases h; done) | skip
      · exact rt_ret (pv_or (k := true) (l := true) (pv_cmp (pv_ix (PV.pd (pv_var rfl)) pv_int (pD_kind .counter)).pd pv_str.pd (k_c .counter)) (fun z => nomatch z))
      · rename_i m
        have e : isEl (.dial m) (.int i) = (false || (decide (0 ≤ i) && decide (i < (m : Nat)))) := by
          show (decide (0 ≤ i) && decide (i ≤ (m : Nat) - 1)) = _
          rw [Bool.false_or]
          congr 1
          by_cases c : i < (m : Nat)
          · rw [decide_eq_true c, decide_eq_true (by omega)]
          · rw [decide_eq_false c, decide_eq_false (by omega)]
        rw [e]
        exact rt_ret (pv_or (pv_cmp (pv_ix (PV.pd (pv_var rfl)) pv_int (pD_kind (.dial m))).pd pv_str.pd (k_c (.dial m))) fun _ => pv_and (pv_cmp pv_int.pd (pv_var rfl).pd rfl) fun _ => pv_cmp (pv_var rfl).pd (pv_ix (PV.pd (pv_var rfl)) pv_int rfl).pd rfl)
  refine rt_if (pt_not (pt_b (pv_blt (pvs_cons (pv_var rfl).pd pvs_nil) (show bltD (.isi .tuple) [x] = some (.val (.bool (isTy .tuple x))) from rfl)))) (fun h2 => ?_) (fun h2 => ?_)
  · have e : isEl p x = false := by
      cases p <;> first | (cases h; done) | skip
      · cases x <;> first | rfl | (cases h2)
      · cases x <;> first | rfl | (cases h2)
    rw [e]
    exact rt_ret pv_bl
  obtain ⟨xs, rfl⟩ : ∃ xs, x = .tuple xs := by
    cases x <;> first | exact ⟨_, rfl⟩ | (cases h2)
  have hl := hx xs rfl
  refine rt_if (pt_de (pv_var rfl)) (fun h3 => ?_) (fun h3 => ?_)
  · cases p <;> first | (cases h; done) | (cases h3; done) | skip
    rename_i n
    have hn : n ≤ 100 := hp.2
    have hlen : PV (phi P85.prog q) (.blt .len (.cons (.var 1) .nil)) [some (pD (.deck n)), some (.tuple xs), none, none, none, none, none] (.int (xs.length : Nat)) := pv_blt (pvs_cons (pv_var rfl).pd pvs_nil) rfl
    refine rt_if (pt_b (pv_cmp hlen.pd (pv_ix (PV.pd (pv_var rfl)) pv_int rfl).pd (nei _ _))) (fun h4 => ?_) (fun h4 => ?_)
    · have h4 := of_decide_eq_true h4
      have e : isEl (.deck n) (.tuple xs) = false := by
        unfold isEl
        dsimp only
        rw [decide_eq_false (by omega), Bool.false_and]
      rw [e]
      exact rt_ret pv_bl
    have hn2 : xs.length = n := by
      have h4 := of_decide_eq_false h4
      omega
    have hlc : PO (phi P85.prog q) (.lc [3] (.name 3) (.range (.cons (.ix (.var 0) (.int 1)) .nil)) .yes (.int 0)) [some (pD (.deck n)), some (.tuple xs), none, none, none, none, none] (.list (kL (thereL n xs 0))) := by
      refine po_lcI (items := rangeD 0 n) ?_ _ (by rw [kL_len, thereL_len, rangeD_len]) (by rw [rangeD_len]; omega) rfl fun i d x hd hx => ?_
      · have := pi_range1 (Φ := phi P85.prog q) (ρ := [some (pD (.deck n)), some (.tuple xs), none, none, none, none, none]) (e := .ix (.var 0) (.int 1)) (n := (n : Nat)) (pv_ix (pv_var rfl).pd pv_int rfl) (small_nat (by omega))
        rwa [Int.toNat_natCast] at this
      · obtain ⟨hi, rfl⟩ := rangeD_at hd
        obtain ⟨k, ek, rfl⟩ := kL_at hx
        unfold thereL at ek
        rw [List.getElem?_map, List.getElem?_range hi] at ek
        simp at ek
        subst ek
        exact ⟨[some (pD (.deck n)), some (.tuple xs), none, some (.int (i : Nat)), none, none, none], rfl, rfl, pt_yes, PV.pd pv_int⟩
    refine rt_cons (ρ1 := [some (pD (.deck n)), some (.tuple xs), some (.list (kL (thereL n xs 0))), none, none, none, none]) (sx_masg (i := 2) hlc (Nat.le_of_ble_eq_true rfl)) ?_
    let fr : Nat → Rho := fun t => [some (pD (.deck n)), some (.tuple xs), some (.list (kL (thereL n xs t))), none, if t = 0 then none else xs[t - 1]?, none, none]
    let bad : Nat → Bool := fun t => match xs[t]? with
      | some d => !within d 0 ((n : Nat) - 1)
      | none => false
    have lp := for_firstP (f := fun r => execs (phi P85.prog q) (.cons (.ite (.or (.not (.ofE (.blt (.isi .int) (.cons (.var 4) .nil)))) (.or (.ofE (.blt (.isi .bool) (.cons (.var 4) .nil))) (.or (.ofE (.cmp .lt (.var 4) (.int 0))) (.ofE (.cmp .ge (.var 4) (.ix (.var 0) (.int 1))))))) (.cons (.ret (.bl false)) .nil) .nil) (.cons (.setix 2 (.var 4) (.int 1)) .nil)) r) (g := .name 4) fr bad (fun _ => .val (.bool false)) xs 0 (fun j hj => absurd hj (Nat.not_lt_zero _)) fun t d hd _ => by
      rw [Nat.zero_add]
      have htl := (List.getElem?_eq_some_iff.mp hd).1
      refine ⟨[some (pD (.deck n)), some (.tuple xs), some (.list (kL (thereL n xs t))), none, some d, none, none], rfl, ?_⟩
      have eb : bad t = !within d 0 ((n : Nat) - 1) := by
        show (match xs[t]? with | some d => !within d 0 ((n : Nat) - 1) | none => false) = _
        rw [hd]
      have ht : PT (phi P85.prog q) (.or (.not (.ofE (.blt (.isi .int) (.cons (.var 4) .nil)))) (.or (.ofE (.blt (.isi .bool) (.cons (.var 4) .nil))) (.or (.ofE (.cmp .lt (.var 4) (.int 0))) (.ofE (.cmp .ge (.var 4) (.ix (.var 0) (.int 1))))))) [some (pD (.deck n)), some (.tuple xs), some (.list (kL (thereL n xs t))), none, some d, none, none] (bad t) := by
        have e2 : bad t = (!isTy .int d || (isTy .bool d || outB n d)) := by
          rw [eb]
          cases d with
          | int k =>
            show (!(decide (0 ≤ k) && decide (k ≤ (n : Nat) - 1))) = (!true || (false || (decide (k < 0) || decide (((n : Nat) : Int) ≤ k))))
            by_cases c1 : 0 ≤ k
            · by_cases c2 : k ≤ (n : Nat) - 1
              · rw [decide_eq_true c1, decide_eq_true c2, decide_eq_false (by omega : ¬ k < 0), decide_eq_false (by omega : ¬ ((n : Nat) : Int) ≤ k)]; rfl
              · rw [decide_eq_true c1, decide_eq_false c2, decide_eq_false (by omega : ¬ k < 0), decide_eq_true (by omega : ((n : Nat) : Int) ≤ k)]; rfl
            · rw [decide_eq_false c1, decide_eq_true (by omega : k < 0)]; simp
          | bool b => rfl
          | _ => rfl
        rw [e2]
        refine pt_or (pt_not (pt_b (pv_blt (pvs_cons (pv_var rfl).pd pvs_nil) rfl))) fun z1 => pt_or (pt_b (pv_blt (pvs_cons (pv_var rfl).pd pvs_nil) rfl)) fun z2 => ?_
        obtain ⟨k, rfl⟩ : ∃ k, d = .int k := by
          cases d <;> first | exact ⟨_, rfl⟩ | (cases z1; done) | (cases z2)
        exact pt_or (pt_b (pv_cmp (pv_var rfl).pd pv_int.pd rfl)) fun _ => pt_b (pv_cmp (pv_var rfl).pd (pv_ix (PV.pd (pv_var rfl)) pv_int rfl).pd rfl)
      refine ⟨fun hb => ?_, fun hb => ?_⟩
      · rw [hb] at ht
        rw [eb, Bool.not_eq_false'] at hb
        obtain ⟨k, rfl, k1, k2⟩ := within_int hb
        have e3 : fr (t + 1) = [some (pD (.deck n)), some (.tuple xs), some (.list ((kL (thereL n xs t)).set k.toNat (.int (1 : Nat)))), none, some (.int k), none, none] := by
          show [_, _, some (PySem.PyData.list (kL (thereL n xs (t + 1)))), _, if t + 1 = 0 then none else xs[t + 1 - 1]?, _, _] = _
          rw [if_neg (by omega), Nat.add_sub_cancel, hd, ← thereL_succ hd k1 (by omega), kL_set]
        rw [e3]
        refine bx_cons (sx_ite (k := false) ht (fun z => nomatch z) (fun _ => bx_nil)) (bx_cons (sx_setix (i := 2) (n := k.toNat) rfl (PV.pd pv_int) (pv_var rfl) ?_) bx_nil)
        have := ixn_nat (n := (kL (thereL n xs t)).length) (j := k.toNat) (by rw [kL_len, thereL_len]; omega)
        rwa [Int.toNat_of_nonneg k1] at this
      · rw [hb] at ht
        exact rt_if (k := true) ht (fun _ => rt_ret pv_bl) (fun z => nomatch z)
    rw [Nat.zero_add] at lp
    rcases lp with ⟨l1, l2⟩ | ⟨i, ρ2, l1, l2, l3⟩
    · have hall : (xs.all fun x => within x 0 ((n : Nat) - 1)) = true := by
        rw [List.all_eq_true]
        intro x hxm
        obtain ⟨i, hi⟩ := List.getElem?_of_mem hxm
        have := l1 i (List.getElem?_eq_some_iff.mp hi).1
        have e : bad i = !within x 0 ((n : Nat) - 1) := by
          show (match xs[i]? with | some d => !within d 0 ((n : Nat) - 1) | none => false) = _
          rw [hi]
        rw [e, Bool.not_eq_false'] at this
        exact this
      obtain ⟨g1, g2, g3⟩ := ints_of hall
      have e2 : isEl (.deck n) (.tuple xs) = !decide (0 ∈ thereL n xs xs.length) := by
        unfold isEl
        dsimp only
        rw [hall, decide_eq_true hn2, Bool.true_and, Bool.true_and, dedup_all (by rw [List.length_map]; exact hn2) g3]
        by_cases c : ∀ i, i < n → ((i : Nat) : Int) ∈ xs.map asI
        · rw [decide_eq_true c, decide_eq_false]
          · rfl
          · intro hz
            unfold thereL at hz
            obtain ⟨i, hi, e⟩ := List.mem_map.mp hz
            rw [List.take_length, if_pos (c i (List.mem_range.mp hi))] at e
            cases e
        · rw [decide_eq_false c, decide_eq_true]
          · rfl
          · apply Classical.byContradiction
            intro hz
            refine c fun i hi => ?_
            apply Classical.byContradiction
            intro hni
            refine hz ?_
            unfold thereL
            refine List.mem_map.mpr ⟨i, List.mem_range.mpr hi, ?_⟩
            rw [List.take_length, if_neg hni]
      rw [e2]
      exact rt_loop (pi_seq (pv_var rfl).pd rfl) l2 (rt_ret (pv_cmpR (PV.pr pv_int) (pr_mvar rfl) (isin_any 0 _)))
    · have e2 : isEl (.deck n) (.tuple xs) = false := by
        have hd := List.getElem?_eq_getElem l1
        have e : bad i = !within xs[i] 0 ((n : Nat) - 1) := by
          show (match xs[i]? with | some d => !within d 0 ((n : Nat) - 1) | none => false) = _
          rw [hd]
        rw [e, Bool.not_eq_true'] at l2
        unfold isEl
        dsimp only
        have : (xs.all fun x => within x 0 ((n : Nat) - 1)) = false := by
          rw [List.all_eq_false]
          exact ⟨xs[i], List.getElem_mem l1, by rw [l2]; exact Bool.false_ne_true⟩
        rw [this, Bool.false_and, Bool.and_false]
      rw [e2]
      exact rt_loopR (pi_seq (pv_var rfl).pd rfl) l3
  · cases p <;> first | (cases h; done) | (cases h3; done) | skip
    rename_i m
    have hlen : PV (phi P85.prog q) (.blt .len (.cons (.var 1) .nil)) [some (pD (.rope m)), some (.tuple xs), none, none, none, none, none] (.int (xs.length : Nat)) := pv_blt (pvs_cons (pv_var rfl).pd pvs_nil) rfl
    have hr : PI (phi P85.prog q) (.range (.cons (.blt .len (.cons (.var 1) .nil)) .nil)) [some (pD (.rope m)), some (.tuple xs), none, none, none, none, none] (rangeD 0 xs.length) := by
      have := pi_range1 hlen (small_nat hl)
      rwa [Int.toNat_natCast] at this
    let a5 : D → Option D := fun d => match d with
      | .tuple [a, b] => some a
      | _ => none
    let a6 : D → Option D := fun d => match d with
      | .tuple [a, b] => some b
      | _ => none
    let fr : Nat → Rho := fun t => if t = 0 then [some (pD (.rope m)), some (.tuple xs), none, none, none, none, none] else [some (pD (.rope m)), some (.tuple xs), none, some (.int ((t - 1 : Nat) : Int)), none, xs[t - 1]?.bind a5, xs[t - 1]?.bind a6]
    let bad : Nat → Bool := fun t => match xs[t]? with
      | some d => !isPair (m : Nat) d || (decide (0 < t) && adj (xs.map unD) (t - 1))
      | none => false
    have lp := for_firstP (f := fun r => execs (phi P85.prog q) (.cons (.ite (.or (.not (.ofE (.blt (.isi .tuple) (.cons (.ix (.var 1) (.var 3)) .nil)))) (.ofE (.cmp .ne (.blt .len (.cons (.ix (.var 1) (.var 3)) .nil)) (.int 2)))) (.cons (.ret (.bl false)) .nil) .nil) (.cons (.asg (.tup [5, 6]) (.ix (.var 1) (.var 3))) (.cons (.ite (.or (.not (.ofE (.blt (.isi .int) (.cons (.var 5) .nil)))) (.or (.ofE (.blt (.isi .bool) (.cons (.var 5) .nil))) (.not (.ofE (.blt (.isi .bool) (.cons (.var 6) .nil)))))) (.cons (.ret (.bl false)) .nil) .nil) (.cons (.ite (.or (.ofE (.cmp .lt (.var 5) (.int 0))) (.or (.ofE (.cmp .ge (.var 5) (.ix (.var 0) (.int 1)))) (.and (.ofE (.cmp .gt (.var 3) (.int 0))) (.ofE (.cmp .eq (.ix (.var 1) (.bin .sub (.var 3) (.int 1))) (.tup (.cons (.var 5) (.cons (.not (.var 6)) .nil)))))))) (.cons (.ret (.bl false)) .nil) .nil) .nil)))) r) (g := .name 3) fr bad (fun _ => .val (.bool false)) (rangeD 0 xs.length) 0 (fun j hj => absurd hj (Nat.not_lt_zero _)) fun t d hd hprev => by
      rw [Nat.zero_add] at hprev ⊢
      obtain ⟨htl, rfl⟩ := rangeD_at hd
      have hdt := List.getElem?_eq_getElem htl
      have eb : bad t = (!isPair (m : Nat) xs[t] || (decide (0 < t) && adj (xs.map unD) (t - 1))) := by
        show (match xs[t]? with | some d => !isPair (m : Nat) d || (decide (0 < t) && adj (xs.map unD) (t - 1)) | none => false) = _
        rw [hdt]
      obtain ⟨b5, b6, efr⟩ : ∃ b5 b6, assignG (.name 3) (.int (t : Nat)) (fr t) = some [some (pD (.rope m)), some (.tuple xs), none, some (.int (t : Nat)), none, b5, b6] := by
        by_cases c : t = 0
        · refine ⟨none, none, ?_⟩
          show assignG (.name 3) (.int (t : Nat)) (if t = 0 then _ else _) = _
          rw [if_pos c]
          rfl
        · refine ⟨xs[t - 1]?.bind a5, xs[t - 1]?.bind a6, ?_⟩
          show assignG (.name 3) (.int (t : Nat)) (if t = 0 then _ else _) = _
          rw [if_neg c]
          rfl
      refine ⟨_, efr, ?_⟩
      have hix : ∀ c5 c6, PV (phi P85.prog q) (.ix (.var 1) (.var 3)) [some (pD (.rope m)), some (.tuple xs), none, some (.int (t : Nat)), none, c5, c6] xs[t] := fun c5 c6 => pv_ix (pv_var rfl).pd (pv_var rfl) (ixT (by omega) (by rw [Int.toNat_natCast]; exact hdt))
      have efr1 : ∀ i b, xs[t] = .tuple [i, b] → fr (t + 1) = [some (pD (.rope m)), some (.tuple xs), none, some (.int (t : Nat)), none, some i, some b] := fun i b e => by
        show (if t + 1 = 0 then _ else _) = _
        rw [if_neg (by omega), Nat.add_sub_cancel, hdt, e]
        rfl
      have t1 : PT (phi P85.prog q) (.or (.not (.ofE (.blt (.isi .tuple) (.cons (.ix (.var 1) (.var 3)) .nil)))) (.ofE (.cmp .ne (.blt .len (.cons (.ix (.var 1) (.var 3)) .nil)) (.int 2)))) [some (pD (.rope m)), some (.tuple xs), none, some (.int (t : Nat)), none, b5, b6] (!tupN xs[t] 2) := by
        have e : (!tupN xs[t] 2) = (!isTy .tuple xs[t] || !tupN xs[t] 2) := by
          cases xs[t] <;> simp [tupN, isTy]
        rw [e]
        refine pt_or (pt_not (pt_b (pv_blt (pvs_cons (hix _ _).pd pvs_nil) rfl))) fun z => ?_
        obtain ⟨ys, hy⟩ : ∃ ys, xs[t] = .tuple ys := by
          revert z
          cases xs[t] <;> first | exact fun _ => ⟨_, rfl⟩ | exact fun z => (nomatch z)
        have h := hix b5 b6
        rw [hy] at h ⊢
        have e2 : (!tupN (.tuple ys) 2) = decide (((ys.length : Nat) : Int) ≠ 2) := by
          simp only [tupN]
          by_cases c : ((ys.length : Nat) : Int) = 2
          · rw [decide_eq_true c]; exact (decide_eq_false (fun z => z c)).symm
          · rw [decide_eq_false c]; exact (decide_eq_true (show ((ys.length : Nat) : Int) ≠ 2 from c)).symm
        rw [e2]
        exact pt_b (pv_cmp (PV.pd (pv_blt (pvs_cons h.pd pvs_nil) rfl)) pv_int.pd (nei _ _))
      cases e1 : tupN xs[t] 2 with
      | false =>
        rw [e1] at t1
        have ep : isPair (m : Nat) xs[t] = false := by
          cases e : isPair (m : Nat) xs[t] with
          | false => rfl
          | true =>
            obtain ⟨pl, h1, _⟩ := pair_of e
            rw [h1] at e1
            cases e1
        rw [ep] at eb
        exact ⟨fun z => (by rw [eb] at z; cases z), fun _ => rt_if (k := true) t1 (fun _ => rt_ret pv_bl) (fun z => nomatch z)⟩
      | true =>
        rw [e1] at t1
        obtain ⟨a, b, hab⟩ := tupN_two e1
        have s2 : SX (phi P85.prog q) (.asg (.tup [5, 6]) (.ix (.var 1) (.var 3))) [some (pD (.rope m)), some (.tuple xs), none, some (.int (t : Nat)), none, b5, b6] [some (pD (.rope m)), some (.tuple xs), none, some (.int (t : Nat)), none, some a, some b] := by
          have h := hix b5 b6
          rw [hab] at h
          exact sx_asgT h rfl
        have t3 : PT (phi P85.prog q) (.or (.not (.ofE (.blt (.isi .int) (.cons (.var 5) .nil)))) (.or (.ofE (.blt (.isi .bool) (.cons (.var 5) .nil))) (.not (.ofE (.blt (.isi .bool) (.cons (.var 6) .nil)))))) [some (pD (.rope m)), some (.tuple xs), none, some (.int (t : Nat)), none, some a, some b] (!isTy .int a || (isTy .bool a || !isTy .bool b)) := pt_or (pt_not (pt_b (pv_blt (pvs_cons (pv_var rfl).pd pvs_nil) rfl))) fun _ => pt_or (pt_b (pv_blt (pvs_cons (pv_var rfl).pd pvs_nil) rfl)) fun _ => pt_not (pt_b (pv_blt (pvs_cons (pv_var rfl).pd pvs_nil) rfl))
        cases e3 : (!isTy .int a || (isTy .bool a || !isTy .bool b)) with
        | true =>
          rw [e3] at t3
          have ep : isPair (m : Nat) xs[t] = false := by
            rw [hab]
            exact pair_bad e3
          rw [ep] at eb
          exact ⟨fun z => (by rw [eb] at z; cases z), fun _ => rt_cons (sx_ite (k := false) t1 (fun z => nomatch z) (fun _ => bx_nil)) (rt_cons s2 (rt_if (k := true) t3 (fun _ => rt_ret pv_bl) (fun z => nomatch z)))⟩
        | false =>
          rw [e3] at t3
          obtain ⟨i, b', rfl, rfl⟩ := pair_good e3
          -- the letter ahead
          have hpre : ∀ (_ : 0 < t), ∃ pl : M85.L, xs[t - 1]? = some (lD pl) := fun h0 => by
            have hb := hprev (t - 1) (by omega)
            have hd' := List.getElem?_eq_getElem (show t - 1 < xs.length by omega)
            have e : bad (t - 1) = (!isPair (m : Nat) xs[t - 1] || (decide (0 < t - 1) && adj (xs.map unD) (t - 1 - 1))) := by
              show (match xs[t - 1]? with | some d => !isPair (m : Nat) d || (decide (0 < t - 1) && adj (xs.map unD) (t - 1 - 1)) | none => false) = _
              rw [hd']
            rw [e, Bool.or_eq_false_iff, Bool.not_eq_false'] at hb
            obtain ⟨pl, h1, _⟩ := pair_of hb.1
            exact ⟨pl, by rw [hd', h1]⟩
          have eadj : ∀ pl : M85.L, 0 < t → xs[t - 1]? = some (lD pl) → adj (xs.map unD) (t - 1) = decide (pl = inv (i, b')) := fun pl h0 hpl => by
            unfold adj
            rw [show t - 1 + 1 = t by omega, List.getElem?_map, List.getElem?_map, hpl, hdt, hab]
            show decide ((i, b') = inv pl) = _
            by_cases c : pl = inv (i, b')
            · rw [decide_eq_true c, decide_eq_true (eq_inv.mp c)]
            · rw [decide_eq_false c, decide_eq_false (fun z => c (eq_inv.mp z))]
          have e4 : bad t = (decide (i < 0) || (decide (((m : Nat) : Int) ≤ i) || (decide ((0 : Int) < (t : Nat)) && adj (xs.map unD) (t - 1)))) := by
            rw [eb, hab]
            show (!(decide (0 ≤ i) && decide (i ≤ (m : Nat) - 1)) || (decide (0 < t) && _)) = _
            have e5 : decide ((0 : Int) < (t : Nat)) = decide (0 < t) := by
              by_cases c : 0 < t
              · rw [decide_eq_true c, decide_eq_true (by omega)]
              · rw [decide_eq_false c, decide_eq_false (by omega)]
            rw [e5]
            by_cases c1 : 0 ≤ i
            · by_cases c2 : i ≤ (m : Nat) - 1
              · rw [decide_eq_true c1, decide_eq_true c2, decide_eq_false (by omega : ¬ i < 0), decide_eq_false (by omega : ¬ ((m : Nat) : Int) ≤ i)]; rfl
              · rw [decide_eq_true c1, decide_eq_false c2, decide_eq_false (by omega : ¬ i < 0), decide_eq_true (by omega : ((m : Nat) : Int) ≤ i)]; rfl
            · rw [decide_eq_false c1, decide_eq_true (by omega : i < 0)]; simp
          have t4 : PT (phi P85.prog q) (.or (.ofE (.cmp .lt (.var 5) (.int 0))) (.or (.ofE (.cmp .ge (.var 5) (.ix (.var 0) (.int 1)))) (.and (.ofE (.cmp .gt (.var 3) (.int 0))) (.ofE (.cmp .eq (.ix (.var 1) (.bin .sub (.var 3) (.int 1))) (.tup (.cons (.var 5) (.cons (.not (.var 6)) .nil)))))))) [some (pD (.rope m)), some (.tuple xs), none, some (.int (t : Nat)), none, some (.int i), some (.bool b')] (bad t) := by
            rw [e4]
            refine pt_or (pt_b (pv_cmp (pv_var rfl).pd pv_int.pd rfl)) fun _ => pt_or (pt_b (pv_cmp (pv_var rfl).pd (pv_ix (PV.pd (pv_var rfl)) pv_int rfl).pd rfl)) fun _ => pt_and (pt_b (pv_cmp (pv_var rfl).pd pv_int.pd rfl)) fun z => ?_
            have h0 : 0 < t := by
              have := of_decide_eq_true z
              omega
            obtain ⟨pl, hpl⟩ := hpre h0
            rw [eadj pl h0 hpl]
            exact pt_b (pv_cmp (PV.pd (pv_ix (pv_var rfl).pd (pv_bin (pv_var rfl).pd pv_int.pd rfl) (ixT (by omega) (by rw [show ((t : Nat) - 1 : Int).toNat = t - 1 by omega]; exact hpl)))) (PV.pd (pv_tup (pvs_cons (pv_var rfl).pd (pvs_cons (pv_not (pv_var rfl)).pd pvs_nil)) (Nat.le_of_ble_eq_true rfl))) (eq_letters pl (inv (i, b'))))
          have s1 := sx_ite (Φ := phi P85.prog q) (as := .cons (.ret (.bl false)) .nil) (bs := .nil) (k := false) t1 (fun z => nomatch z) (fun _ => bx_nil)
          have s3 := sx_ite (Φ := phi P85.prog q) (as := .cons (.ret (.bl false)) .nil) (bs := .nil) (k := false) t3 (fun z => nomatch z) (fun _ => bx_nil)
          refine ⟨fun hb => ?_, fun hb => ?_⟩
          · rw [hb] at t4
            rw [efr1 _ _ hab]
            exact bx_cons s1 (bx_cons s2 (bx_cons s3 (bx_cons (sx_ite (k := false) t4 (fun z => nomatch z) (fun _ => bx_nil)) bx_nil)))
          · rw [hb] at t4
            exact rt_cons s1 (rt_cons s2 (rt_cons s3 (rt_if (k := true) t4 (fun _ => rt_ret pv_bl) (fun z => nomatch z))))
    rw [Nat.zero_add, rangeD_len] at lp
    have efr0 : fr 0 = [some (pD (.rope m)), some (.tuple xs), none, none, none, none, none] := rfl
    rw [efr0] at lp
    have ebad : ∀ i (hi : i < xs.length), bad i = (!isPair (m : Nat) xs[i] || (decide (0 < i) && adj (xs.map unD) (i - 1))) := fun i hi => by
      show (match xs[i]? with | some d => !isPair (m : Nat) d || (decide (0 < i) && adj (xs.map unD) (i - 1)) | none => false) = _
      rw [List.getElem?_eq_getElem hi]
    rcases lp with ⟨l1, l2⟩ | ⟨i, ρ2, l1, l2, l3⟩
    · have e2 : isEl (.rope m) (.tuple xs) = true := by
        show (xs.all (isPair (m : Nat)) && rdB (xs.map unD)) = true
        rw [Bool.and_eq_true]
        refine ⟨?_, ?_⟩
        · rw [List.all_eq_true]
          intro x hxm
          obtain ⟨i, hi⟩ := List.getElem?_of_mem hxm
          have hil := (List.getElem?_eq_some_iff.mp hi).1
          have := l1 i hil
          rw [ebad i hil, Bool.or_eq_false_iff, Bool.not_eq_false'] at this
          rw [List.getElem?_eq_getElem hil] at hi
          rw [← Option.some.inj hi]
          exact this.1
        · have e := adj_any (xs.map unD)
          rw [List.length_map] at e
          have : (List.range (xs.length - 1)).any (adj (xs.map unD)) = false := by
            rw [List.any_eq_false]
            intro i hi
            have hil := List.mem_range.mp hi
            have := l1 (i + 1) (by omega)
            rw [ebad (i + 1) (by omega), Bool.or_eq_false_iff, decide_eq_true (by omega : 0 < i + 1), Bool.true_and, Nat.add_sub_cancel] at this
            rw [this.2]
            exact Bool.false_ne_true
          rw [this] at e
          cases h : rdB (xs.map unD) with
          | true => rfl
          | false => rw [h] at e; cases e
      rw [e2]
      exact rt_loop hr l2 (rt_ret pv_bl)
    · have e2 : isEl (.rope m) (.tuple xs) = false := by
        show (xs.all (isPair (m : Nat)) && rdB (xs.map unD)) = false
        rw [ebad i l1, Bool.or_eq_true] at l2
        rcases l2 with l2 | l2
        · have : (xs.all (isPair (m : Nat))) = false := by
            rw [List.all_eq_false]
            exact ⟨xs[i], List.getElem_mem l1, by rw [Bool.not_eq_true'] at l2; rw [l2]; exact Bool.false_ne_true⟩
          rw [this, Bool.false_and]
        · rw [Bool.and_eq_true, decide_eq_true_eq] at l2
          have e := adj_any (xs.map unD)
          rw [List.length_map] at e
          have : (List.range (xs.length - 1)).any (adj (xs.map unD)) = true := by
            rw [List.any_eq_true]
            exact ⟨i - 1, List.mem_range.mpr (by omega), l2.2⟩
          rw [this] at e
          cases h : rdB (xs.map unD) with
          | false => rw [Bool.and_false]
          | true => rw [h] at e; cases e
      rw [e2]
      exact rt_loopR hr l3
end M85
set_option Elab.async false
set_option linter.all false
set_option maxRecDepth 100000
set_option maxHeartbeats 1000000
/-! U85F: the first of a class is of its class. -/
namespace M85
open Vm
/-! words -/
theorem stop_rot {c d : W} (h : Rd c) (hs : Stop c) (r : Rot c d) : Rd d ∧ Stop d := by
  obtain ⟨u, v, rfl, rfl⟩ := r
  obtain ⟨h1, h2, h3⟩ := (rd_app u v).mp h
  refine ⟨(rd_app v u).mpr ⟨h2, h1, fun a b ha hb => ?_⟩, fun a b ha hb => ?_⟩
  · refine hs a b ?_ ?_
    · rw [List.getLast?_append, ha]; rfl
    · exact head_app hb
  · cases u with
    | nil =>
      rw [List.append_nil] at ha hb
      exact hs a b (by simpa using ha) (by simpa using hb)
    | cons x u' =>
      cases v with
      | nil =>
        refine hs a b ?_ ?_
        · simpa using ha
        · simpa using hb
      | cons y v' =>
        refine h3 a b ?_ ?_
        · rw [List.getLast?_append] at ha
          cases e : (x :: u').getLast? with
          | none => simp at e
          | some z => rw [e] at ha; exact ha
        · simpa using hb
theorem core_rd {v : W} (h : Rd v) : Rd (coreW v) ∧ Stop (coreW v) := by
  obtain ⟨c, t, hc⟩ := core_ex v
  rw [coreW_of hc]
  have e := hc.eq
  rw [e] at h
  exact ⟨rd_left (rd_right h), hc.stop⟩
theorem lst_ok {v : W} (h : Rd v) : Rd (lst (coreW v)) ∧ Stop (lst (coreW v)) := by
  obtain ⟨h1, h2⟩ := core_rd h
  exact stop_rot h1 h2 (lst_spec _).1
theorem core_stop {v : W} (h : Stop v) : coreW v = v := coreW_of (t := []) ⟨by simp [winv], h⟩
theorem core_len (v : W) : (coreW v).length ≤ v.length := by
  obtain ⟨c, t, hc⟩ := core_ex v
  rw [coreW_of hc]
  have := congrArg List.length hc.eq
  simp only [List.length_append] at this
  omega
theorem rot_mem {c d : W} (h : Rot c d) {x : L} (hx : x ∈ d) : x ∈ c := by
  obtain ⟨u, v, rfl, rfl⟩ := h
  rcases List.mem_append.mp hx with h | h
  · exact List.mem_append_right _ h
  · exact List.mem_append_left _ h
theorem core_mem {v : W} {x : L} (hx : x ∈ coreW v) : x ∈ v := by
  obtain ⟨c, t, hc⟩ := core_ex v
  rw [coreW_of hc] at hx
  rw [hc.eq]
  exact List.mem_append_right _ (List.mem_append_left _ hx)
/-! decks -/
theorem blk_perm (o l : Nat) (h : 1 ≤ l) : (blk o l).Perm (List.range' o l) := by
  obtain ⟨k, rfl⟩ : ∃ k, l = k + 1 := ⟨l - 1, by omega⟩
  unfold blk
  rw [Nat.add_sub_cancel, List.range'_succ]
  have e : (List.range k).map (fun j => o + j + 1) = List.range' (o + 1) k := by
    rw [List.range'_eq_map_range]
    refine List.map_congr_left fun j _ => ?_
    show o + j + 1 = o + 1 + j
    omega
  rw [e]
  exact List.perm_append_comm
theorem canon_perm : ∀ (ls : List Nat) (o : Nat), (∀ l ∈ ls, 1 ≤ l) → (canon o ls).Perm (List.range' o ls.sum)
  | [], _, _ => List.Perm.refl _
  | l :: ls, o, h => by
    rw [canon_cons, List.sum_cons, ← List.range'_append_1]
    exact (blk_perm o l (h l List.mem_cons_self)).append (canon_perm ls (o + l) fun x hx => h x (List.mem_cons_of_mem _ hx))
theorem canon_deck {ls : List Nat} (h : ∀ l ∈ ls, 1 ≤ l) : Deck ls.sum (canon 0 ls) := by
  refine deck_perm (deck_range ls.sum) ?_
  have := canon_perm ls 0 h
  rw [← List.range_eq_range'] at this
  exact this.symm
theorem canon_app : ∀ (a b : List Nat) (o : Nat), canon o (a ++ b) = canon o a ++ canon (o + a.sum) b
  | [], _, _ => by simp [canon]
  | l :: a, b, o => by
    rw [List.cons_append, canon_cons, canon_cons, canon_app a b, List.append_assoc, List.sum_cons, show o + l + a.sum = o + (l + a.sum) by omega]
theorem canon_at {pre suf : List Nat} {l : Nat} (h : ∀ x ∈ pre ++ l :: suf, 1 ≤ x) {j : Nat} (hj : j < l) : (canon 0 (pre ++ l :: suf)).getD (pre.sum + j) 0 = if j + 1 < l then pre.sum + j + 1 else pre.sum := by
  have hl := h l (List.mem_append_right _ List.mem_cons_self)
  rw [canon_app, List.getD_eq_getElem?_getD, List.getElem?_append_right (by rw [canon_len _ 0 fun x hx => h x (List.mem_append_left _ hx)]; omega), canon_len _ 0 fun x hx => h x (List.mem_append_left _ hx), Nat.add_sub_cancel_left, Nat.zero_add]
  by_cases c : j + 1 < l
  · rw [if_pos c, canon_in _ _ _ (by omega)]
    rfl
  · rw [if_neg c, show j = l - 1 by omega, canon_head _ _ _ hl]
    rfl
theorem canon_it {pre suf : List Nat} {l : Nat} (h : ∀ x ∈ pre ++ l :: suf, 1 ≤ x) : ∀ k, it (canon 0 (pre ++ l :: suf)) k pre.sum = pre.sum + k % l
  | 0 => by simp [it]
  | k + 1 => by
    have hl := h l (List.mem_append_right _ List.mem_cons_self)
    show (canon 0 (pre ++ l :: suf)).getD (it _ k pre.sum) 0 = _
    rw [canon_it h k, canon_at h (Nat.mod_lt _ (by omega))]
    by_cases c : k % l + 1 < l
    · rw [if_pos c, Nat.add_mod, Nat.mod_eq_of_lt (show 1 < l by omega), Nat.mod_eq_of_lt c]
      omega
    · rw [if_neg c]
      have : (k + 1) % l = 0 := by
        by_cases c1 : l = 1
        · rw [c1, Nat.mod_one]
        · rw [Nat.add_mod, Nat.mod_eq_of_lt (show 1 < l by omega), show k % l + 1 = l by have := Nat.mod_lt k (show 0 < l by omega); omega, Nat.mod_self]
      rw [this]
      omega
theorem canon_leds {ls : List Nat} (h : ∀ l ∈ ls, 1 ≤ l) : ∀ (pre suf : List Nat), ls = pre ++ suf → (leds (canon 0 ls) pre.sum).map (per (canon 0 ls)) = pre := by
  intro pre
  have main : ∀ (rev : List Nat) (suf : List Nat), ls = rev.reverse ++ suf → (leds (canon 0 ls) rev.reverse.sum).map (per (canon 0 ls)) = rev.reverse := by
    intro rev
    induction rev with
    | nil => intro suf _; rfl
    | cons l rev ih =>
      intro suf e
      rw [List.reverse_cons, List.append_assoc] at e
      have ih := ih ([l] ++ suf) e
      rw [List.reverse_cons, List.sum_append]
      have el : [l].sum = l := by simp
      rw [el]
      have hd : Deck ls.sum (canon 0 ls) := canon_deck h
      have hs : ls.sum = rev.reverse.sum + (l + suf.sum) := by rw [e, List.sum_append, List.sum_append]; simp
      have hl : 1 ≤ l := h l (by rw [e]; exact List.mem_append_right _ (List.mem_append_left _ List.mem_cons_self))
      have h' : ∀ x ∈ rev.reverse ++ l :: suf, 1 ≤ x := by rw [e] at h; simpa using h
      have e' : ls = rev.reverse ++ l :: suf := by rw [e]; rfl
      have hit : ∀ k, it (canon 0 ls) k rev.reverse.sum = rev.reverse.sum + k % l := fun k => by
        rw [e']
        exact canon_it h' k
      have ho : rev.reverse.sum < ls.sum := by omega
      have hper : per (canon 0 ls) rev.reverse.sum = l := by
        have h1 := per_back hd ho
        rw [hit] at h1
        have h2 : per (canon 0 ls) rev.reverse.sum % l = 0 := by omega
        have h3 := per_pos (c := canon 0 ls) (i := rev.reverse.sum)
        by_cases c : l < per (canon 0 ls) rev.reverse.sum
        · exfalso
          refine per_min (c := canon 0 ls) (i := rev.reverse.sum) (k := l) (by omega) c ?_
          rw [hit, Nat.mod_self]
          omega
        · by_cases c2 : per (canon 0 ls) rev.reverse.sum < l
          · rw [Nat.mod_eq_of_lt c2] at h2
            omega
          · omega
      have hled : ∀ j, j < l → led (canon 0 ls) (rev.reverse.sum + j) = decide (j = 0) := fun j hj => by
        by_cases c : j = 0
        · subst c
          rw [decide_eq_true rfl]
          unfold led
          rw [List.all_eq_true]
          intro x hx
          obtain ⟨k, hk⟩ := (lap_mem hd (by omega)).mp hx
          rw [Nat.add_zero, hit] at hk
          exact decide_eq_true (by omega)
        · rw [decide_eq_false c]
          cases q : led (canon 0 ls) (rev.reverse.sum + j) with
          | false => rfl
          | true =>
            exfalso
            have hjn : rev.reverse.sum + j < ls.sum := by omega
            refine (led_iff hd hjn).mp q rev.reverse.sum (by omega) ?_
            refine (lap_mem hd ho).mpr ⟨j, ?_⟩
            rw [hit, Nat.mod_eq_of_lt hj]
      have estep : ∀ k, k ≤ l → leds (canon 0 ls) (rev.reverse.sum + k) = leds (canon 0 ls) rev.reverse.sum ++ if 0 < k then [rev.reverse.sum] else [] := by
        intro k
        induction k with
        | zero => intro _; simp
        | succ k ihk =>
          intro hk
          rw [show rev.reverse.sum + (k + 1) = rev.reverse.sum + k + 1 by omega, leds_succ, ihk (by omega), hled k (by omega), if_pos (by omega : 0 < k + 1)]
          by_cases c : k = 0
          · subst c; simp
          · rw [decide_eq_false c, if_pos (by omega : 0 < k), if_neg Bool.false_ne_true, List.append_nil]
      rw [estep l (Nat.le_refl _), if_pos (by omega : 0 < l), List.map_append, ih]
      rw [List.map_cons, List.map_nil, hper]
  intro suf e
  have := main pre.reverse suf (by rw [List.reverse_reverse]; exact e)
  rwa [List.reverse_reverse] at this
theorem canon_lens {n : Nat} {c : List Nat} (h : Deck n c) : lens (canon 0 (lens c)) = lens c := by
  have hp := lens_pos h
  have hd := canon_deck hp
  have e := canon_leds hp (lens c) [] (by simp)
  unfold lens at *
  rw [hd.len]
  rw [e]
  refine sorted_unique (List.mergeSort_perm _ _) (sort_nat _) (sort_nat _)
theorem cls_ok {B : Nat} {p : Part} {a : El} (h : EOk B p a) : EOk B p (cls p a) := by
  rcases cases_ok h with ⟨rfl, i, rfl⟩ | ⟨m, i, rfl, rfl, h1, h2⟩ | ⟨n, c, rfl, rfl, h⟩ | ⟨m, v, rfl, rfl, h1, h2, h3⟩
  · exact trivial
  · exact ⟨h1, h2⟩
  · have := canon_deck (lens_pos h)
    rw [lens_sum h] at this
    exact this
  · refine ⟨(lst_ok h1).1, fun x hx => h2 x (core_mem (rot_mem (lst_spec _).1 hx)), ?_⟩
    rw [lst_len]
    have := core_len v
    omega
theorem cls_cls {B : Nat} {p : Part} {a : El} (h : EOk B p a) : cls p (cls p a) = cls p a := by
  rcases cases_ok h with ⟨rfl, i, rfl⟩ | ⟨m, i, rfl, rfl, h1, h2⟩ | ⟨n, c, rfl, rfl, h⟩ | ⟨m, v, rfl, rfl, h1, h2, h3⟩
  · rfl
  · rfl
  · simp only [cls, canon_lens h]
  · simp only [cls, core_stop (lst_ok h1).2, lst_lst]
theorem clsC_ok {B : Nat} : ∀ {ps : List Part} {as : List El}, COk B ps as → COk B ps (clsC ps as)
  | [], [], _ => trivial
  | p :: ps, a :: as, h => ⟨h.1, cls_ok h.2.1, clsC_ok h.2.2⟩
  | [], _ :: _, h => absurd h id
  | _ :: _, [], h => absurd h id
theorem clsC_cls {B : Nat} : ∀ {ps : List Part} {as : List El}, COk B ps as → clsC ps (clsC ps as) = clsC ps as
  | [], [], _ => rfl
  | p :: ps, a :: as, h => by
    show cls p (cls p a) :: clsC ps (clsC ps as) = cls p a :: clsC ps as
    rw [cls_cls h.2.1, clsC_cls h.2.2]
  | [], _ :: _, h => absurd h id
  | _ :: _, [], h => absurd h id
/-! what a turner turns one to is of one's class -/
theorem mulK_assoc {n : Nat} {a b c : List Nat} (hb : Deck n b) (hc : Deck n c) : comp (comp a b) c = comp a (comp b c) := by
  unfold comp
  rw [List.map_map]
  refine List.map_congr_left fun i hi => ?_
  simp only [Function.comp]
  rw [List.getD_eq_getElem?_getD, List.getElem?_map, getD_of (by rw [hb.len]; exact hc.lt i hi)]
  rfl
theorem comp_back {n : Nat} {c : List Nat} (h : Deck n c) : comp c (backK n c) = List.range n ∧ comp (backK n c) c = List.range n := by
  constructor
  · unfold comp backK
    rw [List.map_map]
    have : ∀ i ∈ List.range n, ((fun i => c.getD i 0) ∘ fun i => c.idxOf i) i = i := fun i hi => getD_idx h (List.mem_range.mp hi)
    rw [List.map_congr_left this, List.map_id']
  · apply List.ext_getElem?
    intro j
    unfold comp
    rw [List.getElem?_map]
    by_cases hj : j < n
    · rw [getD_of (by rw [h.len]; exact hj), List.getElem?_range hj]
      have hm : c.getD j 0 < n := h.lt _ (getD_mem (by rw [h.len]; exact hj))
      show some ((backK n c).getD (c.getD j 0) 0) = _
      unfold backK
      rw [List.getD_eq_getElem?_getD, List.getElem?_map, List.getElem?_range hm]
      show some (c.idxOf (c.getD j 0)) = _
      rw [idx_getD h hj]
    · rw [List.getElem?_eq_none (by rw [h.len]; omega), List.getElem?_eq_none (by simp; omega)]
      rfl
theorem comp_range {n : Nat} {c : List Nat} (h : Deck n c) : comp (List.range n) c = c ∧ comp c (List.range n) = c := by
  constructor
  · unfold comp
    have : ∀ i ∈ c, (fun i => (List.range n).getD i 0) i = i := fun i hi => by
      show (List.range n).getD i 0 = i
      rw [List.getD_eq_getElem?_getD, List.getElem?_range (h.lt i hi)]
      rfl
    rw [List.map_congr_left this, List.map_id']
  · apply List.ext_getElem?
    intro j
    unfold comp
    rw [List.getElem?_map]
    by_cases hj : j < n
    · rw [List.getElem?_range hj, getD_of (by rw [h.len]; exact hj)]
      rfl
    · rw [List.getElem?_eq_none (by simp; omega), List.getElem?_eq_none (by rw [h.len]; omega)]
      rfl
end M85
set_option Elab.async false
set_option linter.all false
set_option maxRecDepth 100000
set_option maxHeartbeats 1000000
/-! U85G: elements join as they should; turned elements are of one class; what is an element is told so. -/
namespace M85
open Vm
theorem fm (i : Int) {m : Nat} (h : 1 ≤ m) : i.fmod m = i % m := Int.fmod_eq_emod_of_nonneg i (by omega)
theorem mul_assoc {B C E : Nat} {p : Part} (hp : POk p) {a b c : El} (ha : EOk B p a) (hb : EOk C p b) (hc : EOk E p c) : mulE p (mulE p a b) c = mulE p a (mulE p b c) := by
  rcases cases_ok ha with ⟨rfl, i, rfl⟩ | ⟨m, i, rfl, rfl, h1, h2⟩ | ⟨n, c', rfl, rfl, h⟩ | ⟨m, v, rfl, rfl, h1, h2, h3⟩
  · cases b <;> first | (exact absurd hb id) | skip
    cases c <;> first | (exact absurd hc id) | skip
    simp only [mulE, Int.add_assoc]
  · cases b <;> first | (exact absurd hb id) | skip
    cases c <;> first | (exact absurd hc id) | skip
    have hm : 1 ≤ m := hp
    simp only [mulE, fm _ hm, Int.emod_add_emod, Int.add_emod_emod, Int.add_assoc]
  · cases b <;> first | (exact absurd hb id) | skip
    cases c <;> first | (exact absurd hc id) | skip
    simp only [mulE]
    rw [mulK_assoc hb hc]
  · cases b <;> first | (exact absurd hb id) | skip
    cases c <;> first | (exact absurd hc id) | skip
    simp only [mulE]
    rw [red_red_app, red_app_red, List.append_assoc]
theorem mul_back {B C : Nat} {p : Part} (hp : POk p) {a b : El} (ha : EOk B p a) (hb : EOk C p b) : mulE p a (mulE p (backE p a) b) = b ∧ mulE p (backE p a) (mulE p a b) = b := by
  rcases cases_ok ha with ⟨rfl, i, rfl⟩ | ⟨m, i, rfl, rfl, h1, h2⟩ | ⟨n, c', rfl, rfl, h⟩ | ⟨m, v, rfl, rfl, h1, h2, h3⟩
  · cases b <;> first | (exact absurd hb id) | skip
    simp only [mulE, backE, El.z.injEq]
    omega
  · cases b <;> first | (exact absurd hb id) | skip
    rename_i j
    have hm : 1 ≤ m := hp
    obtain ⟨g1, g2⟩ := hb
    simp only [mulE, backE, fm _ hm, Int.emod_add_emod, Int.add_emod_emod, El.z.injEq]
    have e1 : i + ((m : Nat) - i + j) = j + (m : Nat) := by omega
    have e2 : (m : Nat) - i + (i + j) = j + (m : Nat) := by omega
    rw [e1, e2, Int.add_emod_right, Int.emod_eq_of_lt g1 g2]
    exact ⟨rfl, rfl⟩
  · cases b <;> first | (exact absurd hb id) | skip
    simp only [mulE, backE, El.k.injEq]
    rw [← mulK_assoc (deck_back h) hb, ← mulK_assoc h hb, (comp_back h).1, (comp_back h).2, (comp_range hb).1]
    exact ⟨rfl, rfl⟩
  · cases b <;> first | (exact absurd hb id) | skip
    rename_i u
    obtain ⟨g1, _, _⟩ := hb
    simp only [mulE, backE, El.w.injEq]
    rw [red_app_red, red_app_red]
    have e1 := red_cancel [] v u
    have e2 := red_cancel' [] v u
    simp only [List.nil_append] at e1 e2
    rw [e1, e2, red_of_rd g1]
    exact ⟨rfl, rfl⟩
/-- x turns a to what a is turned to -/
theorem turn_mul {B C : Nat} {p : Part} (hp : POk p) {a x : El} (ha : EOk B p a) (hx : EOk C p x) : mulE p a x = mulE p x (turnE p a x) := by
  unfold turnE
  have b1 := back_ok hp hx
  have b2 := mul_ok hp b1 ha
  rw [← mul_assoc hp hx b2 hx, (mul_back hp hx ha).1]
theorem turn_ok {B C : Nat} {p : Part} (hp : POk p) {a x : El} (ha : EOk B p a) (hx : EOk C p x) : EOk (C + B + C) p (turnE p a x) := mul_ok hp (mul_ok hp (back_ok hp hx) ha) hx
theorem more_mul {B C : Nat} {p : Part} (hp : POk p) {a x : El} (ha : EOk B p a) (hx : EOk C p x) : mulE p a (mulE p a x) = mulE p (mulE p a x) (turnE p a x) := by
  rw [mul_assoc hp ha hx (turn_ok hp ha hx), ← turn_mul hp ha hx]
theorem less_mul {B C : Nat} {p : Part} (hp : POk p) {a x : El} (ha : EOk B p a) (hx : EOk C p x) : mulE p a (mulE p (backE p a) x) = mulE p (mulE p (backE p a) x) (turnE p a x) := by
  rw [mul_assoc hp (back_ok hp ha) hx (turn_ok hp ha hx), ← turn_mul hp ha hx, (mul_back hp ha hx).1, (mul_back hp ha hx).2]
/-! decks that are turned have rounds as long -/
theorem it_conj {n : Nat} {a b X : List Nat} (hb : Deck n b) (hX : Deck n X) (e : comp a X = comp X b) {i : Nat} (hi : i < n) : ∀ k, it a k (X.getD i 0) = X.getD (it b k i) 0
  | 0 => rfl
  | k + 1 => by
    show a.getD (it a k (X.getD i 0)) 0 = X.getD (b.getD (it b k i) 0) 0
    rw [it_conj hb hX e hi k]
    have hl := it_lt hb hi k
    have e2 := congrArg (fun l => l[it b k i]?) e
    simp only [comp, List.getElem?_map] at e2
    rw [getD_of (by rw [hX.len]; exact hl), getD_of (by rw [hb.len]; exact hl)] at e2
    exact Option.some.inj e2
theorem per_conj {n : Nat} {a b X : List Nat} (ha : Deck n a) (hb : Deck n b) (hX : Deck n X) (e : comp a X = comp X b) {i : Nat} (hi : i < n) : per a (X.getD i 0) = per b i := by
  have hXi : X.getD i 0 < n := hX.lt _ (getD_mem (by rw [hX.len]; exact hi))
  have h1 : it a (per b i) (X.getD i 0) = X.getD i 0 := by rw [it_conj hb hX e hi, per_back hb hi]
  have h2 : it b (per a (X.getD i 0)) i = i := by
    have := it_conj hb hX e hi (per a (X.getD i 0))
    rw [per_back ha hXi] at this
    exact (getD_inj hX.nd (by rw [hX.len]; exact hi) (by rw [hX.len]; exact it_lt hb hi _) this).symm
  have p1 := per_pos (c := a) (i := X.getD i 0)
  have p2 := per_pos (c := b) (i := i)
  rcases Nat.lt_trichotomy (per a (X.getD i 0)) (per b i) with q | q | q
  · exact absurd h2 (per_min (by omega) q)
  · exact q
  · exact absurd h1 (per_min (by omega) q)
theorem lap_per {n : Nat} {c : List Nat} (h : Deck n c) {i j : Nat} (hi : i < n) (hj : j ∈ lap c i) : per c j = per c i := by
  obtain ⟨k, e⟩ := (lap_mem h hi).mp hj
  have hjn := lap_lt h hi hj
  have h1 : it c (per c i) j = j := by
    rw [← e, ← it_add, Nat.add_comm, it_add, per_back h hi]
  have h2 : it c (per c j) i = i := by
    have := per_back h hjn
    have e2 : it c (per c j) (it c k i) = it c k i := by rw [e]; exact this
    rw [← it_add, Nat.add_comm, it_add] at e2
    exact it_inj h (it_lt h hi _) hi k e2
  rcases Nat.lt_trichotomy (per c j) (per c i) with q | q | q
  · exact absurd h2 (per_min per_pos q)
  · exact q
  · exact absurd h1 (per_min per_pos q)
theorem count_flat {n : Nat} {c : List Nat} (h : Deck n c) (l : Nat) : ∀ (xs : List Nat), (∀ i ∈ xs, i < n) → ((xs.map (lap c)).flatten.map (per c)).count l = l * (xs.map (per c)).count l
  | [], _ => by simp
  | x :: xs, hx => by
    have hxn := hx x List.mem_cons_self
    rw [List.map_cons, List.flatten_cons, List.map_append, List.count_append, count_flat h l xs fun i hi => hx i (List.mem_cons_of_mem _ hi), List.map_cons, List.count_cons]
    have e : (lap c x).map (per c) = List.replicate (per c x) (per c x) := by
      refine List.eq_replicate_iff.mpr ⟨by rw [List.length_map, lap_len], fun y hy => ?_⟩
      obtain ⟨j, hj, rfl⟩ := List.mem_map.mp hy
      exact lap_per h hxn hj
    rw [e, List.count_replicate]
    by_cases q : per c x = l
    · subst q
      simp only [beq_self_eq_true, if_true]
      rw [Nat.mul_succ, Nat.add_comm]
    · have q1 : (per c x == l) = false := beq_eq_false_iff_ne.mpr q
      simp [q1]
theorem count_lens {n : Nat} {c : List Nat} (h : Deck n c) (l : Nat) : ((List.range n).map (per c)).count l = l * (lens c).count l := by
  have hd := flat_deck h
  have p1 : ((leds c n).map (lap c)).flatten.Perm (List.range n) := by
    refine (List.perm_ext_iff_of_nodup hd.nd List.nodup_range).mpr fun x => ⟨fun hx => List.mem_range.mpr (hd.lt x hx), fun hx => deck_mem hd x (List.mem_range.mp hx)⟩
  rw [← (p1.map (per c)).count_eq, count_flat h l _ fun i hi => (leds_mem.mp hi).1]
  unfold lens
  rw [(List.mergeSort_perm _ _).count_eq, h.len]
theorem lens_conj {n : Nat} {a b X : List Nat} (ha : Deck n a) (hb : Deck n b) (hX : Deck n X) (e : comp a X = comp X b) : lens a = lens b := by
  have p0 : X.Perm (List.range n) := (List.perm_ext_iff_of_nodup hX.nd List.nodup_range).mpr fun x => ⟨fun hx => List.mem_range.mpr (hX.lt x hx), fun hx => deck_mem hX x (List.mem_range.mp hx)⟩
  have e1 : X.map (per a) = (List.range n).map (per b) := by
    apply List.ext_getElem?
    intro i
    rw [List.getElem?_map, List.getElem?_map]
    by_cases hi : i < n
    · rw [getD_of (by rw [hX.len]; exact hi), List.getElem?_range hi]
      simp only [Option.map_some]
      rw [per_conj ha hb hX e hi]
    · rw [List.getElem?_eq_none (by rw [hX.len]; omega), List.getElem?_eq_none (by simp; omega)]
      rfl
  have p1 : ((List.range n).map (per b)).Perm ((List.range n).map (per a)) := by rw [← e1]; exact p0.map _
  refine sorted_unique (List.perm_iff_count.mpr fun l => ?_) (sort_nat _) (sort_nat _)
  have c1 := count_lens ha l
  have c2 := count_lens hb l
  rw [p1.count_eq, c1] at c2
  by_cases hl : l = 0
  · subst hl
    rw [List.count_eq_zero.mpr fun hm => by have := lens_pos ha 0 hm; omega, List.count_eq_zero.mpr fun hm => by have := lens_pos hb 0 hm; omega]
  · exact Nat.eq_of_mul_eq_mul_left (by omega) c2
theorem cls_turn {B C : Nat} {p : Part} (hp : POk p) {a x : El} (ha : EOk B p a) (hx : EOk C p x) : cls p (turnE p a x) = cls p a := by
  have hm := turn_mul hp ha hx
  have hok := turn_ok hp ha hx
  rcases cases_ok ha with ⟨rfl, i, rfl⟩ | ⟨m, i, rfl, rfl, h1, h2⟩ | ⟨n, c', rfl, rfl, h⟩ | ⟨m, v, rfl, rfl, h1, h2, h3⟩
  · cases x <;> first | (exact absurd hx id) | skip
    simp only [turnE, mulE, backE, cls, El.z.injEq]
    omega
  · cases x <;> first | (exact absurd hx id) | skip
    rename_i j
    have hm1 : 1 ≤ m := hp
    simp only [turnE, mulE, backE, cls, El.z.injEq, fm _ hm1, Int.emod_add_emod, Int.add_emod_emod]
    have e1 : (m : Nat) - j + i + j = i + (m : Nat) := by omega
    rw [e1, Int.add_emod_right, Int.emod_eq_of_lt h1 h2]
  · cases x <;> first | (exact absurd hx id) | skip
    rename_i X
    have hX : Deck n X := hx
    show El.k (canon 0 (lens (comp (comp (backK n X) c') X))) = El.k (canon 0 (lens c'))
    have hT : Deck n (comp (comp (backK n X) c') X) := hok
    have e : comp c' X = comp X (comp (comp (backK n X) c') X) := by
      simp only [turnE, mulE, backE, El.k.injEq] at hm
      exact hm
    rw [lens_conj h hT hX e]
  · cases x <;> first | (exact absurd hx id) | skip
    rename_i u
    show El.w (lst (coreW (red (red (winv u ++ v) ++ u)))) = El.w (lst (coreW v))
    obtain ⟨c, t, hc⟩ := core_ex v
    obtain ⟨t', c', hc', hr⟩ := conj_core u h1 hc
    rw [red_red_app, List.append_assoc, coreW_of hc', coreW_of hc, lst_rot hr]
/-! changes -/
def turnC : List Part → List El → List El → List El
  | p :: ps, a :: as, x :: xs => turnE p a x :: turnC ps as xs
  | _, _, _ => []
def backC : List Part → List El → List El
  | p :: ps, a :: as => backE p a :: backC ps as
  | _, _ => []
theorem turnC_all {B C : Nat} : ∀ {ps : List Part} {as xs : List El}, COk B ps as → COk C ps xs → COk (C + B + C) ps (turnC ps as xs) ∧ mulC ps as xs = mulC ps xs (turnC ps as xs) ∧ mulC ps as (mulC ps as xs) = mulC ps (mulC ps as xs) (turnC ps as xs) ∧ mulC ps as (mulC ps (backC ps as) xs) = mulC ps (mulC ps (backC ps as) xs) (turnC ps as xs) ∧ clsC ps (turnC ps as xs) = clsC ps as ∧ COk B ps (backC ps as)
  | [], [], [], _, _ => ⟨trivial, rfl, rfl, rfl, rfl, trivial⟩
  | p :: ps, a :: as, x :: xs, ha, hx => by
    obtain ⟨h1, h2, h3, h4, h5, h6⟩ := turnC_all ha.2.2 hx.2.2
    have hp := ha.1
    refine ⟨⟨hp, turn_ok hp ha.2.1 hx.2.1, h1⟩, ?_, ?_, ?_, ?_, ⟨hp, back_ok hp ha.2.1, h6⟩⟩
    · simp only [mulC, turnC, ← turn_mul hp ha.2.1 hx.2.1, ← h2]
    · simp only [mulC, turnC, ← more_mul hp ha.2.1 hx.2.1, ← h3]
    · simp only [mulC, turnC, backC, ← less_mul hp ha.2.1 hx.2.1, ← h4]
    · simp only [clsC, turnC, cls_turn hp ha.2.1 hx.2.1, h5]
  | [], _ :: _, _, h, _ => absurd h id
  | [], [], _ :: _, _, h => absurd h id
  | _ :: _, [], _, h, _ => absurd h id
  | _ :: _, _ :: _, [], _, h => absurd h id
/-! what is an element is told so -/
theorem isEl_eD {B : Nat} {p : Part} {e : El} (h : EOk B p e) : isEl p (eD e) = true := by
  rcases cases_ok h with ⟨rfl, i, rfl⟩ | ⟨m, i, rfl, rfl, h1, h2⟩ | ⟨n, c, rfl, rfl, h⟩ | ⟨m, v, rfl, rfl, h1, h2, h3⟩
  · rfl
  · show (decide (0 ≤ i) && decide (i ≤ (m : Nat) - 1)) = true
    rw [decide_eq_true h1, decide_eq_true (by omega)]
    rfl
  · show (decide ((kL c).length = n) && (((kL c).all fun x => within x 0 ((n : Nat) - 1)) && decide ((dedup ((kL c).map asI)).length = n))) = true
    have e1 : (kL c).map asI = c.map fun (i : Nat) => (i : Int) := by unfold kL; rw [List.map_map]; rfl
    have nd : (c.map fun (i : Nat) => (i : Int)).Nodup := List.pairwise_map.mpr (h.nd.imp fun ne z => ne (by omega))
    rw [e1, dedup_of_nd nd, List.length_map, kL_len, h.len, decide_eq_true rfl]
    simp only [Bool.true_and, Bool.and_true]
    rw [List.all_eq_true]
    intro x hx
    unfold kL at hx
    obtain ⟨i, hi, rfl⟩ := List.mem_map.mp hx
    have := h.lt i hi
    show (decide ((0 : Int) ≤ (i : Nat)) && decide (((i : Nat) : Int) ≤ (n : Nat) - 1)) = true
    rw [decide_eq_true (by omega), decide_eq_true (by omega)]
    rfl
  · exact (isRed_word h2).trans (rdB_iff.mpr h1)
theorem fault_ok {B : Nat} : ∀ {ps : List Part} {es : List El} {k : Nat}, COk B ps es → faultAt k ps (es.map eD) = .none
  | [], [], _, _ => rfl
  | p :: ps, e :: es, k, h => by
    rw [List.map_cons, faultAt, isEl_eD h.2.1, if_pos rfl, fault_ok h.2.2]
  | [], _ :: _, _, h => absurd h id
  | _ :: _, [], _, h => absurd h id
theorem isCh_ED {B : Nat} {ps : List Part} {es : List El} (h : COk B ps es) : isCh ps (ED es) = true := by
  unfold isCh chF ED
  dsimp only
  rw [if_pos (by rw [List.length_map, h.len]), fault_ok h]
  rfl
theorem eD_inj {e e' : El} {B C : Nat} {p : Part} (h : EOk B p e) (h' : EOk C p e') (q : eD e = eD e') : e = e' := by
  have h1 := eqv_el h h'
  have h2 := eqv_el h' h'
  rw [q, h2] at h1
  have : decide (e' = e') = true := decide_eq_true rfl
  rw [this] at h1
  exact of_decide_eq_true h1.symm
theorem ED_inj {B C : Nat} : ∀ {ps : List Part} {es es' : List El}, COk B ps es → COk C ps es' → ED es = ED es' → es = es'
  | [], [], [], _, _, _ => rfl
  | p :: ps, e :: es, e' :: es', h, h', q => by
    unfold ED at q
    rw [PySem.PyData.tuple.injEq, List.map_cons, List.map_cons, List.cons.injEq] at q
    rw [eD_inj h.2.1 h'.2.1 q.1, ED_inj h.2.2 h'.2.2 (by unfold ED; rw [q.2])]
  | [], _ :: _, _, h, _, _ => absurd h id
  | [], [], _ :: _, _, h, _ => absurd h id
  | _ :: _, [], _, h, _, _ => absurd h id
  | _ :: _, _ :: _, [], _, h, _ => absurd h id
/-- what is due of a thing -/
theorem judge_ex (C : Nat) (ps : List Part) (as bs : List El) (x : D) : ∃ k : Bool, k = true ↔ ∃ es, x = ED es ∧ COk C ps es ∧ turns ps as bs es = true := by
  by_cases h : ∃ es, x = ED es ∧ COk C ps es ∧ turns ps as bs es = true
  · exact ⟨true, fun _ => h, fun _ => rfl⟩
  · exact ⟨false, Iff.intro (fun z => nomatch z) (fun z => absurd z h)⟩
noncomputable def judge (C : Nat) (ps : List Part) (as bs : List El) (x : D) : Bool := Classical.choose (judge_ex C ps as bs x)
theorem judge_no {C : Nat} {ps : List Part} {as bs : List El} {x : D} (h : isCh ps x = false) : judge C ps as bs x = false := by
  have hs := Classical.choose_spec (judge_ex C ps as bs x)
  cases q : judge C ps as bs x with
  | false => rfl
  | true =>
    obtain ⟨es, rfl, h1, _⟩ := hs.mp q
    rw [isCh_ED h1] at h
    cases h
theorem judge_es {C : Nat} {ps : List Part} {as bs : List El} {x : D} (es : List El) (e : x = ED es) (h : COk C ps es) : judge C ps as bs x = turns ps as bs es := by
  have hs := Classical.choose_spec (judge_ex C ps as bs x)
  cases q : turns ps as bs es with
  | true => exact hs.mpr ⟨es, e, h, q⟩
  | false =>
    cases q2 : judge C ps as bs x with
    | false => rfl
    | true =>
      obtain ⟨es', e', h', q'⟩ := hs.mp q2
      have := ED_inj h h' (e.symm.trans e')
      subst this
      rw [q] at q'
      cases q'
end M85
set_option Elab.async false
set_option linter.all false
set_option maxRecDepth 100000
set_option maxHeartbeats 1000000
/-! U85H: the law's own judging. -/
namespace M85
open Vm
theorem fault_none_iff : ∀ {ps : List Part} {xs : List D} {k : Nat}, ps.length = xs.length → (faultAt k ps xs = .none ↔ ∀ (i : Nat) p x, ps[i]? = some p → xs[i]? = some x → isEl p x = true)
  | [], [], k, _ => ⟨fun _ i p x h => by simp at h, fun _ => rfl⟩
  | [], _ :: _, _, h => by simp at h
  | _ :: _, [], _, h => by simp at h
  | p :: ps, x :: xs, k, h => by
    have ih := fault_none_iff (k := k + 1) (ps := ps) (xs := xs) (by simpa using h)
    cases e : isEl p x with
    | true =>
      simp only [faultAt, e, if_true]
      rw [ih]
      constructor
      · intro hh i p' x' h1 h2
        cases i with
        | zero => simp at h1 h2; subst h1 h2; exact e
        | succ i => exact hh i p' x' (by simpa using h1) (by simpa using h2)
      · intro hh i p' x' h1 h2
        exact hh (i + 1) p' x' (by simpa using h1) (by simpa using h2)
    | false =>
      simp only [faultAt, e, Bool.false_eq_true, if_false]
      constructor
      · intro z; cases z
      · intro hh
        have := hh 0 p x rfl rfl
        rw [e] at this
        cases this
theorem isCh_iff {ps : List Part} {xs : List D} (hl : xs.length = ps.length) : isCh ps (.tuple xs) = true ↔ ∀ (i : Nat) p x, ps[i]? = some p → xs[i]? = some x → isEl p x = true := by
  rw [← fault_none_iff (k := 0) hl.symm]
  unfold isCh chF
  dsimp only
  rw [if_pos hl]
  cases faultAt 0 ps xs <;> simp [isNonD]
theorem mulC_at : ∀ {ps : List Part} {as bs : List El} {i : Nat} {p : Part} {a b : El}, ps[i]? = some p → as[i]? = some a → bs[i]? = some b → (mulC ps as bs)[i]? = some (mulE p a b)
  | p :: ps, a :: as, b :: bs, 0, _, _, _, h1, h2, h3 => by
    simp at h1 h2 h3
    subst h1 h2 h3
    rfl
  | p :: ps, a :: as, b :: bs, i + 1, _, _, _, h1, h2, h3 => by
    simp only [List.getElem?_cons_succ] at h1 h2 h3
    simpa [mulC] using mulC_at h1 h2 h3
  | [], _, _, _, _, _, _, h1, _, _ => by simp at h1
  | _ :: _, [], _, _, _, _, _, _, h2, _ => by simp at h2
  | _ :: _, _ :: _, [], _, _, _, _, _, _, h3 => by simp at h3
theorem COk.mono {B C : Nat} (hBC : B ≤ C) : ∀ {ps : List Part} {es : List El}, COk B ps es → COk C ps es
  | [], [], _ => trivial
  | p :: ps, e :: es, h => ⟨h.1, EOk.mono hBC h.2.1, COk.mono hBC h.2.2⟩
  | [], _ :: _, h => absurd h id
  | _ :: _, [], h => absurd h id
theorem COk.ex {B : Nat} {ps : List Part} {es : List El} (h : COk B ps es) {i : Nat} (hi : i < ps.length) : ∃ p e, ps[i]? = some p ∧ es[i]? = some e ∧ POk p ∧ EOk B p e := by
  have h1 := List.getElem?_eq_getElem hi
  have h2 := List.getElem?_eq_getElem (show i < es.length by rw [h.len]; exact hi)
  obtain ⟨g1, g2⟩ := h.get h1 h2
  exact ⟨_, _, h1, h2, g1, g2⟩
theorem ED_at {es : List El} {i : Nat} {e : El} (h : es[i]? = some e) : ixD (ED es) (.int (i : Nat)) = some (eD e) := ixT (by omega) (by rw [Int.toNat_natCast, List.getElem?_map, h]; rfl)
theorem WD_at {ps : List Part} {i : Nat} {p : Part} (h : ps[i]? = some p) : ixD (WD ps) (.int (i : Nat)) = some (pD p) := ixT (by omega) (by rw [Int.toNat_natCast, List.getElem?_map, h]; rfl)
theorem len_W {Φ : Fs} {ρ : Rho} {ps : List Part} {i : Nat} (h : ρ[i]? = some (some (WD ps))) : PV Φ (.blt .len (.cons (.var i) .nil)) ρ (.int (ps.length : Nat)) := pv_blt (pvs_cons (pv_var h).pd pvs_nil) (by
  show some (R.val (.int ((ps.map pD).length : Nat))) = _
  rw [List.length_map])
theorem range_W {Φ : Fs} {ρ : Rho} {ps : List Part} {i : Nat} (h : ρ[i]? = some (some (WD ps))) (hl : ps.length ≤ lim) : PI Φ (.range (.cons (.blt .len (.cons (.var i) .nil)) .nil)) ρ (rangeD 0 ps.length) := by
  have := pi_range1 (len_W (Φ := Φ) h) (small_nat hl)
  rwa [Int.toNat_natCast] at this
theorem r40 {B C : Nat} {ps : List Part} {as bs : List El} (hp : ∀ p ∈ ps, POk p) (hl : ps.length ≤ 4) (ha : COk B ps as) (hb : COk B ps bs) (x : D) (hx : ∀ xs, x = .tuple xs → ∀ y ∈ xs, SmB C y) (hC : B + C < lim) (k : Bool)
    (h0 : isCh ps x = false → k = false) (h1 : ∀ es, x = ED es → COk C ps es → k = turns ps as bs es) : Ret 40 [WD ps, ED as, ED bs, x] (.val (.bool k)) [] 4 := by
  have hlim : lim = 100000 := rfl
  refine ret_of (d := 3) rfl fun q hq => run_of rfl ?_ (fun _ z => nomatch z)
  have t0 : isTy .tuple x = false ∨ (∃ xs, x = .tuple xs ∧ xs.length ≠ ps.length) ∨ ∃ xs, x = .tuple xs ∧ xs.length = ps.length := by
    cases x with
    | tuple xs =>
      by_cases c : xs.length = ps.length
      · exact .inr (.inr ⟨xs, rfl, c⟩)
      · exact .inr (.inl ⟨xs, rfl, c⟩)
    | _ => exact .inl rfl
  have tt : PT (phi P85.prog q) (.not (.ofE (.blt (.isi .tuple) (.cons (.var 3) .nil)))) [some (WD ps), some (ED as), some (ED bs), some x, none] (!isTy .tuple x) := pt_not (pt_b (pv_blt (pvs_cons (pv_var rfl).pd pvs_nil) rfl))
  rcases t0 with t0 | ⟨xs, rfl, t0⟩ | ⟨xs, rfl, t0⟩
  · rw [h0 (by cases x <;> first | rfl | (cases t0))]
    rw [t0] at tt
    exact rt_if (k := true) (pt_or (k := true) (l := false) tt (fun z => nomatch z)) (fun _ => rt_ret pv_bl) (fun z => nomatch z)
  · have e : isCh ps (.tuple xs) = false := by
      unfold isCh chF
      dsimp only
      rw [if_neg t0]
      rfl
    rw [h0 e]
    have t2 := pt_b (pv_cmp (Φ := phi P85.prog q) (ρ := [some (WD ps), some (ED as), some (ED bs), some (.tuple xs), none]) (a := .blt .len (.cons (.var 3) .nil)) (b := .blt .len (.cons (.var 0) .nil)) (PV.pd (d := .int (xs.length : Nat)) (pv_blt (pvs_cons (pv_var rfl).pd pvs_nil) rfl)) (len_W rfl).pd (nei _ _))
    rw [decide_eq_true (show ((xs.length : Nat) : Int) ≠ ((ps.length : Nat) : Int) by omega)] at t2
    exact rt_if (k := true) (pt_or (k := false) (l := true) tt (fun _ => t2)) (fun _ => rt_ret pv_bl) (fun z => nomatch z)
  have t2 := pt_b (pv_cmp (Φ := phi P85.prog q) (ρ := [some (WD ps), some (ED as), some (ED bs), some (.tuple xs), none]) (a := .blt .len (.cons (.var 3) .nil)) (b := .blt .len (.cons (.var 0) .nil)) (PV.pd (d := .int (xs.length : Nat)) (pv_blt (pvs_cons (pv_var rfl).pd pvs_nil) rfl)) (len_W rfl).pd (nei _ _))
  rw [decide_eq_false (show ¬ ((xs.length : Nat) : Int) ≠ ((ps.length : Nat) : Int) by omega)] at t2
  refine rt_if (k := false) (pt_or (k := false) (l := false) tt (fun _ => t2)) (fun z => nomatch z) fun _ => ?_
  -- are they elements
  let fr : Option D → Nat → Rho := fun a t => [some (WD ps), some (ED as), some (ED bs), some (.tuple xs), if t = 0 then a else some (.int ((t - 1 : Nat) : Int))]
  let bad : Nat → Bool := fun i => match ps[i]?, xs[i]? with
    | some p, some y => !isEl p y
    | _, _ => false
  have lp := for_firstP (f := fun r => execs (phi P85.prog q) (.cons (.ite (.not (.ofE (.call 39 [] (.cons (.ix (.var 0) (.var 4)) (.cons (.ix (.var 3) (.var 4)) .nil))))) (.cons (.ret (.bl false)) .nil) .nil) .nil) r) (g := .name 4) (fr none) bad (fun _ => .val (.bool false)) (rangeD 0 ps.length) 0 (fun j hj => absurd hj (Nat.not_lt_zero _)) fun t d hd _ => by
    rw [Nat.zero_add]
    obtain ⟨ht, rfl⟩ := rangeD_at hd
    have e1 := List.getElem?_eq_getElem ht
    have e2 := List.getElem?_eq_getElem (show t < xs.length by omega)
    have eb : bad t = !isEl ps[t] xs[t] := by
      show (match ps[t]?, xs[t]? with | some p, some y => !isEl p y | _, _ => false) = _
      rw [e1, e2]
    have efr : fr none (t + 1) = [some (WD ps), some (ED as), some (ED bs), some (.tuple xs), some (.int (t : Nat))] := by
      show [_, _, _, _, if t + 1 = 0 then none else some (PySem.PyData.int ((t + 1 - 1 : Nat) : Int))] = _
      rw [if_neg (by omega), Nat.add_sub_cancel]
    refine ⟨[some (WD ps), some (ED as), some (ED bs), some (.tuple xs), some (.int (t : Nat))], rfl, ?_⟩
    have hsm : Sm xs[t] := fun ys ey => by
      have := hx xs rfl xs[t] (List.getElem_mem _) ys ey
      omega
    have hc : PT (phi P85.prog q) (.not (.ofE (.call 39 [] (.cons (.ix (.var 0) (.var 4)) (.cons (.ix (.var 3) (.var 4)) .nil))))) [some (WD ps), some (ED as), some (ED bs), some (.tuple xs), some (.int (t : Nat))] (!isEl ps[t] xs[t]) := pt_not (pt_b (pv_call (pvs_cons (PV.pd (pv_ix (pv_var rfl).pd (pv_var rfl) (WD_at e1))) (pvs_cons (PV.pd (pv_ix (pv_var rfl).pd (pv_var rfl) (ixT (by omega) (by rw [Int.toNat_natCast]; exact e2)))) pvs_nil)) (r39 (hp _ (List.getElem_mem ht)) _ hsm q (by omega))))
    rw [← eb] at hc
    refine ⟨fun hb => ?_, fun hb => ?_⟩
    · rw [hb] at hc
      rw [efr]
      exact bx_cons (sx_ite (k := false) hc (fun z => nomatch z) (fun _ => bx_nil)) bx_nil
    · rw [hb] at hc
      exact rt_if (k := true) hc (fun _ => rt_ret pv_bl) (fun z => nomatch z)
  rw [Nat.zero_add, rangeD_len] at lp
  have efr0 : ∀ a, fr a 0 = [some (WD ps), some (ED as), some (ED bs), some (.tuple xs), a] := fun _ => rfl
  rw [efr0] at lp
  rcases lp with ⟨l1, l2⟩ | ⟨i, ρ2, l1, l2, l3⟩
  · have hch : isCh ps (.tuple xs) = true := (isCh_iff t0).mpr fun i p y h1 h2 => by
      have := l1 i (List.getElem?_eq_some_iff.mp h1).1
      have e : bad i = !isEl p y := by
        show (match ps[i]?, xs[i]? with | some p, some y => !isEl p y | _, _ => false) = _
        rw [h1, h2]
      rw [e, Bool.not_eq_false'] at this
      exact this
    obtain ⟨es, ees, hes⟩ := isCh_ok hp hx hch
    rw [h1 es ees hes]
    rw [ees] at l2 ⊢
    obtain ⟨a4, ea4⟩ : ∃ a4, fr none ps.length = [some (WD ps), some (ED as), some (ED bs), some (ED es), a4] := by
      refine ⟨if ps.length = 0 then none else some (.int ((ps.length - 1 : Nat) : Int)), ?_⟩
      show [_, _, _, some (PySem.PyData.tuple xs), _] = _
      rw [ees]
    refine rt_loop (ρ1 := [some (WD ps), some (ED as), some (ED bs), some (ED es), a4]) (range_W rfl (by omega)) (by rw [← ea4]; exact l2) ?_
    let fr2 : Nat → Rho := fun t => [some (WD ps), some (ED as), some (ED bs), some (ED es), if t = 0 then a4 else some (.int ((t - 1 : Nat) : Int))]
    let bad2 : Nat → Bool := fun i => !decide ((mulC ps as es)[i]? = (mulC ps es bs)[i]?)
    have lp2 := for_firstP (f := fun r => execs (phi P85.prog q) (.cons (.ite (.ofE (.cmp .ne (.call 33 [] (.cons (.ix (.var 0) (.var 4)) (.cons (.ix (.var 1) (.var 4)) (.cons (.ix (.var 3) (.var 4)) .nil)))) (.call 33 [] (.cons (.ix (.var 0) (.var 4)) (.cons (.ix (.var 3) (.var 4)) (.cons (.ix (.var 2) (.var 4)) .nil)))))) (.cons (.ret (.bl false)) .nil) .nil) .nil) r) (g := .name 4) fr2 bad2 (fun _ => .val (.bool false)) (rangeD 0 ps.length) 0 (fun j hj => absurd hj (Nat.not_lt_zero _)) fun t d hd _ => by
      rw [Nat.zero_add]
      obtain ⟨ht, rfl⟩ := rangeD_at hd
      obtain ⟨p, a, e1, e2, gp, ga⟩ := ha.ex ht
      obtain ⟨p', b, e1', e3, _, gb⟩ := hb.ex ht
      obtain ⟨p'', e, e1'', e4, _, ge⟩ := hes.ex ht
      rw [e1] at e1' e1''
      cases e1'
      cases e1''
      have eb : bad2 t = !decide (mulE p a e = mulE p e b) := by
        show (!decide ((mulC ps as es)[t]? = (mulC ps es bs)[t]?)) = _
        rw [mulC_at e1 e2 e4, mulC_at e1 e4 e3]
        simp only [Option.some.injEq]
      have efr : fr2 (t + 1) = [some (WD ps), some (ED as), some (ED bs), some (ED es), some (.int (t : Nat))] := by
        show [_, _, _, _, if t + 1 = 0 then a4 else some (PySem.PyData.int ((t + 1 - 1 : Nat) : Int))] = _
        rw [if_neg (by omega), Nat.add_sub_cancel]
      refine ⟨[some (WD ps), some (ED as), some (ED bs), some (ED es), some (.int (t : Nat))], rfl, ?_⟩
      have vp : PD (phi P85.prog q) (.ix (.var 0) (.var 4)) [some (WD ps), some (ED as), some (ED bs), some (ED es), some (.int (t : Nat))] (pD p) := PV.pd (pv_ix (pv_var rfl).pd (pv_var rfl) (WD_at e1))
      have va : PD (phi P85.prog q) (.ix (.var 1) (.var 4)) [some (WD ps), some (ED as), some (ED bs), some (ED es), some (.int (t : Nat))] (eD a) := PV.pd (pv_ix (pv_var rfl).pd (pv_var rfl) (ED_at e2))
      have vb : PD (phi P85.prog q) (.ix (.var 2) (.var 4)) [some (WD ps), some (ED as), some (ED bs), some (ED es), some (.int (t : Nat))] (eD b) := PV.pd (pv_ix (pv_var rfl).pd (pv_var rfl) (ED_at e3))
      have ve : PD (phi P85.prog q) (.ix (.var 3) (.var 4)) [some (WD ps), some (ED as), some (ED bs), some (ED es), some (.int (t : Nat))] (eD e) := PV.pd (pv_ix (pv_var rfl).pd (pv_var rfl) (ED_at e4))
      have hc : PT (phi P85.prog q) (.ofE (.cmp .ne (.call 33 [] (.cons (.ix (.var 0) (.var 4)) (.cons (.ix (.var 1) (.var 4)) (.cons (.ix (.var 3) (.var 4)) .nil)))) (.call 33 [] (.cons (.ix (.var 0) (.var 4)) (.cons (.ix (.var 3) (.var 4)) (.cons (.ix (.var 2) (.var 4)) .nil)))))) [some (WD ps), some (ED as), some (ED bs), some (ED es), some (.int (t : Nat))] (!decide (mulE p a e = mulE p e b)) := pt_b (pv_cmp (PV.pd (pv_call (pvs_cons vp (pvs_cons va (pvs_cons ve pvs_nil))) (r33 gp ga ge hC q (by omega)))) (PV.pd (pv_call (pvs_cons vp (pvs_cons ve (pvs_cons vb pvs_nil))) (r33 gp ge gb (by omega) q (by omega)))) (ne_el (mul_ok gp ga ge) (mul_ok gp ge gb)))
      rw [← eb] at hc
      refine ⟨fun hb => ?_, fun hb => ?_⟩
      · rw [hb] at hc
        rw [efr]
        exact bx_cons (sx_ite (k := false) hc (fun z => nomatch z) (fun _ => bx_nil)) bx_nil
      · rw [hb] at hc
        exact rt_if (k := true) hc (fun _ => rt_ret pv_bl) (fun z => nomatch z)
    rw [Nat.zero_add, rangeD_len] at lp2
    rcases lp2 with ⟨m1, m2⟩ | ⟨i, ρ3, m1, m2, m3⟩
    · have e : turns ps as bs es = true := by
        refine decide_eq_true (List.ext_getElem? fun i => ?_)
        by_cases hi : i < ps.length
        · have := m1 i hi
          have e : bad2 i = !decide ((mulC ps as es)[i]? = (mulC ps es bs)[i]?) := rfl
          rw [e, Bool.not_eq_false'] at this
          exact of_decide_eq_true this
        · rw [List.getElem?_eq_none (by rw [mulC_len ha.len hes.len]; omega), List.getElem?_eq_none (by rw [mulC_len hes.len hb.len]; omega)]
      rw [e]
      exact rt_loop (range_W rfl (by omega)) m2 (rt_ret pv_bl)
    · have e : turns ps as bs es = false := by
        refine decide_eq_false fun z => ?_
        have e : bad2 i = !decide ((mulC ps as es)[i]? = (mulC ps es bs)[i]?) := rfl
        rw [e, z, decide_eq_true rfl] at m2
        cases m2
      rw [e]
      exact rt_loopR (range_W rfl (by omega)) m3
  · have hch : isCh ps (.tuple xs) = false := by
      cases hc : isCh ps (.tuple xs) with
      | false => rfl
      | true =>
        have e1 := List.getElem?_eq_getElem l1
        have e2 := List.getElem?_eq_getElem (show i < xs.length by omega)
        have e : bad i = !isEl ps[i] xs[i] := by
          show (match ps[i]?, xs[i]? with | some p, some y => !isEl p y | _, _ => false) = _
          rw [e1, e2]
        rw [e, (isCh_iff t0).mp hc i _ _ e1 e2] at l2
        cases l2
    rw [h0 hch]
    exact rt_loopR (range_W rfl (by omega)) l3
/-- what the law asks of two changes holds -/
theorem r43 {B : Nat} {ps : List Part} {as bs : List El} (hp : ∀ p ∈ ps, POk p) (hl : ps.length ≤ 4) (ha : COk B ps as) (hb : COk B ps bs) (hB : B < 1000) : Ret 43 [WD ps, ED as, ED bs] (.val (.bool true)) [] 9 := by
  have hlim : lim = 100000 := rfl
  refine ret_of (d := 8) rfl fun q hq => run_of rfl ?_ (fun _ z => nomatch z)
  refine rt_cons (ρ1 := [some (WD ps), some (ED as), some (ED bs), some (.bool true), none, none]) (sx_asg (i := 3) (PV.pd pv_bl) (Nat.le_of_ble_eq_true rfl)) ?_
  let due : Nat → Bool := fun t => (List.range t).all fun i => decide ((clsC ps as)[i]? = (clsC ps bs)[i]?)
  have due_succ : ∀ t, due (t + 1) = (due t && decide ((clsC ps as)[t]? = (clsC ps bs)[t]?)) := fun t => by
    show (List.range (t + 1)).all _ = _
    rw [List.range_succ, List.all_append]
    simp
    rfl
  have due_end : due ps.length = decide (clsC ps as = clsC ps bs) := by
    by_cases c : clsC ps as = clsC ps bs
    · rw [decide_eq_true c]
      show (List.range ps.length).all _ = true
      rw [List.all_eq_true]
      intro i _
      rw [c]
      exact decide_eq_true rfl
    · rw [decide_eq_false c]
      cases e : due ps.length with
      | false => rfl
      | true =>
        refine absurd (List.ext_getElem? fun i => ?_) c
        by_cases hi : i < ps.length
        · have e : (List.range ps.length).all (fun i => decide ((clsC ps as)[i]? = (clsC ps bs)[i]?)) = true := e
          rw [List.all_eq_true] at e
          exact of_decide_eq_true (e i (List.mem_range.mpr hi))
        · rw [List.getElem?_eq_none (by rw [clsC_len ha.len]; omega), List.getElem?_eq_none (by rw [clsC_len hb.len]; omega)]
  let I : Nat → Rho → Prop := fun t ρ => ∃ a4, ρ = [some (WD ps), some (ED as), some (ED bs), some (.bool (due t)), a4, none]
  obtain ⟨ρ', f1, f2⟩ := for_inv (f := fun r => execs (phi P85.prog q) (.cons (.ite (.ofE (.cmp .ne (.call 38 [] (.cons (.ix (.var 0) (.var 4)) (.cons (.ix (.var 1) (.var 4)) .nil))) (.call 38 [] (.cons (.ix (.var 0) (.var 4)) (.cons (.ix (.var 2) (.var 4)) .nil))))) (.cons (.asg (.name 3) (.bl false)) .nil) .nil) .nil) r) (g := .name 4) I (rangeD 0 ps.length) 0 [some (WD ps), some (ED as), some (ED bs), some (.bool true), none, none] ⟨none, rfl⟩ fun t d ρ hd hI => by
    rw [Nat.zero_add] at hI ⊢
    obtain ⟨a4, rfl⟩ := hI
    obtain ⟨ht, rfl⟩ := rangeD_at hd
    obtain ⟨p, a, e1, e2, gp, ga⟩ := ha.ex ht
    obtain ⟨p', b, e1', e3, _, gb⟩ := hb.ex ht
    rw [e1] at e1'
    cases e1'
    have vp : PD (phi P85.prog q) (.ix (.var 0) (.var 4)) [some (WD ps), some (ED as), some (ED bs), some (.bool (due t)), some (.int (t : Nat)), none] (pD p) := PV.pd (pv_ix (pv_var rfl).pd (pv_var rfl) (WD_at e1))
    have va : PD (phi P85.prog q) (.ix (.var 1) (.var 4)) [some (WD ps), some (ED as), some (ED bs), some (.bool (due t)), some (.int (t : Nat)), none] (eD a) := PV.pd (pv_ix (pv_var rfl).pd (pv_var rfl) (ED_at e2))
    have vb : PD (phi P85.prog q) (.ix (.var 2) (.var 4)) [some (WD ps), some (ED as), some (ED bs), some (.bool (due t)), some (.int (t : Nat)), none] (eD b) := PV.pd (pv_ix (pv_var rfl).pd (pv_var rfl) (ED_at e3))
    have hc : PT (phi P85.prog q) (.ofE (.cmp .ne (.call 38 [] (.cons (.ix (.var 0) (.var 4)) (.cons (.ix (.var 1) (.var 4)) .nil))) (.call 38 [] (.cons (.ix (.var 0) (.var 4)) (.cons (.ix (.var 2) (.var 4)) .nil))))) [some (WD ps), some (ED as), some (ED bs), some (.bool (due t)), some (.int (t : Nat)), none] (!decide (cls p a = cls p b)) := pt_b (pv_cmp (PV.pd (pv_call (pvs_cons vp (pvs_cons va pvs_nil)) (r38 gp ga hB q (by omega)))) (PV.pd (pv_call (pvs_cons vp (pvs_cons vb pvs_nil)) (r38 gp gb hB q (by omega)))) (ne_el (cls_ok ga) (cls_ok gb)))
    have ed : due (t + 1) = (due t && decide (cls p a = cls p b)) := by
      rw [due_succ, clsC_at e1 e2, clsC_at e1 e3]
      simp only [Option.some.injEq]
    refine ⟨[some (WD ps), some (ED as), some (ED bs), some (.bool (due t)), some (.int (t : Nat)), none], .nx, [some (WD ps), some (ED as), some (ED bs), some (.bool (due (t + 1))), some (.int (t : Nat)), none], rfl, ?_, .inl rfl, ⟨_, rfl⟩⟩
    rw [ed]
    refine bx_cons (sx_ite hc (fun z => ?_) (fun z => ?_)) bx_nil
    · rw [Bool.not_eq_true'] at z
      rw [z, Bool.and_false]
      exact bx_cons (sx_asg (i := 3) (PV.pd pv_bl) (Nat.le_of_ble_eq_true rfl)) bx_nil
    · rw [Bool.not_eq_false'] at z
      rw [z, Bool.and_true]
      exact bx_nil
  rw [Nat.zero_add, rangeD_len] at f2
  obtain ⟨a4, rfl⟩ := f2
  refine rt_loop (range_W rfl (by omega)) f1 ?_
  rw [due_end]
  have g21 := r21 ha hb (by omega) (by omega) (decide (clsC ps as = clsC ps bs)) (fun z => decide_eq_true z) (fun z => decide_eq_false z) q (by omega)
  have g41 := r41 (decide (clsC ps as = clsC ps bs)) (decide (clsC ps as = clsC ps bs)) q (by omega)
  rw [beq_self_eq_true] at g41
  refine rt_if (k := false) (pt_not (k := true) (pt_b (pv_call (pvs_cons (PV.pd (pv_call (pvs_cons (pv_var rfl).pd (pvs_cons (pv_var rfl).pd (pvs_cons (pv_var rfl).pd pvs_nil))) g21)) (pvs_cons (pv_var rfl).pd pvs_nil)) g41))) (fun z => nomatch z) fun _ => ?_
  rcases r20 ha hb (by omega) (by omega) with ⟨e, ts, g1, g2, g3⟩ | ⟨e, g1⟩
  · rw [decide_eq_true e]
    refine rt_cons (ρ1 := [some (WD ps), some (ED as), some (ED bs), some (.bool true), a4, some (ED ts)]) (sx_asg (i := 5) (PV.pd (pv_call (pvs_cons (pv_var rfl).pd (pvs_cons (pv_var rfl).pd (pvs_cons (pv_var rfl).pd pvs_nil))) (g1 q (by omega)))) (Nat.le_of_ble_eq_true rfl)) ?_
    refine rt_if (k := false) (pt_not (k := true) (pt_b (pv_var rfl))) (fun z => nomatch z) fun _ => ?_
    have hsm : ∀ xs, ED ts = .tuple xs → ∀ y ∈ xs, SmB (3 * B + 1000) y := fun xs ex y hy ys ey => by
      injection ex with ex
      rw [← ex] at hy
      obtain ⟨e, he, rfl⟩ := List.mem_map.mp hy
      obtain ⟨i, hi⟩ := List.getElem?_of_mem he
      have hil : i < ps.length := by
        have := (List.getElem?_eq_some_iff.mp hi).1
        rwa [g2.len] at this
      obtain ⟨gp, ge⟩ := g2.get (List.getElem?_eq_getElem hil) hi
      rcases cases_ok ge with ⟨_, i, rfl⟩ | ⟨m, i, _, rfl, h1, h2⟩ | ⟨n, c, ep, rfl, h⟩ | ⟨m, v, _, rfl, h1, h2, h3⟩
      · cases ey
      · cases ey
      · injection ey with ey
        rw [← ey, kL_len, h.len]
        rw [ep] at gp
        have := gp.2
        omega
      · injection ey with ey
        rw [← ey, List.length_map]
        omega
    have hts : COk (3 * B + 1000) ps ts := by
      exact COk.mono (by omega) g2
    refine rt_ret (pv_call (pvs_cons (pv_var rfl).pd (pvs_cons (pv_var rfl).pd (pvs_cons (pv_var rfl).pd (pvs_cons (pv_var rfl).pd pvs_nil)))) (r40 hp hl ha hb (ED ts) hsm (C := 3 * B + 1000) (by omega) true (fun z => ?_) (fun es ez hz => ?_) q (by omega)))
    · rw [isCh_ED g2] at z
      cases z
    · rw [← ED_inj hts hz ez]
      exact (decide_eq_true g3).symm
  · rw [decide_eq_false e]
    refine rt_cons (ρ1 := [some (WD ps), some (ED as), some (ED bs), some (.bool false), a4, some .none]) (sx_asg (i := 5) (PV.pd (pv_call (pvs_cons (pv_var rfl).pd (pvs_cons (pv_var rfl).pd (pvs_cons (pv_var rfl).pd pvs_nil))) (g1 q (by omega)))) (Nat.le_of_ble_eq_true rfl)) ?_
    refine rt_if (k := true) (pt_not (k := false) (pt_b (pv_var rfl))) (fun _ => rt_ret (pv_isF (x := .none) (pv_var rfl).pd)) (fun z => nomatch z)
end M85
set_option Elab.async false
set_option linter.all false
set_option maxRecDepth 100000
set_option maxHeartbeats 1000000
/-! U85I: strange things. -/
namespace M85
open Vm
theorem hv_pick {q i n : Nat} {F : List Int → Rho} {H : List Int} {as : As} {ds : List D} (hq : 1 ≤ q) (hH : HOk H) (hi : ∀ H, (F H)[i]? = some (some (hD H))) (hs : ∀ H H', (F H).set i (some (hD H')) = F H') (h : ∀ H, HOk H → PVs (phi P85.prog q) as (F H) ds) (hl : ds.length = n) (hn : 1 ≤ n) (hn2 : n ≤ lim) : HV (phi P85.prog q) (.ix (.lst as) (.call 27 [0] (.cons (.mvar i) (.cons (.int (n : Nat)) .nil)))) F H (fun d => d ∈ ds) := by
  refine hv_ix <| hg_po hH (po_lst (h H hH) (by omega)) fun H1 o1 => HV.hg <| hv_take hq o1 hi hs pv_int (by omega) fun r r1 r2 => ?_
  have hr : r.toNat < ds.length := by omega
  exact ⟨ds[r.toNat], ixL r1 (List.getElem?_eq_getElem hr), List.getElem_mem hr⟩
theorem cut_len {α : Type} (xs : List α) (lo hi : Option Int) : (cutL xs lo hi).length ≤ xs.length := by
  unfold cutL
  rw [List.length_take, List.length_drop]
  omega
theorem cut_mem {α : Type} {xs : List α} {lo hi : Option Int} {x : α} (h : x ∈ cutL xs lo hi) : x ∈ xs := List.mem_of_mem_drop (List.mem_of_mem_take h)
/-- tuples of small tuples -/
def TB (C : Nat) (d : D) : Prop := ∀ xs, d = .tuple xs → ∀ y ∈ xs, SmB C y
theorem el_SmB {B : Nat} {p : Part} {e : El} (hp : POk p) (h : EOk B p e) : SmB (B + 100) (eD e) := fun ys ey => by
  rcases cases_ok h with ⟨_, i, rfl⟩ | ⟨m, i, _, rfl, h1, h2⟩ | ⟨n, c, ep, rfl, hdk⟩ | ⟨m, v, _, rfl, h1, h2, h3⟩
  · cases ey
  · cases ey
  · injection ey with ey
    have h' : Deck n c := hdk
    rw [← ey, kL_len, h'.len]
    rw [ep] at hp
    have := hp.2
    omega
  · injection ey with ey
    rw [← ey, List.length_map]
    omega
theorem ED_SmB {B : Nat} {ps : List Part} {es : List El} (h : COk B ps es) {y : D} (hy : y ∈ es.map eD) : SmB (B + 100) y := by
  obtain ⟨e, he, rfl⟩ := List.mem_map.mp hy
  obtain ⟨i, hi⟩ := List.getElem?_of_mem he
  have hil : i < ps.length := by
    have := (List.getElem?_eq_some_iff.mp hi).1
    rwa [h.len] at this
  obtain ⟨gp, ge⟩ := h.get (List.getElem?_eq_getElem hil) hi
  exact el_SmB gp ge
theorem tup_add (xs ys : List D) (h : xs.length + ys.length ≤ lim) : binD .add (.tuple xs) (.tuple ys) = some (.val (.tuple (xs ++ ys))) := by
  show (if _ then _ else _) = _
  rw [if_pos h]
/-- a thing that is no change -/
theorem r44 {B : Nat} {ps : List Part} {xs : List El} (hl : ps.length ≤ 4) (hx : COk B ps xs) (hB : B < 1000) (hcb : ∀ (i : Nat) p e, ps[i]? = some p → xs[i]? = some e → CB p e) {k : Nat} (hk : k < ps.length) (H : List Int) (hH : HOk H) : ∀ q, 2 ≤ q → ∃ r outs, phi P85.prog q 44 [hD H, WD ps, ED xs, .int (k : Nat)] = some (r, outs) ∧ ∃ d H', r = .val d ∧ outs = [hD H'] ∧ HOk H' ∧ TB (B + 200) d := by
  intro q hq
  obtain ⟨q, rfl⟩ : ∃ n, q = n + 1 := ⟨q - 1, by omega⟩
  show ∃ r outs, runFD (phi P85.prog q) P85.f44 [hD H, WD ps, ED xs, .int (k : Nat)] = some (r, outs) ∧ _
  have hlim : lim = 100000 := rfl
  refine run_ofO rfl ?_
  obtain ⟨p, e, e1, e2, gp, ge⟩ := hx.ex hk
  have hsm := el_SmB gp ge
  show WB (phi P85.prog q) P85.b44 [some (hD H), some (WD ps), some (ED xs), some (.int (k : Nat)), none, none, none, none] _
  refine wb_cons (ρ1 := [some (hD H), some (WD ps), some (ED xs), some (.int (k : Nat)), some (pD p), none, none, none]) (sx_asg (i := 4) (PV.pd (pv_ix (pv_var rfl).pd (pv_var rfl) (WD_at e1))) (Nat.le_of_ble_eq_true rfl)) ?_
  have hxl : xs.length = ps.length := hx.len
  -- what comes behind
  have tail : ∀ (b : D) (a6 : Option D) (H1 : List Int), HOk H1 → SmB (B + 200) b → WB (phi P85.prog q) (.cons (.asg (.name 7) (.bin .add (.bin .add (.sl (.var 2) .none (.some (.var 3))) (.tup (.cons (.var 5) .nil))) (.sl (.var 2) (.some (.bin .add (.var 3) (.int 1))) .none))) (.cons (.ret (.ix (.lst (.cons (.var 7) (.cons (.var 7) (.cons (.blt .list (.cons (.var 2) .nil)) (.cons (.bin .add (.var 2) (.tup (.cons (.ix (.var 2) (.var 3)) .nil))) (.cons (.sl (.var 2) .none (.some (.neg (.int 1)))) (.cons .non (.cons (.str "x") (.cons (.blt .len (.cons (.var 2) .nil)) .nil))))))))) (.call 27 [0] (.cons (.mvar 0) (.cons (.int 8) .nil))))) .nil)) [some (hD H1), some (WD ps), some (ED xs), some (.int (k : Nat)), some (pD p), some b, a6, none] (fun fl ρ => ∃ r outs, fl = .rt r ∧ (∀ i, r ≠ .slot i) ∧ outsOf ρ [0] = some outs ∧ ∃ d H', r = .val d ∧ outs = [hD H'] ∧ HOk H' ∧ TB (B + 200) d) := by
    intro b a6 H1 o1 hb
    let W : List D := (cutL (xs.map eD) none (some (k : Nat)) ++ [b]) ++ cutL (xs.map eD) (some ((k : Nat) + 1)) none
    have hW : ∀ y ∈ W, SmB (B + 200) y := fun y hy zs ez => by
      rcases List.mem_append.mp hy with hy | hy
      · rcases List.mem_append.mp hy with hy | hy
        · have := ED_SmB hx (cut_mem hy) zs ez
          omega
        · rw [List.mem_singleton.mp hy] at ez
          exact hb zs ez
      · have := ED_SmB hx (cut_mem hy) zs ez
        omega
    have hc1 := cut_len (xs.map eD) none (some (k : Nat))
    have hc2 := cut_len (xs.map eD) (some ((k : Nat) + 1)) none
    rw [List.length_map] at hc1 hc2
    refine wb_cons (ρ1 := [some (hD H1), some (WD ps), some (ED xs), some (.int (k : Nat)), some (pD p), some b, a6, some (.tuple W)]) (sx_asg (i := 7) (PV.pd (pv_bin (PV.pd (pv_bin (PV.pd (pd_sl (pv_var rfl).pd pob_none (pob_some (pv_var rfl)) rfl)) (PV.pd (pv_tup (pvs_cons (pv_var rfl).pd pvs_nil) (Nat.le_of_ble_eq_true rfl))) (tup_add _ _ (by simp only [List.length_cons, List.length_nil]; omega)))) (PV.pd (pd_sl (pv_var rfl).pd (pob_some (pv_bin (pv_var rfl).pd pv_int.pd rfl)) pob_none rfl)) (tup_add _ _ (by simp only [List.length_append, List.length_cons, List.length_nil]; omega)))) (Nat.le_of_ble_eq_true rfl)) ?_
    refine wb_retH (F := fun H => [some (hD H), some (WD ps), some (ED xs), some (.int (k : Nat)), some (pD p), some b, a6, some (.tuple W)]) (P := fun d => d ∈ [PySem.PyData.tuple W, .tuple W, .list (xs.map eD), .tuple (xs.map eD ++ [eD e]), .tuple (cutL (xs.map eD) none (some (-1))), .none, .str "x", .int ((xs.map eD).length : Nat)]) (hv_pick (n := 8) (by omega) o1 (fun _ => rfl) (fun _ _ => rfl) (fun H2 o2 => ?_) rfl (by decide) (by decide)) ?_
    · refine pvs_cons (pv_var rfl).pd (pvs_cons (pv_var rfl).pd (pvs_cons (PO.pd (po_blt (pvs_cons (pv_var rfl).pd pvs_nil) rfl)) (pvs_cons (PV.pd (pv_bin (pv_var rfl).pd (PV.pd (pv_tup (pvs_cons (PV.pd (pv_ix (pv_var rfl).pd (pv_var rfl) (ED_at e2))) pvs_nil) (Nat.le_of_ble_eq_true rfl))) (tup_add _ _ (by simp only [List.length_map, List.length_cons, List.length_nil]; omega)))) (pvs_cons (PV.pd (pd_sl (pv_var rfl).pd pob_none (pob_some (pv_neg pv_int)) rfl)) (pvs_cons pv_non.pd (pvs_cons pv_str.pd (pvs_cons (PV.pd (pv_blt (pvs_cons (pv_var rfl).pd pvs_nil) rfl)) pvs_nil)))))))
    · intro d H2 o2 hd
      refine ⟨_, _, rfl, (fun _ z => nomatch z), rfl, d, H2, rfl, rfl, o2, fun ys ey y hy => ?_⟩
      simp only [List.mem_cons, List.not_mem_nil, or_false] at hd
      have mono : ∀ {y : D}, y ∈ xs.map eD → SmB (B + 200) y := fun hy zs ez => by
        have := ED_SmB hx hy zs ez
        omega
      rcases hd with rfl | rfl | rfl | rfl | rfl | rfl | rfl | rfl
      · injection ey with ey; rw [← ey] at hy; exact hW y hy
      · injection ey with ey; rw [← ey] at hy; exact hW y hy
      · cases ey
      · injection ey with ey
        rw [← ey] at hy
        rcases List.mem_append.mp hy with hy | hy
        · exact mono hy
        · rw [List.mem_singleton.mp hy]
          exact mono (List.mem_map.mpr ⟨e, List.mem_of_getElem? e2, rfl⟩)
      · injection ey with ey; rw [← ey] at hy; exact mono (cut_mem hy)
      · cases ey
      · cases ey
      · cases ey
  have sm1 : ∀ y : D, (∀ ys, y ≠ .tuple ys) → SmB (B + 200) y := fun y h ys e => absurd e (h ys)
  have hbad : ∀ (H1 : List Int), HOk H1 → ∀ (a6 : Option D), ∀ ds : List D, (∀ d ∈ ds, SmB (B + 200) d) → ∀ d ∈ ds, SmB (B + 200) d := fun _ _ _ ds h d hd => h d hd
  let F : List Int → Rho := fun H => [some (hD H), some (WD ps), some (ED xs), some (.int (k : Nat)), some (pD p), none, none, none]
  show WB (phi P85.prog q) _ (F H) _
  have vx : ∀ a5 a6 H, PV (phi P85.prog q) (.ix (.var 2) (.var 3)) [some (hD H), some (WD ps), some (ED xs), some (.int (k : Nat)), some (pD p), a5, a6, none] (eD e) := fun a5 a6 H => pv_ix (pv_var rfl).pd (pv_var rfl) (ED_at e2)
  refine wb_ite (F := F) (P := fun b => b = isC p) (ht_pt hH (pt_c (pv_var rfl)) rfl) ?_
  rintro b H1 o1 rfl
  cases c0 : isC p with
  | true =>
    rw [if_pos rfl]
    cases p <;> first | (cases c0; done) | skip
    cases e <;> first | (exact absurd ge id) | skip
    rename_i z
    have hz : z.natAbs < 2 ^ 64 := hcb k _ _ e1 e2 rfl z rfl
    have hstr : bltD .str [.int z] = some (.val (.str (toString z))) := by
      show (if z.natAbs.log2 < 1920 then some (R.val (.str (toString z))) else none) = _
      rw [if_pos]
      by_cases c : z.natAbs = 0
      · rw [c]; decide
      · have := (Nat.log2_lt c).mpr hz
        omega
    refine wb_asgH (F := F) (P := fun d => d ∈ [PySem.PyData.bool true, .none, .tuple [.int z], .str (toString z)]) (HV.hg (hv_pick (n := 4) (by omega) o1 (fun _ => rfl) (fun _ _ => rfl) (fun H2 o2 => ?_) rfl (by decide) (by decide))) (fun _ => Nat.le_of_ble_eq_true rfl) ?_
    · exact pvs_cons pv_bl.pd (pvs_cons pv_non.pd (pvs_cons (PV.pd (pv_tup (pvs_cons (vx none none H2).pd pvs_nil) (Nat.le_of_ble_eq_true rfl))) (pvs_cons (PV.pd (pv_blt (pvs_cons (vx none none H2).pd pvs_nil) hstr)) pvs_nil)))
    · intro d H2 o2 hd
      refine wb_nil ⟨fun _ => tail d none H2 o2 ?_, fun z => absurd rfl z⟩
      simp only [List.mem_cons, List.not_mem_nil, or_false] at hd
      rcases hd with rfl | rfl | rfl | rfl
      · exact sm1 _ (fun _ z => nomatch z)
      · exact sm1 _ (fun _ z => nomatch z)
      · intro ys ey; injection ey with ey; rw [← ey]; simp only [List.length_cons, List.length_nil]; omega
      · exact sm1 _ (fun _ z => nomatch z)
  | false =>
  rw [if_neg Bool.false_ne_true]
  refine wb_ite (F := F) (P := fun b => b = isDi p) (ht_pt o1 (pt_di (pv_var rfl)) rfl) ?_
  rintro b H2 o2 rfl
  cases c1 : isDi p with
  | true =>
    rw [if_pos rfl]
    cases p <;> first | (cases c1; done) | skip
    rename_i m
    cases e <;> first | (exact absurd ge id) | skip
    rename_i z
    refine wb_asgH (F := F) (P := fun d => d ∈ [PySem.PyData.int ((m : Nat) + z), .int (z - (m : Nat)), .bool false, .tuple [.int z]]) (HV.hg (hv_pick (n := 4) (by omega) o2 (fun _ => rfl) (fun _ _ => rfl) (fun H2 o2 => ?_) rfl (by decide) (by decide))) (fun _ => Nat.le_of_ble_eq_true rfl) ?_
    · have vm : PV (phi P85.prog q) (.ix (.var 4) (.int 1)) (F H2) (.int (m : Nat)) := pv_ix (PV.pd (pv_var rfl)) pv_int rfl
      exact pvs_cons (PV.pd (pv_bin vm.pd (vx none none H2).pd rfl)) (pvs_cons (PV.pd (pv_bin (vx none none H2).pd vm.pd rfl)) (pvs_cons pv_bl.pd (pvs_cons (PV.pd (pv_tup (pvs_cons (vx none none H2).pd pvs_nil) (Nat.le_of_ble_eq_true rfl))) pvs_nil)))
    · intro d H3 o3 hd
      refine wb_nil ⟨fun _ => wb_nil ⟨fun _ => tail d none H3 o3 ?_, fun z => absurd rfl z⟩, fun z => absurd rfl z⟩
      simp only [List.mem_cons, List.not_mem_nil, or_false] at hd
      rcases hd with rfl | rfl | rfl | rfl
      · exact sm1 _ (fun _ z => nomatch z)
      · exact sm1 _ (fun _ z => nomatch z)
      · exact sm1 _ (fun _ z => nomatch z)
      · intro ys ey; injection ey with ey; rw [← ey]; simp only [List.length_cons, List.length_nil]; omega
  | false =>
  rw [if_neg Bool.false_ne_true]
  refine wb_ite (F := F) (P := fun b => b = isDe p) (ht_pt o2 (pt_de (pv_var rfl)) rfl) ?_
  rintro b H3 o3 rfl
  cases c2 : isDe p with
  | true =>
    rw [if_pos rfl]
    cases p <;> first | (cases c2; done) | skip
    rename_i n
    cases e <;> first | (exact absurd ge id) | skip
    rename_i c
    have hd : Deck n c := ge
    have hn : 1 ≤ n ∧ n ≤ 100 := gp
    have hcl : (kL c).length = n := by rw [kL_len, hd.len]
    have hcu := cut_len (kL c) none (some (-1))
    have vm : ∀ H, PV (phi P85.prog q) (.ix (.var 4) (.int 1)) (F H) (.int (n : Nat)) := fun H => pv_ix (PV.pd (pv_var rfl)) pv_int rfl
    have vt : ∀ H, PV (phi P85.prog q) (.tup (.cons (.ix (.var 4) (.int 1)) .nil)) (F H) (.tuple [.int (n : Nat)]) := fun H => pv_tup (pvs_cons (vm H).pd pvs_nil) (Nat.le_of_ble_eq_true rfl)
    have vs : ∀ H, PV (phi P85.prog q) (.sl (.ix (.var 2) (.var 3)) .none (.some (.neg (.int 1)))) (F H) (.tuple (cutL (kL c) none (some (-1)))) := fun H => pd_sl (vx none none H).pd pob_none (pob_some (pv_neg pv_int)) rfl
    have hmul : binD .mul (.tuple [.bool true]) (.int (n : Nat)) = some (.val (.tuple (List.replicate n [PySem.PyData.bool true]).flatten)) := by
      show (if ((1 : Int) ≤ (n : Nat) ∧ ((n : Nat) : Int) ≤ 1000) ∧ [PySem.PyData.bool true].length ≤ 1000 ∧ [PySem.PyData.bool true].isEmpty = false then some (R.val (.tuple (List.replicate ((n : Nat) : Int).toNat [PySem.PyData.bool true]).flatten)) else none) = _
      rw [if_pos ⟨⟨by omega, by omega⟩, by decide, rfl⟩, Int.toNat_natCast]
    refine wb_asgH (F := F) (P := fun d => d ∈ [PySem.PyData.list (kL c), .tuple (kL c ++ [.int (n : Nat)]), .tuple (cutL (kL c) none (some (-1))), .tuple (cutL (kL c) none (some (-1)) ++ [.int (n : Nat)]), .tuple (List.replicate n [PySem.PyData.bool true]).flatten, .tuple []]) (HV.hg (hv_pick (n := 6) (by omega) o3 (fun _ => rfl) (fun _ _ => rfl) (fun H2 o2 => ?_) rfl (by decide) (by decide))) (fun _ => Nat.le_of_ble_eq_true rfl) ?_
    · exact pvs_cons (PO.pd (po_blt (pvs_cons (vx none none H2).pd pvs_nil) rfl)) (pvs_cons (PV.pd (pv_bin (vx none none H2).pd (vt H2).pd (tup_add _ _ (by simp only [List.length_cons, List.length_nil]; omega)))) (pvs_cons (vs H2).pd (pvs_cons (PV.pd (pv_bin (vs H2).pd (vt H2).pd (tup_add _ _ (by simp only [List.length_cons, List.length_nil]; omega)))) (pvs_cons (PV.pd (pv_bin (PV.pd (pv_tup (pvs_cons pv_bl.pd pvs_nil) (Nat.le_of_ble_eq_true rfl))) (vm H2).pd hmul)) (pvs_cons (PV.pd (pv_tup pvs_nil (Nat.zero_le _))) pvs_nil)))))
    · intro d H4 o4 hd'
      refine wb_nil ⟨fun _ => wb_nil ⟨fun _ => wb_nil ⟨fun _ => tail d none H4 o4 ?_, fun z => absurd rfl z⟩, fun z => absurd rfl z⟩, fun z => absurd rfl z⟩
      simp only [List.mem_cons, List.not_mem_nil, or_false] at hd'
      rcases hd' with rfl | rfl | rfl | rfl | rfl | rfl
      · exact sm1 _ (fun _ z => nomatch z)
      · intro ys ey; injection ey with ey; rw [← ey]; simp only [List.length_append, List.length_cons, List.length_nil]; omega
      · intro ys ey; injection ey with ey; rw [← ey]; omega
      · intro ys ey; injection ey with ey; rw [← ey]; simp only [List.length_append, List.length_cons, List.length_nil]; omega
      · intro ys ey; injection ey with ey; rw [← ey]; simp; omega
      · intro ys ey; injection ey with ey; rw [← ey]; simp
  | false =>
  rw [if_neg Bool.false_ne_true]
  cases p <;> first | (cases c0; done) | (cases c1; done) | (cases c2; done) | skip
  rename_i m
  cases e <;> first | (exact absurd ge id) | skip
  rename_i v
  obtain ⟨_, _, hv⟩ := ge
  have hvl : (v.map lD).length ≤ B := by rw [List.length_map]; exact hv
  let T6 : D := .tuple [.int ((m : Nat) - 1), .bool false]
  let F2 : List Int → Rho := fun H => [some (hD H), some (WD ps), some (ED xs), some (.int (k : Nat)), some (pD (.rope m)), none, some T6, none]
  have vm0 : ∀ H, PV (phi P85.prog q) (.ix (.var 4) (.int 1)) (F H) (.int (m : Nat)) := fun H => pv_ix (PV.pd (pv_var rfl)) pv_int rfl
  refine wb_cons (ρ1 := F2 H3) (sx_asg (i := 6) (PV.pd (pv_tup (pvs_cons (PV.pd (pv_bin (vm0 H3).pd pv_int.pd rfl)) (pvs_cons pv_bl.pd pvs_nil)) (Nat.le_of_ble_eq_true rfl))) (Nat.le_of_ble_eq_true rfl)) ?_
  have vm : ∀ H, PV (phi P85.prog q) (.ix (.var 4) (.int 1)) (F2 H) (.int (m : Nat)) := fun H => pv_ix (PV.pd (pv_var rfl)) pv_int rfl
  refine wb_asgH (F := F2) (P := fun d => d ∈ [PySem.PyData.tuple (v.map lD ++ [T6, .tuple [.int ((m : Nat) - 1), .bool true]]), .tuple [.tuple [.int (m : Nat), .bool false]], .tuple [.tuple [.int 0, .int 0]], .tuple [.tuple [.bool false, .bool false]], .list (v.map lD), .tuple [.tuple [.int 0, .bool false, .bool false]], .tuple [.int 0, .bool false]]) (HV.hg (hv_pick (n := 7) (by omega) o3 (fun _ => rfl) (fun _ _ => rfl) (fun H2 o2 => ?_) rfl (by decide) (by decide))) (fun _ => Nat.le_of_ble_eq_true rfl) ?_
  · have two : ∀ (a b : E) (x y : D), PV (phi P85.prog q) a (F2 H2) x → PV (phi P85.prog q) b (F2 H2) y → PV (phi P85.prog q) (.tup (.cons a (.cons b .nil))) (F2 H2) (.tuple [x, y]) := fun a b x y h1 h2 => pv_tup (pvs_cons h1.pd (pvs_cons h2.pd pvs_nil)) (Nat.le_of_ble_eq_true rfl)
    have one : ∀ (a : E) (x : D), PV (phi P85.prog q) a (F2 H2) x → PV (phi P85.prog q) (.tup (.cons a .nil)) (F2 H2) (.tuple [x]) := fun a x h1 => pv_tup (pvs_cons h1.pd pvs_nil) (Nat.le_of_ble_eq_true rfl)
    refine pvs_cons (PV.pd (pv_bin (vx none (some T6) H2).pd (two _ _ _ _ (pv_var rfl) (two _ _ _ _ (pv_ix (PV.pd (pv_var (d := T6) rfl)) pv_int rfl) pv_bl)).pd (tup_add _ _ (by simp only [List.length_cons, List.length_nil]; omega)))) (pvs_cons (one _ _ (two _ _ _ _ (vm H2) pv_bl)).pd (pvs_cons (one _ _ (two _ _ _ _ pv_int pv_int)).pd (pvs_cons (one _ _ (two _ _ _ _ pv_bl pv_bl)).pd (pvs_cons (PO.pd (po_blt (pvs_cons (vx none (some T6) H2).pd pvs_nil) rfl)) (pvs_cons (one _ _ (pv_tup (pvs_cons pv_int.pd (pvs_cons pv_bl.pd (pvs_cons pv_bl.pd pvs_nil))) (Nat.le_of_ble_eq_true rfl))).pd (pvs_cons (two _ _ _ _ pv_int pv_bl).pd pvs_nil))))))
  · intro d H4 o4 hd'
    refine wb_nil ⟨fun _ => wb_nil ⟨fun _ => wb_nil ⟨fun _ => tail d (some T6) H4 o4 ?_, fun z => absurd rfl z⟩, fun z => absurd rfl z⟩, fun z => absurd rfl z⟩
    simp only [List.mem_cons, List.not_mem_nil, or_false] at hd'
    rcases hd' with rfl | rfl | rfl | rfl | rfl | rfl | rfl
    · intro ys ey; injection ey with ey; rw [← ey]; simp only [List.length_append, List.length_cons, List.length_nil]; omega
    · intro ys ey; injection ey with ey; rw [← ey]; simp
    · intro ys ey; injection ey with ey; rw [← ey]; simp
    · intro ys ey; injection ey with ey; rw [← ey]; simp
    · exact sm1 _ (fun _ z => nomatch z)
    · intro ys ey; injection ey with ey; rw [← ey]; simp
    · intro ys ey; injection ey with ey; rw [← ey]; simp
end M85
set_option Elab.async false
set_option linter.all false
set_option maxRecDepth 100000
set_option maxHeartbeats 2000000
/-! U85J: the law. -/
namespace M85
open Vm
theorem pv_callk {Φ : Fs} {ρ : Rho} {k : Nat} {perm : List Nat} {as : As} {ds es : List D} {d : D} (h : PVs Φ as ρ ds) (hp : picks ds perm = some es) (hc : Φ k es = some (.val d, [])) : PV Φ (.callk k perm as) ρ d := by
  obtain ⟨rs, g1, g2, _⟩ := h
  unfold PV
  simp only [evalE, g1, g2, hp, hc, bind, Option.bind]
theorem lcK {Φ : Fs} {ρ : Rho} {e : E} {n : Nat} {outs : List D} (h5 : ρ[5]? = some (some (.list (kL (List.range n))))) (hl : outs.length = n) (hn : n ≤ lim) (hr : restore ρ [6] (clear [6] ρ) = ρ) (h6 : 6 < (clear [6] ρ).length) (hcl : ∀ d, clear [6] ((clear [6] ρ).set 6 (some d)) = clear [6] ρ) (hh : ∀ i o, outs[i]? = some o → PD Φ e ((clear [6] ρ).set 6 (some (.int (i : Nat)))) o) : PV Φ (.blt .tuple (.cons (.lc [6] (.name 6) (.seq (.var 5)) .yes e) .nil)) ρ (.tuple outs) := by
  refine pv_blt (pvs_cons (PO.pd (po_lcI (pi_seq (pv_var h5).pd rfl) outs (by rw [kL_len, List.length_range, hl]) (by rw [kL_len, List.length_range]; exact hn) hr fun i d o hi ho => ?_)) pvs_nil) rfl
  obtain ⟨k, ek, rfl⟩ := kL_at hi
  have hin : i < n := by
    have := (List.getElem?_eq_some_iff.mp ek).1
    rwa [List.length_range] at this
  rw [List.getElem?_range hin] at ek
  cases ek
  exact ⟨(clear [6] ρ).set 6 (some (.int (i : Nat))), by simp only [assignG]; rw [if_pos h6], hcl _, pt_yes, hh i o ho⟩
theorem els_of {B : Nat} : ∀ {ps : List Part} {outs : List D}, (∀ p ∈ ps, POk p) → outs.length = ps.length → (∀ (i : Nat) p o, ps[i]? = some p → outs[i]? = some o → ∃ e, o = eD e ∧ EOk B p e ∧ CB p e) → ∃ es, outs = es.map eD ∧ COk B ps es ∧ ∀ (i : Nat) p e, ps[i]? = some p → es[i]? = some e → CB p e
  | [], [], _, _, _ => ⟨[], rfl, trivial, fun i p e h => by simp at h⟩
  | [], _ :: _, _, h, _ => by simp at h
  | _ :: _, [], _, h, _ => by simp at h
  | p :: ps, o :: outs, hp, hl, hh => by
    obtain ⟨e, rfl, h1, h2⟩ := hh 0 p o rfl rfl
    obtain ⟨es, rfl, h3, h4⟩ := els_of (fun q hq => hp q (List.mem_cons_of_mem _ hq)) (by simpa using hl) fun i q o' hi ho => hh (i + 1) q o' (by simpa using hi) (by simpa using ho)
    refine ⟨e :: es, rfl, ⟨hp p List.mem_cons_self, h1, h3⟩, fun i q e' hi he => ?_⟩
    cases i with
    | zero => simp at hi he; subst hi he; exact h2
    | succ i => exact h4 i q e' (by simpa using hi) (by simpa using he)
theorem COk.set {B : Nat} : ∀ {ps : List Part} {es : List El} {k : Nat} {p : Part} {e : El}, COk B ps es → ps[k]? = some p → EOk B p e → COk B ps (es.set k e)
  | p :: ps, a :: es, 0, _, _, h, h1, h2 => by
    simp at h1
    subst h1
    exact ⟨h.1, h2, h.2.2⟩
  | p :: ps, a :: es, k + 1, _, _, h, h1, h2 => ⟨h.1, h.2.1, COk.set h.2.2 (by simpa using h1) h2⟩
  | [], [], _, _, _, _, h1, _ => by simp at h1
  | [], _ :: _, _, _, _, h, _, _ => absurd h id
  | _ :: _, [], _, _, _, h, _, _ => absurd h id
/-- one element put at k -/
theorem splice {Φ : Fs} {ρ : Rho} {iv ik : Nat} {es : List El} {k : Nat} {e : El} {t : E} (hv : ρ[iv]? = some (some (ED es))) (hk : ρ[ik]? = some (some (.int (k : Nat)))) (hkl : k < es.length) (hl : es.length ≤ 100) (ht : PV Φ t ρ (eD e)) : PV Φ (.bin .add (.bin .add (.sl (.var iv) .none (.some (.var ik))) (.tup (.cons t .nil))) (.sl (.var iv) (.some (.bin .add (.var ik) (.int 1))) .none)) ρ (ED (es.set k e)) := by
  have hlim : lim = 100000 := rfl
  have e0 : (es.set k e).map eD = ((es.map eD).take k ++ [eD e]) ++ (es.map eD).drop (k + 1) := by
    rw [List.map_set, List.set_eq_take_append_cons_drop, if_pos (by rw [List.length_map]; exact hkl), List.append_assoc]
    rfl
  unfold ED
  rw [e0]
  have s1 : PV Φ (.sl (.var iv) .none (.some (.var ik))) ρ (.tuple ((es.map eD).take k)) := by
    refine pd_sl (pv_var hv).pd pob_none (pob_some (pv_var hk)) ?_
    show some (R.val (.tuple (cutL (es.map eD) none (some ((k : Nat) : Int))))) = _
    rw [cut_take _ _ (by rw [List.length_map]; omega)]
  have s2 : PV Φ (.sl (.var iv) (.some (.bin .add (.var ik) (.int 1))) .none) ρ (.tuple ((es.map eD).drop (k + 1))) := by
    refine pd_sl (pv_var hv).pd (pob_some (pv_bin (pv_var hk).pd pv_int.pd rfl)) pob_none ?_
    show some (R.val (.tuple (cutL (es.map eD) (some ((k : Nat) + 1)) none))) = _
    have := cut_drop (es.map eD) (k + 1) (by rw [List.length_map]; omega)
    rw [show ((k + 1 : Nat) : Int) = (k : Nat) + 1 by omega] at this
    rw [this]
  refine pv_bin (PV.pd (pv_bin s1.pd (PV.pd (pv_tup (pvs_cons ht.pd pvs_nil) (Nat.le_of_ble_eq_true rfl))) (tup_add _ _ ?_))) s2.pd (tup_add _ _ ?_)
  · simp only [List.length_take, List.length_map, List.length_cons, List.length_nil]; omega
  · simp only [List.length_append, List.length_take, List.length_drop, List.length_map, List.length_cons, List.length_nil]; omega
abbrev FL (S : D) (w W L P k one part x other more less thing least change lap apart free some' : Option D) (H : List Int) : Rho := [some S, some (hD H), w, W, L, P, k, one, part, x, other, more, less, thing, least, change, lap, apart, free, some']
section
variable {q : Nat} {ps : List Part}
/-- is_turner and the law's judging tell the same of every thing -/
theorem both (hp : ∀ p ∈ ps, POk p) (hl : ps.length ≤ 4) {as bs : List El} (ha : COk 200 ps as) (hb : COk 200 ps bs) (x : D) (hx : TB 600 x) (hq : 10 ≤ q) : ∃ k : Bool, phi P85.prog q 22 [WD ps, ED as, ED bs, x] = some (.val (.bool k), []) ∧ phi P85.prog q 40 [WD ps, ED as, ED bs, x] = some (.val (.bool k), []) := by
  have hlim : lim = 100000 := rfl
  exact ⟨judge 600 ps as bs x, r22 hp (by omega) ha hb x hx (by omega) _ judge_no (fun es e h => judge_es es e h) q (by omega), r40 hp hl ha hb x hx (by omega) _ judge_no (fun es e h => judge_es es e h) q (by omega)⟩
/-- a turner is told to be one -/
theorem right (hp : ∀ p ∈ ps, POk p) (hl : ps.length ≤ 4) {as bs es : List El} (ha : COk 200 ps as) (hb : COk 200 ps bs) (he : COk 200 ps es) (h : mulC ps as es = mulC ps es bs) (hq : 10 ≤ q) : phi P85.prog q 22 [WD ps, ED as, ED bs, ED es] = some (.val (.bool true), []) := by
  have hlim : lim = 100000 := rfl
  refine r22 hp (by omega) ha hb (ED es) (C := 600) (fun xs ex y hy => ?_) (by omega) true (fun z => ?_) (fun es' e' h' => ?_) q (by omega)
  · injection ex with ex
    rw [← ex] at hy
    intro ys ey
    have := ED_SmB he hy ys ey
    omega
  · rw [isCh_ED he] at z
    cases z
  · rw [← ED_inj he h' e']
    exact (decide_eq_true h).symm
theorem ED_TB {B : Nat} {es : List El} (he : COk B ps es) (hB : B ≤ 500) : TB 600 (ED es) := fun xs ex y hy => by
  injection ex with ex
  rw [← ex] at hy
  intro ys ey
  have := ED_SmB he hy ys ey
  omega
theorem yes {Φ : Fs} {ρ : Rho} {a b : E} {k : Bool} (h41 : ∀ a b : Bool, Φ 41 [.bool a, .bool b] = some (.val (.bool (a == b)), [])) (ha : PV Φ a ρ (.bool k)) (hb : PV Φ b ρ (.bool k)) : PT Φ (.not (.ofE (.call 41 [] (.cons a (.cons b .nil))))) ρ false := by
  have := h41 k k
  rw [beq_self_eq_true] at this
  exact pt_not (k := true) (pt_b (pv_call (pvs_cons ha.pd (pvs_cons hb.pd pvs_nil)) this))
end
end M85
set_option Elab.async false
set_option linter.all false
set_option maxRecDepth 100000
set_option maxHeartbeats 2000000
/-! U85K: the law. -/
namespace M85
open Vm
theorem pD_inj {p q : Part} (h : pD p = pD q) : p = q := by
  have hk : kn p = kn q := by
    have h1 := pD_kind p
    rw [h, pD_kind q] at h1
    injection h1 with h1
    injection h1 with h1
    exact h1.symm
  have a1 := k_c p
  have a2 := k_di p
  have a3 := k_de p
  have a4 := k_ro p
  rw [hk, k_c q] at a1
  rw [hk, k_di q] at a2
  rw [hk, k_de q] at a3
  rw [hk, k_ro q] at a4
  cases p <;> cases q <;> first
    | rfl
    | (cases a1; done)
    | (cases a2; done)
    | (cases a3; done)
    | (cases a4; done)
    | (simp only [pD, PySem.PyData.tuple.injEq, List.cons.injEq, PySem.PyData.int.injEq, true_and, and_true] at h
       rw [show _ = _ from Int.ofNat.inj h])
theorem hv_tupl {Φ : Fs} {e : E} {F : List Int → Rho} {H : List Int} {P : List D → Prop} (h : HG Φ e F H (fun d => ∃ outs, d = .list outs ∧ P outs)) : HV Φ (.blt .tuple (.cons e .nil)) F H (fun d => ∃ outs, d = .tuple outs ∧ P outs) := by
  refine hv_blt (ha_cons (HG.mono h ?_))
  rintro d ⟨outs, rfl, hp⟩ H' o'
  exact ha_nil o' ⟨.tuple outs, rfl, outs, rfl, hp⟩
def tl : Ss → Ss
  | .cons _ r => r
  | .nil => .nil
def tln : Nat → Ss → Ss
  | 0, s => s
  | n + 1, s => tl (tln n s)
/-- the law's end -/
def Fin : Fl → Rho → Prop := fun fl ρ => ∃ r outs, fl = .rt r ∧ (∀ i, r ≠ .slot i) ∧ outsOf ρ [] = some outs ∧ (r = .val (.bool true) ∧ outs = [])
section
variable {S : D} {wide : Bool} {ps : List Part}
/-- what the world's parts draw, one by one -/
theorem drawn {Φ : Fs} {F : List Int → Rho} {H : List Int} {own : List Nat} {g : G} {it : It} {e : E} {items : List D} {F0 : List Int → Rho} (Fd : D → List Int → Rho) (hH : HOk H) (hp : ∀ p ∈ ps, POk p) (hl : ps.length ≤ 4) (hc : ∀ H, clear own (F H) = F0 H) (hr : ∀ H H', restore (F H) own (F0 H') = F H') (hI : PI Φ it (F H) items) (hil : items.length = ps.length)
    (hh : ∀ (i : Nat) d p, items[i]? = some d → ps[i]? = some p → ∀ H, HOk H → assignG g d (F0 H) = some (Fd d H) ∧ clear own (Fd d H) = F0 H ∧ HG Φ e (Fd d) H (fun o => ∃ el, o = eD el ∧ EOk 50 p el ∧ CB p el)) (hinj : ∀ (i j : Nat) d, items[i]? = some d → items[j]? = some d → ps[i]? = ps[j]?) :
    HV Φ (.blt .tuple (.cons (.lc own g it .yes e) .nil)) F H (fun d => ∃ es, d = ED es ∧ COk 50 ps es ∧ ∀ (i : Nat) p e, ps[i]? = some p → es[i]? = some e → CB p e) := by
  have hlim : lim = 100000 := rfl
  refine (hv_tupl (P := fun outs => ∃ es, outs = es.map eD ∧ COk 50 ps es ∧ ∀ (i : Nat) p e, ps[i]? = some p → es[i]? = some e → CB p e) (hg_lc (F0 := F0) Fd (fun d o => ∀ (i : Nat) p, items[i]? = some d → ps[i]? = some p → ∃ el, o = eD el ∧ EOk 50 p el ∧ CB p el) hc hr (hi_pi hH hI ⟨by omega, fun d hd H1 o1 => ?_, fun outs ho hP => ⟨outs, rfl, ?_⟩⟩))).mono ?_
  · obtain ⟨i, hi⟩ := List.getElem?_of_mem hd
    have hil' := (List.getElem?_eq_some_iff.mp hi).1
    have ep := List.getElem?_eq_getElem (show i < ps.length by omega)
    obtain ⟨g1, g2, g3⟩ := hh i d _ hi ep H1 o1
    refine ⟨g1, g2, g3.mono fun o ho j p hj hp' => ?_⟩
    have := hinj i j d hi hj
    rw [ep, hp'] at this
    rw [← Option.some.inj this]
    exact ho
  · refine els_of hp (by omega) fun i p o h1 h2 => ?_
    have hi : i < items.length := by
      have := (List.getElem?_eq_some_iff.mp h1).1
      omega
    exact hP i _ o (List.getElem?_eq_getElem hi) h2 i p (List.getElem?_eq_getElem hi) h1
  · rintro d ⟨outs, rfl, es, rfl, h⟩
    exact ⟨es, rfl, h⟩
theorem kL_range_at {n i : Nat} {d : D} (h : (kL (List.range n))[i]? = some d) : i < n ∧ d = .int (i : Nat) := by
  obtain ⟨k, ek, rfl⟩ := kL_at h
  have hin : i < n := by
    have := (List.getElem?_eq_some_iff.mp ek).1
    rwa [List.length_range] at this
  rw [List.getElem?_range hin] at ek
  cases ek
  exact ⟨hin, rfl⟩
/-- eight strange things -/
theorem lawE {as xs bs : List El} {L : Option D} {H : List Int} {k part more less thing least change lap apart free some' : Option D} {P : Option D} (hH : HOk H) (hp : ∀ p ∈ ps, POk p) (hl1 : 1 ≤ ps.length) (hl : ps.length ≤ 4) (ha : COk 200 ps as) (hb : COk 200 ps bs) (hx : COk 50 ps xs) (hcb : ∀ (i : Nat) p e, ps[i]? = some p → xs[i]? = some e → CB p e) :
    WB (phi P85.prog 20) (tln 19 P85.b46) (FL S (some (.bool wide)) (some (WD ps)) L P k (some (ED as)) part (some (ED xs)) (some (ED bs)) more less thing least change lap apart free some' H) Fin := by
  have hlim : lim = 100000 := rfl
  let I : Nat → Rho → Prop := fun _ ρ => ∃ (H : List Int) (thing lap : Option D), HOk H ∧ ρ = FL S (some (.bool wide)) (some (WD ps)) L P k (some (ED as)) part (some (ED xs)) (some (ED bs)) more less thing least change lap apart free some' H
  obtain ⟨ρ', f1, f2⟩ := for_inv (f := fun r => execs (phi P85.prog 20) (.cons (.asg (.name 13) (.call 44 [0] (.cons (.mvar 1) (.cons (.var 3) (.cons (.var 9) (.cons (.call 27 [0] (.cons (.mvar 1) (.cons (.blt .len (.cons (.var 3) .nil)) .nil))) .nil)))))) (.cons (.ite (.not (.ofE (.call 41 [] (.cons (.call 22 [] (.cons (.var 3) (.cons (.var 7) (.cons (.var 10) (.cons (.var 13) .nil))))) (.cons (.call 40 [] (.cons (.var 3) (.cons (.var 7) (.cons (.var 10) (.cons (.var 13) .nil))))) .nil))))) (.cons (.ret (.bl false)) .nil) .nil) .nil)) r) (g := .name 16) I (rangeD 0 8) 0 _ ⟨H, thing, lap, hH, rfl⟩ fun t d ρ hd hI => by
    obtain ⟨H, thing, lap, o1, rfl⟩ := hI
    refine ⟨FL S (some (.bool wide)) (some (WD ps)) L P k (some (ED as)) part (some (ED xs)) (some (ED bs)) more less thing least change (some d) apart free some' H, ?_⟩
    have w : WB (phi P85.prog 20) (.cons (.asg (.name 13) (.call 44 [0] (.cons (.mvar 1) (.cons (.var 3) (.cons (.var 9) (.cons (.call 27 [0] (.cons (.mvar 1) (.cons (.blt .len (.cons (.var 3) .nil)) .nil))) .nil)))))) (.cons (.ite (.not (.ofE (.call 41 [] (.cons (.call 22 [] (.cons (.var 3) (.cons (.var 7) (.cons (.var 10) (.cons (.var 13) .nil))))) (.cons (.call 40 [] (.cons (.var 3) (.cons (.var 7) (.cons (.var 10) (.cons (.var 13) .nil))))) .nil))))) (.cons (.ret (.bl false)) .nil) .nil) .nil)) (FL S (some (.bool wide)) (some (WD ps)) L P k (some (ED as)) part (some (ED xs)) (some (ED bs)) more less thing least change (some d) apart free some' H) (fun fl ρ => fl = .nx ∧ I (0 + t + 1) ρ) := by
      refine wb_asgH (F := FL S (some (.bool wide)) (some (WD ps)) L P k (some (ED as)) part (some (ED xs)) (some (ED bs)) more less thing least change (some d) apart free some') (P := TB 600) (HV.hg (hv_callH (fun _ => rfl) (fun _ _ => rfl) (ha_cons <| hg_pv o1 (pv_var rfl) fun H1 o1 => ha_cons <| hg_pv o1 (pv_var rfl) fun H2 o2 => ha_cons <| HV.hg <| hv_take (by omega) o2 (fun _ => rfl) (fun _ _ => rfl) (len_W rfl) (by omega) fun r r1 r2 H3 o3 => ha_nil o3 fun H4 o4 => ?_))) (fun _ => Nat.le_of_ble_eq_true rfl) ?_
      · have hk : r.toNat < ps.length := by omega
        obtain ⟨r', outs, g1, d', H5, rfl, rfl, o5, hd'⟩ := r44 hl hx (by omega) hcb hk H4 o4 20 (by omega)
        rw [Int.toNat_of_nonneg r1] at g1
        refine ⟨d', H5, g1, o5, fun ys ey y hy zs ez => ?_⟩
        have := hd' ys ey y hy zs ez
        omega
      · intro d' H1 o1 hd'
        obtain ⟨b, g22, g40⟩ := both (q := 20) hp hl ha hb d' hd' (by omega)
        refine wb_cons (sx_ite (k := false) (yes (fun a b => r41 a b 20 (by omega)) (pv_call (pvs_cons (pv_var rfl).pd (pvs_cons (pv_var rfl).pd (pvs_cons (pv_var rfl).pd (pvs_cons (pv_var rfl).pd pvs_nil)))) g22) (pv_call (pvs_cons (pv_var rfl).pd (pvs_cons (pv_var rfl).pd (pvs_cons (pv_var rfl).pd (pvs_cons (pv_var rfl).pd pvs_nil)))) g40)) (fun z => nomatch z) (fun _ => bx_nil)) ?_
        exact wb_nil ⟨rfl, H1, some d', some d, o1, rfl⟩
    obtain ⟨fl, ρ2, w1, rfl, w3⟩ := w
    exact ⟨.nx, ρ2, rfl, w1, .inl rfl, w3⟩
  obtain ⟨H9, t9, l9, o9, rfl⟩ := f2
  exact wb_loop (pi_range1 pv_int (by decide)) f1 (wb_ret pv_bl ⟨_, _, rfl, (fun _ z => nomatch z), rfl, rfl, rfl⟩)
/-- two changes that are drawn -/
theorem lawD {as xs bs : List El} {L : Option D} {H : List Int} {k part more less thing least change lap apart free some' : Option D} {P : Option D} (hH : HOk H) (hp : ∀ p ∈ ps, POk p) (hl1 : 1 ≤ ps.length) (hl : ps.length ≤ 4) (ha : COk 200 ps as) (hb : COk 200 ps bs) (hx : COk 50 ps xs) (hcb : ∀ (i : Nat) p e, ps[i]? = some p → xs[i]? = some e → CB p e) :
    WB (phi P85.prog 20) (tln 16 P85.b46) (FL S (some (.bool wide)) (some (WD ps)) L P k (some (ED as)) part (some (ED xs)) (some (ED bs)) more less thing least change lap apart free some' H) Fin := by
  have hlim : lim = 100000 := rfl
  have hit : ∀ (i : Nat) d p, (ps.map pD)[i]? = some d → ps[i]? = some p → d = pD p := fun i d p h1 h2 => by
    rw [List.getElem?_map, h2] at h1
    exact (Option.some.inj h1).symm
  have hinj : ∀ (i j : Nat) d, (ps.map pD)[i]? = some d → (ps.map pD)[j]? = some d → ps[i]? = ps[j]? := fun i j d h1 h2 => by
    rw [List.getElem?_map] at h1 h2
    cases e1 : ps[i]? with
    | none => rw [e1] at h1; cases h1
    | some p =>
      cases e2 : ps[j]? with
      | none => rw [e2] at h2; cases h2
      | some p' =>
        rw [e1] at h1
        rw [e2] at h2
        rw [← Option.some.inj h1] at h2
        rw [pD_inj (Option.some.inj h2)]
  have hmemp : ∀ (i : Nat) p, ps[i]? = some p → POk p := fun i p h => hp p (List.mem_of_getElem? h)
  refine wb_asgH (F := FL S (some (.bool wide)) (some (WD ps)) L P k (some (ED as)) part (some (ED xs)) (some (ED bs)) more less thing least change lap apart free some') (P := fun d => ∃ es, d = ED es ∧ COk 50 ps es ∧ ∀ (i : Nat) p e, ps[i]? = some p → es[i]? = some e → CB p e) (HV.hg (drawn (ps := ps) (items := ps.map pD) (F0 := FL S (some (.bool wide)) (some (WD ps)) L P k (some (ED as)) none (some (ED xs)) (some (ED bs)) more less thing least change lap apart free some') (fun d => FL S (some (.bool wide)) (some (WD ps)) L P k (some (ED as)) (some d) (some (ED xs)) (some (ED bs)) more less thing least change lap apart free some') hH hp hl (fun _ => rfl) (fun _ _ => rfl) (pi_seq (pv_var rfl).pd rfl) (by rw [List.length_map]) (fun i d p h1 h2 H1 o1 => ?_) hinj)) (fun _ => Nat.le_of_ble_eq_true rfl) ?_
  · refine ⟨rfl, rfl, HV.hg (hv_callH (fun _ => rfl) (fun _ _ => rfl) (ha_cons <| hg_pv o1 (pv_var rfl) fun H2 o2 => ha_cons <| hg_pv o2 pv_int fun H3 o3 => ha_nil o3 fun H4 o4 => ?_))⟩
    rw [hit i d p h1 h2]
    obtain ⟨r, outs, g1, e, H5, rfl, rfl, o5, he, hc⟩ := r31 H4 o4 (hmemp i p h2) (L := 8) (by omega) 20 (by omega)
    exact ⟨eD e, H5, g1, o5, e, rfl, EOk.mono (by omega) he, hc⟩
  rintro _ H1 o1 ⟨fs, rfl, hf, hfc⟩
  show WB _ _ (FL S (some (.bool wide)) (some (WD ps)) L P k (some (ED as)) part (some (ED xs)) (some (ED bs)) more less thing least change lap apart (some (ED fs)) some' H1) _
  have hen : ∀ i, (enumD 0 (ps.map pD))[i]? = (ps[i]?).map fun p => PySem.PyData.tuple [.int (i : Nat), pD p] := fun i => by
    rw [enumD_eq, List.getElem?_map, List.length_map]
    by_cases hi : i < ps.length
    · rw [List.getElem?_range hi, List.getElem?_eq_getElem hi]
      simp only [Option.map_some]
      rw [Nat.zero_add, List.getD_eq_getElem?_getD, List.getElem?_map, List.getElem?_eq_getElem hi]
      rfl
    · rw [List.getElem?_eq_none (by rw [List.length_range]; omega), List.getElem?_eq_none (by omega)]
      rfl
  refine wb_asgH (F := FL S (some (.bool wide)) (some (WD ps)) L P k (some (ED as)) part (some (ED xs)) (some (ED bs)) more less thing least change lap apart (some (ED fs)) some') (P := fun d => ∃ es, d = ED es ∧ COk 50 ps es ∧ ∀ (i : Nat) p e, ps[i]? = some p → es[i]? = some e → CB p e) (HV.hg (drawn (ps := ps) (items := enumD 0 (ps.map pD)) (F0 := FL S (some (.bool wide)) (some (WD ps)) L P none (some (ED as)) none (some (ED xs)) (some (ED bs)) more less thing least change lap apart (some (ED fs)) some') (fun d => match d with
      | .tuple [a, b] => FL S (some (.bool wide)) (some (WD ps)) L P (some a) (some (ED as)) (some b) (some (ED xs)) (some (ED bs)) more less thing least change lap apart (some (ED fs)) some'
      | _ => FL S (some (.bool wide)) (some (WD ps)) L P none (some (ED as)) none (some (ED xs)) (some (ED bs)) more less thing least change lap apart (some (ED fs)) some') o1 hp hl (fun _ => rfl) (fun _ _ => rfl) (pi_enum (pv_var rfl).pd rfl) (by rw [enumD_eq, List.length_map, List.length_range, List.length_map]) (fun i d p h1 h2 H2 o2 => ?_) (fun i j d h1 h2 => ?_))) (fun _ => Nat.le_of_ble_eq_true rfl) ?_
  · rw [hen, h2] at h1
    cases h1
    refine ⟨rfl, rfl, HV.hg <| hv_ife <| ht_ofE <| HV.hg <| hv_cmp <| HV.hg <| hv_take (by omega) o2 (fun _ => rfl) (fun _ _ => rfl) pv_int (by decide) fun r r1 r2 H3 o3 => hg_pv o3 pv_int ⟨_, rfl, _, rfl, fun H4 o4 => ⟨fun _ => ?_, fun _ => ?_⟩⟩⟩
    · refine hv_callH (fun _ => rfl) (fun _ _ => rfl) (ha_cons <| hg_pv o4 (pv_var rfl) fun H2 o2 => ha_cons <| hg_pv o2 pv_int fun H3 o3 => ha_nil o3 fun H4 o4 => ?_)
      obtain ⟨r, outs, g1, e, H5, rfl, rfl, o5, he, hc⟩ := r31 H4 o4 (hmemp i p h2) (L := 8) (by omega) 20 (by omega)
      exact ⟨eD e, H5, g1, o5, e, rfl, EOk.mono (by omega) he, hc⟩
    · obtain ⟨p', e', e1, e2, _, ge⟩ := hf.ex (show i < ps.length from (List.getElem?_eq_some_iff.mp h2).1)
      rw [h2] at e1
      cases e1
      exact hv_pv o4 (pv_ix (pv_var rfl).pd (pv_var rfl) (ED_at e2)) ⟨e', rfl, ge, hfc i _ _ h2 e2⟩
  · rw [hen] at h1 h2
    cases e1 : ps[i]? with
    | none => rw [e1] at h1; cases h1
    | some p =>
      cases e2 : ps[j]? with
      | none => rw [e2] at h2; cases h2
      | some p' =>
        rw [e1] at h1
        rw [e2] at h2
        simp only [Option.map_some, Option.some.injEq] at h1 h2
        rw [← h1] at h2
        simp only [PySem.PyData.tuple.injEq, List.cons.injEq, PySem.PyData.int.injEq, and_true] at h2
        rw [pD_inj h2.2]
  rintro _ H2 o2 ⟨ss, rfl, hs, _⟩
  show WB _ _ (FL S (some (.bool wide)) (some (WD ps)) L P k (some (ED as)) part (some (ED xs)) (some (ED bs)) more less thing least change lap apart (some (ED fs)) (some (ED ss)) H2) _
  have g43 := r43 hp hl hf hs (by omega) 20 (by omega)
  refine wb_cons (sx_ite (k := false) (pt_not (k := true) (pt_b (pv_call (pvs_cons (pv_var rfl).pd (pvs_cons (pv_var rfl).pd (pvs_cons (pv_var rfl).pd pvs_nil))) g43))) (fun z => nomatch z) (fun _ => bx_nil)) ?_
  exact lawE o2 hp hl1 hl ha hb hx hcb
end
end M85
set_option Elab.async false
set_option linter.all false
set_option maxRecDepth 100000
set_option maxHeartbeats 2000000
/-! U85L: the law, whole. -/
namespace M85
open Vm
theorem spliceH {Φ : Fs} {F : List Int → Rho} {H : List Int} {iv ik : Nat} {es : List El} {k : Nat} {t : E} {P : El → Prop} (hv : ∀ H, (F H)[iv]? = some (some (ED es))) (hk : ∀ H, (F H)[ik]? = some (some (.int (k : Nat)))) (hkl : k < es.length) (hl : es.length ≤ 100) (hH : HOk H) (ht : ∀ H, HOk H → HV Φ t F H (fun d => ∃ e, d = eD e ∧ P e)) : HV Φ (.bin .add (.bin .add (.sl (.var iv) .none (.some (.var ik))) (.tup (.cons t .nil))) (.sl (.var iv) (.some (.bin .add (.var ik) (.int 1))) .none)) F H (fun d => ∃ e, d = ED (es.set k e) ∧ P e) := by
  have hlim : lim = 100000 := rfl
  have e0 : ∀ e, (es.set k e).map eD = ((es.map eD).take k ++ [eD e]) ++ (es.map eD).drop (k + 1) := fun e => by
    rw [List.map_set, List.set_eq_take_append_cons_drop, if_pos (by rw [List.length_map]; exact hkl), List.append_assoc]
    rfl
  have s1 : ∀ H, PV Φ (.sl (.var iv) .none (.some (.var ik))) (F H) (.tuple ((es.map eD).take k)) := fun H => by
    refine pd_sl (pv_var (hv H)).pd pob_none (pob_some (pv_var (hk H))) ?_
    show some (R.val (.tuple (cutL (es.map eD) none (some ((k : Nat) : Int))))) = _
    rw [cut_take _ _ (by rw [List.length_map]; omega)]
  have s2 : ∀ H, PV Φ (.sl (.var iv) (.some (.bin .add (.var ik) (.int 1))) .none) (F H) (.tuple ((es.map eD).drop (k + 1))) := fun H => by
    refine pd_sl (pv_var (hv H)).pd (pob_some (pv_bin (pv_var (hk H)).pd pv_int.pd rfl)) pob_none ?_
    show some (R.val (.tuple (cutL (es.map eD) (some ((k : Nat) + 1)) none))) = _
    have := cut_drop (es.map eD) (k + 1) (by rw [List.length_map]; omega)
    rw [show ((k + 1 : Nat) : Int) = (k : Nat) + 1 by omega] at this
    rw [this]
  refine hv_bin <| HV.hg <| hv_bin <| hg_pv hH (s1 H) fun H1 o1 => HV.hg <| hv_tup <| ha_cons <| HG.mono (ht H1 o1).hg ?_
  rintro d ⟨e, rfl, pe⟩ H2 o2
  refine ha_nil o2 ⟨Nat.le_of_ble_eq_true rfl, _, tup_add _ _ (by simp only [List.length_take, List.length_map, List.length_cons, List.length_nil]; omega), fun H3 o3 => hg_pv o3 (s2 H3) ⟨_, tup_add _ _ (by simp only [List.length_append, List.length_take, List.length_drop, List.length_map, List.length_cons, List.length_nil]; omega), e, ?_, pe⟩⟩
  unfold ED
  rw [e0]
section
variable {S : D} {wide : Bool} {ps : List Part}
/-- changes beside, twice -/
theorem lawC {as xs bs : List El} {Ln : Nat} {H : List Int} {k part more less thing least change lap apart free some' : Option D} {P : Option D} (hH : HOk H) (hp : ∀ p ∈ ps, POk p) (hl1 : 1 ≤ ps.length) (hl : ps.length ≤ 4) (hL : Ln ≤ 50) (ha : COk 50 ps as) (hb : COk 150 ps bs) (hx : COk 50 ps xs) (hcb : ∀ (i : Nat) p e, ps[i]? = some p → xs[i]? = some e → CB p e) :
    WB (phi P85.prog 20) (tln 15 P85.b46) (FL S (some (.bool wide)) (some (WD ps)) (some (.int (Ln : Nat))) P k (some (ED as)) part (some (ED xs)) (some (ED bs)) more less thing least change lap apart free some' H) Fin := by
  have hlim : lim = 100000 := rfl
  have ha2 : COk 200 ps as := COk.mono (by omega) ha
  have hb2 : COk 200 ps bs := COk.mono (by omega) hb
  have hx2 : COk 200 ps xs := COk.mono (by omega) hx
  let I : Nat → Rho → Prop := fun _ ρ => ∃ (H : List Int) (k thing lap apart : Option D), HOk H ∧ ρ = FL S (some (.bool wide)) (some (WD ps)) (some (.int (Ln : Nat))) P k (some (ED as)) part (some (ED xs)) (some (ED bs)) more less thing least change lap apart free some' H
  obtain ⟨ρ', f1, f2⟩ := for_inv (f := fun r => execs (phi P85.prog 20) (.cons (.asg (.name 6) (.call 27 [0] (.cons (.mvar 1) (.cons (.blt .len (.cons (.var 3) .nil)) .nil)))) (.cons (.asg (.name 17) (.bin .add (.bin .add (.sl (.var 10) .none (.some (.var 6))) (.tup (.cons (.call 42 [] (.cons (.ix (.var 3) (.var 6)) (.cons (.ix (.var 10) (.var 6)) .nil))) .nil))) (.sl (.var 10) (.some (.bin .add (.var 6) (.int 1))) .none))) (.cons (.ite (.not (.ofE (.call 43 [] (.cons (.var 3) (.cons (.var 7) (.cons (.var 17) .nil)))))) (.cons (.ret (.bl false)) .nil) .nil) (.cons (.asg (.name 13) (.bin .add (.bin .add (.sl (.var 9) .none (.some (.var 6))) (.tup (.cons (.call 31 [0] (.cons (.mvar 1) (.cons (.ix (.var 3) (.var 6)) (.cons (.var 4) .nil)))) .nil))) (.sl (.var 9) (.some (.bin .add (.var 6) (.int 1))) .none))) (.cons (.ite (.not (.ofE (.call 41 [] (.cons (.callk 22 [1, 2, 3, 0] (.cons (.var 13) (.cons (.var 3) (.cons (.var 7) (.cons (.var 10) .nil))))) (.cons (.call 40 [] (.cons (.var 3) (.cons (.var 7) (.cons (.var 10) (.cons (.var 13) .nil))))) .nil))))) (.cons (.ret (.bl false)) .nil) .nil) (.cons (.ite (.not (.ofE (.call 41 [] (.cons (.call 22 [] (.cons (.var 3) (.cons (.var 7) (.cons (.var 17) (.cons (.var 9) .nil))))) (.cons (.call 40 [] (.cons (.var 3) (.cons (.var 7) (.cons (.var 17) (.cons (.var 9) .nil))))) .nil))))) (.cons (.ret (.bl false)) .nil) .nil) .nil)))))) r) (g := .name 16) I (rangeD 0 2) 0 _ ⟨H, k, thing, lap, apart, hH, rfl⟩ fun t d ρ hd hI => by
    obtain ⟨H, k, thing, lap, apart, o1, rfl⟩ := hI
    refine ⟨FL S (some (.bool wide)) (some (WD ps)) (some (.int (Ln : Nat))) P k (some (ED as)) part (some (ED xs)) (some (ED bs)) more less thing least change (some d) apart free some' H, ?_⟩
    have w : WB (phi P85.prog 20) (.cons (.asg (.name 6) (.call 27 [0] (.cons (.mvar 1) (.cons (.blt .len (.cons (.var 3) .nil)) .nil)))) (.cons (.asg (.name 17) (.bin .add (.bin .add (.sl (.var 10) .none (.some (.var 6))) (.tup (.cons (.call 42 [] (.cons (.ix (.var 3) (.var 6)) (.cons (.ix (.var 10) (.var 6)) .nil))) .nil))) (.sl (.var 10) (.some (.bin .add (.var 6) (.int 1))) .none))) (.cons (.ite (.not (.ofE (.call 43 [] (.cons (.var 3) (.cons (.var 7) (.cons (.var 17) .nil)))))) (.cons (.ret (.bl false)) .nil) .nil) (.cons (.asg (.name 13) (.bin .add (.bin .add (.sl (.var 9) .none (.some (.var 6))) (.tup (.cons (.call 31 [0] (.cons (.mvar 1) (.cons (.ix (.var 3) (.var 6)) (.cons (.var 4) .nil)))) .nil))) (.sl (.var 9) (.some (.bin .add (.var 6) (.int 1))) .none))) (.cons (.ite (.not (.ofE (.call 41 [] (.cons (.callk 22 [1, 2, 3, 0] (.cons (.var 13) (.cons (.var 3) (.cons (.var 7) (.cons (.var 10) .nil))))) (.cons (.call 40 [] (.cons (.var 3) (.cons (.var 7) (.cons (.var 10) (.cons (.var 13) .nil))))) .nil))))) (.cons (.ret (.bl false)) .nil) .nil) (.cons (.ite (.not (.ofE (.call 41 [] (.cons (.call 22 [] (.cons (.var 3) (.cons (.var 7) (.cons (.var 17) (.cons (.var 9) .nil))))) (.cons (.call 40 [] (.cons (.var 3) (.cons (.var 7) (.cons (.var 17) (.cons (.var 9) .nil))))) .nil))))) (.cons (.ret (.bl false)) .nil) .nil) .nil)))))) (FL S (some (.bool wide)) (some (WD ps)) (some (.int (Ln : Nat))) P k (some (ED as)) part (some (ED xs)) (some (ED bs)) more less thing least change (some d) apart free some' H) (fun fl ρ => fl = .nx ∧ I (0 + t + 1) ρ) := by
      refine wb_asgH (F := FL S (some (.bool wide)) (some (WD ps)) (some (.int (Ln : Nat))) P k (some (ED as)) part (some (ED xs)) (some (ED bs)) more less thing least change (some d) apart free some') (P := fun x => ∃ i : Nat, x = .int (i : Nat) ∧ i < ps.length) (HV.hg (hv_take (by omega) o1 (fun _ => rfl) (fun _ _ => rfl) (len_W rfl) (by omega) fun r r1 r2 => ⟨r.toNat, by rw [Int.toNat_of_nonneg r1], by omega⟩)) (fun _ => Nat.le_of_ble_eq_true rfl) ?_
      rintro _ H1 o1 ⟨i, rfl, hi⟩
      obtain ⟨p, b, e1, e2, gp, gb⟩ := hb.ex hi
      obtain ⟨b', g42, hb'⟩ := r42 gp gb
      have hap : COk 200 ps (bs.set i b') := COk.set hb2 e1 (EOk.mono (by omega) hb')
      refine wb_cons (ρ1 := FL S (some (.bool wide)) (some (WD ps)) (some (.int (Ln : Nat))) P (some (.int (i : Nat))) (some (ED as)) part (some (ED xs)) (some (ED bs)) more less thing least change (some d) (some (ED (bs.set i b'))) free some' H1) (sx_asg (i := 17) (PV.pd (splice (k := i) rfl rfl (by rw [hb.len]; exact hi) (by rw [hb.len]; omega) (pv_call (pvs_cons (PV.pd (pv_ix (pv_var rfl).pd (pv_var rfl) (WD_at e1))) (pvs_cons (PV.pd (pv_ix (pv_var rfl).pd (pv_var rfl) (ED_at e2))) pvs_nil)) (g42 20 (by omega))))) (Nat.le_of_ble_eq_true rfl)) ?_
      refine wb_cons (sx_ite (k := false) (pt_not (k := true) (pt_b (pv_call (pvs_cons (pv_var rfl).pd (pvs_cons (pv_var rfl).pd (pvs_cons (pv_var rfl).pd pvs_nil))) (r43 hp hl ha2 hap (by omega) 20 (by omega))))) (fun z => nomatch z) (fun _ => bx_nil)) ?_
      refine wb_asgH (F := FL S (some (.bool wide)) (some (WD ps)) (some (.int (Ln : Nat))) P (some (.int (i : Nat))) (some (ED as)) part (some (ED xs)) (some (ED bs)) more less thing least change (some d) (some (ED (bs.set i b'))) free some') (P := fun x => ∃ e, x = ED (xs.set i e) ∧ EOk Ln p e) (HV.hg (spliceH (P := fun e => EOk Ln p e) (fun _ => rfl) (fun _ => rfl) (by rw [hx.len]; exact hi) (by rw [hx.len]; omega) o1 fun H2 o2 => hv_callH (fun _ => rfl) (fun _ _ => rfl) (ha_cons <| hg_pv o2 (pv_ix (pv_var rfl).pd (pv_var rfl) (WD_at e1)) fun H3 o3 => ha_cons <| hg_pv o3 (pv_var rfl) fun H4 o4 => ha_nil o4 fun H5 o5 => ?_))) (fun _ => Nat.le_of_ble_eq_true rfl) ?_
      · obtain ⟨r, outs, g1, e, H6, rfl, rfl, o6, he, _⟩ := r31 H5 o5 gp (L := Ln) (by omega) 20 (by omega)
        exact ⟨eD e, H6, g1, o6, e, rfl, he⟩
      rintro _ H2 o2 ⟨e, rfl, he⟩
      have hth : COk 200 ps (xs.set i e) := COk.set hx2 e1 (EOk.mono (by omega) he)
      obtain ⟨k1, g22, g40⟩ := both (q := 20) hp hl ha2 hb2 (ED (xs.set i e)) (ED_TB hth (by omega)) (by omega)
      refine wb_cons (sx_ite (k := false) (yes (fun a b => r41 a b 20 (by omega)) (pv_callk (pvs_cons (pv_var rfl).pd (pvs_cons (pv_var rfl).pd (pvs_cons (pv_var rfl).pd (pvs_cons (pv_var rfl).pd pvs_nil)))) rfl g22) (pv_call (pvs_cons (pv_var rfl).pd (pvs_cons (pv_var rfl).pd (pvs_cons (pv_var rfl).pd (pvs_cons (pv_var rfl).pd pvs_nil)))) g40)) (fun z => nomatch z) (fun _ => bx_nil)) ?_
      obtain ⟨k2, g22', g40'⟩ := both (q := 20) hp hl ha2 hap (ED xs) (ED_TB hx (by omega)) (by omega)
      refine wb_cons (sx_ite (k := false) (yes (fun a b => r41 a b 20 (by omega)) (pv_call (pvs_cons (pv_var rfl).pd (pvs_cons (pv_var rfl).pd (pvs_cons (pv_var rfl).pd (pvs_cons (pv_var rfl).pd pvs_nil)))) g22') (pv_call (pvs_cons (pv_var rfl).pd (pvs_cons (pv_var rfl).pd (pvs_cons (pv_var rfl).pd (pvs_cons (pv_var rfl).pd pvs_nil)))) g40')) (fun z => nomatch z) (fun _ => bx_nil)) ?_
      exact wb_nil ⟨rfl, H2, some (.int (i : Nat)), some (ED (xs.set i e)), some d, some (ED (bs.set i b')), o2, rfl⟩
    obtain ⟨fl, ρ2, w1, rfl, w3⟩ := w
    exact ⟨.nx, ρ2, rfl, w1, .inl rfl, w3⟩
  obtain ⟨H9, k9, t9, l9, a9, o9, rfl⟩ := f2
  exact wb_loop (pi_range1 pv_int (by decide)) f1 (lawD o9 hp hl1 hl ha2 hb2 hx hcb)
end
end M85
set_option Elab.async false
set_option linter.all false
set_option maxRecDepth 100000
set_option maxHeartbeats 2000000
/-! U85M: the law, from its beginning. -/
namespace M85
open Vm
theorem turnC_at : ∀ {ps : List Part} {as bs : List El} {i : Nat} {p : Part} {a b : El}, ps[i]? = some p → as[i]? = some a → bs[i]? = some b → (turnC ps as bs)[i]? = some (turnE p a b)
  | p :: ps, a :: as, b :: bs, 0, _, _, _, h1, h2, h3 => by
    simp at h1 h2 h3
    subst h1 h2 h3
    rfl
  | p :: ps, a :: as, b :: bs, i + 1, _, _, _, h1, h2, h3 => by
    simp only [List.getElem?_cons_succ] at h1 h2 h3
    simpa [turnC] using turnC_at h1 h2 h3
  | [], _, _, _, _, _, _, h1, _, _ => by simp at h1
  | _ :: _, [], _, _, _, _, _, _, h2, _ => by simp at h2
  | _ :: _, _ :: _, [], _, _, _, _, _, _, h3 => by simp at h3
theorem backC_at : ∀ {ps : List Part} {as : List El} {i : Nat} {p : Part} {a : El}, ps[i]? = some p → as[i]? = some a → (backC ps as)[i]? = some (backE p a)
  | p :: ps, a :: as, 0, _, _, h1, h2 => by
    simp at h1 h2
    subst h1 h2
    rfl
  | p :: ps, a :: as, i + 1, _, _, h1, h2 => by
    simp only [List.getElem?_cons_succ] at h1 h2
    simpa [backC] using backC_at h1 h2
  | [], _, _, _, _, h1, _ => by simp at h1
  | _ :: _, [], _, _, _, _, h2 => by simp at h2
section
variable {S : D} {wide : Bool} {ps : List Part}
theorem lawB {H : List Int} (hH : HOk H) (hp : ∀ p ∈ ps, POk p) (hl1 : 1 ≤ ps.length) (hl : ps.length ≤ 4) :
    WB (phi P85.prog 20) (tln 4 P85.b46) (FL S (some (.bool wide)) (some (WD ps)) none none none none none none none none none none none none none none none none H) Fin := by
  have hlim : lim = 100000 := rfl
  obtain ⟨Ln, hL, eL⟩ : ∃ Ln : Nat, Ln ≤ 50 ∧ (if wide then PySem.PyData.int 50 else .int 8) = .int (Ln : Nat) := by
    cases wide
    · exact ⟨8, by decide, rfl⟩
    · exact ⟨50, by decide, rfl⟩
  refine wb_cons (ρ1 := FL S (some (.bool wide)) (some (WD ps)) (some (.int (Ln : Nat))) none none none none none none none none none none none none none none none H) (sx_asg (i := 4) (PV.pd (d := .int (Ln : Nat)) (by
    rw [← eL]
    exact pv_ife (pt_b (pv_var rfl)) (fun _ => pv_int) (fun _ => pv_int))) (Nat.le_of_ble_eq_true rfl)) ?_
  have hparts : PO (phi P85.prog 20) (.lc [6] (.name 6) (.range (.cons (.blt .len (.cons (.var 3) .nil)) .nil)) .yes (.var 6)) (FL S (some (.bool wide)) (some (WD ps)) (some (.int (Ln : Nat))) none none none none none none none none none none none none none none none H) (.list (kL (List.range ps.length))) := by
    refine po_lcI (range_W rfl (by omega)) _ (by rw [kL_len, List.length_range, rangeD_len]) (by rw [rangeD_len]; omega) rfl fun i d x hd hx => ?_
    obtain ⟨hi, rfl⟩ := rangeD_at hd
    obtain ⟨_, rfl⟩ := kL_range_at hx
    exact ⟨FL S (some (.bool wide)) (some (WD ps)) (some (.int (Ln : Nat))) none (some (.int (i : Nat))) none none none none none none none none none none none none none H, rfl, rfl, pt_yes, (pv_var rfl).pd⟩
  let PL : Option D := some (.list (kL (List.range ps.length)))
  refine wb_cons (ρ1 := FL S (some (.bool wide)) (some (WD ps)) (some (.int (Ln : Nat))) PL none none none none none none none none none none none none none none H) (sx_asg (i := 5) hparts.pd (Nat.le_of_ble_eq_true rfl)) ?_
  have hmemp : ∀ (i : Nat) p, ps[i]? = some p → POk p := fun i p h => hp p (List.mem_of_getElem? h)
  -- one
  refine wb_asgH (F := FL S (some (.bool wide)) (some (WD ps)) (some (.int (Ln : Nat))) PL none none none none none none none none none none none none none none) (P := fun d => ∃ es, d = ED es ∧ COk 50 ps es ∧ ∀ (i : Nat) p e, ps[i]? = some p → es[i]? = some e → CB p e) (HV.hg (drawn (ps := ps) (items := ps.map pD) (F0 := FL S (some (.bool wide)) (some (WD ps)) (some (.int (Ln : Nat))) PL none none none none none none none none none none none none none none) (fun d => FL S (some (.bool wide)) (some (WD ps)) (some (.int (Ln : Nat))) PL none none (some d) none none none none none none none none none none none) hH hp hl (fun _ => rfl) (fun _ _ => rfl) (pi_seq (pv_var rfl).pd rfl) (by rw [List.length_map]) (fun i d p h1 h2 H1 o1 => ?_) (fun i j d h1 h2 => ?_))) (fun _ => Nat.le_of_ble_eq_true rfl) ?_
  · rw [List.getElem?_map, h2] at h1
    cases h1
    refine ⟨rfl, rfl, HV.hg (hv_callH (fun _ => rfl) (fun _ _ => rfl) (ha_cons <| hg_pv o1 (pv_var rfl) fun H2 o2 => ha_cons <| hg_pv o2 (pv_var rfl) fun H3 o3 => ha_nil o3 fun H4 o4 => ?_))⟩
    obtain ⟨r, outs, g1, e, H5, rfl, rfl, o5, he, hc⟩ := r31 H4 o4 (hmemp i p h2) (L := Ln) (by omega) 20 (by omega)
    exact ⟨eD e, H5, g1, o5, e, rfl, EOk.mono (by omega) he, hc⟩
  · rw [List.getElem?_map] at h1 h2
    cases e1 : ps[i]? with
    | none => rw [e1] at h1; cases h1
    | some p =>
      cases e2 : ps[j]? with
      | none => rw [e2] at h2; cases h2
      | some p' =>
        rw [e1] at h1
        rw [e2] at h2
        rw [← Option.some.inj h1] at h2
        rw [pD_inj (Option.some.inj h2)]
  rintro _ H1 o1 ⟨as, rfl, ha, hac⟩
  show WB _ _ (FL S (some (.bool wide)) (some (WD ps)) (some (.int (Ln : Nat))) PL none (some (ED as)) none none none none none none none none none none none none H1) _
  -- x
  refine wb_asgH (F := FL S (some (.bool wide)) (some (WD ps)) (some (.int (Ln : Nat))) PL none (some (ED as)) none none none none none none none none none none none none) (P := fun d => ∃ es, d = ED es ∧ COk 50 ps es ∧ ∀ (i : Nat) p e, ps[i]? = some p → es[i]? = some e → CB p e) (HV.hg (drawn (ps := ps) (items := kL (List.range ps.length)) (F0 := FL S (some (.bool wide)) (some (WD ps)) (some (.int (Ln : Nat))) PL none (some (ED as)) none none none none none none none none none none none none) (fun d => FL S (some (.bool wide)) (some (WD ps)) (some (.int (Ln : Nat))) PL (some d) (some (ED as)) none none none none none none none none none none none none) o1 hp hl (fun _ => rfl) (fun _ _ => rfl) (pi_seq (pv_var rfl).pd rfl) (by rw [kL_len, List.length_range]) (fun i d p h1 h2 H1 o1 => ?_) (fun i j d h1 h2 => ?_))) (fun _ => Nat.le_of_ble_eq_true rfl) ?_
  · obtain ⟨hi, rfl⟩ := kL_range_at h1
    obtain ⟨p', a, e1, e2, gp, ga⟩ := ha.ex hi
    rw [h2] at e1
    cases e1
    refine ⟨rfl, rfl, HV.hg (hv_callH (fun _ => rfl) (fun _ _ => rfl) (ha_cons <| hg_pv o1 (pv_ix (pv_var rfl).pd (pv_var rfl) (WD_at h2)) fun H2 o2 => ha_cons <| hg_pv o2 (pv_ix (pv_var rfl).pd (pv_var rfl) (ED_at e2)) fun H3 o3 => ha_cons <| hg_pv o3 (pv_var rfl) fun H3 o3 => ha_nil o3 fun H4 o4 => ?_))⟩
    have h31 : ∀ H, HOk H → ∃ r outs, phi P85.prog 20 32 [hD H, pD p, eD a, .int (Ln : Nat)] = some (r, outs) ∧ ∃ e' H', r = .val (eD e') ∧ outs = [hD H'] ∧ HOk H' ∧ EOk 50 p e' ∧ CB p e' := fun H hH => by
      exact r32 H hH gp (L := Ln) (B := 50) hL (by omega) ga 20 (by omega)
    obtain ⟨r, outs, g1, e, H5, rfl, rfl, o5, he, hc⟩ := h31 H4 o4
    exact ⟨eD e, H5, g1, o5, e, rfl, he, hc⟩
  · obtain ⟨_, rfl⟩ := kL_range_at h1
    obtain ⟨_, e⟩ := kL_range_at h2
    have e := PySem.PyData.int.inj e
    rw [show i = j by omega]
  rintro _ H2 o2 ⟨xs, rfl, hx, hxc⟩
  show WB _ _ (FL S (some (.bool wide)) (some (WD ps)) (some (.int (Ln : Nat))) PL none (some (ED as)) none (some (ED xs)) none none none none none none none none none none H2) _
  obtain ⟨t1, t2, t3, t4, t5, t6⟩ := turnC_all ha hx
  have hb : COk 150 ps (turnC ps as xs) := COk.mono (by omega) t1
  have ha2 : COk 200 ps as := COk.mono (by omega) ha
  have hb2 : COk 200 ps (turnC ps as xs) := COk.mono (by omega) hb
  have hx2 : COk 200 ps xs := COk.mono (by omega) hx
  have hm : COk 100 ps (mulC ps as xs) := mulC_ok ha hx
  have hm2 : COk 200 ps (mulC ps as xs) := COk.mono (by omega) hm
  have hs : COk 100 ps (mulC ps (backC ps as) xs) := mulC_ok t6 hx
  have hs2 : COk 200 ps (mulC ps (backC ps as) xs) := COk.mono (by omega) hs
  have hc2 : COk 50 ps (clsC ps as) := clsC_ok ha
  -- what stands at i
  have atI : ∀ {outs : List El}, (∀ i, outs[i]? ≠ none → i < ps.length) → ∀ (i : Nat) o, (outs.map eD)[i]? = some o → i < ps.length ∧ ∃ e, outs[i]? = some e ∧ o = eD e := fun hlo i o h => by
    rw [List.getElem?_map] at h
    cases e : (_ : List El)[i]? with
    | none => rw [e] at h; cases h
    | some x =>
      rw [e] at h
      cases h
      exact ⟨hlo i (by rw [e]; exact fun z => nomatch z), x, rfl, rfl⟩
  have lt_of : ∀ {outs : List El}, outs.length = ps.length → ∀ i, outs[i]? ≠ none → i < ps.length := fun hlo i h => by
    apply Classical.byContradiction
    intro hn
    exact h (List.getElem?_eq_none (by omega))
  -- other
  refine wb_cons (ρ1 := FL S (some (.bool wide)) (some (WD ps)) (some (.int (Ln : Nat))) PL none (some (ED as)) none (some (ED xs)) (some (ED (turnC ps as xs))) none none none none none none none none none H2) (sx_asg (i := 10) (PV.pd (lcK (n := ps.length) rfl (by rw [List.length_map, t1.len]) (by omega) rfl (Nat.le_of_ble_eq_true rfl) (fun _ => rfl) fun i o ho => ?_)) (Nat.le_of_ble_eq_true rfl)) ?_
  · obtain ⟨hi, e, e1, rfl⟩ := atI (lt_of t1.len) i o ho
    obtain ⟨p, a, q1, q2, gp, ga⟩ := ha.ex hi
    obtain ⟨p', x, q1', q3, _, gx⟩ := hx.ex hi
    rw [q1] at q1'
    cases q1'
    rw [turnC_at q1 q2 q3] at e1
    cases e1
    exact PV.pd (pv_call (pvs_cons (PV.pd (pv_ix (pv_var rfl).pd (pv_var rfl) (WD_at q1))) (pvs_cons (PV.pd (pv_ix (pv_var rfl).pd (pv_var rfl) (ED_at q2))) (pvs_cons (PV.pd (pv_ix (pv_var rfl).pd (pv_var rfl) (ED_at q3))) pvs_nil))) (r35 gp ga gx (by omega) 20 (by omega)))
  -- is it one
  have g22 := right (q := 20) hp hl ha2 hb2 hx2 t2 (by omega)
  have g43 := r43 hp hl ha2 hb2 (by omega) 20 (by omega)
  refine wb_cons (sx_ite (k := false) (pt_or (k := false) (l := false) (yes (fun a b => r41 a b 20 (by omega)) (pv_call (pvs_cons (pv_var rfl).pd (pvs_cons (pv_var rfl).pd (pvs_cons (pv_var rfl).pd (pvs_cons (pv_var rfl).pd pvs_nil)))) g22) pv_bl) fun _ => pt_not (k := true) (pt_b (pv_call (pvs_cons (pv_var rfl).pd (pvs_cons (pv_var rfl).pd (pvs_cons (pv_var rfl).pd pvs_nil))) g43))) (fun z => nomatch z) (fun _ => bx_nil)) ?_
  -- more
  refine wb_cons (ρ1 := FL S (some (.bool wide)) (some (WD ps)) (some (.int (Ln : Nat))) PL none (some (ED as)) none (some (ED xs)) (some (ED (turnC ps as xs))) (some (ED (mulC ps as xs))) none none none none none none none none H2) (sx_asg (i := 11) (PV.pd (lcK (n := ps.length) rfl (by rw [List.length_map, hm.len]) (by omega) rfl (Nat.le_of_ble_eq_true rfl) (fun _ => rfl) fun i o ho => ?_)) (Nat.le_of_ble_eq_true rfl)) ?_
  · obtain ⟨hi, e, e1, rfl⟩ := atI (lt_of hm.len) i o ho
    obtain ⟨p, a, q1, q2, gp, ga⟩ := ha.ex hi
    obtain ⟨p', x, q1', q3, _, gx⟩ := hx.ex hi
    rw [q1] at q1'
    cases q1'
    rw [mulC_at q1 q2 q3] at e1
    cases e1
    exact PV.pd (pv_call (pvs_cons (PV.pd (pv_ix (pv_var rfl).pd (pv_var rfl) (WD_at q1))) (pvs_cons (PV.pd (pv_ix (pv_var rfl).pd (pv_var rfl) (ED_at q2))) (pvs_cons (PV.pd (pv_ix (pv_var rfl).pd (pv_var rfl) (ED_at q3))) pvs_nil))) (r33 gp ga gx (by omega) 20 (by omega)))
  -- less
  refine wb_cons (ρ1 := FL S (some (.bool wide)) (some (WD ps)) (some (.int (Ln : Nat))) PL none (some (ED as)) none (some (ED xs)) (some (ED (turnC ps as xs))) (some (ED (mulC ps as xs))) (some (ED (mulC ps (backC ps as) xs))) none none none none none none none H2) (sx_asg (i := 12) (PV.pd (lcK (n := ps.length) rfl (by rw [List.length_map, hs.len]) (by omega) rfl (Nat.le_of_ble_eq_true rfl) (fun _ => rfl) fun i o ho => ?_)) (Nat.le_of_ble_eq_true rfl)) ?_
  · obtain ⟨hi, e, e1, rfl⟩ := atI (lt_of hs.len) i o ho
    obtain ⟨p, a, q1, q2, gp, ga⟩ := ha.ex hi
    obtain ⟨p', x, q1', q3, _, gx⟩ := hx.ex hi
    rw [q1] at q1'
    cases q1'
    rw [mulC_at q1 (backC_at q1 q2) q3] at e1
    cases e1
    exact PV.pd (pv_call (pvs_cons (PV.pd (pv_ix (pv_var rfl).pd (pv_var rfl) (WD_at q1))) (pvs_cons (PV.pd (pv_call (pvs_cons (PV.pd (pv_ix (pv_var rfl).pd (pv_var rfl) (WD_at q1))) (pvs_cons (PV.pd (pv_ix (pv_var rfl).pd (pv_var rfl) (ED_at q2))) pvs_nil)) (r34 gp ga (by omega) 20 (by omega)))) (pvs_cons (PV.pd (pv_ix (pv_var rfl).pd (pv_var rfl) (ED_at q3))) pvs_nil))) (r33 gp (back_ok gp ga) gx (by omega) 20 (by omega)))
  -- both are turners
  have gm := right (q := 20) hp hl ha2 hb2 hm2 t3 (by omega)
  have gs := right (q := 20) hp hl ha2 hb2 hs2 t4 (by omega)
  let I : Nat → Rho → Prop := fun _ ρ => ∃ thing, ρ = FL S (some (.bool wide)) (some (WD ps)) (some (.int (Ln : Nat))) PL none (some (ED as)) none (some (ED xs)) (some (ED (turnC ps as xs))) (some (ED (mulC ps as xs))) (some (ED (mulC ps (backC ps as) xs))) thing none none none none none none H2
  obtain ⟨ρ1, f1, th, rfl⟩ := for_inv (f := fun r => execs (phi P85.prog 20) (.cons (.ite (.not (.ofE (.call 41 [] (.cons (.call 22 [] (.cons (.var 3) (.cons (.var 7) (.cons (.var 10) (.cons (.var 13) .nil))))) (.cons (.bl true) .nil))))) (.cons (.ret (.bl false)) .nil) .nil) .nil) r) (g := .name 13) I [ED (mulC ps as xs), ED (mulC ps (backC ps as) xs)] 0 _ ⟨none, rfl⟩ fun t d ρ hd hI => by
    obtain ⟨th, rfl⟩ := hI
    refine ⟨FL S (some (.bool wide)) (some (WD ps)) (some (.int (Ln : Nat))) PL none (some (ED as)) none (some (ED xs)) (some (ED (turnC ps as xs))) (some (ED (mulC ps as xs))) (some (ED (mulC ps (backC ps as) xs))) (some d) none none none none none none H2, .nx, _, rfl, bx_cons (sx_ite (k := false) (yes (k := true) (fun a b => r41 a b 20 (by omega)) (pv_call (pvs_cons (pv_var rfl).pd (pvs_cons (pv_var rfl).pd (pvs_cons (pv_var rfl).pd (pvs_cons (pv_var rfl).pd pvs_nil)))) ?_) pv_bl) (fun z => nomatch z) (fun _ => bx_nil)) bx_nil, .inl rfl, ⟨some d, rfl⟩⟩
    match t, hd with
    | 0, hd => cases hd; exact gm
    | 1, hd => cases hd; exact gs
    | t + 2, hd => cases hd
  refine wb_loop (ρ1 := FL S (some (.bool wide)) (some (WD ps)) (some (.int (Ln : Nat))) PL none (some (ED as)) none (some (ED xs)) (some (ED (turnC ps as xs))) (some (ED (mulC ps as xs))) (some (ED (mulC ps (backC ps as) xs))) th none none none none none none H2) (pi_seq (PO.pd (po_lst (pvs_cons (pv_var rfl).pd (pvs_cons (pv_var rfl).pd pvs_nil)) (Nat.le_of_ble_eq_true rfl))) rfl) f1 ?_
  -- the least
  refine wb_cons (ρ1 := FL S (some (.bool wide)) (some (WD ps)) (some (.int (Ln : Nat))) PL none (some (ED as)) none (some (ED xs)) (some (ED (turnC ps as xs))) (some (ED (mulC ps as xs))) (some (ED (mulC ps (backC ps as) xs))) th (some (ED (clsC ps as))) none none none none none H2) (sx_asg (i := 14) (PV.pd (lcK (n := ps.length) rfl (by rw [List.length_map, hc2.len]) (by omega) rfl (Nat.le_of_ble_eq_true rfl) (fun _ => rfl) fun i o ho => ?_)) (Nat.le_of_ble_eq_true rfl)) ?_
  · obtain ⟨hi, e, e1, rfl⟩ := atI (lt_of hc2.len) i o ho
    obtain ⟨p, a, q1, q2, gp, ga⟩ := ha.ex hi
    rw [clsC_at q1 q2] at e1
    cases e1
    exact PV.pd (pv_call (pvs_cons (PV.pd (pv_ix (pv_var rfl).pd (pv_var rfl) (WD_at q1))) (pvs_cons (PV.pd (pv_ix (pv_var rfl).pd (pv_var rfl) (ED_at q2))) pvs_nil)) (r38 gp ga (by omega) 20 (by omega)))
  let I2 : Nat → Rho → Prop := fun _ ρ => ∃ change, ρ = FL S (some (.bool wide)) (some (WD ps)) (some (.int (Ln : Nat))) PL none (some (ED as)) none (some (ED xs)) (some (ED (turnC ps as xs))) (some (ED (mulC ps as xs))) (some (ED (mulC ps (backC ps as) xs))) th (some (ED (clsC ps as))) change none none none none H2
  have g25 : ∀ (t : Nat) d, [ED as, ED (turnC ps as xs), ED (clsC ps as)][t]? = some d → phi P85.prog 20 25 [WD ps, d] = some (.val (ED (clsC ps as)), []) := fun t d hd => by
    match t, hd with
    | 0, hd => cases hd; exact r25 ha (by omega) (by omega) 20 (by omega)
    | 1, hd =>
      cases hd
      have := r25 hb (by omega) (by omega) 20 (by omega)
      rw [t5] at this
      exact this
    | 2, hd =>
      cases hd
      have := r25 hc2 (by omega) (by omega) 20 (by omega)
      rw [clsC_cls ha] at this
      exact this
    | t + 3, hd => cases hd
  obtain ⟨ρ2, f2, ch, rfl⟩ := for_inv (f := fun r => execs (phi P85.prog 20) (.cons (.ite (.not (.ofE (.call 45 [] (.cons (.call 25 [] (.cons (.var 3) (.cons (.var 15) .nil))) (.cons (.var 14) .nil))))) (.cons (.ret (.bl false)) .nil) .nil) .nil) r) (g := .name 15) I2 [ED as, ED (turnC ps as xs), ED (clsC ps as)] 0 _ ⟨none, rfl⟩ fun t d ρ hd hI => by
    obtain ⟨ch, rfl⟩ := hI
    exact ⟨FL S (some (.bool wide)) (some (WD ps)) (some (.int (Ln : Nat))) PL none (some (ED as)) none (some (ED xs)) (some (ED (turnC ps as xs))) (some (ED (mulC ps as xs))) (some (ED (mulC ps (backC ps as) xs))) th (some (ED (clsC ps as))) (some d) none none none none H2, .nx, _, rfl, bx_cons (sx_ite (k := false) (pt_not (k := true) (pt_b (pv_call (pvs_cons (PV.pd (pv_call (pvs_cons (pv_var rfl).pd (pvs_cons (pv_var rfl).pd pvs_nil)) (g25 t d hd))) (pvs_cons (pv_var rfl).pd pvs_nil)) (r45 hc2 (by omega) hl 20 (by omega))))) (fun z => nomatch z) (fun _ => bx_nil)) bx_nil, .inl rfl, ⟨some d, rfl⟩⟩
  refine wb_loop (ρ1 := FL S (some (.bool wide)) (some (WD ps)) (some (.int (Ln : Nat))) PL none (some (ED as)) none (some (ED xs)) (some (ED (turnC ps as xs))) (some (ED (mulC ps as xs))) (some (ED (mulC ps (backC ps as) xs))) th (some (ED (clsC ps as))) ch none none none none H2) (pi_seq (PO.pd (po_lst (pvs_cons (pv_var rfl).pd (pvs_cons (pv_var rfl).pd (pvs_cons (pv_var rfl).pd pvs_nil))) (Nat.le_of_ble_eq_true rfl))) rfl) f2 ?_
  exact lawC o2 hp hl1 hl hL ha hb hx hxc
end
end M85
set_option Elab.async false
set_option linter.all false
set_option maxRecDepth 100000
set_option maxHeartbeats 2000000
/-! U85N: the law gives True. -/
namespace M85
open Vm
theorem WD_head {m : Nat} {ps : List Part} : WD (.rope m :: ps) = .tuple (pD (.rope m) :: ps.map pD) := rfl
theorem law_true (ns : List Int) (hn : ns.length ≤ 63) : phi P85.prog 21 46 [.list (ns.map .int)] = some (.val (.bool true), []) := by
  show runFD (phi P85.prog 20) P85.f46 [.list (ns.map .int)] = some (.val (.bool true), [])
  have hlim : lim = 100000 := rfl
  have key := run_ofO (Φ := phi P85.prog 20) (np := 1) (ns := 20) (M := [1]) (mps := []) (b := P85.b46) (ds := [.list (ns.map .int)]) (Q := fun r outs => r = .val (.bool true) ∧ outs = []) rfl (by
    show WB (phi P85.prog 20) P85.b46 [some (.list (ns.map .int)), none, none, none, none, none, none, none, none, none, none, none, none, none, none, none, none, none, none, none] Fin
    let S : D := .list (ns.map .int)
    obtain ⟨H0, o0, g26⟩ := r26 ns hn 20 (by omega)
    refine wb_cons (ρ1 := FL S none none none none none none none none none none none none none none none none none none H0) (sx_masg (i := 1) (po_call (pvs_cons (pv_var rfl).pd pvs_nil) g26) (Nat.le_of_ble_eq_true rfl)) ?_
    refine wb_asgH (F := FL S none none none none none none none none none none none none none none none none none none) (P := fun d => ∃ b, d = .bool b) (HV.hg (hv_cmp (HV.hg (hv_take (by omega) o0 (fun _ => rfl) (fun _ _ => rfl) pv_int (by decide) fun r r1 r2 H' o' => hg_pv o' pv_int ⟨_, eqi _ _, _, rfl⟩)))) (fun _ => Nat.le_of_ble_eq_true rfl) ?_
    rintro _ H1 o1 ⟨wide, rfl⟩
    show WB _ _ (FL S (some (.bool wide)) none none none none none none none none none none none none none none none none none H1) _
    refine wb_asgH (F := FL S (some (.bool wide)) none none none none none none none none none none none none none none none none none) (P := fun d => ∃ ps, d = WD ps ∧ WOk ps) (HV.hg (hv_callH (fun _ => rfl) (fun _ _ => rfl) (ha_nil o1 fun H2 o2 => ?_))) (fun _ => Nat.le_of_ble_eq_true rfl) ?_
    · obtain ⟨r, outs, g1, ps, H3, rfl, rfl, o3, h3⟩ := r28 H2 o2 20 (by omega)
      exact ⟨WD ps, H3, g1, o3, ps, rfl, h3⟩
    rintro _ H2 o2 ⟨ps, rfl, hw⟩
    show WB _ _ (FL S (some (.bool wide)) (some (WD ps)) none none none none none none none none none none none none none none none none H2) _
    have rest : ∀ ps H, HOk H → WOk ps → WB (phi P85.prog 20) (tln 4 P85.b46) (FL S (some (.bool wide)) (some (WD ps)) none none none none none none none none none none none none none none none none H) Fin := fun ps H hH hw => lawB hH hw.1 hw.2.1 hw.2.2
    refine wb_ite (F := FL S (some (.bool wide)) (some (WD ps)) none none none none none none none none none none none none none none none none) (P := fun k => k = wide) (ht_pt o2 (pt_b (pv_var rfl)) rfl) ?_
    rintro k H3 o3 rfl
    cases k with
    | false =>
      rw [if_neg Bool.false_ne_true]
      exact wb_nil ⟨fun _ => rest ps H3 o3 hw, fun z => absurd rfl z⟩
    | true =>
      rw [if_pos rfl]
      refine wb_asgH (F := FL S (some (.bool true)) (some (WD ps)) none none none none none none none none none none none none none none none none) (P := fun d => ∃ ps, d = WD ps ∧ WOk ps) (HV.hg (hv_bin <| HV.hg <| hv_tup <| ha_cons <| HV.hg <| hv_tup <| ha_cons <| hg_pv o3 pv_str fun H4 o4 => ha_cons <| HV.hg <| hv_bin <| hg_pv o4 pv_int fun H5 o5 => HV.hg <| hv_take (by omega) o5 (fun _ => rfl) (fun _ _ => rfl) pv_int (by decide) fun r r1 r2 => ⟨.int (1 + r), rfl, fun H6 o6 => ha_nil o6 ⟨Nat.le_of_ble_eq_true rfl, fun H7 o7 => ha_nil o7 ⟨Nat.le_of_ble_eq_true rfl, fun H8 o8 => hg_pv (d := .tuple ((ps.drop 1).map pD)) o8 ?_ ⟨_, tup_add _ _ ?_, .rope (1 + r).toNat :: ps.drop 1, ?_, ?_⟩⟩⟩⟩)) (fun _ => Nat.le_of_ble_eq_true rfl) ?_
      · refine pd_sl (pv_var rfl).pd (pob_some pv_int) pob_none ?_
        show some (R.val (.tuple (cutL (ps.map pD) (some ((1 : Nat) : Int)) none))) = _
        rw [cut_drop _ _ (by rw [List.length_map]; exact hw.2.1), List.map_drop]
      · rw [List.length_map, List.length_drop]
        have := hw.2.2
        simp only [List.length_cons, List.length_nil]
        omega
      · show PySem.PyData.tuple ([.tuple [.str "rope", .int (1 + r)]] ++ (ps.drop 1).map pD) = .tuple (.tuple [.str "rope", .int ((1 + r).toNat : Nat)] :: (ps.drop 1).map pD)
        rw [Int.toNat_of_nonneg (by omega)]
        rfl
      · refine ⟨fun p hp => ?_, by simp, ?_⟩
        · rcases List.mem_cons.mp hp with rfl | hp
          · show 1 ≤ (1 + r).toNat
            omega
          · exact hw.1 p (List.mem_of_mem_drop hp)
        · have h1 := hw.2.1
          have h2 := hw.2.2
          simp only [List.length_cons, List.length_drop]
          omega
      · rintro _ H4 o4 ⟨ps', rfl, hw'⟩
        exact wb_nil ⟨fun _ => rest ps' H4 o4 hw', fun z => absurd rfl z⟩)
  obtain ⟨r, outs, k1, rfl, rfl⟩ := key
  exact k1
end M85
set_option Elab.async false
set_option linter.all false
set_option maxRecDepth 100000
set_option maxHeartbeats 0
namespace P85
open PySem PySem.Spec PyProof.Rows L2 Vm
section
variable {P : Program} {w : World} {K : PySem.W.Frag} {h base : Heap} {mg : Str → Option Value} (X : K.In h) (G : h.Ns mainGlobals mg) (c : He.SaysD Hd.fa Hd.fn K)
include X G c
theorem dd0 (m : List Nat) (hm : c0.mps = m) : DefH ⟨P, w, K, mg, base⟩ prog fns kwl 0 "is_integer" m ["thing"] := by
  obtain ⟨fd, F⟩ := c.def_ 0 (d := Hd.dD "is_integer" "is_integer" 1) rfl
  exact ⟨_, fd, _, _, _, _, c0, b0, 60, He.glo_ok X G (c.fact 0 (f := .glo "is_integer") rfl), F, F.bindsN (fun _ _ _ _ _ _ us hl => match us, hl with | [_], _ => rfl), (fun ks hk => by simp [kwl] at hk), ⟨rfl, rfl, rfl, by decide +kernel, rfl, by decide +kernel, by decide +kernel⟩, k0, rfl, hm, by decide, by decide, rfl, rfl⟩
theorem dd1 (m : List Nat) (hm : c1.mps = m) : DefH ⟨P, w, K, mg, base⟩ prog fns kwl 1 "integer_within" m ["thing", "low", "high"] := by
  obtain ⟨fd, F⟩ := c.def_ 1 (d := Hd.dD "integer_within" "integer_within" 2) rfl
  exact ⟨_, fd, _, _, _, _, c1, b1, 60, He.glo_ok X G (c.fact 1 (f := .glo "integer_within") rfl), F, F.bindsN (fun _ _ _ _ _ _ us hl => match us, hl with | [_, _, _], _ => rfl), (fun ks hk => by simp [kwl] at hk), ⟨rfl, rfl, rfl, by decide +kernel, rfl, by decide +kernel, by decide +kernel⟩, k1, rfl, hm, by decide, by decide, rfl, rfl⟩
theorem dd2 (m : List Nat) (hm : c2.mps = m) : DefH ⟨P, w, K, mg, base⟩ prog fns kwl 2 "is_tuple" m ["thing", "many"] := by
  obtain ⟨fd, F⟩ := c.def_ 2 (d := Hd.dD "is_tuple" "is_tuple" 3) rfl
  exact ⟨_, fd, _, _, _, _, c2, b2, 60, He.glo_ok X G (c.fact 2 (f := .glo "is_tuple") rfl), F, F.bindsN (fun _ _ _ _ _ _ us hl => match us, hl with | [_, _], _ => rfl), (fun ks hk => by simp [kwl] at hk), ⟨rfl, rfl, rfl, by decide +kernel, rfl, by decide +kernel, by decide +kernel⟩, k2, rfl, hm, by decide, by decide, rfl, rfl⟩
theorem dd3 (m : List Nat) (hm : c3.mps = m) : DefH ⟨P, w, K, mg, base⟩ prog fns kwl 3 "is_pair" m ["letters", "thing"] := by
  obtain ⟨fd, F⟩ := c.def_ 3 (d := Hd.dD "is_pair" "is_pair" 5) rfl
  exact ⟨_, fd, _, _, _, _, c3, b3, 60, He.glo_ok X G (c.fact 3 (f := .glo "is_pair") rfl), F, F.bindsN (fun _ _ _ _ _ _ us hl => match us, hl with | [_, _], _ => rfl), (fun ks hk => by simp [kwl] at hk), ⟨rfl, rfl, rfl, by decide +kernel, rfl, by decide +kernel, by decide +kernel⟩, k3, rfl, hm, by decide, by decide, rfl, rfl⟩
theorem dd4 (m : List Nat) (hm : c4.mps = m) : DefH ⟨P, w, K, mg, base⟩ prog fns kwl 4 "undoes" m ["one", "other"] := by
  obtain ⟨fd, F⟩ := c.def_ 4 (d := Hd.dD "undoes" "undoes" 6) rfl
  exact ⟨_, fd, _, _, _, _, c4, b4, 60, He.glo_ok X G (c.fact 4 (f := .glo "undoes") rfl), F, F.bindsN (fun _ _ _ _ _ _ us hl => match us, hl with | [_, _], _ => rfl), (fun ks hk => by simp [kwl] at hk), ⟨rfl, rfl, rfl, by decide +kernel, rfl, by decide +kernel, by decide +kernel⟩, k4, rfl, hm, by decide, by decide, rfl, rfl⟩
theorem dd5 (m : List Nat) (hm : c5.mps = m) : DefH ⟨P, w, K, mg, base⟩ prog fns kwl 5 "is_reduced" m ["letters", "thing"] := by
  obtain ⟨fd, F⟩ := c.def_ 5 (d := Hd.dD "is_reduced" "is_reduced" 7) rfl
  exact ⟨_, fd, _, _, _, _, c5, b5, 60, He.glo_ok X G (c.fact 5 (f := .glo "is_reduced") rfl), F, F.bindsN (fun _ _ _ _ _ _ us hl => match us, hl with | [_, _], _ => rfl), (fun ks hk => by simp [kwl] at hk), ⟨rfl, rfl, rfl, by decide +kernel, rfl, by decide +kernel, by decide +kernel⟩, k5, rfl, hm, by decide, by decide, rfl, rfl⟩
theorem dd6 (m : List Nat) (hm : c6.mps = m) : DefH ⟨P, w, K, mg, base⟩ prog fns kwl 6 "is_element" m ["part", "thing"] := by
  obtain ⟨fd, F⟩ := c.def_ 6 (d := Hd.dD "is_element" "is_element" 8) rfl
  exact ⟨_, fd, _, _, _, _, c6, b6, 60, He.glo_ok X G (c.fact 6 (f := .glo "is_element") rfl), F, F.bindsN (fun _ _ _ _ _ _ us hl => match us, hl with | [_, _], _ => rfl), (fun ks hk => by simp [kwl] at hk), ⟨rfl, rfl, rfl, by decide +kernel, rfl, by decide +kernel, by decide +kernel⟩, k6, rfl, hm, by decide, by decide, rfl, rfl⟩
theorem dd7 (m : List Nat) (hm : c7.mps = m) : DefH ⟨P, w, K, mg, base⟩ prog fns kwl 7 "change_fault" m ["world", "thing"] := by
  obtain ⟨fd, F⟩ := c.def_ 7 (d := Hd.dD "change_fault" "change_fault" 9) rfl
  exact ⟨_, fd, _, _, _, _, c7, b7, 60, He.glo_ok X G (c.fact 7 (f := .glo "change_fault") rfl), F, F.bindsN (fun _ _ _ _ _ _ us hl => match us, hl with | [_, _], _ => rfl), (fun ks hk => by simp [kwl] at hk), ⟨rfl, rfl, rfl, by decide +kernel, rfl, by decide +kernel, by decide +kernel⟩, k7, rfl, hm, by decide, by decide, rfl, rfl⟩
theorem dd8 (m : List Nat) (hm : c8.mps = m) : DefH ⟨P, w, K, mg, base⟩ prog fns kwl 8 "is_change" m ["world", "thing"] := by
  obtain ⟨fd, F⟩ := c.def_ 8 (d := Hd.dD "is_change" "is_change" 10) rfl
  exact ⟨_, fd, _, _, _, _, c8, b8, 60, He.glo_ok X G (c.fact 8 (f := .glo "is_change") rfl), F, F.bindsN (fun _ _ _ _ _ _ us hl => match us, hl with | [_, _], _ => rfl), (fun ks hk => by simp [kwl] at hk), ⟨rfl, rfl, rfl, by decide +kernel, rfl, by decide +kernel, by decide +kernel⟩, k8, rfl, hm, by decide, by decide, rfl, rfl⟩
theorem dd9 (m : List Nat) (hm : c9.mps = m) : DefH ⟨P, w, K, mg, base⟩ prog fns kwl 9 "reduced_word" m ["pairs"] := by
  obtain ⟨fd, F⟩ := c.def_ 9 (d := Hd.dD "reduced_word" "reduced_word" 11) rfl
  exact ⟨_, fd, _, _, _, _, c9, b9, 60, He.glo_ok X G (c.fact 9 (f := .glo "reduced_word") rfl), F, F.bindsN (fun _ _ _ _ _ _ us hl => match us, hl with | [_], _ => rfl), (fun ks hk => by simp [kwl] at hk), ⟨rfl, rfl, rfl, by decide +kernel, rfl, by decide +kernel, by decide +kernel⟩, k9, rfl, hm, by decide, by decide, rfl, rfl⟩
theorem dd10 (m : List Nat) (hm : c10.mps = m) : DefH ⟨P, w, K, mg, base⟩ prog fns kwl 10 "deck_rounds" m ["cards"] := by
  obtain ⟨fd, F⟩ := c.def_ 10 (d := Hd.dD "deck_rounds" "deck_rounds" 13) rfl
  exact ⟨_, fd, _, _, _, _, c10, b10, 60, He.glo_ok X G (c.fact 10 (f := .glo "deck_rounds") rfl), F, F.bindsN (fun _ _ _ _ _ _ us hl => match us, hl with | [_], _ => rfl), (fun ks hk => by simp [kwl] at hk), ⟨rfl, rfl, rfl, by decide +kernel, rfl, by decide +kernel, by decide +kernel⟩, k10, rfl, hm, by decide, by decide, rfl, rfl⟩
theorem dd11 (m : List Nat) (hm : c11.mps = m) : DefH ⟨P, w, K, mg, base⟩ prog fns kwl 11 "word_ends" m ["word"] := by
  obtain ⟨fd, F⟩ := c.def_ 11 (d := Hd.dD "word_ends" "word_ends" 14) rfl
  exact ⟨_, fd, _, _, _, _, c11, b11, 60, He.glo_ok X G (c.fact 11 (f := .glo "word_ends") rfl), F, F.bindsN (fun _ _ _ _ _ _ us hl => match us, hl with | [_], _ => rfl), (fun ks hk => by simp [kwl] at hk), ⟨rfl, rfl, rfl, by decide +kernel, rfl, by decide +kernel, by decide +kernel⟩, k11, rfl, hm, by decide, by decide, rfl, rfl⟩
theorem dd12 (m : List Nat) (hm : c12.mps = m) : DefH ⟨P, w, K, mg, base⟩ prog fns kwl 12 "joined_element" m ["part", "one", "other"] := by
  obtain ⟨fd, F⟩ := c.def_ 12 (d := Hd.dD "joined_element" "joined_element" 16) rfl
  exact ⟨_, fd, _, _, _, _, c12, b12, 60, He.glo_ok X G (c.fact 12 (f := .glo "joined_element") rfl), F, F.bindsN (fun _ _ _ _ _ _ us hl => match us, hl with | [_, _, _], _ => rfl), (fun ks hk => by simp [kwl] at hk), ⟨rfl, rfl, rfl, by decide +kernel, rfl, by decide +kernel, by decide +kernel⟩, k12, rfl, hm, by decide, by decide, rfl, rfl⟩
theorem dd13 (m : List Nat) (hm : c13.mps = m) : DefH ⟨P, w, K, mg, base⟩ prog fns kwl 13 "undone_deck" m ["element"] := by
  obtain ⟨fd, F⟩ := c.def_ 13 (d := Hd.dD "undone_deck" "undone_deck" 17) rfl
  exact ⟨_, fd, _, _, _, _, c13, b13, 60, He.glo_ok X G (c.fact 13 (f := .glo "undone_deck") rfl), F, F.bindsN (fun _ _ _ _ _ _ us hl => match us, hl with | [_], _ => rfl), (fun ks hk => by simp [kwl] at hk), ⟨rfl, rfl, rfl, by decide +kernel, rfl, by decide +kernel, by decide +kernel⟩, k13, rfl, hm, by decide, by decide, rfl, rfl⟩
theorem dd14 (m : List Nat) (hm : c14.mps = m) : DefH ⟨P, w, K, mg, base⟩ prog fns kwl 14 "undone_element" m ["part", "one"] := by
  obtain ⟨fd, F⟩ := c.def_ 14 (d := Hd.dD "undone_element" "undone_element" 18) rfl
  exact ⟨_, fd, _, _, _, _, c14, b14, 60, He.glo_ok X G (c.fact 14 (f := .glo "undone_element") rfl), F, F.bindsN (fun _ _ _ _ _ _ us hl => match us, hl with | [_, _], _ => rfl), (fun ks hk => by simp [kwl] at hk), ⟨rfl, rfl, rfl, by decide +kernel, rfl, by decide +kernel, by decide +kernel⟩, k14, rfl, hm, by decide, by decide, rfl, rfl⟩
theorem dd15 (m : List Nat) (hm : c15.mps = m) : DefH ⟨P, w, K, mg, base⟩ prog fns kwl 15 "joined" m ["world", "one", "other"] := by
  obtain ⟨fd, F⟩ := c.def_ 15 (d := Hd.dD "joined" "joined" 19) rfl
  exact ⟨_, fd, _, _, _, _, c15, b15, 60, He.glo_ok X G (c.fact 15 (f := .glo "joined") rfl), F, F.bindsN (fun _ _ _ _ _ _ us hl => match us, hl with | [_, _, _], _ => rfl), (fun ks hk => by simp [kwl] at hk), ⟨rfl, rfl, rfl, by decide +kernel, rfl, by decide +kernel, by decide +kernel⟩, k15, rfl, hm, by decide, by decide, rfl, rfl⟩
theorem dd16 (m : List Nat) (hm : c16.mps = m) : DefH ⟨P, w, K, mg, base⟩ prog fns kwl 16 "all_rounds" m ["cards"] := by
  obtain ⟨fd, F⟩ := c.def_ 16 (d := Hd.dD "all_rounds" "all_rounds" 21) rfl
  exact ⟨_, fd, _, _, _, _, c16, b16, 60, He.glo_ok X G (c.fact 16 (f := .glo "all_rounds") rfl), F, F.bindsN (fun _ _ _ _ _ _ us hl => match us, hl with | [_], _ => rfl), (fun ks hk => by simp [kwl] at hk), ⟨rfl, rfl, rfl, by decide +kernel, rfl, by decide +kernel, by decide +kernel⟩, k16, rfl, hm, by decide, by decide, rfl, rfl⟩
theorem dd17 (m : List Nat) (hm : c17.mps = m) : DefH ⟨P, w, K, mg, base⟩ prog fns kwl 17 "deck_turner" m ["one", "other"] := by
  obtain ⟨fd, F⟩ := c.def_ 17 (d := Hd.dD "deck_turner" "deck_turner" 22) rfl
  exact ⟨_, fd, _, _, _, _, c17, b17, 60, He.glo_ok X G (c.fact 17 (f := .glo "deck_turner") rfl), F, F.bindsN (fun _ _ _ _ _ _ us hl => match us, hl with | [_, _], _ => rfl), (fun ks hk => by simp [kwl] at hk), ⟨rfl, rfl, rfl, by decide +kernel, rfl, by decide +kernel, by decide +kernel⟩, k17, rfl, hm, by decide, by decide, rfl, rfl⟩
theorem dd18 (m : List Nat) (hm : c18.mps = m) : DefH ⟨P, w, K, mg, base⟩ prog fns kwl 18 "rope_turner" m ["part", "one", "other"] := by
  obtain ⟨fd, F⟩ := c.def_ 18 (d := Hd.dD "rope_turner" "rope_turner" 23) rfl
  exact ⟨_, fd, _, _, _, _, c18, b18, 60, He.glo_ok X G (c.fact 18 (f := .glo "rope_turner") rfl), F, F.bindsN (fun _ _ _ _ _ _ us hl => match us, hl with | [_, _, _], _ => rfl), (fun ks hk => by simp [kwl] at hk), ⟨rfl, rfl, rfl, by decide +kernel, rfl, by decide +kernel, by decide +kernel⟩, k18, rfl, hm, by decide, by decide, rfl, rfl⟩
theorem dd19 (m : List Nat) (hm : c19.mps = m) : DefH ⟨P, w, K, mg, base⟩ prog fns kwl 19 "element_turner" m ["part", "one", "other"] := by
  obtain ⟨fd, F⟩ := c.def_ 19 (d := Hd.dD "element_turner" "element_turner" 24) rfl
  exact ⟨_, fd, _, _, _, _, c19, b19, 60, He.glo_ok X G (c.fact 19 (f := .glo "element_turner") rfl), F, F.bindsN (fun _ _ _ _ _ _ us hl => match us, hl with | [_, _, _], _ => rfl), (fun ks hk => by simp [kwl] at hk), ⟨rfl, rfl, rfl, by decide +kernel, rfl, by decide +kernel, by decide +kernel⟩, k19, rfl, hm, by decide, by decide, rfl, rfl⟩
theorem dd20 (m : List Nat) (hm : c20.mps = m) : DefH ⟨P, w, K, mg, base⟩ prog fns kwl 20 "turner_of" m ["world", "one", "other"] := by
  obtain ⟨fd, F⟩ := c.def_ 20 (d := Hd.dD "turner_of" "turner_of" 25) rfl
  exact ⟨_, fd, _, _, _, _, c20, b20, 60, He.glo_ok X G (c.fact 20 (f := .glo "turner_of") rfl), F, F.bindsN (fun _ _ _ _ _ _ us hl => match us, hl with | [_, _, _], _ => rfl), (fun ks hk => by simp [kwl] at hk), ⟨rfl, rfl, rfl, by decide +kernel, rfl, by decide +kernel, by decide +kernel⟩, k20, rfl, hm, by decide, by decide, rfl, rfl⟩
theorem dd21 (m : List Nat) (hm : c21.mps = m) : DefH ⟨P, w, K, mg, base⟩ prog fns kwl 21 "are_turned" m ["world", "one", "other"] := by
  obtain ⟨fd, F⟩ := c.def_ 21 (d := Hd.dD "are_turned" "are_turned" 26) rfl
  exact ⟨_, fd, _, _, _, _, c21, b21, 60, He.glo_ok X G (c.fact 21 (f := .glo "are_turned") rfl), F, F.bindsN (fun _ _ _ _ _ _ us hl => match us, hl with | [_, _, _], _ => rfl), (fun ks hk => by simp [kwl] at hk), ⟨rfl, rfl, rfl, by decide +kernel, rfl, by decide +kernel, by decide +kernel⟩, k21, rfl, hm, by decide, by decide, rfl, rfl⟩
theorem dd22 (m : List Nat) (hm : c22.mps = m) : DefH ⟨P, w, K, mg, base⟩ prog fns kwl 22 "is_turner" m ["world", "one", "other", "thing"] := by
  obtain ⟨fd, F⟩ := c.def_ 22 (d := Hd.dD "is_turner" "is_turner" 27) rfl
  exact ⟨_, fd, _, _, _, _, c22, b22, 60, He.glo_ok X G (c.fact 22 (f := .glo "is_turner") rfl), F, F.bindsN (fun _ _ _ _ _ _ us hl => match us, hl with | [_, _, _, _], _ => rfl), (fun ks hk => by
    have e : ks = (["thing", "world", "one", "other"] : List Str) := by simpa [kwl] using hk
    subst e
    exact FunD.kwN F fun _ _ _ _ _ _ ws hl => match ws, hl with | [_, _, _, _], _ => rfl), ⟨rfl, rfl, rfl, by decide +kernel, rfl, by decide +kernel, by decide +kernel⟩, k22, rfl, hm, by decide, by decide, rfl, rfl⟩
theorem dd23 (m : List Nat) (hm : c23.mps = m) : DefH ⟨P, w, K, mg, base⟩ prog fns kwl 23 "least_deck" m ["cards"] := by
  obtain ⟨fd, F⟩ := c.def_ 23 (d := Hd.dD "least_deck" "least_deck" 28) rfl
  exact ⟨_, fd, _, _, _, _, c23, b23, 60, He.glo_ok X G (c.fact 23 (f := .glo "least_deck") rfl), F, F.bindsN (fun _ _ _ _ _ _ us hl => match us, hl with | [_], _ => rfl), (fun ks hk => by simp [kwl] at hk), ⟨rfl, rfl, rfl, by decide +kernel, rfl, by decide +kernel, by decide +kernel⟩, k23, rfl, hm, by decide, by decide, rfl, rfl⟩
theorem dd24 (m : List Nat) (hm : c24.mps = m) : DefH ⟨P, w, K, mg, base⟩ prog fns kwl 24 "least_core" m ["word"] := by
  obtain ⟨fd, F⟩ := c.def_ 24 (d := Hd.dD "least_core" "least_core" 29) rfl
  exact ⟨_, fd, _, _, _, _, c24, b24, 60, He.glo_ok X G (c.fact 24 (f := .glo "least_core") rfl), F, F.bindsN (fun _ _ _ _ _ _ us hl => match us, hl with | [_], _ => rfl), (fun ks hk => by simp [kwl] at hk), ⟨rfl, rfl, rfl, by decide +kernel, rfl, by decide +kernel, by decide +kernel⟩, k24, rfl, hm, by decide, by decide, rfl, rfl⟩
theorem dd25 (m : List Nat) (hm : c25.mps = m) : DefH ⟨P, w, K, mg, base⟩ prog fns kwl 25 "least_turned" m ["world", "change"] := by
  obtain ⟨fd, F⟩ := c.def_ 25 (d := Hd.dD "least_turned" "least_turned" 30) rfl
  exact ⟨_, fd, _, _, _, _, c25, b25, 60, He.glo_ok X G (c.fact 25 (f := .glo "least_turned") rfl), F, F.bindsN (fun _ _ _ _ _ _ us hl => match us, hl with | [_, _], _ => rfl), (fun ks hk => by simp [kwl] at hk), ⟨rfl, rfl, rfl, by decide +kernel, rfl, by decide +kernel, by decide +kernel⟩, k25, rfl, hm, by decide, by decide, rfl, rfl⟩
theorem dd26 (m : List Nat) (hm : c26.mps = m) : DefH ⟨P, w, K, mg, base⟩ prog fns kwl 26 "_law_seeds" m ["script"] := by
  obtain ⟨fd, F⟩ := c.def_ 26 (d := Hd.dD "_law_seeds" "_law_seeds" 32) rfl
  exact ⟨_, fd, _, _, _, _, c26, b26, 60, He.glo_ok X G (c.fact 26 (f := .glo "_law_seeds") rfl), F, F.bindsN (fun _ _ _ _ _ _ us hl => match us, hl with | [_], _ => rfl), (fun ks hk => by simp [kwl] at hk), ⟨rfl, rfl, rfl, by decide +kernel, rfl, by decide +kernel, by decide +kernel⟩, k26, rfl, hm, by decide, by decide, rfl, rfl⟩
theorem dd27 (m : List Nat) (hm : c27.mps = m) : DefH ⟨P, w, K, mg, base⟩ prog fns kwl 27 "_law_take" m ["heap", "many"] := by
  obtain ⟨fd, F⟩ := c.def_ 27 (d := Hd.dD "_law_take" "_law_take" 33) rfl
  exact ⟨_, fd, _, _, _, _, c27, b27, 60, He.glo_ok X G (c.fact 27 (f := .glo "_law_take") rfl), F, F.bindsN (fun _ _ _ _ _ _ us hl => match us, hl with | [_, _], _ => rfl), (fun ks hk => by simp [kwl] at hk), ⟨rfl, rfl, rfl, by decide +kernel, rfl, by decide +kernel, by decide +kernel⟩, k27, rfl, hm, by decide, by decide, rfl, rfl⟩
theorem dd28 (m : List Nat) (hm : c28.mps = m) : DefH ⟨P, w, K, mg, base⟩ prog fns kwl 28 "_law_worlds" m ["heap"] := by
  obtain ⟨fd, F⟩ := c.def_ 28 (d := Hd.dD "_law_worlds" "_law_worlds" 34) rfl
  exact ⟨_, fd, _, _, _, _, c28, b28, 60, He.glo_ok X G (c.fact 28 (f := .glo "_law_worlds") rfl), F, F.bindsN (fun _ _ _ _ _ _ us hl => match us, hl with | [_], _ => rfl), (fun ks hk => by simp [kwl] at hk), ⟨rfl, rfl, rfl, by decide +kernel, rfl, by decide +kernel, by decide +kernel⟩, k28, rfl, hm, by decide, by decide, rfl, rfl⟩
theorem dd29 (m : List Nat) (hm : c29.mps = m) : DefH ⟨P, w, K, mg, base⟩ prog fns kwl 29 "_law_shuffled" m ["heap", "many"] := by
  obtain ⟨fd, F⟩ := c.def_ 29 (d := Hd.dD "_law_shuffled" "_law_shuffled" 35) rfl
  exact ⟨_, fd, _, _, _, _, c29, b29, 60, He.glo_ok X G (c.fact 29 (f := .glo "_law_shuffled") rfl), F, F.bindsN (fun _ _ _ _ _ _ us hl => match us, hl with | [_, _], _ => rfl), (fun ks hk => by simp [kwl] at hk), ⟨rfl, rfl, rfl, by decide +kernel, rfl, by decide +kernel, by decide +kernel⟩, k29, rfl, hm, by decide, by decide, rfl, rfl⟩
theorem dd30 (m : List Nat) (hm : c30.mps = m) : DefH ⟨P, w, K, mg, base⟩ prog fns kwl 30 "_law_reduced" m ["turns"] := by
  obtain ⟨fd, F⟩ := c.def_ 30 (d := Hd.dD "_law_reduced" "_law_reduced" 36) rfl
  exact ⟨_, fd, _, _, _, _, c30, b30, 60, He.glo_ok X G (c.fact 30 (f := .glo "_law_reduced") rfl), F, F.bindsN (fun _ _ _ _ _ _ us hl => match us, hl with | [_], _ => rfl), (fun ks hk => by simp [kwl] at hk), ⟨rfl, rfl, rfl, by decide +kernel, rfl, by decide +kernel, by decide +kernel⟩, k30, rfl, hm, by decide, by decide, rfl, rfl⟩
theorem dd31 (m : List Nat) (hm : c31.mps = m) : DefH ⟨P, w, K, mg, base⟩ prog fns kwl 31 "_law_any" m ["heap", "part", "longest"] := by
  obtain ⟨fd, F⟩ := c.def_ 31 (d := Hd.dD "_law_any" "_law_any" 37) rfl
  exact ⟨_, fd, _, _, _, _, c31, b31, 60, He.glo_ok X G (c.fact 31 (f := .glo "_law_any") rfl), F, F.bindsN (fun _ _ _ _ _ _ us hl => match us, hl with | [_, _, _], _ => rfl), (fun ks hk => by simp [kwl] at hk), ⟨rfl, rfl, rfl, by decide +kernel, rfl, by decide +kernel, by decide +kernel⟩, k31, rfl, hm, by decide, by decide, rfl, rfl⟩
theorem dd32 (m : List Nat) (hm : c32.mps = m) : DefH ⟨P, w, K, mg, base⟩ prog fns kwl 32 "_law_ahead" m ["heap", "part", "one", "longest"] := by
  obtain ⟨fd, F⟩ := c.def_ 32 (d := Hd.dD "_law_ahead" "_law_ahead" 38) rfl
  exact ⟨_, fd, _, _, _, _, c32, b32, 60, He.glo_ok X G (c.fact 32 (f := .glo "_law_ahead") rfl), F, F.bindsN (fun _ _ _ _ _ _ us hl => match us, hl with | [_, _, _, _], _ => rfl), (fun ks hk => by simp [kwl] at hk), ⟨rfl, rfl, rfl, by decide +kernel, rfl, by decide +kernel, by decide +kernel⟩, k32, rfl, hm, by decide, by decide, rfl, rfl⟩
theorem dd33 (m : List Nat) (hm : c33.mps = m) : DefH ⟨P, w, K, mg, base⟩ prog fns kwl 33 "_law_then" m ["part", "one", "other"] := by
  obtain ⟨fd, F⟩ := c.def_ 33 (d := Hd.dD "_law_then" "_law_then" 39) rfl
  exact ⟨_, fd, _, _, _, _, c33, b33, 60, He.glo_ok X G (c.fact 33 (f := .glo "_law_then") rfl), F, F.bindsN (fun _ _ _ _ _ _ us hl => match us, hl with | [_, _, _], _ => rfl), (fun ks hk => by simp [kwl] at hk), ⟨rfl, rfl, rfl, by decide +kernel, rfl, by decide +kernel, by decide +kernel⟩, k33, rfl, hm, by decide, by decide, rfl, rfl⟩
theorem dd34 (m : List Nat) (hm : c34.mps = m) : DefH ⟨P, w, K, mg, base⟩ prog fns kwl 34 "_law_back" m ["part", "one"] := by
  obtain ⟨fd, F⟩ := c.def_ 34 (d := Hd.dD "_law_back" "_law_back" 40) rfl
  exact ⟨_, fd, _, _, _, _, c34, b34, 60, He.glo_ok X G (c.fact 34 (f := .glo "_law_back") rfl), F, F.bindsN (fun _ _ _ _ _ _ us hl => match us, hl with | [_, _], _ => rfl), (fun ks hk => by simp [kwl] at hk), ⟨rfl, rfl, rfl, by decide +kernel, rfl, by decide +kernel, by decide +kernel⟩, k34, rfl, hm, by decide, by decide, rfl, rfl⟩
theorem dd35 (m : List Nat) (hm : c35.mps = m) : DefH ⟨P, w, K, mg, base⟩ prog fns kwl 35 "_law_turns" m ["part", "one", "x"] := by
  obtain ⟨fd, F⟩ := c.def_ 35 (d := Hd.dD "_law_turns" "_law_turns" 41) rfl
  exact ⟨_, fd, _, _, _, _, c35, b35, 60, He.glo_ok X G (c.fact 35 (f := .glo "_law_turns") rfl), F, F.bindsN (fun _ _ _ _ _ _ us hl => match us, hl with | [_, _, _], _ => rfl), (fun ks hk => by simp [kwl] at hk), ⟨rfl, rfl, rfl, by decide +kernel, rfl, by decide +kernel, by decide +kernel⟩, k35, rfl, hm, by decide, by decide, rfl, rfl⟩
theorem dd36 (m : List Nat) (hm : c36.mps = m) : DefH ⟨P, w, K, mg, base⟩ prog fns kwl 36 "_law_lengths" m ["cards"] := by
  obtain ⟨fd, F⟩ := c.def_ 36 (d := Hd.dD "_law_lengths" "_law_lengths" 42) rfl
  exact ⟨_, fd, _, _, _, _, c36, b36, 60, He.glo_ok X G (c.fact 36 (f := .glo "_law_lengths") rfl), F, F.bindsN (fun _ _ _ _ _ _ us hl => match us, hl with | [_], _ => rfl), (fun ks hk => by simp [kwl] at hk), ⟨rfl, rfl, rfl, by decide +kernel, rfl, by decide +kernel, by decide +kernel⟩, k36, rfl, hm, by decide, by decide, rfl, rfl⟩
theorem dd37 (m : List Nat) (hm : c37.mps = m) : DefH ⟨P, w, K, mg, base⟩ prog fns kwl 37 "_law_core" m ["word"] := by
  obtain ⟨fd, F⟩ := c.def_ 37 (d := Hd.dD "_law_core" "_law_core" 43) rfl
  exact ⟨_, fd, _, _, _, _, c37, b37, 60, He.glo_ok X G (c.fact 37 (f := .glo "_law_core") rfl), F, F.bindsN (fun _ _ _ _ _ _ us hl => match us, hl with | [_], _ => rfl), (fun ks hk => by simp [kwl] at hk), ⟨rfl, rfl, rfl, by decide +kernel, rfl, by decide +kernel, by decide +kernel⟩, k37, rfl, hm, by decide, by decide, rfl, rfl⟩
theorem dd38 (m : List Nat) (hm : c38.mps = m) : DefH ⟨P, w, K, mg, base⟩ prog fns kwl 38 "_law_least" m ["part", "one"] := by
  obtain ⟨fd, F⟩ := c.def_ 38 (d := Hd.dD "_law_least" "_law_least" 44) rfl
  exact ⟨_, fd, _, _, _, _, c38, b38, 60, He.glo_ok X G (c.fact 38 (f := .glo "_law_least") rfl), F, F.bindsN (fun _ _ _ _ _ _ us hl => match us, hl with | [_, _], _ => rfl), (fun ks hk => by simp [kwl] at hk), ⟨rfl, rfl, rfl, by decide +kernel, rfl, by decide +kernel, by decide +kernel⟩, k38, rfl, hm, by decide, by decide, rfl, rfl⟩
theorem dd39 (m : List Nat) (hm : c39.mps = m) : DefH ⟨P, w, K, mg, base⟩ prog fns kwl 39 "_law_fits" m ["part", "thing"] := by
  obtain ⟨fd, F⟩ := c.def_ 39 (d := Hd.dD "_law_fits" "_law_fits" 45) rfl
  exact ⟨_, fd, _, _, _, _, c39, b39, 60, He.glo_ok X G (c.fact 39 (f := .glo "_law_fits") rfl), F, F.bindsN (fun _ _ _ _ _ _ us hl => match us, hl with | [_, _], _ => rfl), (fun ks hk => by simp [kwl] at hk), ⟨rfl, rfl, rfl, by decide +kernel, rfl, by decide +kernel, by decide +kernel⟩, k39, rfl, hm, by decide, by decide, rfl, rfl⟩
theorem dd40 (m : List Nat) (hm : c40.mps = m) : DefH ⟨P, w, K, mg, base⟩ prog fns kwl 40 "_law_turner" m ["world", "one", "other", "thing"] := by
  obtain ⟨fd, F⟩ := c.def_ 40 (d := Hd.dD "_law_turner" "_law_turner" 46) rfl
  exact ⟨_, fd, _, _, _, _, c40, b40, 60, He.glo_ok X G (c.fact 40 (f := .glo "_law_turner") rfl), F, F.bindsN (fun _ _ _ _ _ _ us hl => match us, hl with | [_, _, _, _], _ => rfl), (fun ks hk => by simp [kwl] at hk), ⟨rfl, rfl, rfl, by decide +kernel, rfl, by decide +kernel, by decide +kernel⟩, k40, rfl, hm, by decide, by decide, rfl, rfl⟩
theorem dd41 (m : List Nat) (hm : c41.mps = m) : DefH ⟨P, w, K, mg, base⟩ prog fns kwl 41 "_law_yes" m ["told", "due"] := by
  obtain ⟨fd, F⟩ := c.def_ 41 (d := Hd.dD "_law_yes" "_law_yes" 47) rfl
  exact ⟨_, fd, _, _, _, _, c41, b41, 60, He.glo_ok X G (c.fact 41 (f := .glo "_law_yes") rfl), F, F.bindsN (fun _ _ _ _ _ _ us hl => match us, hl with | [_, _], _ => rfl), (fun ks hk => by simp [kwl] at hk), ⟨rfl, rfl, rfl, by decide +kernel, rfl, by decide +kernel, by decide +kernel⟩, k41, rfl, hm, by decide, by decide, rfl, rfl⟩
theorem dd42 (m : List Nat) (hm : c42.mps = m) : DefH ⟨P, w, K, mg, base⟩ prog fns kwl 42 "_law_apart" m ["part", "one"] := by
  obtain ⟨fd, F⟩ := c.def_ 42 (d := Hd.dD "_law_apart" "_law_apart" 48) rfl
  exact ⟨_, fd, _, _, _, _, c42, b42, 60, He.glo_ok X G (c.fact 42 (f := .glo "_law_apart") rfl), F, F.bindsN (fun _ _ _ _ _ _ us hl => match us, hl with | [_, _], _ => rfl), (fun ks hk => by simp [kwl] at hk), ⟨rfl, rfl, rfl, by decide +kernel, rfl, by decide +kernel, by decide +kernel⟩, k42, rfl, hm, by decide, by decide, rfl, rfl⟩
theorem dd43 (m : List Nat) (hm : c43.mps = m) : DefH ⟨P, w, K, mg, base⟩ prog fns kwl 43 "_law_asks" m ["world", "one", "other"] := by
  obtain ⟨fd, F⟩ := c.def_ 43 (d := Hd.dD "_law_asks" "_law_asks" 49) rfl
  exact ⟨_, fd, _, _, _, _, c43, b43, 60, He.glo_ok X G (c.fact 43 (f := .glo "_law_asks") rfl), F, F.bindsN (fun _ _ _ _ _ _ us hl => match us, hl with | [_, _, _], _ => rfl), (fun ks hk => by simp [kwl] at hk), ⟨rfl, rfl, rfl, by decide +kernel, rfl, by decide +kernel, by decide +kernel⟩, k43, rfl, hm, by decide, by decide, rfl, rfl⟩
theorem dd44 (m : List Nat) (hm : c44.mps = m) : DefH ⟨P, w, K, mg, base⟩ prog fns kwl 44 "_law_strange" m ["heap", "world", "x", "k"] := by
  obtain ⟨fd, F⟩ := c.def_ 44 (d := Hd.dD "_law_strange" "_law_strange" 50) rfl
  exact ⟨_, fd, _, _, _, _, c44, b44, 60, He.glo_ok X G (c.fact 44 (f := .glo "_law_strange") rfl), F, F.bindsN (fun _ _ _ _ _ _ us hl => match us, hl with | [_, _, _, _], _ => rfl), (fun ks hk => by simp [kwl] at hk), ⟨rfl, rfl, rfl, by decide +kernel, rfl, by decide +kernel, by decide +kernel⟩, k44, rfl, hm, by decide, by decide, rfl, rfl⟩
theorem dd45 (m : List Nat) (hm : c45.mps = m) : DefH ⟨P, w, K, mg, base⟩ prog fns kwl 45 "_law_same" m ["told", "due"] := by
  obtain ⟨fd, F⟩ := c.def_ 45 (d := Hd.dD "_law_same" "_law_same" 51) rfl
  exact ⟨_, fd, _, _, _, _, c45, b45, 60, He.glo_ok X G (c.fact 45 (f := .glo "_law_same") rfl), F, F.bindsN (fun _ _ _ _ _ _ us hl => match us, hl with | [_, _], _ => rfl), (fun ks hk => by simp [kwl] at hk), ⟨rfl, rfl, rfl, by decide +kernel, rfl, by decide +kernel, by decide +kernel⟩, k45, rfl, hm, by decide, by decide, rfl, rfl⟩
theorem dd46 (m : List Nat) (hm : c46.mps = m) : DefH ⟨P, w, K, mg, base⟩ prog fns kwl 46 "law" m ["script"] := by
  obtain ⟨fd, F⟩ := c.def_ 46 (d := Hd.dD "law" "law" 52) rfl
  exact ⟨_, fd, _, _, _, _, c46, b46, 60, He.glo_ok X G (c.fact 46 (f := .glo "law") rfl), F, F.bindsN (fun _ _ _ _ _ _ us hl => match us, hl with | [_], _ => rfl), (fun ks hk => by simp [kwl] at hk), ⟨rfl, rfl, rfl, by decide +kernel, rfl, by decide +kernel, by decide +kernel⟩, k46, rfl, hm, by decide, by decide, rfl, rfl⟩
theorem alld : AllD ⟨P, w, K, mg, base⟩ prog fns kwl 0 fns := by
  refine .cons (dd0 X G c _ rfl) ?_
  refine .cons (dd1 X G c _ rfl) ?_
  refine .cons (dd2 X G c _ rfl) ?_
  refine .cons (dd3 X G c _ rfl) ?_
  refine .cons (dd4 X G c _ rfl) ?_
  refine .cons (dd5 X G c _ rfl) ?_
  refine .cons (dd6 X G c _ rfl) ?_
  refine .cons (dd7 X G c _ rfl) ?_
  refine .cons (dd8 X G c _ rfl) ?_
  refine .cons (dd9 X G c _ rfl) ?_
  refine .cons (dd10 X G c _ rfl) ?_
  refine .cons (dd11 X G c _ rfl) ?_
  refine .cons (dd12 X G c _ rfl) ?_
  refine .cons (dd13 X G c _ rfl) ?_
  refine .cons (dd14 X G c _ rfl) ?_
  refine .cons (dd15 X G c _ rfl) ?_
  refine .cons (dd16 X G c _ rfl) ?_
  refine .cons (dd17 X G c _ rfl) ?_
  refine .cons (dd18 X G c _ rfl) ?_
  refine .cons (dd19 X G c _ rfl) ?_
  refine .cons (dd20 X G c _ rfl) ?_
  refine .cons (dd21 X G c _ rfl) ?_
  refine .cons (dd22 X G c _ rfl) ?_
  refine .cons (dd23 X G c _ rfl) ?_
  refine .cons (dd24 X G c _ rfl) ?_
  refine .cons (dd25 X G c _ rfl) ?_
  refine .cons (dd26 X G c _ rfl) ?_
  refine .cons (dd27 X G c _ rfl) ?_
  refine .cons (dd28 X G c _ rfl) ?_
  refine .cons (dd29 X G c _ rfl) ?_
  refine .cons (dd30 X G c _ rfl) ?_
  refine .cons (dd31 X G c _ rfl) ?_
  refine .cons (dd32 X G c _ rfl) ?_
  refine .cons (dd33 X G c _ rfl) ?_
  refine .cons (dd34 X G c _ rfl) ?_
  refine .cons (dd35 X G c _ rfl) ?_
  refine .cons (dd36 X G c _ rfl) ?_
  refine .cons (dd37 X G c _ rfl) ?_
  refine .cons (dd38 X G c _ rfl) ?_
  refine .cons (dd39 X G c _ rfl) ?_
  refine .cons (dd40 X G c _ rfl) ?_
  refine .cons (dd41 X G c _ rfl) ?_
  refine .cons (dd42 X G c _ rfl) ?_
  refine .cons (dd43 X G c _ rfl) ?_
  refine .cons (dd44 X G c _ rfl) ?_
  refine .cons (dd45 X G c _ rfl) ?_
  refine .cons (dd46 X G c _ rfl) ?_
  exact .nil
theorem bts : ∀ x ∈ bnames, mg x = none := by
  unfold bnames
  refine List.forall_mem_cons.mpr ⟨He.free_ok X G (c.fact 47 (f := .free "len") rfl), ?_⟩
  refine List.forall_mem_cons.mpr ⟨He.free_ok X G (c.fact 48 (f := .free "isinstance") rfl), ?_⟩
  refine List.forall_mem_cons.mpr ⟨He.free_ok X G (c.fact 49 (f := .free "abs") rfl), ?_⟩
  refine List.forall_mem_cons.mpr ⟨He.free_ok X G (c.fact 50 (f := .free "int") rfl), ?_⟩
  refine List.forall_mem_cons.mpr ⟨He.free_ok X G (c.fact 51 (f := .free "bool") rfl), ?_⟩
  refine List.forall_mem_cons.mpr ⟨He.free_ok X G (c.fact 52 (f := .free "str") rfl), ?_⟩
  refine List.forall_mem_cons.mpr ⟨He.free_ok X G (c.fact 53 (f := .free "tuple") rfl), ?_⟩
  refine List.forall_mem_cons.mpr ⟨He.free_ok X G (c.fact 54 (f := .free "list") rfl), ?_⟩
  refine List.forall_mem_cons.mpr ⟨He.free_ok X G (c.fact 55 (f := .free "all") rfl), ?_⟩
  refine List.forall_mem_cons.mpr ⟨He.free_ok X G (c.fact 56 (f := .free "any") rfl), ?_⟩
  refine List.forall_mem_cons.mpr ⟨He.free_ok X G (c.fact 57 (f := .free "min") rfl), ?_⟩
  refine List.forall_mem_cons.mpr ⟨He.free_ok X G (c.fact 58 (f := .free "max") rfl), ?_⟩
  refine List.forall_mem_cons.mpr ⟨He.free_ok X G (c.fact 59 (f := .free "sorted") rfl), ?_⟩
  refine List.forall_mem_cons.mpr ⟨He.free_ok X G (c.fact 60 (f := .free "set") rfl), ?_⟩
  refine List.forall_mem_cons.mpr ⟨He.free_ok X G (c.fact 61 (f := .free "range") rfl), ?_⟩
  refine List.forall_mem_cons.mpr ⟨He.free_ok X G (c.fact 62 (f := .free "enumerate") rfl), ?_⟩
  refine List.forall_mem_cons.mpr ⟨He.free_ok X G (c.fact 63 (f := .free "zip") rfl), ?_⟩
  refine List.forall_mem_cons.mpr ⟨He.free_ok X G (c.fact 64 (f := .free "reversed") rfl), ?_⟩
  exact fun _ h => nomatch h
theorem funs (n : Nat) : Funs ⟨P, w, K, mg, base⟩ n (phi prog n) fns kwl :=
  funs_all (bts X G c) (fun k nm m ps e => by have := (alld (P := P) (w := w) (base := base) X G c).get k e; rw [Nat.zero_add] at this; exact this) n
end
theorem law_fn {P : Program} {w : World} {K : PySem.W.Frag} {h : Heap} {mg : Str → Option Value} {fa : Addr} (X : K.In h) (G : h.Ns mainGlobals mg) (c : He.SaysD Hd.fa Hd.fn K) (hmg : mg ("law" : PySem.Str) = some (.ref fa)) (N : Nat) :
    ∃ fd : FuncData, (∀ (s : Shared) (v : Value), BindsTo s fd ⟨[v], []⟩ [("script", v)]) ∧ ∀ base : Heap, K.In base → base.Ns mainGlobals mg → FnOk P w K mg base CX0 (N + 1) fa fd ["script"] (spOf K [] (phi prog (N + 1) 46)) := by
  obtain ⟨fd, F⟩ := c.def_ 46 (d := Hd.dD "law" "law" 52) rfl
  have e := hmg.symm.trans (He.glo_ok X G (c.fact 46 (f := .glo "law") rfl))
  cases e
  have b := FunD.bindsA (ps := ["script"]) F fun _ _ _ _ _ _ us hl => match us, hl with | [_], _ => rfl
  exact ⟨fd, fun s v => b s [v] rfl, fun base kb nb => def_ok (cp := c46) (k := 46) (m := 60) F ⟨rfl, rfl, rfl, by decide +kernel, rfl, by decide +kernel, by decide +kernel⟩ k46 rfl (by decide) (by decide) (funs kb nb c N)⟩
theorem room200 : Room 200 callerA := ⟨rfl, by decide, by decide⟩
end P85
open PySem PySem.W PySem.Calls PyProof.Rows
/-- the law, from what its term gives -/
theorem P85.of_plain (N : Nat) (hN : N + 1 ≤ 200) (hplain : ∀ ns : List Int, ns.length ≤ 63 → Vm.phi P85.prog (N + 1) 46 [.list (ns.map .int)] = some (.val (.bool true), [])) : PySem.Challenge.rw_changedalike_k85_whole_turners.Holds := by
  w_on; o_law
  refine HandSHeadRun.head_any (r := OpenLaw.row PySem.Challenge.rw_changedalike_k85_whole_turners) (q := view (OpenLaw.row PySem.Challenge.rw_changedalike_k85_whole_turners).prog [52]) (H := Hd.hk) (ob := Hd.ob) (M := 4000) (loose := Hd.nm) (d := HandSHeadRun.topDef (OpenLaw.row PySem.Challenge.rw_changedalike_k85_whole_turners).prog 52) (kwd := []) Hd.ob_eq
    (by kernel_rfl) (fun s => by kernel_rfl) Hd.run (by kernel_rfl) (by kernel_rfl) (by kernel_rfl) (by rfl) (by first | assumption | decide +kernel) (by decide +kernel) ⟨rfl, rfl, rfl, rfl, rfl, by decide +kernel⟩ ?hw ?hc
  case hw => w_witness2
  case hc =>
    refine L2.walk_ofE (l := PySem.Challenge.rw_changedalike_k85_whole_turners) (n := 63) (k := N + 1) (x := "script") (CX := L2.CX0) rfl (by decide) (by kernel_rfl) (P85.room200.mono hN) ?F (fun _ _ _ _ z => z)
    intro w mg fa h Y G hmg0
    obtain ⟨K, KX, c⟩ := Y
    have hmg : mg ("law" : PySem.Str) = some (.ref fa) := by
      have e : (HandSHeadRun.topDef (OpenLaw.row PySem.Challenge.rw_changedalike_k85_whole_turners).prog 52).name = ("law" : PySem.Str) := by kernel_rfl
      rw [← e]
      exact hmg0
    obtain ⟨fd, hb, hF⟩ := P85.law_fn (P := (PySem.Challenge.rw_changedalike_k85_whole_turners).prog) (w := w) KX G c hmg N
    exact ⟨K, fd, Vm.spOf K [] (Vm.phi P85.prog (N + 1) 46), KX, hb, fun H a ns hl _ hS => Vm.law_sp hS (hplain ns hl), hF⟩
set_option maxRecDepth 100000 in
theorem PySem.Challenge.cw_changedalike_k85_whole_turners_holds : PySem.Challenge.rw_changedalike_k85_whole_turners.Holds := by
  exact P85.of_plain 20 (by decide) fun ns hn => M85.law_true ns hn
