import PyProof.Rows.All
import PyProof.Rows.Many
import PyProof.Rows.Top
import PyProof.Rows.CellsNews
import PyProof.CompFree
import PyProof.WalksMore
import PyProof.DictKinds
import PyProof.DictStraight
import PyProof.StationsW
import PyProof.Rows.IntRules
import PyProof.Rows.RuleB_mul
import PyProof.Rows.RuleB_mod
import PyProof.Rows.RuleB_floordiv
import PyProof.Rows.RuleB_pow
import PyProof.Rows.RuleC_int
import PyProof.Rows.RuleU_int
import PyProof.Rows.RuleIs2
import PyProof.Rows.StrTemp
import PyProof.Rows.RuleN_abs
import PyProof.ListOps
import PyProof.ListMulRoad
import PyProof.DictRoads
import PyProof.Rows.RuleC_bool
import PyProof.Rows.EqDataRows
import PyProof.Rows.MinMaxN
import PyProof.IsiPairs
import PyProof.TypeOfCall
import PyProof.ListCopy
import PyProof.ListIndexNeg
import PyProof.ListIndexOut
import PyProof.Rows.SeqSlice
import PyProof.Rows.SeqMore
import PyProof.StrBlock
import PyProof.Rows.Range3
import PyProof.RulesDelMore
import PyProof.DelItemList
import PyProof.ForAny
import KE.FramesApart
import PyProof.Rows.Catch
import PyProof.RulesTry
import PyProof.ExcFactsAll.ValueError
import Open.Line
import Wide.All
import OpenK.AllK
import Wide.FinOn
import PySem.Challenge.RW_k10_0032
set_option Elab.async false
set_option linter.unusedVariables false
set_option linter.unusedSimpArgs false
set_option genSizeOf false

namespace Mine
open PySem PyProof.Rows

/-! pure data -/
inductive D where
  | none
  | bool (b : Bool)
  | int (i : Int)
  | typ (n : String)
  | tup (ds : List D)
  | lst (ds : List D)
  | dct (f : Int → Option Int) (n : Nat)

inductive R (α : Type) where
  | ok (a : α)
  | exc (c : String)
  | bad

inductive Slot where
  | unb
  | frz (d : D)
  | own (d : D)

/-- built-in functions that are called -/
inductive BI where
  | len | abs | min | max | list | type | isinstance

noncomputable def BI.name : BI → String
  | .len => "len" | .abs => "abs" | .min => "min" | .max => "max" | .list => "list" | .type => "type" | .isinstance => "isinstance"

set_option genSizeOf false
set_option genInjectivity false
mutual
inductive E where
  | int (i : Int)
  | bool (b : Bool)
  | none
  | var (i : Nat)
  | cvar (i : Nat)
  | tyname (n : String)
  | glob (j : Nat)
  | neg (e : E)
  | bin (op : Operator) (l r : E)
  | cmp (op : CmpOp) (l r : E)
  | and2 (l r : E)
  | call (f : Str) (args : Es)
  | bcall (b : BI) (args : Es)
  | lenv (i : Nat)
  | subv (i : Nat) (e : E)
  | sub (e i : E)
  | slice (e lo hi : E)
  | list (es : Es)
  | tup (es : Es)
  | comp (elt : E) (xs : List Str) (it : E) (cond : T)
  | range (es : Es)
  | count (e x : E)
inductive Es where
  | nil
  | cons (e : E) (es : Es)
inductive T where
  | tt
  | cmp (op : CmpOp) (l r : E)
  | not (t : T)
  | and (ts : Ts)
  | or (ts : Ts)
  | val (e : E)
inductive Ts where
  | nil
  | cons (t : T) (ts : Ts)
end

set_option genInjectivity true
/-! what the operations give -/
noncomputable def small (i : Int) : Prop := -(2 ^ 63) ≤ i ∧ i < 2 ^ 63

noncomputable def binW : Operator → D → D → (D → Prop) → Prop
  | .Add, .int a, .int b, Q => Q (.int (a + b))
  | .Sub, .int a, .int b, Q => Q (.int (a - b))
  | .Mult, .int a, .int b, Q => (small a ∨ small b) ∧ Q (.int (a * b))
  | .FloorDiv, .int a, .int b, Q => b ≠ 0 ∧ small b ∧ Q (.int (a.fdiv b))
  | .Mod, .int a, .int b, Q => b ≠ 0 ∧ Q (.int (a.fmod b))
  | .Pow, .int a, .int n, Q => a = 2 ∧ 0 ≤ n ∧ n ≤ 1000 ∧ Q (.int (2 ^ n.toNat))
  | .Add, .lst a, .lst b, Q => a.length + b.length ≤ 16777216 ∧ Q (.lst (a ++ b))
  | .Mult, .lst a, .int k, Q => small k ∧ a.length * k.toNat ≤ 16777216 ∧ Q (.lst (List.replicate k.toNat a).flatten)
  | _, _, _, _ => False

/-- data whose == is the sameness of the data: no bools, types, dicts within -/
inductive Plain : D → Prop where
  | none : Plain .none
  | int (i) : Plain (.int i)
  | tup {ds} : (∀ d ∈ ds, Plain d) → Plain (.tup ds)
  | lst {ds} : (∀ d ∈ ds, Plain d) → Plain (.lst ds)

/-- how deep -/
noncomputable def D.dep : Nat → D → Prop
  | 0, .tup _ => False
  | 0, .lst _ => False
  | n + 1, .tup ds => ∀ d ∈ ds, d.dep n
  | n + 1, .lst ds => ∀ d ∈ ds, d.dep n
  | _, _ => True

open Classical in
noncomputable def eqB (a b : D) : Bool := decide (a = b)

noncomputable def eqW (a b : D) (Q : Bool → Prop) : Prop :=
  match a, b with
  | .bool x, .bool y => Q (x == y)
  | .int x, .int y => Q (x == y)
  | .lst xs, .lst ys => Plain (.lst xs) ∧ Plain (.lst ys) ∧ D.dep 6 (.lst xs) ∧ D.dep 6 (.lst ys) ∧ Q (eqB (.lst xs) (.lst ys))
  | .tup xs, .tup ys => Plain (.tup xs) ∧ Plain (.tup ys) ∧ D.dep 6 (.tup xs) ∧ D.dep 6 (.tup ys) ∧ Q (eqB (.tup xs) (.tup ys))
  | _, _ => False

noncomputable def isW (a b : D) (Q : Bool → Prop) : Prop :=
  match a, b with
  | .bool x, .bool y => Q (x == y)
  | .none, .none => Q true
  | .typ x, .typ y => Q (x == y)
  | .tup _, .none => Q false
  | .lst _, .none => Q false
  | .none, .bool _ => Q false
  | _, _ => False

noncomputable def cmpW : CmpOp → D → D → (Bool → Prop) → Prop
  | .Eq, a, b, Q => eqW a b Q
  | .NotEq, a, b, Q => eqW a b (fun r => Q (!r))
  | .Lt, .int a, .int b, Q => Q (decide (a < b))
  | .LtE, .int a, .int b, Q => Q (decide (a ≤ b))
  | .Gt, .int a, .int b, Q => Q (decide (b < a))
  | .GtE, .int a, .int b, Q => Q (decide (b ≤ a))
  | .Is, a, b, Q => isW a b Q
  | .IsNot, a, b, Q => isW a b (fun r => Q (!r))
  | .In, .int k, .dct f _, Q => Q (f k).isSome
  | _, _, _, _ => False

/-- an item by its place, as Python counts it -/
noncomputable def itemW (X : String → Prop) (ds : List D) (k : Int) (Q : D → Prop) : Prop :=
  small k ∧ (if 0 ≤ k then (match ds[k.toNat]? with | some d => Q d | .none => X "IndexError")
    else if 0 ≤ k + ds.length then (match ds[(k + ds.length).toNat]? with | some d => Q d | .none => False) else X "IndexError")

noncomputable def subW (X : String → Prop) (o i : D) (Q : D → Prop) : Prop :=
  match o, i with
  | .lst ds, .int k => itemW X ds k Q
  | .tup ds, .int k => itemW (fun _ => False) ds k Q
  | .dct f _, .int k => (match f k with | some v => Q (.int v) | .none => False)
  | _, _ => False

noncomputable def LoIs : D → Nat → Prop
  | .none, a => a = 0
  | .int i, a => (0 ≤ i ∧ i < 2 ^ 63) ∧ a = i.toNat
  | _, _ => False
noncomputable def HiIs (n : Nat) : D → Nat → Prop
  | .none, b => b = n
  | .int i, b => (0 ≤ i ∧ i < 2 ^ 63) ∧ b = i.toNat
  | _, _ => False

noncomputable def sliceW (o lo hi : D) (Q : D → Prop) : Prop :=
  match o with
  | .lst ds => ∃ a b, LoIs lo a ∧ HiIs ds.length hi b ∧ ds.length ≤ 16777216 ∧ Q (.lst ((ds.drop a).take (b - a)))
  | _ => False

noncomputable def unInts : List D → Option (List Int)
  | [] => some []
  | .int i :: r => (unInts r).map (i :: ·)
  | _ :: _ => .none

noncomputable def maxL : Int → List Int → Int
  | a, [] => a
  | a, b :: r => maxL (if b > a then b else a) r

noncomputable def D.tyName : D → Option String
  | .none => some "NoneType"
  | .bool _ => some "bool"
  | .int _ => some "int"
  | .lst _ => some "list"
  | .tup _ => some "tuple"
  | .dct _ _ => some "dict"
  | .typ _ => .none

noncomputable def bcallW : BI → List D → (D → Prop) → Prop
  | .len, [.lst ds], Q => ds.length < 2 ^ 62 ∧ Q (.int ds.length)
  | .len, [.tup ds], Q => ds.length < 2 ^ 62 ∧ Q (.int ds.length)
  | .abs, [.int i], Q => Q (.int (if i < 0 then -i else i))
  | .min, [.int a, .int b], Q => Q (.int (if b < a then b else a))
  | .max, [.lst ds], Q => (match unInts ds with | some (a :: r) => Q (.int (maxL a r)) | _ => False)
  | .list, [.lst ds], Q => ds.length ≤ 16777216 ∧ Q (.lst ds)
  | .type, [d], Q => (match d.tyName with | some n => Q (.typ n) | .none => False)
  | .isinstance, [.bool _, .typ n], Q => n = "bool" ∧ Q (.bool true)
  | _, _, _ => False

/-- the ints of a range -/
noncomputable def rangeL (a c : Int) : Nat → List Int
  | 0 => []
  | n + 1 => a :: rangeL (a + c) c n

noncomputable def rangeW (ds : List D) (Q : List D → Prop) : Prop :=
  match ds with
  | [.int b] => small (2 * b) ∧ Q ((rangeL 0 1 b.toNat).map .int)
  | [.int a, .int b] => small (2 * a) ∧ small (2 * b) ∧ Q ((rangeL a 1 (b - a).toNat).map .int)
  | [.int a, .int b, .int c] => small (2 * a) ∧ small (2 * b) ∧
      ((c = -1 ∧ Q ((rangeL a (-1) (a - b).toNat).map .int)) ∨ (0 < c ∧ c ≤ 1000 ∧ Q ((rangeL a c (if a < b then ((b - a - 1) / c + 1).toNat else 0)).map .int)))
  | _ => False

noncomputable def bindC (xs : List Str) (d : D) : Option (List D) :=
  match xs, d with
  | [_], d => some [d]
  | [_, _], .tup [a, b] => some [a, b]
  | _, _ => .none

noncomputable def compW (items : List D) (xs : List Str) (cond : List D → (Bool → Prop) → Prop) (elt : List D → (D → Prop) → Prop) (Q : D → Prop) : Prop :=
  items.length ≤ 16777216 ∧ ∃ (p : D → Bool) (f : D → D),
    (∀ d ∈ items, ∃ ds, bindC xs d = some ds ∧ cond ds (fun b => b = p d) ∧ (p d = true → elt ds (fun y => y = f d))) ∧ Q (.lst ((items.filter p).map f))

structure Fn where
  call : Str → List D → R D → Prop
  tabs : List (Str × D)
  top : Prop

mutual
noncomputable def wpE (X : String → Prop) (fn : Fn) (ρ : List Slot) : E → List D → (D → Prop) → Prop
  | .int i, _, Q => Q (.int i)
  | .bool b, _, Q => Q (.bool b)
  | .none, _, Q => Q .none
  | .var i, _, Q => (match ρ[i]? with | some (.frz d) => Q d | _ => False)
  | .cvar i, cs, Q => (match cs[i]? with | some d => Q d | .none => False)
  | .tyname n, _, Q => Q (.typ n)
  | .glob j, _, Q => (match fn.tabs[j]? with | some p => Q p.2 | .none => False)
  | .neg e, cs, Q => wpE X fn ρ e cs (fun d => match d with | .int i => Q (.int (-i)) | _ => False)
  | .bin op l r, cs, Q => wpE X fn ρ l cs (fun a => wpE X fn ρ r cs (fun b => binW op a b Q))
  | .cmp op l r, cs, Q => wpE X fn ρ l cs (fun a => wpE X fn ρ r cs (fun b => cmpW op a b (fun c => Q (.bool c))))
  | .and2 l r, cs, Q => wpE X fn ρ l cs (fun a => match a with | .bool true => wpE X fn ρ r cs Q | .bool false => Q (.bool false) | _ => False)
  | .call f args, cs, Q => wpEs X fn ρ args cs (fun ds => ∃ r, fn.call f ds r ∧ (match r with | .ok d => Q d | .exc c => X c | .bad => False))
  | .bcall b args, cs, Q => wpEs X fn ρ args cs (fun ds => bcallW b ds Q)
  | .lenv i, _, Q => (match ρ[i]? with | some (.own (.lst ds)) => ds.length < 2 ^ 62 ∧ Q (.int ds.length) | _ => False)
  | .subv i e, cs, Q => (match ρ[i]? with | some (.own d) => wpE X fn ρ e cs (fun k => subW X d k Q) | _ => False)
  | .sub e i, cs, Q => wpE X fn ρ e cs (fun o => wpE X fn ρ i cs (fun k => subW X o k Q))
  | .slice e lo hi, cs, Q => wpE X fn ρ e cs (fun o => wpE X fn ρ lo cs (fun a => wpE X fn ρ hi cs (fun b => sliceW o a b Q)))
  | .list es, cs, Q => wpEs X fn ρ es cs (fun ds => ds.length ≤ 16777216 ∧ Q (.lst ds))
  | .tup es, cs, Q => wpEs X fn ρ es cs (fun ds => ds.length ≤ 16777216 ∧ Q (.tup ds))
  | .comp elt xs it cond, cs, Q => wpI X fn ρ it cs (fun items => compW items xs (fun ds Q => wpT (fun _ => False) fn ρ cond ds Q) (fun ds Q => wpE (fun _ => False) fn ρ elt ds Q) Q)
  | .range _, _, _ => False
  | .count e x, cs, Q => wpE X fn ρ e cs (fun o => match o with
      | .lst ds => wpE X fn ρ x cs (fun k => match k with
        | .int k => (match unInts ds with | some is => Q (.int (is.count k)) | .none => False)
        | _ => False)
      | _ => False)
noncomputable def wpEs (X : String → Prop) (fn : Fn) (ρ : List Slot) : Es → List D → (List D → Prop) → Prop
  | .nil, _, Q => Q []
  | .cons e es, cs, Q => wpE X fn ρ e cs (fun d => wpEs X fn ρ es cs (fun ds => Q (d :: ds)))
noncomputable def wpT (X : String → Prop) (fn : Fn) (ρ : List Slot) : T → List D → (Bool → Prop) → Prop
  | .tt, _, Q => Q true
  | .cmp op l r, cs, Q => wpE X fn ρ l cs (fun a => wpE X fn ρ r cs (fun b => cmpW op a b Q))
  | .not t, cs, Q => wpT X fn ρ t cs (fun b => Q (!b))
  | .and ts, cs, Q => wpAll X fn ρ ts cs Q
  | .or ts, cs, Q => wpAnyT X fn ρ ts cs Q
  | .val e, cs, Q => wpE X fn ρ e cs (fun d => match d with | .bool b => Q b | _ => False)
noncomputable def wpAll (X : String → Prop) (fn : Fn) (ρ : List Slot) : Ts → List D → (Bool → Prop) → Prop
  | .nil, _, Q => Q true
  | .cons t ts, cs, Q => wpT X fn ρ t cs (fun b => if b = true then wpAll X fn ρ ts cs Q else Q false)
noncomputable def wpAnyT (X : String → Prop) (fn : Fn) (ρ : List Slot) : Ts → List D → (Bool → Prop) → Prop
  | .nil, _, Q => Q false
  | .cons t ts, cs, Q => wpT X fn ρ t cs (fun b => if b = true then Q true else wpAnyT X fn ρ ts cs Q)
noncomputable def wpI (X : String → Prop) (fn : Fn) (ρ : List Slot) : E → List D → (List D → Prop) → Prop
  | .range es, cs, Q => wpEs X fn ρ es cs (fun ds => rangeW ds Q)
  | .var i, _, Q => (match ρ[i]? with | some (.frz d) => (match d with | .lst ds => Q ds | _ => False) | _ => False)
  | .call f args, cs, Q => wpEs X fn ρ args cs (fun ds => ∃ r, fn.call f ds r ∧ (match r with | .ok d => (match d with | .lst ds => Q ds | _ => False) | .exc c => X c | .bad => False))
  | .slice e lo hi, cs, Q => wpE X fn ρ e cs (fun o => wpE X fn ρ lo cs (fun a => wpE X fn ρ hi cs (fun b => sliceW o a b (fun d => match d with | .lst ds => Q ds | _ => False))))
  | _, _, _ => False
end

set_option genSizeOf false
set_option genInjectivity false
mutual
inductive S where
  | assign (i : Nat) (e : E)
  | assignO (i : Nat) (e : E)
  | freeze (i : Nat)
  | unpack (is : List Nat) (e : E)
  | setitem (i : Nat) (idx e : E)
  | append (i : Nat) (e : E)
  | delitem (i : Nat) (idx : E)
  | ite (t : T) (a b : Ss)
  | for1 (x : Nat) (it : E) (body : Ss)
  | forT (xs : List Nat) (it : E) (body : Ss)
  | whil (t : T) (body : Ss)
  | ret (e : E)
  | raise (c : String)
  | tryE (i : Nat) (e : E) (c : String) (j : Nat) (b : Bool)
  | newdict (i : Nat)
  | junk
inductive Ss where
  | nil
  | cons (s : S) (ss : Ss)
end

set_option genInjectivity true
inductive Out where
  | next
  | ret (d : D)

noncomputable def setAll : List Slot → List Nat → List D → List Slot
  | ρ, i :: is, d :: ds => setAll (ρ.set i (.frz d)) is ds
  | ρ, _, _ => ρ

noncomputable def setAt (ds : List D) (k : Int) (v : D) : Option (List D) :=
  if 0 ≤ k ∧ k < ds.length then some (ds.set k.toNat v) else if k < 0 ∧ 0 ≤ k + ds.length then some (ds.set (k + ds.length).toNat v) else .none

/-- the loop's turns, by an invariant -/
noncomputable def forW (items : List D) (bind : List Slot → D → Option (List Slot)) (turn : List Slot → (Out → List Slot → Prop) → Prop) (ρ : List Slot) (Q : Out → List Slot → Prop) : Prop :=
  ∃ I : Nat → List Slot → Prop, I 0 ρ ∧
    (∀ k ρ' d, I k ρ' → items[k]? = some d → ∃ ρ₁, bind ρ' d = some ρ₁ ∧ turn ρ₁ (fun o ρ'' => match o with | .next => I (k + 1) ρ'' | .ret v => Q (.ret v) ρ'')) ∧
    ∀ ρ', I items.length ρ' → Q .next ρ'

noncomputable def bindT (xs : List Nat) (ρ : List Slot) (d : D) : Option (List Slot) :=
  match d with
  | .tup ds => if ds.length = xs.length then some (setAll ρ xs ds) else .none
  | _ => .none

mutual
noncomputable def wpS (fn : Fn) : S → (String → List Slot → Prop) → List Slot → (Out → List Slot → Prop) → Prop
  | .assign i e, X, ρ, Q => wpE (fun c => X c ρ) fn ρ e [] (fun d => Q .next (ρ.set i (.frz d)))
  | .assignO i e, X, ρ, Q => wpE (fun c => X c ρ) fn ρ e [] (fun d => match d with | .lst ds => Q .next (ρ.set i (.own (.lst ds))) | _ => False)
  | .freeze i, _, ρ, Q => (match ρ[i]? with | some (.own d) => Q .next (ρ.set i (.frz d)) | some (.frz _) => Q .next ρ | _ => False)
  | .unpack is e, X, ρ, Q => wpE (fun c => X c ρ) fn ρ e [] (fun d => match d with | .tup ds => ds.length = is.length ∧ Q .next (setAll ρ is ds) | _ => False)
  | .setitem i idx e, X, ρ, Q => (match ρ[i]? with
      | some (.own (.lst ds)) => wpE (fun c => X c ρ) fn ρ e [] (fun v => wpE (fun c => X c ρ) fn ρ idx [] (fun k => match k with
        | .int k => small k ∧ (match setAt ds k v with | some ds' => Q .next (ρ.set i (.own (.lst ds'))) | .none => False)
        | _ => False))
      | some (.own (.dct g n)) => wpE (fun c => X c ρ) fn ρ e [] (fun v => wpE (fun c => X c ρ) fn ρ idx [] (fun k => match k, v with
        | .int k, .int v => n < 1000000 ∧ Q .next (ρ.set i (.own (.dct (fun x => if x = k then some v else g x) (n + 1))))
        | _, _ => False))
      | _ => False)
  | .append i e, X, ρ, Q => (match ρ[i]? with
      | some (.own (.lst ds)) => wpE (fun c => X c ρ) fn ρ e [] (fun v => ds.length < 16777216 ∧ Q .next (ρ.set i (.own (.lst (ds ++ [v])))))
      | _ => False)
  | .delitem i idx, X, ρ, Q => (match ρ[i]? with
      | some (.own (.lst ds)) => wpE (fun c => X c ρ) fn ρ idx [] (fun k => match k with
        | .int k => k = -1 ∧ ds ≠ [] ∧ ds.length < 16777216 ∧ Q .next (ρ.set i (.own (.lst ds.dropLast)))
        | _ => False)
      | _ => False)
  | .ite t a b, X, ρ, Q => wpT (fun c => X c ρ) fn ρ t [] (fun c => if c = true then wpSs fn a X ρ Q else wpSs fn b X ρ Q)
  | .for1 x it body, X, ρ, Q => wpI (fun c => X c ρ) fn ρ it [] (fun items => forW items (fun ρ d => some (ρ.set x (.frz d))) (fun ρ Q => wpSs fn body X ρ Q) ρ Q)
  | .forT xs it body, X, ρ, Q => wpI (fun c => X c ρ) fn ρ it [] (fun items => forW items (bindT xs) (fun ρ Q => wpSs fn body X ρ Q) ρ Q)
  | .whil t body, X, ρ, Q => ∃ (I : Nat → List Slot → Prop) (n₀ : Nat), I n₀ ρ ∧ ∀ n ρ', I n ρ' → wpT (fun c => X c ρ') fn ρ' t [] (fun b => if b = true
      then wpSs fn body X ρ' (fun o ρ'' => match o with | .next => ∃ m, m < n ∧ I m ρ'' | .ret v => Q (.ret v) ρ'')
      else Q .next ρ')
  | .ret e, X, ρ, Q => wpE (fun c => X c ρ) fn ρ e [] (fun d => Q (.ret d) ρ)
  | .raise c, X, ρ, _ => X c ρ
  | .tryE i e c j b, _, ρ, Q => fn.top ∧ wpE (fun c' => c' = c ∧ Q .next (ρ.set j (.frz (.bool b)))) fn ρ e [] (fun d => Q .next (ρ.set i (.frz d)))
  | .newdict i, _, ρ, Q => Q .next (ρ.set i (.own (.dct (fun _ => .none) 0)))
  | .junk, _, _, _ => False
noncomputable def wpSs (fn : Fn) : Ss → (String → List Slot → Prop) → List Slot → (Out → List Slot → Prop) → Prop
  | .nil, _, ρ, Q => Q .next ρ
  | .cons s ss, X, ρ, Q => wpS fn s X ρ (fun o ρ' => match o with | .next => wpSs fn ss X ρ' Q | .ret d => Q (.ret d) ρ')
end
theorem zq_wpE_0 (X : String → Prop) (fn : Fn) (ρ : List Slot) : ∀ i z1_0 Q, wpE X fn ρ (.int i) (z1_0) (Q) = (Q (.int i)) := fun _ _ _ => rfl
theorem zq_wpE_1 (X : String → Prop) (fn : Fn) (ρ : List Slot) : ∀ b z1_0 Q, wpE X fn ρ (.bool b) (z1_0) (Q) = (Q (.bool b)) := fun _ _ _ => rfl
theorem zq_wpE_2 (X : String → Prop) (fn : Fn) (ρ : List Slot) : ∀ z1_0 Q, wpE X fn ρ (.none) (z1_0) (Q) = (Q .none) := fun _ _ => rfl
theorem zq_wpE_3 (X : String → Prop) (fn : Fn) (ρ : List Slot) : ∀ i z1_0 Q, wpE X fn ρ (.var i) (z1_0) (Q) = ((match ρ[i]? with | some (.frz d) => Q d | _ => False)) := fun _ _ _ => rfl
theorem zq_wpE_4 (X : String → Prop) (fn : Fn) (ρ : List Slot) : ∀ i cs Q, wpE X fn ρ (.cvar i) (cs) (Q) = ((match cs[i]? with | some d => Q d | .none => False)) := fun _ _ _ => rfl
theorem zq_wpE_5 (X : String → Prop) (fn : Fn) (ρ : List Slot) : ∀ n z1_0 Q, wpE X fn ρ (.tyname n) (z1_0) (Q) = (Q (.typ n)) := fun _ _ _ => rfl
theorem zq_wpE_6 (X : String → Prop) (fn : Fn) (ρ : List Slot) : ∀ j z1_0 Q, wpE X fn ρ (.glob j) (z1_0) (Q) = ((match fn.tabs[j]? with | some p => Q p.2 | .none => False)) := fun _ _ _ => rfl
theorem zq_wpE_7 (X : String → Prop) (fn : Fn) (ρ : List Slot) : ∀ e cs Q, wpE X fn ρ (.neg e) (cs) (Q) = (wpE X fn ρ e cs (fun d => match d with | .int i => Q (.int (-i)) | _ => False)) := fun _ _ _ => rfl
theorem zq_wpE_8 (X : String → Prop) (fn : Fn) (ρ : List Slot) : ∀ op l r cs Q, wpE X fn ρ (.bin op l r) (cs) (Q) = (wpE X fn ρ l cs (fun a => wpE X fn ρ r cs (fun b => binW op a b Q))) := fun _ _ _ _ _ => rfl
theorem zq_wpE_9 (X : String → Prop) (fn : Fn) (ρ : List Slot) : ∀ op l r cs Q, wpE X fn ρ (.cmp op l r) (cs) (Q) = (wpE X fn ρ l cs (fun a => wpE X fn ρ r cs (fun b => cmpW op a b (fun c => Q (.bool c))))) := fun _ _ _ _ _ => rfl
theorem zq_wpE_10 (X : String → Prop) (fn : Fn) (ρ : List Slot) : ∀ l r cs Q, wpE X fn ρ (.and2 l r) (cs) (Q) = (wpE X fn ρ l cs (fun a => match a with | .bool true => wpE X fn ρ r cs Q | .bool false => Q (.bool false) | _ => False)) := fun _ _ _ _ => rfl
theorem zq_wpE_11 (X : String → Prop) (fn : Fn) (ρ : List Slot) : ∀ f args cs Q, wpE X fn ρ (.call f args) (cs) (Q) = (wpEs X fn ρ args cs (fun ds => ∃ r, fn.call f ds r ∧ (match r with | .ok d => Q d | .exc c => X c | .bad => False))) := fun _ _ _ _ => rfl
theorem zq_wpE_12 (X : String → Prop) (fn : Fn) (ρ : List Slot) : ∀ b args cs Q, wpE X fn ρ (.bcall b args) (cs) (Q) = (wpEs X fn ρ args cs (fun ds => bcallW b ds Q)) := fun _ _ _ _ => rfl
theorem zq_wpE_13 (X : String → Prop) (fn : Fn) (ρ : List Slot) : ∀ i z1_0 Q, wpE X fn ρ (.lenv i) (z1_0) (Q) = ((match ρ[i]? with | some (.own (.lst ds)) => ds.length < 2 ^ 62 ∧ Q (.int ds.length) | _ => False)) := fun _ _ _ => rfl
theorem zq_wpE_14 (X : String → Prop) (fn : Fn) (ρ : List Slot) : ∀ i e cs Q, wpE X fn ρ (.subv i e) (cs) (Q) = ((match ρ[i]? with | some (.own d) => wpE X fn ρ e cs (fun k => subW X d k Q) | _ => False)) := fun _ _ _ _ => rfl
theorem zq_wpE_15 (X : String → Prop) (fn : Fn) (ρ : List Slot) : ∀ e i cs Q, wpE X fn ρ (.sub e i) (cs) (Q) = (wpE X fn ρ e cs (fun o => wpE X fn ρ i cs (fun k => subW X o k Q))) := fun _ _ _ _ => rfl
theorem zq_wpE_16 (X : String → Prop) (fn : Fn) (ρ : List Slot) : ∀ e lo hi cs Q, wpE X fn ρ (.slice e lo hi) (cs) (Q) = (wpE X fn ρ e cs (fun o => wpE X fn ρ lo cs (fun a => wpE X fn ρ hi cs (fun b => sliceW o a b Q)))) := fun _ _ _ _ _ => rfl
theorem zq_wpE_17 (X : String → Prop) (fn : Fn) (ρ : List Slot) : ∀ es cs Q, wpE X fn ρ (.list es) (cs) (Q) = (wpEs X fn ρ es cs (fun ds => ds.length ≤ 16777216 ∧ Q (.lst ds))) := fun _ _ _ => rfl
theorem zq_wpE_18 (X : String → Prop) (fn : Fn) (ρ : List Slot) : ∀ es cs Q, wpE X fn ρ (.tup es) (cs) (Q) = (wpEs X fn ρ es cs (fun ds => ds.length ≤ 16777216 ∧ Q (.tup ds))) := fun _ _ _ => rfl
theorem zq_wpE_19 (X : String → Prop) (fn : Fn) (ρ : List Slot) : ∀ elt xs it cond cs Q, wpE X fn ρ (.comp elt xs it cond) (cs) (Q) = (wpI X fn ρ it cs (fun items => compW items xs (fun ds Q => wpT (fun _ => False) fn ρ cond ds Q) (fun ds Q => wpE (fun _ => False) fn ρ elt ds Q) Q)) := fun _ _ _ _ _ _ => rfl
theorem zq_wpE_20 (X : String → Prop) (fn : Fn) (ρ : List Slot) : ∀ z0_0 z1_0 z2_0, wpE X fn ρ (.range z0_0) (z1_0) (z2_0) = (False) := fun _ _ _ => rfl
theorem zq_wpE_21 (X : String → Prop) (fn : Fn) (ρ : List Slot) : ∀ e x cs Q, wpE X fn ρ (.count e x) (cs) (Q) = (wpE X fn ρ e cs (fun o => match o with
      | .lst ds => wpE X fn ρ x cs (fun k => match k with
        | .int k => (match unInts ds with | some is => Q (.int (is.count k)) | .none => False)
        | _ => False)
      | _ => False)) := fun _ _ _ _ => rfl
theorem zq_wpEs_0 (X : String → Prop) (fn : Fn) (ρ : List Slot) : ∀ z1_0 Q, wpEs X fn ρ (.nil) (z1_0) (Q) = (Q []) := fun _ _ => rfl
theorem zq_wpEs_1 (X : String → Prop) (fn : Fn) (ρ : List Slot) : ∀ e es cs Q, wpEs X fn ρ (.cons e es) (cs) (Q) = (wpE X fn ρ e cs (fun d => wpEs X fn ρ es cs (fun ds => Q (d :: ds)))) := fun _ _ _ _ => rfl
theorem zq_wpT_0 (X : String → Prop) (fn : Fn) (ρ : List Slot) : ∀ z1_0 Q, wpT X fn ρ (.tt) (z1_0) (Q) = (Q true) := fun _ _ => rfl
theorem zq_wpT_1 (X : String → Prop) (fn : Fn) (ρ : List Slot) : ∀ op l r cs Q, wpT X fn ρ (.cmp op l r) (cs) (Q) = (wpE X fn ρ l cs (fun a => wpE X fn ρ r cs (fun b => cmpW op a b Q))) := fun _ _ _ _ _ => rfl
theorem zq_wpT_2 (X : String → Prop) (fn : Fn) (ρ : List Slot) : ∀ t cs Q, wpT X fn ρ (.not t) (cs) (Q) = (wpT X fn ρ t cs (fun b => Q (!b))) := fun _ _ _ => rfl
theorem zq_wpT_3 (X : String → Prop) (fn : Fn) (ρ : List Slot) : ∀ ts cs Q, wpT X fn ρ (.and ts) (cs) (Q) = (wpAll X fn ρ ts cs Q) := fun _ _ _ => rfl
theorem zq_wpT_4 (X : String → Prop) (fn : Fn) (ρ : List Slot) : ∀ ts cs Q, wpT X fn ρ (.or ts) (cs) (Q) = (wpAnyT X fn ρ ts cs Q) := fun _ _ _ => rfl
theorem zq_wpT_5 (X : String → Prop) (fn : Fn) (ρ : List Slot) : ∀ e cs Q, wpT X fn ρ (.val e) (cs) (Q) = (wpE X fn ρ e cs (fun d => match d with | .bool b => Q b | _ => False)) := fun _ _ _ => rfl
theorem zq_wpAll_0 (X : String → Prop) (fn : Fn) (ρ : List Slot) : ∀ z1_0 Q, wpAll X fn ρ (.nil) (z1_0) (Q) = (Q true) := fun _ _ => rfl
theorem zq_wpAll_1 (X : String → Prop) (fn : Fn) (ρ : List Slot) : ∀ t ts cs Q, wpAll X fn ρ (.cons t ts) (cs) (Q) = (wpT X fn ρ t cs (fun b => if b = true then wpAll X fn ρ ts cs Q else Q false)) := fun _ _ _ _ => rfl
theorem zq_wpAnyT_0 (X : String → Prop) (fn : Fn) (ρ : List Slot) : ∀ z1_0 Q, wpAnyT X fn ρ (.nil) (z1_0) (Q) = (Q false) := fun _ _ => rfl
theorem zq_wpAnyT_1 (X : String → Prop) (fn : Fn) (ρ : List Slot) : ∀ t ts cs Q, wpAnyT X fn ρ (.cons t ts) (cs) (Q) = (wpT X fn ρ t cs (fun b => if b = true then Q true else wpAnyT X fn ρ ts cs Q)) := fun _ _ _ _ => rfl
theorem zq_wpI_0 (X : String → Prop) (fn : Fn) (ρ : List Slot) : ∀ es cs Q, wpI X fn ρ (.range es) (cs) (Q) = (wpEs X fn ρ es cs (fun ds => rangeW ds Q)) := fun _ _ _ => rfl
theorem zq_wpI_1 (X : String → Prop) (fn : Fn) (ρ : List Slot) : ∀ i z1_0 Q, wpI X fn ρ (.var i) (z1_0) (Q) = ((match ρ[i]? with | some (.frz d) => (match d with | .lst ds => Q ds | _ => False) | _ => False)) := fun _ _ _ => rfl
theorem zq_wpI_2 (X : String → Prop) (fn : Fn) (ρ : List Slot) : ∀ f args cs Q, wpI X fn ρ (.call f args) (cs) (Q) = (wpEs X fn ρ args cs (fun ds => ∃ r, fn.call f ds r ∧ (match r with | .ok d => (match d with | .lst ds => Q ds | _ => False) | .exc c => X c | .bad => False))) := fun _ _ _ _ => rfl
theorem zq_wpI_3 (X : String → Prop) (fn : Fn) (ρ : List Slot) : ∀ e lo hi cs Q, wpI X fn ρ (.slice e lo hi) (cs) (Q) = (wpE X fn ρ e cs (fun o => wpE X fn ρ lo cs (fun a => wpE X fn ρ hi cs (fun b => sliceW o a b (fun d => match d with | .lst ds => Q ds | _ => False))))) := fun _ _ _ _ _ => rfl
theorem zq_wpS_0 (fn : Fn) : ∀ i e X ρ Q, wpS fn (.assign i e) (X) (ρ) (Q) = (wpE (fun c => X c ρ) fn ρ e [] (fun d => Q .next (ρ.set i (.frz d)))) := fun _ _ _ _ _ => rfl
theorem zq_wpS_1 (fn : Fn) : ∀ i e X ρ Q, wpS fn (.assignO i e) (X) (ρ) (Q) = (wpE (fun c => X c ρ) fn ρ e [] (fun d => match d with | .lst ds => Q .next (ρ.set i (.own (.lst ds))) | _ => False)) := fun _ _ _ _ _ => rfl
theorem zq_wpS_2 (fn : Fn) : ∀ i z1_0 ρ Q, wpS fn (.freeze i) (z1_0) (ρ) (Q) = ((match ρ[i]? with | some (.own d) => Q .next (ρ.set i (.frz d)) | some (.frz _) => Q .next ρ | _ => False)) := fun _ _ _ _ => rfl
theorem zq_wpS_3 (fn : Fn) : ∀ is e X ρ Q, wpS fn (.unpack is e) (X) (ρ) (Q) = (wpE (fun c => X c ρ) fn ρ e [] (fun d => match d with | .tup ds => ds.length = is.length ∧ Q .next (setAll ρ is ds) | _ => False)) := fun _ _ _ _ _ => rfl
theorem zq_wpS_4 (fn : Fn) : ∀ i idx e X ρ Q, wpS fn (.setitem i idx e) (X) (ρ) (Q) = ((match ρ[i]? with
      | some (.own (.lst ds)) => wpE (fun c => X c ρ) fn ρ e [] (fun v => wpE (fun c => X c ρ) fn ρ idx [] (fun k => match k with
        | .int k => small k ∧ (match setAt ds k v with | some ds' => Q .next (ρ.set i (.own (.lst ds'))) | .none => False)
        | _ => False))
      | some (.own (.dct g n)) => wpE (fun c => X c ρ) fn ρ e [] (fun v => wpE (fun c => X c ρ) fn ρ idx [] (fun k => match k, v with
        | .int k, .int v => n < 1000000 ∧ Q .next (ρ.set i (.own (.dct (fun x => if x = k then some v else g x) (n + 1))))
        | _, _ => False))
      | _ => False)) := fun _ _ _ _ _ _ => rfl
theorem zq_wpS_5 (fn : Fn) : ∀ i e X ρ Q, wpS fn (.append i e) (X) (ρ) (Q) = ((match ρ[i]? with
      | some (.own (.lst ds)) => wpE (fun c => X c ρ) fn ρ e [] (fun v => ds.length < 16777216 ∧ Q .next (ρ.set i (.own (.lst (ds ++ [v])))))
      | _ => False)) := fun _ _ _ _ _ => rfl
theorem zq_wpS_6 (fn : Fn) : ∀ i idx X ρ Q, wpS fn (.delitem i idx) (X) (ρ) (Q) = ((match ρ[i]? with
      | some (.own (.lst ds)) => wpE (fun c => X c ρ) fn ρ idx [] (fun k => match k with
        | .int k => k = -1 ∧ ds ≠ [] ∧ ds.length < 16777216 ∧ Q .next (ρ.set i (.own (.lst ds.dropLast)))
        | _ => False)
      | _ => False)) := fun _ _ _ _ _ => rfl
theorem zq_wpS_7 (fn : Fn) : ∀ t a b X ρ Q, wpS fn (.ite t a b) (X) (ρ) (Q) = (wpT (fun c => X c ρ) fn ρ t [] (fun c => if c = true then wpSs fn a X ρ Q else wpSs fn b X ρ Q)) := fun _ _ _ _ _ _ => rfl
theorem zq_wpS_8 (fn : Fn) : ∀ x it body X ρ Q, wpS fn (.for1 x it body) (X) (ρ) (Q) = (wpI (fun c => X c ρ) fn ρ it [] (fun items => forW items (fun ρ d => some (ρ.set x (.frz d))) (fun ρ Q => wpSs fn body X ρ Q) ρ Q)) := fun _ _ _ _ _ _ => rfl
theorem zq_wpS_9 (fn : Fn) : ∀ xs it body X ρ Q, wpS fn (.forT xs it body) (X) (ρ) (Q) = (wpI (fun c => X c ρ) fn ρ it [] (fun items => forW items (bindT xs) (fun ρ Q => wpSs fn body X ρ Q) ρ Q)) := fun _ _ _ _ _ _ => rfl
theorem zq_wpS_10 (fn : Fn) : ∀ t body X ρ Q, wpS fn (.whil t body) (X) (ρ) (Q) = (∃ (I : Nat → List Slot → Prop) (n₀ : Nat), I n₀ ρ ∧ ∀ n ρ', I n ρ' → wpT (fun c => X c ρ') fn ρ' t [] (fun b => if b = true
      then wpSs fn body X ρ' (fun o ρ'' => match o with | .next => ∃ m, m < n ∧ I m ρ'' | .ret v => Q (.ret v) ρ'')
      else Q .next ρ')) := fun _ _ _ _ _ => rfl
theorem zq_wpS_11 (fn : Fn) : ∀ e X ρ Q, wpS fn (.ret e) (X) (ρ) (Q) = (wpE (fun c => X c ρ) fn ρ e [] (fun d => Q (.ret d) ρ)) := fun _ _ _ _ => rfl
theorem zq_wpS_12 (fn : Fn) : ∀ c X ρ z3_0, wpS fn (.raise c) (X) (ρ) (z3_0) = (X c ρ) := fun _ _ _ _ => rfl
theorem zq_wpS_13 (fn : Fn) : ∀ i e c j b z1_0 ρ Q, wpS fn (.tryE i e c j b) (z1_0) (ρ) (Q) = (fn.top ∧ wpE (fun c' => c' = c ∧ Q .next (ρ.set j (.frz (.bool b)))) fn ρ e [] (fun d => Q .next (ρ.set i (.frz d)))) := fun _ _ _ _ _ _ _ _ => rfl
theorem zq_wpS_14 (fn : Fn) : ∀ i z1_0 ρ Q, wpS fn (.newdict i) (z1_0) (ρ) (Q) = (Q .next (ρ.set i (.own (.dct (fun _ => .none) 0)))) := fun _ _ _ _ => rfl
theorem zq_wpS_15 (fn : Fn) : ∀ z1_0 z2_0 z3_0, wpS fn (.junk) (z1_0) (z2_0) (z3_0) = (False) := fun _ _ _ => rfl
theorem zq_wpSs_0 (fn : Fn) : ∀ z1_0 ρ Q, wpSs fn (.nil) (z1_0) (ρ) (Q) = (Q .next ρ) := fun _ _ _ => rfl
theorem zq_wpSs_1 (fn : Fn) : ∀ s ss X ρ Q, wpSs fn (.cons s ss) (X) (ρ) (Q) = (wpS fn s X ρ (fun o ρ' => match o with | .next => wpSs fn ss X ρ' Q | .ret d => Q (.ret d) ρ')) := fun _ _ _ _ _ => rfl


end Mine

set_option genInjectivity false

namespace Mine
open PySem PyProof.Rows

noncomputable abbrev KM := Addr → Option Obj
noncomputable def KM.le (K K' : KM) : Prop := ∀ a o, K a = some o → K' a = some o
noncomputable def KIn (K : KM) (h : Heap) : Prop := ∀ a o, K a = some o → h.get? a = some o
noncomputable def KNew (K K' : KM) (h : Heap) : Prop := ∀ a o, K' a = some o → K a = some o ∨ h.get? a = none
noncomputable def KM.add (K : KM) (a : Addr) (o : Obj) : KM := fun b => if b = a then some o else K b
noncomputable def KM.drop (K : KM) (a : Addr) : KM := fun b => if b = a then none else K b

noncomputable def listObj (vs : List Value) (n : Nat) : Obj := { cls := .type "list", data := .seq vs.toArray n }
noncomputable def tupObj (vs : List Value) (n : Nat) : Obj := { cls := .type "tuple", data := .seq vs.toArray n }

/-- a dict from ints to ints, at most n of them -/
noncomputable def IntV : Option Int → Option Value → Prop
  | none, v => v = none
  | some i, v => ∃ t, v = some (.int i t)
noncomputable def DictO (o : Obj) (f : Int → Option Int) (n : Nat) : Prop := ∃ kvs : List (Int × Value), (∀ (p : Program) (w : World), o.IsDictOf (intKind p w) kvs) ∧ kvs.length ≤ n ∧ ∀ k, IntV (f k) (valueAt kvs k)
theorem DictO.cls {o : Obj} {f : Int → Option Int} {n : Nat} (h : DictO o f n) (p : Program) (w : World) : o.cls = .type "dict" := let ⟨_, h, _⟩ := h; let ⟨_, _, e, _⟩ := h p w; e.1

/-- a tuple -/
noncomputable def TupO (o : Obj) (vs : List Value) (n : Nat) : Prop := o.cls = .type "tuple" ∧ o.data = .seq vs.toArray n

mutual
inductive VR (K : KM) : D → Value → Prop
  | none : VR K .none .none
  | bool (b : Bool) : VR K (.bool b) (.bool b)
  | int (i : Int) (t : Tok) : VR K (.int i) (.int i t)
  | typ (n : String) : VR K (.typ n) (.type n)
  | tup {a : Addr} {o : Obj} {ds : List D} {vs : List Value} {n : Nat} : K a = some o → TupO o vs n → VRs K ds vs → VR K (.tup ds) (.ref a)
  | lst {a : Addr} {ds : List D} {vs : List Value} {n : Nat} : K a = some (listObj vs n) → VRs K ds vs → VR K (.lst ds) (.ref a)
  | dct {a : Addr} {o : Obj} {f : Int → Option Int} {n : Nat} : K a = some o → DictO o f n → o.cls = .type "dict" → (a == sysModules) = false → VR K (.dct f n) (.ref a)
inductive VRs (K : KM) : List D → List Value → Prop
  | nil : VRs K [] []
  | cons {d : D} {v : Value} {ds : List D} {vs : List Value} : VR K d v → VRs K ds vs → VRs K (d :: ds) (v :: vs)
end

mutual
theorem VR.mono {K K' : KM} (h : K.le K') : ∀ {d : D} {v : Value}, VR K d v → VR K' d v
  | _, _, .none => .none
  | _, _, .bool b => .bool b
  | _, _, .int i t => .int i t
  | _, _, .typ n => .typ n
  | _, _, .tup e t r => .tup (h _ _ e) t (VRs.mono h r)
  | _, _, .lst e r => .lst (h _ _ e) (VRs.mono h r)
  | _, _, .dct e r c a => .dct (h _ _ e) r c a
theorem VRs.mono {K K' : KM} (h : K.le K') : ∀ {ds : List D} {vs : List Value}, VRs K ds vs → VRs K' ds vs
  | _, _, .nil => .nil
  | _, _, .cons a r => .cons (VR.mono h a) (VRs.mono h r)
end

/-- an object that is no list, tuple, dict is no part of any datum -/
noncomputable def NoData (o : Obj) : Prop := o.cls ≠ .type "list" ∧ o.cls ≠ .type "tuple" ∧ o.cls ≠ .type "dict"

theorem drop_at {K : KM} {a b : Addr} {o o' : Obj} (h : K a = some o) (hn : NoData o) (e : K b = some o') (hc : o'.cls = .type "list" ∨ o'.cls = .type "tuple" ∨ o'.cls = .type "dict") : K.drop a b = some o' := by
  unfold KM.drop
  by_cases hb : b = a
  · subst hb; rw [h] at e; cases e
    rcases hc with hc | hc | hc
    · exact absurd hc hn.1
    · exact absurd hc hn.2.1
    · exact absurd hc hn.2.2
  · rw [if_neg hb]; exact e

mutual
theorem VR.drop {K : KM} {a : Addr} {o : Obj} (h : K a = some o) (hn : NoData o) : ∀ {d : D} {v : Value}, VR K d v → VR (K.drop a) d v
  | _, _, .none => .none
  | _, _, .bool b => .bool b
  | _, _, .int i t => .int i t
  | _, _, .typ n => .typ n
  | _, _, .tup e t r => .tup (drop_at h hn e (.inr (.inl t.1))) t (VRs.drop h hn r)
  | _, _, .lst e r => .lst (drop_at h hn e (.inl rfl)) (VRs.drop h hn r)
  | _, _, .dct e r c a => .dct (drop_at h hn e (.inr (.inr c))) r c a
theorem VRs.drop {K : KM} {a : Addr} {o : Obj} (h : K a = some o) (hn : NoData o) : ∀ {ds : List D} {vs : List Value}, VRs K ds vs → VRs (K.drop a) ds vs
  | _, _, .nil => .nil
  | _, _, .cons x r => .cons (VR.drop h hn x) (VRs.drop h hn r)
end

theorem KM.le_refl (K : KM) : K.le K := fun _ _ e => e
theorem KM.le.trans {K K' K'' : KM} (h : K.le K') (h' : K'.le K'') : K.le K'' := fun a o e => h' a o (h a o e)
theorem KM.le_add {K : KM} {a : Addr} {o : Obj} (h : K a = none) : K.le (K.add a o) := fun b o' e => by
  unfold KM.add
  by_cases hb : b = a
  · subst hb; rw [h] at e; cases e
  · rw [if_neg hb]; exact e
theorem KM.add_self (K : KM) (a : Addr) (o : Obj) : K.add a o a = some o := by simp [KM.add]

theorem VRs.length {K : KM} : ∀ {ds : List D} {vs : List Value}, VRs K ds vs → ds.length = vs.length
  | _, _, .nil => rfl
  | _, _, .cons _ r => by simp [r.length]
theorem VRs.get {K : KM} : ∀ {ds : List D} {vs : List Value} {i : Nat} {d : D}, VRs K ds vs → ds[i]? = some d → ∃ v, vs[i]? = some v ∧ VR K d v
  | _, _, 0, _, .cons h r, e => by simp at e; subst e; exact ⟨_, rfl, h⟩
  | _, _, i + 1, _, .cons h r, e => by simpa using r.get (i := i) (by simpa using e)
theorem VRs.append {K : KM} : ∀ {ds es : List D} {vs us : List Value}, VRs K ds vs → VRs K es us → VRs K (ds ++ es) (vs ++ us)
  | _, _, _, _, .nil, k => k
  | _, _, _, _, .cons h r, k => .cons h (r.append k)
theorem VRs.drop' {K : KM} : ∀ {ds : List D} {vs : List Value} (n : Nat), VRs K ds vs → VRs K (ds.drop n) (vs.drop n)
  | _, _, 0, h => h
  | _, _, _ + 1, .nil => .nil
  | _, _, n + 1, .cons _ r => r.drop' n
theorem VRs.take' {K : KM} : ∀ {ds : List D} {vs : List Value} (n : Nat), VRs K ds vs → VRs K (ds.take n) (vs.take n)
  | _, _, 0, _ => .nil
  | _, _, _ + 1, .nil => .nil
  | _, _, n + 1, .cons h r => .cons h (r.take' n)
theorem VRs.set' {K : KM} {d : D} {v : Value} (hd : VR K d v) : ∀ {ds : List D} {vs : List Value} (n : Nat), VRs K ds vs → VRs K (ds.set n d) (vs.set n v)
  | _, _, _, .nil => .nil
  | _, _, 0, .cons _ r => .cons hd r
  | _, _, n + 1, .cons h r => .cons h (r.set' hd n)
theorem VRs.rep {K : KM} {ds : List D} {vs : List Value} (h : VRs K ds vs) : ∀ n : Nat, VRs K (List.replicate n ds).flatten (List.replicate n vs).flatten
  | 0 => .nil
  | n + 1 => by simpa [List.replicate_succ] using h.append (h.rep n)

/-- the heap has grown, what K promises holds -/
structure Post (s : Shared) (K : KM) (s' : Shared) (K' : KM) : Prop where
  keeps : Keeps s s'
  le : K.le K'
  kin : KIn K' s'.heap
  new : KNew K K' s.heap

theorem keeps_refl (s : Shared) : Keeps s s := ⟨s.heap, s.toks, rfl, fun _ _ e => e⟩
theorem keeps_trans {s s₁ s₂ : Shared} (h : Keeps s s₁) (h' : Keeps s₁ s₂) : Keeps s s₂ := by
  obtain ⟨h1, t1, rfl, k1⟩ := h
  obtain ⟨h2, t2, rfl, k2⟩ := h'
  exact ⟨h2, t2, rfl, fun b o e => k2 b o (k1 b o e)⟩
theorem keeps_get {s s' : Shared} (h : Keeps s s') : ∀ b o, s.heap.get? b = some o → s'.heap.get? b = some o := by
  obtain ⟨_, _, rfl, k⟩ := h; exact k
theorem keeps_toks {s : Shared} (tk : Nat) : Keeps s { s with toks := tk } := ⟨s.heap, tk, rfl, fun _ _ e => e⟩

theorem Post.refl {s : Shared} {K : KM} (h : KIn K s.heap) : Post s K s K := ⟨keeps_refl s, KM.le_refl K, h, fun _ _ e => .inl e⟩
theorem Post.trans {s s₁ s₂ : Shared} {K K₁ K₂ : KM} (h : Post s K s₁ K₁) (h' : Post s₁ K₁ s₂ K₂) : Post s K s₂ K₂ :=
  ⟨keeps_trans h.keeps h'.keeps, h.le.trans h'.le, h'.kin, fun a o e => by
    rcases h'.new a o e with e | e
    · exact h.new a o e
    · refine .inr ?_
      cases hq : s.heap.get? a with
      | none => rfl
      | some o' => rw [keeps_get h.keeps a o' hq] at e; cases e⟩
/-- the heap has grown, K stays -/
theorem Post.keep {s s' : Shared} {K : KM} (hk : KIn K s.heap) (h : Keeps s s') : Post s K s' K :=
  ⟨h, KM.le_refl K, fun a o e => keeps_get h a o (hk a o e), fun _ _ e => .inl e⟩

theorem fresh_size (h : Heap) : h.get? h.objs.size = none := Heap.get?_none_of_le (Nat.le_refl _)

/-- a new object that K takes up -/
theorem Post.push {s : Shared} {K : KM} (hk : KIn K s.heap) (o : Obj) (hf : o.isFreed = false := by rfl) : Post s K { s with heap := s.heap.push o } (K.add s.heap.objs.size o) := by
  have hn : K s.heap.objs.size = none := by
    cases e : K s.heap.objs.size with
    | none => rfl
    | some o' => have := hk _ _ e; rw [fresh_size] at this; cases this
  refine ⟨⟨s.heap.push o, s.toks, rfl, fun b o' e => Heap.get?_push_of_some _ e⟩, KM.le_add hn, fun a o' e => ?_, fun a o' e => ?_⟩
  · unfold KM.add at e
    by_cases ha : a = s.heap.objs.size
    · subst ha; simp at e; subst e; exact Heap.get?_push_size _ hf
    · rw [if_neg ha] at e; exact Heap.get?_push_of_some _ (hk a o' e)
  · unfold KM.add at e
    by_cases ha : a = s.heap.objs.size
    · subst ha; exact .inr (fresh_size _)
    · rw [if_neg ha] at e; exact .inl e

end Mine

namespace Mine
open PySem PySem.Calls PyProof.Rows

/-! the program's own ground -/
structure GC where
  prog : Program
  tp : Program
  w : World
  loose : List Str
  mean : ExcName → Option Value
  mg : Str → Option Value
  mb : Str → Option Value
  tabs : List (Str × D)

noncomputable def bnames : List Str := ["len", "abs", "min", "max", "list", "type", "isinstance", "range", "int", "bool", "ValueError", "IndexError", "all"]

structure GOk (g : GC) (h : Heap) : Prop where
  top : Top g.tp g.loose g.mean g.mg g.mb h
  bn : ∀ x ∈ bnames, g.mg x = none

theorem GOk.keeps {g : GC} {h h' : Heap} (x : GOk g h) (hk : ∀ b o, h.get? b = some o → h'.get? b = some o) : GOk g h' := ⟨x.top.keeps hk, x.bn⟩

noncomputable def GlOk (g : GC) (K : KM) : Prop := ∀ p ∈ g.tabs, ∃ v, g.mg p.1 = some v ∧ VR K p.2 v
theorem GlOk.mono {g : GC} {K K' : KM} (x : GlOk g K) (h : K.le K') : GlOk g K' := fun p hp => let ⟨v, a, b⟩ := x p hp; ⟨v, a, b.mono h⟩

structure Room (A : Around) (n : Nat) : Prop where
  handled : A.handled = none
  depth : A.depth + n ≤ 500
  units : A.units + 10 * n ≤ 1000

/-- an exception has left a frame and flies -/
noncomputable def Flown (base : Heap) (fr : List Env) (c : String) (s : Shared) (e : Addr) (s' : Shared) : Prop :=
  ∃ h' tk a0, s' = { s with heap := h', toks := tk } ∧ Heap.FlyingW base fr e (.type c) a0 h' ∧ s.heap.UpToSlots h'

theorem below_keeps {A : Around} {base h h' : Heap} {fr : List Env} (b : Below A base fr h) (hk : ∀ b o, h.get? b = some o → h'.get? b = some o) : Below A base fr h' :=
  ⟨b.stack, fun x o e => hk x o (b.stays x o e), b.frames.of_keeps fun x o e _ => ⟨o, hk x o e, rfl⟩⟩

/-- the result of a call -/
noncomputable def ResOk (r : R D) (base : Heap) (fr : List Env) (s : Shared) (K : KM) (res : Result) (s' : Shared) : Prop :=
  match r with
  | .ok d => ∃ v K', res = .ok (.ret v) ∧ Post s K s' K' ∧ VR K' d v
  | .exc c => ∃ e, res = .error (.ref e) ∧ Flown base fr c s e s'
  | .bad => False

/-- a call of the program's def f gives r -/
noncomputable def FnOk (g : GC) (n : Nat) (f : Str) (ds : List D) (r : R D) : Prop :=
  ∀ (A : Around) (base : Heap) (fr : List Env) (s : Shared) (K : KM) (vs : List Value) (a : Addr), Room A n → Below A base fr s.heap → GOk g s.heap → GlOk g K → KIn K s.heap → VRs K ds vs →
    g.mg f = some (.ref a) → codeAny (model g.prog g.w) A (.call (.ref a) ⟨vs, []⟩) (ResOk r base fr s K) s

/-! reading names -/
structure Cx where
  fs : Scope
  names : List Str
  comp : Option (Scope × List Str)
  tn : List Str
  fn : List Str

noncomputable def Cx.varOk (c : Cx) (x : Str) : Bool :=
  (match c.comp with
  | none => (c.fs.names.lookup x == some .local || c.fs.names.lookup x == some .cell)
  | some (sc, _) => (sc.names.lookup x == some .free && c.fs.names.lookup x == some .cell)) && !(x == ("__debug__" : Str))
noncomputable def Cx.cur (c : Cx) : Scope := match c.comp with | none => c.fs | some (sc, _) => sc
noncomputable def Cx.cnames (c : Cx) : List Str := match c.comp with | none => [] | some (_, xs) => xs
noncomputable def Cx.globOk (c : Cx) (x : Str) : Bool := c.cur.names.lookup x == some .globalImplicit && !(x == ("__debug__" : Str))

noncomputable def VarIs (env : Env) (h : Heap) (x : Str) (v : Value) : Prop :=
  (env.kindOf x = some .local ∧ ∃ m, h.Ns env.locals m ∧ m x = some v) ∨
  ((env.kindOf x = some .cell ∨ (env.kindOf x = some .free ∧ (x == ("__classdict__" : Str)) = false)) ∧ ∃ c, env.cells.lookup x = some c ∧ h.IsCell c (some v))
theorem VarIs.keeps {env : Env} {h h' : Heap} {x : Str} {v : Value} (q : VarIs env h x v) (hk : ∀ b o, h.get? b = some o → h'.get? b = some o) : VarIs env h' x v := by
  rcases q with ⟨a, m, b, c⟩ | ⟨a, c, b, d⟩
  · exact .inl ⟨a, m, b.keeps hk, c⟩
  · exact .inr ⟨a, c, b, d.keeps hk⟩

noncomputable def OwnObj (K : KM) (h : Heap) (a : Addr) : D → Prop
  | .lst ds => ∃ vs n, h.get? a = some (listObj vs n) ∧ VRs K ds vs
  | .dct f n => (a == sysModules) = false ∧ ∃ o, h.get? a = some o ∧ DictO o f n ∧ o.cls = .type "dict"
  | _ => False
theorem OwnObj.keeps {K K' : KM} {h h' : Heap} {a : Addr} {d : D} (q : OwnObj K h a d) (hl : K.le K') (hk : ∀ b o, h.get? b = some o → h'.get? b = some o) : OwnObj K' h' a d := by
  cases d with
  | lst ds => obtain ⟨vs, n, e, r⟩ := q; exact ⟨vs, n, hk _ _ e, r.mono hl⟩
  | dct f n => obtain ⟨ha, o, e, r⟩ := q; exact ⟨ha, o, hk _ _ e, r⟩
  | _ => exact q.elim

/-- the context of an expression -/
structure Cg where
  g : GC
  n : Nat
  A : Around
  X : String → Prop
  E : Value → Shared → Prop
  ρ : List Slot
  c : Cx
  env : Env
  inv : KM → Shared → Prop
  base : Heap
  fr : List Env
  top : Prop

structure Rd (k : Cg) (K : KM) (cs : List D) (s : Shared) : Prop where
  gok : GOk k.g s.heap
  gl : GlOk k.g K
  kin : KIn K s.heap
  eg : k.env.globals = mainGlobals
  eb : k.env.builtins = builtinsNs
  ek : k.env.scope.kind = .function
  gk : ∀ x, k.c.globOk x = true → k.env.kindOf x = some .globalImplicit
  var : ∀ (i : Nat) (x : Str) (d : D), k.c.names[i]? = some x → k.c.varOk x = true → k.ρ[i]? = some (.frz d) → ∃ v, VarIs k.env s.heap x v ∧ VR K d v
  vown : ∀ (i : Nat) (x : Str) (d : D), k.c.names[i]? = some x → k.c.varOk x = true → k.ρ[i]? = some (.own d) → ∃ a, VarIs k.env s.heap x (.ref a) ∧ OwnObj K s.heap a d
  cvar : ∀ (i : Nat) (x : Str) (d : D), k.c.cnames[i]? = some x → cs[i]? = some d → ∃ v, VarIs k.env s.heap x v ∧ VR K d v
  comp : ∀ sc, k.c.comp = none → (∀ y ∈ sc.names, y.2 = NameKind.free → k.c.fs.names.lookup y.1 = some .cell) → ∃ cl, closureFor sc k.env = pure cl ∧
    (∀ y ∈ sc.names, y.2 = NameKind.free → cl.lookup y.1 = k.env.cells.lookup y.1)
  fsc : k.c.comp = none → k.env.scope = k.c.fs
  tn : k.c.tn = k.g.tabs.map (·.1)
  fn : ∀ f ∈ k.c.fn, ∃ d ∈ recsOf k.g.tp, d.name = f
  below : Below k.A k.base k.fr s.heap
  iv : k.inv K s
  ivp : ∀ K s K' s', k.inv K s → Post s K s' K' → k.inv K' s'

theorem Rd.post {k : Cg} {K K' : KM} {cs : List D} {s s' : Shared} (x : Rd k K cs s) (p : Post s K s' K') : Rd k K' cs s' where
  gok := x.gok.keeps (keeps_get p.keeps)
  gl := x.gl.mono p.le
  kin := p.kin
  eg := x.eg
  eb := x.eb
  ek := x.ek
  gk := x.gk
  var := fun i y d a b e => let ⟨v, q, r⟩ := x.var i y d a b e; ⟨v, q.keeps (keeps_get p.keeps), r.mono p.le⟩
  vown := fun i y d a b e => let ⟨v, q, r⟩ := x.vown i y d a b e; ⟨v, q.keeps (keeps_get p.keeps), r.keeps p.le (keeps_get p.keeps)⟩
  cvar := fun i y d a b => let ⟨v, q, r⟩ := x.cvar i y d a b; ⟨v, q.keeps (keeps_get p.keeps), r.mono p.le⟩
  comp := x.comp
  fsc := x.fsc
  tn := x.tn
  fn := x.fn
  below := below_keeps x.below (keeps_get p.keeps)
  iv := x.ivp _ _ _ _ x.iv p
  ivp := x.ivp

/-- a new exception, in no frame's book yet -/
structure NewX (h h' : Heap) (e : Addr) (cl : String) : Prop where
  keeps : ∀ b o, h.get? b = some o → h'.get? b = some o
  new : h.get? e = none
  there : ∃ ob vs a0, h'.get? e = some ob ∧ ob.cls = .type cl ∧ ob.data = .fields vs ∧ vs[0]? = some a0 ∧ vs[1]? = some .none
theorem newX_of {h h' : Heap} {e : Addr} {cl : String} (x : Heap.NewExc h h' e cl) : NewX h h' e cl :=
  let ⟨ob, t, a, b, c⟩ := x.there; ⟨x.keeps, x.new, ob, _, t, a, b, c, rfl, rfl⟩

/-- an exception has come up at s -/
inductive RaisedAt (base : Heap) (fr : List Env) : String → Shared → Value → Shared → Prop
  | new {cl : String} {s : Shared} {e : Addr} {h' : Heap} {tk : Nat} : NewX s.heap h' e cl → RaisedAt base fr cl s (.ref e) { s with heap := h', toks := tk }
  | held {cl : String} {s : Shared} {e : Addr} {h' : Heap} {tk : Nat} {env : Env} {outer : List Env} {L : Addr} {a0 : Value} : fr = env :: outer → env.frame = some L → Heap.HeldW base fr e (.type cl) a0 L h' → s.heap.UpToSlots h' → RaisedAt base fr cl s (.ref e) { s with heap := h', toks := tk }
  | flown {cl : String} {s : Shared} {e : Addr} {s' : Shared} : Flown base fr cl s e s' → RaisedAt base fr cl s (.ref e) s'

structure Cg.Ok (k : Cg) : Prop where
  room : Room k.A k.n
  exc : ∀ cl, k.X cl → ∀ K s e s', k.inv K s → RaisedAt k.base k.fr cl s e s' → k.E e s'

noncomputable abbrev Cg.M (k : Cg) : Model := model k.g.prog k.g.w
noncomputable def fnAt (g : GC) (n : Nat) (top : Prop) : Fn := ⟨FnOk g n, g.tabs, top⟩
noncomputable abbrev fnOf (g : GC) (n : Nat) : Fn := fnAt g n False
noncomputable abbrev Cg.wpE (k : Cg) := Mine.wpE k.X (fnAt k.g k.n k.top) k.ρ
noncomputable abbrev Cg.wpEs (k : Cg) := Mine.wpEs k.X (fnAt k.g k.n k.top) k.ρ
noncomputable abbrev Cg.wpT (k : Cg) := Mine.wpT k.X (fnAt k.g k.n k.top) k.ρ
noncomputable abbrev Cg.wpI (k : Cg) := Mine.wpI k.X (fnAt k.g k.n k.top) k.ρ

noncomputable def PostE (s : Shared) (K : KM) (Q : D → Prop) (v : Value) (s' : Shared) : Prop := ∃ d K', Q d ∧ Post s K s' K' ∧ VR K' d v

theorem PostE.of {s : Shared} {K : KM} {Q : D → Prop} {v : Value} {s' : Shared} {d : D} {K' : KM} (q : Q d) (p : Post s K s' K') (r : VR K' d v) : PostE s K Q v s' := ⟨d, K', q, p, r⟩

/-- an int that comes up, the heap as it was -/
theorem PostE.int {s s₁ : Shared} {K K₁ : KM} {Q : D → Prop} {i : Int} {t : Tok} {tk : Nat} (p : Post s K s₁ K₁) (q : Q (.int i)) : PostE s K Q (.int i t) { s₁ with toks := tk } :=
  ⟨_, K₁, q, p.trans (Post.keep p.kin (keeps_toks tk)), .int i t⟩

section names
variable {k : Cg} {K : KM} {cs : List D} {s : Shared} {Q : Value → Shared → Prop}

theorem rd_name {x : Str} {pos : Pos} {v : Value} (r : Rd k K cs s) (hv : VarIs k.env s.heap x v) (hd : (x == ("__debug__" : Str)) = false) (h : Q v s) :
    wpAny k.M k.A (eval (.Name x pos) k.env) Q k.E s := by
  refine wpAny_Name ?_ hd
  rcases hv with ⟨hk, m, hn, hm⟩ | ⟨hk | ⟨hk, hc⟩, c, hl, hc'⟩
  · exact wpAny_loadName_local r.ek hk hn hm h
  · exact wpAny_loadName_cell r.ek hk hl hc' h
  · exact wpAny_loadName_free r.ek hk hl hc' h hc

theorem rd_glob {x : Str} {pos : Pos} {v : Value} (r : Rd k K cs s) (hg : k.c.globOk x = true) (hm : k.g.mg x = some v) (h : Q v s) :
    wpAny k.M k.A (eval (.Name x pos) k.env) Q k.E s := by
  have hd : (x == ("__debug__" : Str)) = false := by
    unfold Cx.globOk at hg; simp only [Bool.and_eq_true, Bool.not_eq_true'] at hg; exact hg.2
  exact Name_function_global r.ek (r.gk x hg) (loadGlobal_global (r.eg ▸ r.gok.top.g) hm h) hd

theorem rd_builtin {x : Str} {pos : Pos} {v : Value} (r : Rd k K cs s) (hg : k.c.globOk x = true) (hb : x ∈ bnames) (hv : bootBuiltins x = some v) (hn : x ≠ "__name__") (h : Q v s) :
    wpAny k.M k.A (eval (.Name x pos) k.env) Q k.E s := by
  have hd : (x == ("__debug__" : Str)) = false := by
    unfold Cx.globOk at hg; simp only [Bool.and_eq_true, Bool.not_eq_true'] at hg; exact hg.2
  exact Name_function_global r.ek (r.gk x hg) (loadGlobal_builtin (r.eg ▸ r.gok.top.g) (r.gok.bn x hb) (r.eb ▸ r.gok.top.b) ((r.gok.top.builtins x hn).trans hv) h) hd
end names

/-! my text and the program's: toE writes the program's term out of mine and a tree of its places -/
inductive PT where
  | mk (pos pos2 pos3 : Pos) (n : Nat) (sc : Scope) (xs : List Str) (st : Stmt) (cs : List PT)
noncomputable def PT.nil : PT := .mk default default default 0 default [] (.Pass default) []
noncomputable def PT.pos : PT → Pos
  | .mk x _ _ _ _ _ _ _ => x
noncomputable def PT.pos2 : PT → Pos
  | .mk _ x _ _ _ _ _ _ => x
noncomputable def PT.pos3 : PT → Pos
  | .mk _ _ x _ _ _ _ _ => x
noncomputable def PT.n : PT → Nat
  | .mk _ _ _ x _ _ _ _ => x
noncomputable def PT.sc : PT → Scope
  | .mk _ _ _ _ x _ _ _ => x
noncomputable def PT.xs : PT → List Str
  | .mk _ _ _ _ _ x _ _ => x
noncomputable def PT.st : PT → Stmt
  | .mk _ _ _ _ _ _ x _ => x
noncomputable def PT.cs : PT → List PT
  | .mk _ _ _ _ _ _ _ x => x
noncomputable def hd : List PT → PT
  | t :: _ => t
  | [] => .nil
noncomputable def PT.at (t : PT) (i : Nat) : PT := hd (t.cs.drop i)

noncomputable def notStar : Expr → Bool
  | .Starred .. => false
  | _ => true
noncomputable def compScopeOk (fs sc : Scope) (xs : List Str) : Bool :=
  sc.kind == .function && sc.names.all (fun y => (y.2 != .cell) && (y.2 != .local || sc.names.lookup y.1 == some .local) && (y.2 != .free || fs.names.lookup y.1 == some .cell)) &&
  xs.all (fun x => sc.names.lookup x == some .local && !(x == ("__debug__" : Str)))
noncomputable def Es.isNil : Es → Bool
  | .nil => true
  | _ => false
noncomputable def E.isNone : E → Bool
  | .none => true
  | _ => false
noncomputable def T.isTT : T → Bool
  | .tt => true
  | _ => false
/-- tests that are seen as values -/
noncomputable def E.plain : E → Bool
  | .cmp .. => false
  | .and2 .. => false
  | _ => true
noncomputable def nmAt (xs : List Str) (i : Nat) : Str := xs.getD i default
noncomputable def optE (b : Bool) (e : Expr) : Option Expr := if b then none else some e
noncomputable def toTarget (xs : List Str) (t : PT) : Expr :=
  match xs with
  | [x] => .Name x t.pos
  | [x, y] => .Tuple [.Name x t.pos2, .Name y t.pos3] t.n t.pos
  | _ => .Name default t.pos
noncomputable def tgtOk (xs : List Str) : Bool :=
  match xs with
  | [_] => true
  | [x, y] => !(x == y)
  | _ => false

mutual
noncomputable def toE (c : Cx) : E → PT → Expr
  | .int i, t => .Constant (.int i) t.n t.pos
  | .bool b, t => .Constant (.bool b) t.n t.pos
  | .none, t => .Constant .none t.n t.pos
  | .var i, t => .Name (nmAt c.names i) t.pos
  | .cvar i, t => .Name (nmAt c.cnames i) t.pos
  | .tyname n, t => .Name (Str.ofString n) t.pos
  | .glob j, t => .Name (nmAt c.tn j) t.pos
  | .neg e, t => .UnaryOp .USub (toE c e (t.at 0)) t.pos
  | .bin op l r, t => .BinOp (toE c l (t.at 0)) op (toE c r (t.at 1)) t.pos
  | .cmp op l r, t => .Compare (toE c l (t.at 0)) [op] [toE c r (t.at 1)] t.pos
  | .and2 l r, t => .BoolOp .And [toE c l (t.at 0), toE c r (t.at 1)] t.pos
  | .call f args, t => .Call (.Name f t.pos2) (toEs c args t.cs) [] t.pos
  | .bcall b args, t => .Call (.Name (Str.ofString b.name) t.pos2) (toEs c args t.cs) [] t.pos
  | .lenv i, t => .Call (.Name ("len" : Str) t.pos2) [.Name (nmAt c.names i) (t.at 0).pos] [] t.pos
  | .subv i e, t => .Subscript (.Name (nmAt c.names i) (t.at 0).pos) (toE c e (t.at 1)) t.pos
  | .sub e i, t => .Subscript (toE c e (t.at 0)) (toE c i (t.at 1)) t.pos
  | .slice e lo hi, t => .Subscript (toE c e (t.at 0)) (.Slice (optE lo.isNone (toE c lo (t.at 1))) (optE hi.isNone (toE c hi (t.at 2))) none t.pos2) t.pos
  | .list es, t => .List (toEs c es t.cs) t.pos
  | .tup es, t => .Tuple (toEs c es t.cs) t.n t.pos
  | .comp elt xs it cond, t => .ListComp (toE { c with comp := some (t.sc, xs) } elt (t.at 0)) [⟨toTarget xs (t.at 1), toE c it (t.at 2), if cond.isTT then [] else [toT { c with comp := some (t.sc, xs) } cond (t.at 3)], 0⟩] t.sc t.pos
  | .range es, t => .Call (.Name ("range" : Str) t.pos2) (toEs c es t.cs) [] t.pos
  | .count e x, t => .Call (.Attribute (toE c e (t.at 0)) ("count" : Str) t.pos2) [toE c x (t.at 1)] [] t.pos
noncomputable def toEs (c : Cx) : Es → List PT → List Expr
  | .nil, _ => []
  | .cons e es, ts => toE c e (hd ts) :: toEs c es ts.tail
noncomputable def toT (c : Cx) : T → PT → Expr
  | .tt, t => .Constant .none t.n t.pos
  | .cmp op l r, t => .Compare (toE c l (t.at 0)) [op] [toE c r (t.at 1)] t.pos
  | .not u, t => .UnaryOp .Not (toT c u (t.at 0)) t.pos
  | .and us, t => .BoolOp .And (toTs c us t.cs) t.pos
  | .or us, t => .BoolOp .Or (toTs c us t.cs) t.pos
  | .val e, t => toE c e t
noncomputable def toTs (c : Cx) : Ts → List PT → List Expr
  | .nil, _ => []
  | .cons u us, ts => toT c u (hd ts) :: toTs c us ts.tail
end

noncomputable def nmOk (xs : List Str) (i : Nat) (p : Str → Bool) : Bool := decide (i < xs.length) && p (nmAt xs i)
/-- a name under a method -/
noncomputable def E.isVar : E → Bool
  | .var _ => true
  | .cvar _ => true
  | _ => false
mutual
noncomputable def okE (c : Cx) : E → PT → Bool
  | .int _, _ => true
  | .bool _, _ => true
  | .none, _ => true
  | .var i, _ => nmOk c.names i c.varOk
  | .cvar i, _ => nmOk c.cnames i (fun x => !(x == ("__debug__" : Str)))
  | .tyname n, _ => (n == "int" || n == "bool" || n == "list") && c.globOk (Str.ofString n)
  | .glob j, _ => nmOk c.tn j c.globOk
  | .neg e, t => okE c e (t.at 0)
  | .bin _ l r, t => okE c l (t.at 0) && okE c r (t.at 1)
  | .cmp op l r, t => okE c l (t.at 0) && okE c r (t.at 1) && !behindInMarks op (toE c r (t.at 1))
  | .and2 l r, t => okE c l (t.at 0) && okE c r (t.at 1)
  | .call f args, t => c.globOk f && c.fn.contains f && !args.isNil && okEs c args t.cs
  | .bcall b args, t => c.globOk (Str.ofString b.name) && !args.isNil && okEs c args t.cs
  | .lenv i, _ => c.globOk ("len" : Str) && nmOk c.names i c.varOk
  | .subv i e, t => nmOk c.names i c.varOk && okE c e (t.at 1)
  | .sub e i, t => okE c e (t.at 0) && okE c i (t.at 1)
  | .slice e lo hi, t => okE c e (t.at 0) && okE c lo (t.at 1) && okE c hi (t.at 2)
  | .list es, t => okEs c es t.cs
  | .tup es, t => okEs c es t.cs
  | .comp elt xs it cond, t => c.comp.isNone && compScopeOk c.fs t.sc xs && tgtOk xs && okE c it (t.at 2) && okE { c with comp := some (t.sc, xs) } elt (t.at 0) && (cond.isTT || okT { c with comp := some (t.sc, xs) } cond (t.at 3))
  | .range es, t => c.globOk ("range" : Str) && !es.isNil && okEs c es t.cs
  | .count e x, t => e.isVar && okE c e (t.at 0) && okE c x (t.at 1) && t.pos2.endLine == t.pos.line
noncomputable def okEs (c : Cx) : Es → List PT → Bool
  | .nil, _ => true
  | .cons e es, ts => okE c e (hd ts) && okEs c es ts.tail
noncomputable def okT (c : Cx) : T → PT → Bool
  | .tt, _ => false
  | .cmp op l r, t => okE c l (t.at 0) && okE c r (t.at 1) && !behindInMarks op (toE c r (t.at 1))
  | .not u, t => okT c u (t.at 0)
  | .and us, t => okTs c us t.cs
  | .or us, t => okTs c us t.cs
  | .val e, t => e.plain && okE c e t
noncomputable def okTs (c : Cx) : Ts → List PT → Bool
  | .nil, _ => true
  | .cons u us, ts => okT c u (hd ts) && okTs c us ts.tail
end
theorem zq_okE_0 (c : Cx) : ∀ z0_0 z1_0, okE c (.int z0_0) (z1_0) = (true) := fun _ _ => rfl
theorem zq_okE_1 (c : Cx) : ∀ z0_0 z1_0, okE c (.bool z0_0) (z1_0) = (true) := fun _ _ => rfl
theorem zq_okE_2 (c : Cx) : ∀ z1_0, okE c (.none) (z1_0) = (true) := fun _ => rfl
theorem zq_okE_3 (c : Cx) : ∀ i z1_0, okE c (.var i) (z1_0) = (nmOk c.names i c.varOk) := fun _ _ => rfl
theorem zq_okE_4 (c : Cx) : ∀ i z1_0, okE c (.cvar i) (z1_0) = (nmOk c.cnames i (fun x => !(x == ("__debug__" : Str)))) := fun _ _ => rfl
theorem zq_okE_5 (c : Cx) : ∀ n z1_0, okE c (.tyname n) (z1_0) = ((n == "int" || n == "bool" || n == "list") && c.globOk (Str.ofString n)) := fun _ _ => rfl
theorem zq_okE_6 (c : Cx) : ∀ j z1_0, okE c (.glob j) (z1_0) = (nmOk c.tn j c.globOk) := fun _ _ => rfl
theorem zq_okE_7 (c : Cx) : ∀ e t, okE c (.neg e) (t) = (okE c e (t.at 0)) := fun _ _ => rfl
theorem zq_okE_8 (c : Cx) : ∀ z0_0 l r t, okE c (.bin z0_0 l r) (t) = (okE c l (t.at 0) && okE c r (t.at 1)) := fun _ _ _ _ => rfl
theorem zq_okE_9 (c : Cx) : ∀ op l r t, okE c (.cmp op l r) (t) = (okE c l (t.at 0) && okE c r (t.at 1) && !behindInMarks op (toE c r (t.at 1))) := fun _ _ _ _ => rfl
theorem zq_okE_10 (c : Cx) : ∀ l r t, okE c (.and2 l r) (t) = (okE c l (t.at 0) && okE c r (t.at 1)) := fun _ _ _ => rfl
theorem zq_okE_11 (c : Cx) : ∀ f args t, okE c (.call f args) (t) = (c.globOk f && c.fn.contains f && !args.isNil && okEs c args t.cs) := fun _ _ _ => rfl
theorem zq_okE_12 (c : Cx) : ∀ b args t, okE c (.bcall b args) (t) = (c.globOk (Str.ofString b.name) && !args.isNil && okEs c args t.cs) := fun _ _ _ => rfl
theorem zq_okE_13 (c : Cx) : ∀ i z1_0, okE c (.lenv i) (z1_0) = (c.globOk ("len" : Str) && nmOk c.names i c.varOk) := fun _ _ => rfl
theorem zq_okE_14 (c : Cx) : ∀ i e t, okE c (.subv i e) (t) = (nmOk c.names i c.varOk && okE c e (t.at 1)) := fun _ _ _ => rfl
theorem zq_okE_15 (c : Cx) : ∀ e i t, okE c (.sub e i) (t) = (okE c e (t.at 0) && okE c i (t.at 1)) := fun _ _ _ => rfl
theorem zq_okE_16 (c : Cx) : ∀ e lo hi t, okE c (.slice e lo hi) (t) = (okE c e (t.at 0) && okE c lo (t.at 1) && okE c hi (t.at 2)) := fun _ _ _ _ => rfl
theorem zq_okE_17 (c : Cx) : ∀ es t, okE c (.list es) (t) = (okEs c es t.cs) := fun _ _ => rfl
theorem zq_okE_18 (c : Cx) : ∀ es t, okE c (.tup es) (t) = (okEs c es t.cs) := fun _ _ => rfl
theorem zq_okE_19 (c : Cx) : ∀ elt xs it cond t, okE c (.comp elt xs it cond) (t) = (c.comp.isNone && compScopeOk c.fs t.sc xs && tgtOk xs && okE c it (t.at 2) && okE { c with comp := some (t.sc, xs) } elt (t.at 0) && (cond.isTT || okT { c with comp := some (t.sc, xs) } cond (t.at 3))) := fun _ _ _ _ _ => rfl
theorem zq_okE_20 (c : Cx) : ∀ es t, okE c (.range es) (t) = (c.globOk ("range" : Str) && !es.isNil && okEs c es t.cs) := fun _ _ => rfl
theorem zq_okE_21 (c : Cx) : ∀ e x t, okE c (.count e x) (t) = (e.isVar && okE c e (t.at 0) && okE c x (t.at 1) && t.pos2.endLine == t.pos.line) := fun _ _ _ => rfl
theorem zq_okEs_0 (c : Cx) : ∀ z1_0, okEs c (.nil) (z1_0) = (true) := fun _ => rfl
theorem zq_okEs_1 (c : Cx) : ∀ e es ts, okEs c (.cons e es) (ts) = (okE c e (hd ts) && okEs c es ts.tail) := fun _ _ _ => rfl
theorem zq_okT_0 (c : Cx) : ∀ z1_0, okT c (.tt) (z1_0) = (false) := fun _ => rfl
theorem zq_okT_1 (c : Cx) : ∀ op l r t, okT c (.cmp op l r) (t) = (okE c l (t.at 0) && okE c r (t.at 1) && !behindInMarks op (toE c r (t.at 1))) := fun _ _ _ _ => rfl
theorem zq_okT_2 (c : Cx) : ∀ u t, okT c (.not u) (t) = (okT c u (t.at 0)) := fun _ _ => rfl
theorem zq_okT_3 (c : Cx) : ∀ us t, okT c (.and us) (t) = (okTs c us t.cs) := fun _ _ => rfl
theorem zq_okT_4 (c : Cx) : ∀ us t, okT c (.or us) (t) = (okTs c us t.cs) := fun _ _ => rfl
theorem zq_okT_5 (c : Cx) : ∀ e t, okT c (.val e) (t) = (e.plain && okE c e t) := fun _ _ => rfl
theorem zq_okTs_0 (c : Cx) : ∀ z1_0, okTs c (.nil) (z1_0) = (true) := fun _ => rfl
theorem zq_okTs_1 (c : Cx) : ∀ u us ts, okTs c (.cons u us) (ts) = (okT c u (hd ts) && okTs c us ts.tail) := fun _ _ _ => rfl


theorem nm_ok {xs : List Str} {i : Nat} {p : Str → Bool} (h : nmOk xs i p = true) : xs[i]? = some (nmAt xs i) ∧ p (nmAt xs i) = true := by
  simp only [nmOk, Bool.and_eq_true, decide_eq_true_eq] at h
  exact ⟨by simp [nmAt, h.1], h.2⟩
/-- no expression of mine is starred, or a slice -/
theorem star_toE (c : Cx) (e : E) (t : PT) : notStar (toE c e t) = true := by cases e <;> rfl

end Mine

namespace Mine
open PySem PySem.Calls PyProof.Rows

noncomputable def PostEs (s : Shared) (K : KM) (Q : List D → Prop) (vs : List Value) (s' : Shared) : Prop := ∃ ds K', Q ds ∧ Post s K s' K' ∧ VRs K' ds vs

noncomputable def EOk (e : E) : Prop := ∀ (k : Cg), k.Ok → ∀ t, okE k.c e t = true → ∀ cs K s Q, Rd k K cs s → k.wpE e cs Q → wpAny k.M k.A (eval (toE k.c e t) k.env) (PostE s K Q) k.E s
noncomputable def EsOk (es : Es) : Prop := ∀ (k : Cg), k.Ok → ∀ ts pos, okEs k.c es ts = true → ∀ cs K s Q, Rd k K cs s → k.wpEs es cs Q → wpAny k.M k.A (spliced (backTo pos (starEach (toEs k.c es ts) k.env))) (PostEs s K Q) k.E s
noncomputable def TOk (u : T) : Prop := ∀ (k : Cg), k.Ok → ∀ t, okT k.c u t = true → ∀ cs K s Q, Rd k K cs s → k.wpT u cs Q → wpAny k.M k.A (isTrue (toT k.c u t) k.env (eval (toT k.c u t) k.env)) (fun b s' => Q b ∧ ∃ K', Post s K s' K') k.E s

theorem Rd.refl {k : Cg} {K : KM} {cs : List D} {s : Shared} (r : Rd k K cs s) : Post s K s K := Post.refl r.kin

theorem ok_int (i : Int) : EOk (.int i) := by
  intro k ok t h cs K s Q rd hw
  simp only [Cg.wpE, zq_wpE_0, zq_wpE_1, zq_wpE_2, zq_wpE_3, zq_wpE_4, zq_wpE_5, zq_wpE_6, zq_wpE_7, zq_wpE_8, zq_wpE_9, zq_wpE_10, zq_wpE_11, zq_wpE_12, zq_wpE_13, zq_wpE_14, zq_wpE_15, zq_wpE_16, zq_wpE_17, zq_wpE_18, zq_wpE_19, zq_wpE_20, zq_wpE_21] at hw
  exact wpAny_Constant_int (PostE.int rd.refl hw)

theorem ok_bool (b : Bool) : EOk (.bool b) := by
  intro k ok t h cs K s Q rd hw
  simp only [Cg.wpE, zq_wpE_0, zq_wpE_1, zq_wpE_2, zq_wpE_3, zq_wpE_4, zq_wpE_5, zq_wpE_6, zq_wpE_7, zq_wpE_8, zq_wpE_9, zq_wpE_10, zq_wpE_11, zq_wpE_12, zq_wpE_13, zq_wpE_14, zq_wpE_15, zq_wpE_16, zq_wpE_17, zq_wpE_18, zq_wpE_19, zq_wpE_20, zq_wpE_21] at hw
  exact wpAny_Constant_bool (PostE.of hw rd.refl (.bool b))

theorem ok_none : EOk .none := by
  intro k ok t h cs K s Q rd hw
  simp only [Cg.wpE, zq_wpE_0, zq_wpE_1, zq_wpE_2, zq_wpE_3, zq_wpE_4, zq_wpE_5, zq_wpE_6, zq_wpE_7, zq_wpE_8, zq_wpE_9, zq_wpE_10, zq_wpE_11, zq_wpE_12, zq_wpE_13, zq_wpE_14, zq_wpE_15, zq_wpE_16, zq_wpE_17, zq_wpE_18, zq_wpE_19, zq_wpE_20, zq_wpE_21] at hw
  show wpAny _ _ (eval (.Constant .none t.n t.pos) _) _ _ _
  rw [eval_Constant]
  exact wpAny_pure (PostE.of hw rd.refl .none)

theorem varOk_debug {c : Cx} {x : Str} (h : c.varOk x = true) : (x == ("__debug__" : Str)) = false := by
  unfold Cx.varOk at h; simp only [Bool.and_eq_true, Bool.not_eq_true'] at h; exact h.2

theorem ok_var (i : Nat) : EOk (.var i) := by
  intro k ok t h cs K s Q rd hw
  have h := nm_ok h
  simp only [Cg.wpE, zq_wpE_0, zq_wpE_1, zq_wpE_2, zq_wpE_3, zq_wpE_4, zq_wpE_5, zq_wpE_6, zq_wpE_7, zq_wpE_8, zq_wpE_9, zq_wpE_10, zq_wpE_11, zq_wpE_12, zq_wpE_13, zq_wpE_14, zq_wpE_15, zq_wpE_16, zq_wpE_17, zq_wpE_18, zq_wpE_19, zq_wpE_20, zq_wpE_21] at hw
  split at hw
  · rename_i d he
    obtain ⟨v, hv, hr⟩ := rd.var i _ d h.1 h.2 he
    exact rd_name rd hv (varOk_debug h.2) (PostE.of hw rd.refl hr)
  · exact hw.elim

theorem ok_cvar (i : Nat) : EOk (.cvar i) := by
  intro k ok t h cs K s Q rd hw
  have h := nm_ok h
  simp only [Cg.wpE, zq_wpE_0, zq_wpE_1, zq_wpE_2, zq_wpE_3, zq_wpE_4, zq_wpE_5, zq_wpE_6, zq_wpE_7, zq_wpE_8, zq_wpE_9, zq_wpE_10, zq_wpE_11, zq_wpE_12, zq_wpE_13, zq_wpE_14, zq_wpE_15, zq_wpE_16, zq_wpE_17, zq_wpE_18, zq_wpE_19, zq_wpE_20, zq_wpE_21] at hw
  split at hw
  · rename_i d he
    obtain ⟨v, hv, hr⟩ := rd.cvar i _ d h.1 he
    exact rd_name rd hv (by simpa using h.2) (PostE.of hw rd.refl hr)
  · exact hw.elim

theorem boot_int : bootBuiltins (Str.ofString "int") = some (.type "int") := by decide +kernel
theorem boot_bool : bootBuiltins (Str.ofString "bool") = some (.type "bool") := by decide +kernel
theorem boot_list : bootBuiltins (Str.ofString "list") = some (.type "list") := by decide +kernel

theorem ok_tyname (n : String) : EOk (.tyname n) := by
  intro k ok t h cs K s Q rd hw
  simp only [zq_okE_0, zq_okE_1, zq_okE_2, zq_okE_3, zq_okE_4, zq_okE_5, zq_okE_6, zq_okE_7, zq_okE_8, zq_okE_9, zq_okE_10, zq_okE_11, zq_okE_12, zq_okE_13, zq_okE_14, zq_okE_15, zq_okE_16, zq_okE_17, zq_okE_18, zq_okE_19, zq_okE_20, zq_okE_21, Bool.and_eq_true, Bool.or_eq_true, beq_iff_eq] at h
  obtain ⟨h1, h3⟩ := h
  simp only [Cg.wpE, zq_wpE_0, zq_wpE_1, zq_wpE_2, zq_wpE_3, zq_wpE_4, zq_wpE_5, zq_wpE_6, zq_wpE_7, zq_wpE_8, zq_wpE_9, zq_wpE_10, zq_wpE_11, zq_wpE_12, zq_wpE_13, zq_wpE_14, zq_wpE_15, zq_wpE_16, zq_wpE_17, zq_wpE_18, zq_wpE_19, zq_wpE_20, zq_wpE_21] at hw
  rcases h1 with (rfl | rfl) | rfl
  · exact rd_builtin rd h3 (by decide +kernel) boot_int (by decide +kernel) (PostE.of hw rd.refl (.typ _))
  · exact rd_builtin rd h3 (by decide +kernel) boot_bool (by decide +kernel) (PostE.of hw rd.refl (.typ _))
  · exact rd_builtin rd h3 (by decide +kernel) boot_list (by decide +kernel) (PostE.of hw rd.refl (.typ _))

theorem ok_glob (j : Nat) : EOk (.glob j) := by
  intro k ok t h cs K s Q rd hw
  have h := nm_ok h
  simp only [Cg.wpE, zq_wpE_0, zq_wpE_1, zq_wpE_2, zq_wpE_3, zq_wpE_4, zq_wpE_5, zq_wpE_6, zq_wpE_7, zq_wpE_8, zq_wpE_9, zq_wpE_10, zq_wpE_11, zq_wpE_12, zq_wpE_13, zq_wpE_14, zq_wpE_15, zq_wpE_16, zq_wpE_17, zq_wpE_18, zq_wpE_19, zq_wpE_20, zq_wpE_21, fnAt] at hw
  split at hw
  · rename_i p he
    obtain ⟨v, hv, hr⟩ := rd.gl p (List.mem_of_getElem? he)
    have h1 := h.1
    rw [rd.tn, List.getElem?_map, he] at h1
    simp only [Option.map_some, Option.some.injEq] at h1
    rw [← rd.tn] at h1
    exact rd_glob rd h.2 (h1 ▸ hv) (PostE.of hw rd.refl hr)
  · exact hw.elim

theorem ok_neg {e : E} (he : EOk e) : EOk (.neg e) := by
  intro k ok t h cs K s Q rd hw
  refine wpAny_UnaryOp (wpAny_mono (he k ok _ h cs K s _ rd hw) (fun v s₁ hp => ?_) fun _ _ x => x)
  obtain ⟨d, K₁, hq, p, r⟩ := hp
  cases r with
  | int i t => exact neg_int (PostE.int p hq)
  | _ => exact hq.elim

theorem mulOk {a b : Int} (h : small a ∨ small b) : IntMulOk a b := by
  have key : ∀ x : Int, small x → Builtin.Int.intBits x ≤ 64 := by
    intro x hx
    unfold Builtin.Int.intBits
    by_cases h0 : (x == 0) = true
    · rw [if_pos h0]; (first | lia | omega)
    · rw [if_neg h0]
      have hn : x.natAbs ≠ 0 := by simpa using h0
      unfold small at hx
      have : x.natAbs.log2 < 64 := (Nat.log2_lt hn).mpr (by (first | lia | omega))
      (first | lia | omega)
  rcases h with h | h
  · exact IntMulOk.of_left (key a h)
  · exact IntMulOk.of_right (key b h)

theorem noPy {a b : Int} (h : small b) : Builtin.divisionGoesByPylong a b = false := by
  by_cases h0 : b = 0
  · subst h0; exact PyProof.noPylong_small (by decide)
  · refine PyProof.noPylong_of_log2 ?_
    have hn : b.natAbs ≠ 0 := by simpa using h0
    unfold small at h
    have : b.natAbs.log2 < 64 := (Nat.log2_lt hn).mpr (by (first | lia | omega))
    (first | lia | omega)

section bin
variable {prog : Program} {w : World} {A : Around} {E : Value → Shared → Prop} {s : Shared}

theorem add_lists {l b : Addr} {vs us : List Value} {n n2 : Nat} {Q : Value → Shared → Prop} (hl : s.heap.get? l = some (listObj vs n)) (hb : s.heap.get? b = some (listObj us n2))
    (hsz : vs.length + us.length ≤ 16777216) (h : Q (.ref s.heap.objs.size) { s with heap := s.heap.push (listObj (vs ++ us) 0) }) : wpAny (model prog w) A (binaryOp .Add (.ref l) (.ref b)) Q E s := by
  refine PySem.P.add_list hl hb ?_ (by simp [sizeLine]; (first | lia | omega))
  simpa [listObj] using h

theorem flatArr (vs : List Value) : ∀ (n : Nat) (acc : Array Value), List.foldl (fun x1 x2 => x1 ++ x2) acc (List.replicate n vs.toArray) = acc ++ (List.replicate n vs).flatten.toArray
  | 0, acc => by simp
  | n + 1, acc => by rw [List.replicate_succ, List.foldl_cons, flatArr vs n]; simp [List.replicate_succ]

theorem mul_lists {l : Addr} {vs : List Value} {n : Nat} {x : Int} {u : Tok} {Q : Value → Shared → Prop} (hl : s.heap.get? l = some (listObj vs n)) (hx : small x)
    (hsz : vs.length * x.toNat ≤ 16777216) (h : Q (.ref s.heap.objs.size) { s with heap := s.heap.push (listObj (List.replicate x.toNat vs).flatten 0) }) : wpAny (model prog w) A (binaryOp .Mult (.ref l) (.int x u)) Q E s := by
  unfold small at hx
  refine wpAny_binaryOp_repeat_ref (T := "list") (U := "int") (by decide) ⟨_, hl, rfl⟩ (fun s' => typeIs_int s' x u) noFill_list_mul F.fills_int_mul F.slot_int_rmul repeat_list F.slot_int_index.lookup
    (call_meets F.slot_int_rmul (typeIs_int s x u) F.entry_int_rmul (F.args_int_rmul_2 _ _) (int___rmul___int_list x u l vs.toArray n)
      ⟨hl, rfl, ⟨_, hl, rfl⟩, call_meets F.slot_list_mul ⟨_, hl, rfl⟩ F.entry_list_mul (F.args_list_mul_2 _ _)
        (AutoListH.list___mul___list_int_3 l vs.toArray n x u (by simp [Builtin.List.listFitsIndex]; (first | lia | omega)) (by simp; (first | lia | omega)) (by simp [Builtin.List.listTooLong, sizeLine]; (first | lia | omega)))
        ⟨hl, ?_⟩⟩)
  have e : (List.foldl (fun x1 x2 => x1 ++ x2) #[] (List.replicate (if vs.toArray.isEmpty = true then 0 else x.toNat) vs.toArray)) = (List.replicate x.toNat vs).flatten.toArray := by
    rw [flatArr]
    cases vs with
    | nil => simp
    | cons v r => simp
  show Q _ { s with heap := s.heap.push { cls := Value.type "list", data := Data.seq (List.foldl (fun x1 x2 => x1 ++ x2) #[] (List.replicate (if vs.toArray.isEmpty = true then 0 else x.toNat) vs.toArray)) }, toks := s.toks }
  rw [e]; exact h
end bin

theorem bin_ok {k : Cg} {K K₀ : KM} {s s₀ : Shared} {op : Operator} {d₁ d₂ : D} {a b : Value} {Q : D → Prop} (p : Post s₀ K₀ s K) (r₁ : VR K d₁ a) (r₂ : VR K d₂ b) (hw : binW op d₁ d₂ Q) :
    wpAny k.M k.A (binaryOp op a b) (PostE s₀ K₀ Q) k.E s := by
  unfold binW at hw
  split at hw
  · cases r₁; cases r₂; exact add_int (PostE.int p hw)
  · cases r₁; cases r₂; exact sub_int (PostE.int p hw)
  · cases r₁; cases r₂; exact mul_int (PostE.int p hw.2) (mulOk hw.1)
  · cases r₁; cases r₂; exact floordiv_int hw.1 (PostE.int p hw.2.2) (.inl (noPy hw.2.1))
  · cases r₁; cases r₂; exact mod_int' hw.1 (PostE.int p hw.2)
  · cases r₁; cases r₂
    obtain ⟨rfl, h0, h1, h2⟩ := hw
    refine pow_int h0 ?_ (PostE.int p h2)
    have : Builtin.Int.intBits 2 = 2 := by decide +kernel
    rw [this]; (first | lia | omega)
  · cases r₁ with
    | lst e1 q1 =>
      cases r₂ with
      | lst e2 q2 =>
        have := q1.length
        have := q2.length
        refine add_lists (p.kin _ _ e1) (p.kin _ _ e2) (by (first | lia | omega)) ?_
        exact ⟨_, _, hw.2, p.trans (Post.push p.kin _), .lst (KM.add_self _ _ _) ((q1.append q2).mono (Post.push p.kin _).le)⟩
  · cases r₁ with
    | lst e1 q1 =>
      cases r₂
      have := q1.length
      refine mul_lists (p.kin _ _ e1) hw.1 (by rw [← this]; exact hw.2.1) ?_
      exact ⟨_, _, hw.2.2, p.trans (Post.push p.kin _), .lst (KM.add_self _ _ _) ((q1.rep _).mono (Post.push p.kin _).le)⟩
  · exact hw.elim

theorem ok_bin {op : Operator} {l r : E} (hl : EOk l) (hr : EOk r) : EOk (.bin op l r) := by
  intro k ok t h cs K s Q rd hw
  simp only [zq_okE_0, zq_okE_1, zq_okE_2, zq_okE_3, zq_okE_4, zq_okE_5, zq_okE_6, zq_okE_7, zq_okE_8, zq_okE_9, zq_okE_10, zq_okE_11, zq_okE_12, zq_okE_13, zq_okE_14, zq_okE_15, zq_okE_16, zq_okE_17, zq_okE_18, zq_okE_19, zq_okE_20, zq_okE_21, Bool.and_eq_true] at h
  obtain ⟨h1, h2⟩ := h
  refine wpAny_BinOp (wpAny_mono (hl k ok _ h1 cs K s _ rd hw) (fun a s₁ hp => ?_) fun _ _ x => x)
  obtain ⟨d₁, K₁, hq, p₁, r₁⟩ := hp
  refine wpAny_mono (hr k ok _ h2 cs K₁ s₁ _ (rd.post p₁) hq) (fun b s₂ hp => ?_) fun _ _ x => x
  obtain ⟨d₂, K₂, hq, p₂, r₂⟩ := hp
  exact bin_ok (p₁.trans p₂) (r₁.mono p₂.le) r₂ hq

end Mine

namespace Mine
open PySem PySem.Calls PyProof.Rows PySem.Spec PySem.SeqAt

/-! == of data -/
mutual
noncomputable def toPy : D → PyData
  | .none => .none
  | .bool b => .bool b
  | .int i => .int i
  | .typ _ => .none
  | .tup ds => .tuple (toPys ds)
  | .lst ds => .list (toPys ds)
  | .dct _ _ => .none
noncomputable def toPys : List D → List PyData
  | [] => []
  | d :: ds => toPy d :: toPys ds
end

theorem Plain.tup_inv {ds : List D} (h : Plain (.tup ds)) : ∀ d ∈ ds, Plain d := by cases h; assumption
theorem Plain.lst_inv {ds : List D} (h : Plain (.lst ds)) : ∀ d ∈ ds, Plain d := by cases h; assumption

mutual
theorem reads_of {K : KM} {h : Heap} (hk : KIn K h) : ∀ {d : D} {v : Value}, VR K d v → Plain d → ∃ as, Reads h v (toPy d) as
  | _, _, .none, _ => ⟨_, .none⟩
  | _, _, .bool b, p => nomatch p
  | _, _, .int i t, _ => ⟨_, .int i t⟩
  | _, _, .typ n, p => nomatch p
  | _, _, .tup e t r, p => by
    obtain ⟨as, q⟩ := reads_all hk r p.tup_inv
    rw [toPy]; exact ⟨_, .tuple (hk _ _ e) t.1 t.2 (by simpa using q)⟩
  | _, _, .lst e r, p => by
    obtain ⟨as, q⟩ := reads_all hk r p.lst_inv
    rw [toPy]; exact ⟨_, .list (hk _ _ e) rfl rfl (by simpa [listObj] using q)⟩
  | _, _, .dct .., p => nomatch p
theorem reads_all {K : KM} {h : Heap} (hk : KIn K h) : ∀ {ds : List D} {vs : List Value}, VRs K ds vs → (∀ d ∈ ds, Plain d) → ∃ as, ReadsAll h vs (toPys ds) as
  | _, _, .nil, _ => ⟨_, .nil⟩
  | _, _, .cons a r, p => by
    obtain ⟨as, q⟩ := reads_of hk a (p _ (.head _))
    obtain ⟨bs, q'⟩ := reads_all hk r fun d hd => p d (.tail _ hd)
    rw [toPys]; exact ⟨_, .cons q q'⟩
end

theorem lay_of : ∀ (n : Nat) (d : D), Plain d → d.dep n → (toPy d).canLay0 = true ∧ (toPy d).depth ≤ n := by
  have all : ∀ n : Nat, (∀ d : D, Plain d → d.dep n → (toPy d).canLay0 = true ∧ (toPy d).depth ≤ n) → ∀ ds : List D, (∀ d ∈ ds, Plain d) → (∀ d ∈ ds, d.dep n) → PyData.canLayAll0 (toPys ds) = true ∧ PyData.depthAll (toPys ds) ≤ n := by
    intro n ih ds
    induction ds with
    | nil => intro _ _; simp [toPys, PyData.canLayAll0, PyData.depthAll]
    | cons d ds hi =>
      intro h h'
      have h1 := ih d (h d (.head _)) (h' d (.head _))
      have h2 := hi (fun e he => h e (.tail _ he)) fun e he => h' e (.tail _ he)
      simp only [toPys, PyData.canLayAll0, PyData.depthAll, h1.1, h2.1, Bool.and_self, true_and]
      have a1 := h1.2
      have a2 := h2.2
      (first | lia | omega)
  intro n
  induction n with
  | zero =>
    intro d h h'
    cases h with
    | none => simp [toPy, PyData.canLay0, PyData.depth]
    | int i => simp [toPy, PyData.canLay0, PyData.depth]
    | tup _ => simp [D.dep] at h'
    | lst _ => simp [D.dep] at h'
  | succ n ih =>
    intro d h h'
    cases h with
    | none => simp [toPy, PyData.canLay0, PyData.depth]
    | int i => simp [toPy, PyData.canLay0, PyData.depth]
    | @tup ds hp =>
      have q := all n ih ds hp (by simpa [D.dep] using h')
      have q2 := q.2
      simp only [toPy, PyData.canLay0, PyData.depth, q.1, true_and]
      (first | lia | omega)
    | @lst ds hp =>
      have q := all n ih ds hp (by simpa [D.dep] using h')
      have q2 := q.2
      simp only [toPy, PyData.canLay0, PyData.depth, q.1, true_and]
      (first | lia | omega)

theorem eqv_of : ∀ (n : Nat) (d e : D), Plain d → Plain e → d.dep n → (PyData.eqv (toPy d) (toPy e) = true ↔ d = e) := by
  have all : ∀ n : Nat, (∀ d e : D, Plain d → Plain e → d.dep n → (PyData.eqv (toPy d) (toPy e) = true ↔ d = e)) → ∀ ds es : List D, (∀ d ∈ ds, Plain d) → (∀ d ∈ es, Plain d) → (∀ d ∈ ds, d.dep n) →
      (PyData.eqvAll (toPys ds) (toPys es) = true ↔ ds = es) := by
    intro n ih ds
    induction ds with
    | nil => intro es _ _ _; cases es <;> simp [toPys, PyData.eqvAll]
    | cons d ds hi =>
      intro es h1 h2 h3
      cases es with
      | nil => simp [toPys, PyData.eqvAll]
      | cons e es =>
        have q1 := ih d e (h1 d (.head _)) (h2 e (.head _)) (h3 d (.head _))
        have q2 := hi es (fun x hx => h1 x (.tail _ hx)) (fun x hx => h2 x (.tail _ hx)) fun x hx => h3 x (.tail _ hx)
        simp only [toPys, PyData.eqvAll, Bool.and_eq_true, q1, q2, List.cons.injEq]
  intro n
  induction n with
  | zero =>
    intro d e h1 h2 h3
    cases h1 <;> cases h2 <;> simp_all [toPy, PyData.eqv, D.dep]
  | succ n ih =>
    intro d e h1 h2 h3
    cases h1 with
    | none => cases h2 <;> simp [toPy, PyData.eqv]
    | int i => cases h2 <;> simp [toPy, PyData.eqv]
    | @tup ds hp =>
      cases h2 with
      | none => simp [toPy, PyData.eqv]
      | int i => simp [toPy, PyData.eqv]
      | @tup es hq =>
        simp only [toPy, PyData.eqv, D.tup.injEq]
        exact all n ih ds es hp hq (by simpa [D.dep] using h3)
      | lst _ => simp [toPy, PyData.eqv]
    | @lst ds hp =>
      cases h2 with
      | none => simp [toPy, PyData.eqv]
      | int i => simp [toPy, PyData.eqv]
      | @lst es hq =>
        simp only [toPy, PyData.eqv, D.lst.injEq]
        exact all n ih ds es hp hq (by simpa [D.dep] using h3)
      | tup _ => simp [toPy, PyData.eqv]

theorem shaped_of {d : D} (h : Plain d) (h' : d.dep 6) : shaped (toPy d) = true := by
  have := lay_of 6 d h h'
  unfold shaped
  rw [this.1, Bool.true_and, decide_eq_true_eq]
  (first | lia | omega)
theorem eqB_of {d e : D} (h : Plain d) (h' : Plain e) (hd : d.dep 6) : PyData.eqv (toPy d) (toPy e) = eqB d e := by
  have := eqv_of 6 d e h h' hd
  unfold eqB
  by_cases q : d = e
  · rw [this.mpr q]; simp [q]
  · have : PyData.eqv (toPy d) (toPy e) ≠ true := fun x => q (this.mp x)
    simp [q, this]

theorem PostE.bool {s s₁ : Shared} {K K₁ : KM} {Q : D → Prop} {b : Bool} (p : Post s K s₁ K₁) (q : Q (.bool b)) : PostE s K Q (.bool b) s₁ := ⟨_, K₁, q, p, .bool b⟩

theorem units64 {k : Cg} (ok : k.Ok) : k.A.units + 64 < cLine := by
  have := ok.room.units
  have : cLine = 9900 := rfl
  (first | lia | omega)

theorem typ_beq (x y : String) : (Value.type x == Value.type y) = (x == y) := by
  by_cases q : x = y
  · subst q; rw [beq_self_eq_true, beq_self_eq_true]
  · rw [beq_eq_false_iff_ne.mpr q, beq_eq_false_iff_ne.mpr fun e => q (by cases e; rfl)]

theorem cmp_ok {k : Cg} (ok : k.Ok) {K K₀ : KM} {s s₀ : Shared} {op : CmpOp} {d₁ d₂ : D} {a b : Value} {Q : Bool → Prop} {P : Value → Shared → Prop} (p : Post s₀ K₀ s K) (r₁ : VR K d₁ a) (r₂ : VR K d₂ b) (hw : cmpW op d₁ d₂ Q)
    (hP : ∀ c tk, Q c → P (.bool c) { s with toks := tk }) : wpAny k.M k.A (compareOp op a b) P k.E s := by
  unfold cmpW at hw
  split at hw
  · unfold eqW at hw
    split at hw
    · cases r₁; cases r₂; exact eq_bool (hP _ s.toks hw)
    · cases r₁; cases r₂; exact eq_int (hP _ s.toks hw)
    · obtain ⟨h1, h2, h3, h4, h5⟩ := hw
      obtain ⟨as, ra⟩ := reads_of p.kin r₁ h1
      obtain ⟨bs, rb⟩ := reads_of p.kin r₂ h2
      exact eq_dataH ra rb (shaped_of h1 h3) (shaped_of h2 h4) (units64 ok) (by rw [eqB_of h1 h2 h3]; exact hP _ s.toks h5)
    · obtain ⟨h1, h2, h3, h4, h5⟩ := hw
      obtain ⟨as, ra⟩ := reads_of p.kin r₁ h1
      obtain ⟨bs, rb⟩ := reads_of p.kin r₂ h2
      exact eq_dataH ra rb (shaped_of h1 h3) (shaped_of h2 h4) (units64 ok) (by rw [eqB_of h1 h2 h3]; exact hP _ s.toks h5)
    · exact hw.elim
  · unfold eqW at hw
    split at hw
    · cases r₁; cases r₂; exact ne_bool (hP _ s.toks hw)
    · cases r₁; cases r₂; exact ne_int (hP _ s.toks hw)
    · obtain ⟨h1, h2, h3, h4, h5⟩ := hw
      obtain ⟨as, ra⟩ := reads_of p.kin r₁ h1
      obtain ⟨bs, rb⟩ := reads_of p.kin r₂ h2
      exact ne_dataH ra rb (shaped_of h1 h3) (shaped_of h2 h4) (units64 ok) (by rw [eqB_of h1 h2 h3]; exact hP _ s.toks h5)
    · obtain ⟨h1, h2, h3, h4, h5⟩ := hw
      obtain ⟨as, ra⟩ := reads_of p.kin r₁ h1
      obtain ⟨bs, rb⟩ := reads_of p.kin r₂ h2
      exact ne_dataH ra rb (shaped_of h1 h3) (shaped_of h2 h4) (units64 ok) (by rw [eqB_of h1 h2 h3]; exact hP _ s.toks h5)
    · exact hw.elim
  · cases r₁; cases r₂; exact lt_int (hP _ s.toks hw)
  · cases r₁; cases r₂; exact le_int (hP _ s.toks hw)
  · cases r₁; cases r₂; exact gt_int (hP _ s.toks hw)
  · cases r₁; cases r₂; exact ge_int (hP _ s.toks hw)
  · unfold isW at hw
    split at hw
    · cases r₁; cases r₂; exact is_bool (hP _ s.toks hw)
    · cases r₁; cases r₂; exact is_none_none (hP _ s.toks hw)
    · cases r₁; cases r₂
      rename_i x y
      exact wpAny_pure (a := Value.bool (Value.type x == Value.type y)) (by
        rw [typ_beq]; exact hP _ s.toks hw)
    · cases r₂; cases r₁; exact is_ref_none (hP _ s.toks hw)
    · cases r₂; cases r₁; exact is_ref_none (hP _ s.toks hw)
    · cases r₁; cases r₂
      exact wpAny_pure (a := Value.bool false) (hP _ s.toks hw)
    · exact hw.elim
  · unfold isW at hw
    split at hw
    · cases r₁; cases r₂; exact isnot_bool (hP _ s.toks hw)
    · cases r₁; cases r₂; exact isnot_none_none (hP _ s.toks hw)
    · cases r₁; cases r₂
      rename_i x y
      exact wpAny_pure (a := Value.bool (!(Value.type x == Value.type y))) (by
        rw [typ_beq]; exact hP _ s.toks hw)
    · cases r₂; cases r₁; exact isnot_ref_none (hP _ s.toks hw)
    · cases r₂; cases r₁; exact isnot_ref_none (hP _ s.toks hw)
    · cases r₁; cases r₂
      exact wpAny_pure (a := Value.bool true) (hP _ s.toks hw)
    · exact hw.elim
  · rename_i x f n
    cases r₁
    cases r₂ with
    | dct e q c ha =>
      obtain ⟨kvs, hd, _, hv⟩ := q
      refine wpAny_in_of (knd := intKind k.g.prog k.g.w) (k := x) (by simp [intKind, Value.isInt]) ha (Heap.DictOf.mapOf (Heap.dictOf_iff.mpr ⟨_, p.kin _ _ e, hd _ _⟩)) ?_
      have hs : (valueAt kvs x).isSome = (f x).isSome := by
        have := hv x
        cases hf : f x with
        | none => rw [hf] at this; rw [show valueAt kvs x = none from this]; rfl
        | some i => rw [hf] at this; obtain ⟨t, e⟩ := this; rw [e]; rfl
      rw [hs]
      exact hP _ _ hw
  · exact hw.elim

theorem ok_cmp {op : CmpOp} {l r : E} (hl : EOk l) (hr : EOk r) : EOk (.cmp op l r) := by
  intro k ok t h cs K s Q rd hw
  simp only [zq_okE_0, zq_okE_1, zq_okE_2, zq_okE_3, zq_okE_4, zq_okE_5, zq_okE_6, zq_okE_7, zq_okE_8, zq_okE_9, zq_okE_10, zq_okE_11, zq_okE_12, zq_okE_13, zq_okE_14, zq_okE_15, zq_okE_16, zq_okE_17, zq_okE_18, zq_okE_19, zq_okE_20, zq_okE_21, Bool.and_eq_true, Bool.not_eq_true'] at h
  obtain ⟨⟨h1, h2⟩, h3⟩ := h
  refine wpAny_Compare1 (wpAny_mono (hl k ok _ h1 cs K s _ rd hw) (fun a s₁ hp => ?_) fun _ _ x => x) h3
  obtain ⟨d₁, K₁, hq, p₁, r₁⟩ := hp
  refine wpAny_mono (hr k ok _ h2 cs K₁ s₁ _ (rd.post p₁) hq) (fun b s₂ hp => ?_) fun _ _ x => x
  obtain ⟨d₂, K₂, hq, p₂, r₂⟩ := hp
  exact cmp_ok ok (p₁.trans p₂) (r₁.mono p₂.le) r₂ hq (fun c tk hc => PostE.bool ((p₁.trans p₂).trans (Post.keep p₂.kin (keeps_toks tk))) hc)

theorem ok_and2 {l r : E} (hl : EOk l) (hr : EOk r) : EOk (.and2 l r) := by
  intro k ok t h cs K s Q rd hw
  simp only [zq_okE_0, zq_okE_1, zq_okE_2, zq_okE_3, zq_okE_4, zq_okE_5, zq_okE_6, zq_okE_7, zq_okE_8, zq_okE_9, zq_okE_10, zq_okE_11, zq_okE_12, zq_okE_13, zq_okE_14, zq_okE_15, zq_okE_16, zq_okE_17, zq_okE_18, zq_okE_19, zq_okE_20, zq_okE_21, Bool.and_eq_true] at h
  refine wpAny_And2 (wpAny_mono (hl k ok _ h.1 cs K s _ rd hw) (fun a s₁ hp => ?_) fun _ _ x => x)
  obtain ⟨d₁, K₁, hq, p₁, r₁⟩ := hp
  split at hq
  · cases r₁
    refine wpAny_truthy_bool ?_
    rw [if_pos rfl]
    refine wpAny_mono (hr k ok _ h.2 cs K₁ s₁ _ (rd.post p₁) hq) (fun b s₂ hp => ?_) fun _ _ x => x
    obtain ⟨d₂, K₂, hq, p₂, r₂⟩ := hp
    exact ⟨d₂, K₂, hq, p₁.trans p₂, r₂⟩
  · cases r₁
    refine wpAny_truthy_bool ?_
    rw [if_neg (by simp)]
    exact PostE.bool p₁ hq
  · exact hq.elim

end Mine

namespace Mine
open PySem PySem.Calls PyProof.Rows

theorem star_cons {p : Expr} {r : List Expr} {env : Env} (h : notStar p = true) : starEach (p :: r) env = (false, eval p env) :: starEach r env := by
  cases p <;> first | rfl | (simp [notStar] at h)

theorem ok_nil : EsOk .nil := by
  intro k ok ts pos h cs K s Q rd hw
  simp only [Cg.wpEs, zq_wpEs_0, zq_wpEs_1] at hw
  exact args_nil ⟨[], K, hw, rd.refl, .nil⟩

theorem ok_cons {e : E} {es : Es} (he : EOk e) (hes : EsOk es) : EsOk (.cons e es) := by
  intro k ok ts pos h cs K s Q rd hw
  simp only [zq_okEs_0, zq_okEs_1, Bool.and_eq_true] at h
  obtain ⟨h1, h2⟩ := h
  simp only [Cg.wpEs, zq_wpEs_0, zq_wpEs_1] at hw
  refine args_cons (wpAny_mono (he k ok _ h1 cs K s _ rd hw) (fun v s₁ hp => ?_) fun _ _ x => x) (star_cons (star_toE _ _ _))
  obtain ⟨d, K₁, hq, p₁, r₁⟩ := hp
  refine wpAny_mono (hes k ok _ pos h2 cs K₁ s₁ _ (rd.post p₁) hq) (fun vs s₂ hp => ?_) fun _ _ x => x
  obtain ⟨ds, K₂, hq, p₂, r₂⟩ := hp
  exact ⟨_, K₂, hq, p₁.trans p₂, .cons (r₁.mono p₂.le) r₂⟩

theorem args_ne {c : Cx} {es : Es} {ts : List PT} (hn : es.isNil = false) : ∃ p r, toEs c es ts = p :: r ∧ notStar p = true := by
  cases es with
  | nil => simp [Es.isNil] at hn
  | cons e es => exact ⟨_, _, rfl, star_toE _ _ _⟩

theorem ok_call {f : Str} {args : Es} (ha : EsOk args) : EOk (.call f args) := by
  intro k ok t h cs K s Q rd hw
  simp only [zq_okE_0, zq_okE_1, zq_okE_2, zq_okE_3, zq_okE_4, zq_okE_5, zq_okE_6, zq_okE_7, zq_okE_8, zq_okE_9, zq_okE_10, zq_okE_11, zq_okE_12, zq_okE_13, zq_okE_14, zq_okE_15, zq_okE_16, zq_okE_17, zq_okE_18, zq_okE_19, zq_okE_20, zq_okE_21, Bool.and_eq_true, Bool.not_eq_true', List.contains_iff_mem] at h
  obtain ⟨⟨⟨h1, h2⟩, h3⟩, h4⟩ := h
  obtain ⟨p, r, hpr, hp0⟩ := args_ne (c := k.c) (ts := t.cs) h3
  obtain ⟨d, hd, hdn⟩ := rd.fn _ h2
  obtain ⟨a, o, pm, code, doc, hm, ho, hdat, _⟩ := rd.gok.top.fn d hd
  rw [hdn] at hm
  simp only [Cg.wpE, zq_wpE_0, zq_wpE_1, zq_wpE_2, zq_wpE_3, zq_wpE_4, zq_wpE_5, zq_wpE_6, zq_wpE_7, zq_wpE_8, zq_wpE_9, zq_wpE_10, zq_wpE_11, zq_wpE_12, zq_wpE_13, zq_wpE_14, zq_wpE_15, zq_wpE_16, zq_wpE_17, zq_wpE_18, zq_wpE_19, zq_wpE_20, zq_wpE_21] at hw
  have hA := ha k ok t.cs t.pos h4 cs K s _ rd hw
  show wpAny _ _ (eval (.Call (.Name f t.pos2) (toEs k.c args t.cs) [] t.pos) _) _ _ _
  rw [hpr] at hA ⊢
  refine Call_ (rd_glob rd h1 hm ?_)
  refine callWith_def hdat (wpAny_mono hA (fun vs s₁ hp => ?_) fun _ _ x => x) (star_cons hp0)
  obtain ⟨ds, K₁, ⟨res, hf, hres⟩, p₁, r₁⟩ := hp
  refine ⟨keeps_get p₁.keeps _ _ ho, wpAny_call ?_⟩
  have rd₁ := rd.post p₁
  refine codeAny_mono (hf k.A k.base k.fr s₁ K₁ vs a ok.room rd₁.below rd₁.gok rd₁.gl rd₁.kin r₁ hm) fun rr s₂ hr => ?_
  cases res with
  | ok d =>
    obtain ⟨v, K₂, rfl, p₂, r₂⟩ := hr
    exact ⟨d, K₂, hres, p₁.trans p₂, r₂⟩
  | exc c =>
    obtain ⟨e, rfl, hfl⟩ := hr
    exact ok.exc c hres K₁ s₁ _ _ rd₁.iv (.flown hfl)
  | bad => exact hr.elim

theorem boot_len : bootBuiltins (Str.ofString "len") = some (.builtin "len") := by decide +kernel
theorem boot_abs : bootBuiltins (Str.ofString "abs") = some (.builtin "abs") := by decide +kernel
theorem boot_min : bootBuiltins (Str.ofString "min") = some (.builtin "min") := by decide +kernel
theorem boot_max : bootBuiltins (Str.ofString "max") = some (.builtin "max") := by decide +kernel
theorem boot_type : bootBuiltins (Str.ofString "type") = some (.type "type") := by decide +kernel
theorem boot_isinstance : bootBuiltins (Str.ofString "isinstance") = some (.builtin "isinstance") := by decide +kernel

theorem ints_are {K : KM} : ∀ {ds : List D} {vs : List Value} {ns : List Int}, VRs K ds vs → unInts ds = some ns → IntsAre vs ns
  | _, _, _, .nil, h => by simp [unInts] at h; subst h; exact .nil
  | _, _, _, .cons a r, h => by
    cases a with
    | int i t =>
      simp only [unInts, Option.map_eq_some_iff] at h
      obtain ⟨ns, h1, rfl⟩ := h
      exact .cons _ _ (ints_are r h1)
    | _ => simp [unInts] at h

theorem maxL_spec : ∀ (r : List Int) (a : Int), maxL a r ∈ a :: r ∧ ∀ x ∈ a :: r, x ≤ maxL a r
  | [], a => by simp [maxL]
  | b :: r, a => by
    simp only [maxL]
    have h := maxL_spec r (if b > a then b else a)
    by_cases hb : b > a
    · simp only [if_pos hb] at h ⊢
      refine ⟨List.mem_cons_of_mem _ h.1, fun x hx => ?_⟩
      have hm := h.2 b (.head _)
      rcases List.mem_cons.mp hx with rfl | hx
      · (first | lia | omega)
      · exact h.2 x hx
    · simp only [if_neg hb] at h ⊢
      refine ⟨?_, fun x hx => ?_⟩
      · rcases List.mem_cons.mp h.1 with h1 | h1
        · rw [h1]; exact .head _
        · exact .tail _ (.tail _ h1)
      · have hm := h.2 a (.head _)
        rcases List.mem_cons.mp hx with rfl | hx
        · exact hm
        · rcases List.mem_cons.mp hx with rfl | hx
          · (first | lia | omega)
          · exact h.2 x (.tail _ hx)

theorem typeIs_of {K : KM} {s : Shared} (hk : KIn K s.heap) {d : D} {v : Value} {n : String} (r : VR K d v) (h : d.tyName = some n) : s.TypeIs v n := by
  cases r with
  | none => simp only [D.tyName, Option.some.injEq] at h; subst h; exact rfl
  | bool b => simp only [D.tyName, Option.some.injEq] at h; subst h; exact rfl
  | int i t => simp only [D.tyName, Option.some.injEq] at h; subst h; exact rfl
  | typ x => simp [D.tyName] at h
  | tup e t _ => simp only [D.tyName, Option.some.injEq] at h; subst h; exact ⟨_, hk _ _ e, t.1⟩
  | lst e _ => simp only [D.tyName, Option.some.injEq] at h; subst h; exact ⟨_, hk _ _ e, rfl⟩
  | dct e _ c _ => simp only [D.tyName, Option.some.injEq] at h; subst h; exact ⟨_, hk _ _ e, c⟩

theorem tyName_not {d : D} {n : String} (h : d.tyName = some n) : (Value.type n == Value.type "builtin_function_or_method") = false := by
  rw [typ_beq]
  cases d <;> simp only [D.tyName, Option.some.injEq, reduceCtorEq] at h <;> subst h <;> decide

section bcalls
variable {k : Cg} {K K₀ : KM} {s s₀ : Shared} {Q : D → Prop}

theorem listIs {K : KM} {h : Heap} {a : Addr} {vs : List Value} {n : Nat} (hk : KIn K h) (e : K a = some (listObj vs n)) : h.IsList a vs.toArray := ⟨_, hk _ _ e, rfl, _, rfl⟩
theorem tupIs {K : KM} {h : Heap} {a : Addr} {o : Obj} {vs : List Value} {n : Nat} (hk : KIn K h) (e : K a = some o) (t : TupO o vs n) : IsTup h a vs.toArray := ⟨_, hk _ _ e, t.1, _, t.2⟩

noncomputable def BI.val : BI → Value
  | .len => .builtin "len" | .abs => .builtin "abs" | .min => .builtin "min" | .max => .builtin "max" | .list => .type "list" | .type => .type "type" | .isinstance => .builtin "isinstance"

theorem bcall_ok (ok : k.Ok) {b : BI} {ds : List D} {vs : List Value} (p : Post s₀ K₀ s K) (r : VRs K ds vs) (hw : bcallW b ds Q) : wpAny k.M k.A (call b.val vs) (PostE s₀ K₀ Q) k.E s := by
  unfold bcallW at hw
  split at hw
  · cases r with
    | cons r r' =>
      cases r'
      cases r with
      | lst e q =>
        have hl := q.length
        refine len_list (listIs p.kin e) (by simp; (first | lia | omega)) ?_
        rw [List.size_toArray, ← hl]
        exact PostE.int p hw.2
  · cases r with
    | cons r r' =>
      cases r'
      cases r with
      | tup e tt q =>
        have hl := q.length
        refine len_tuple (tupIs p.kin e tt) (by simp; (first | lia | omega)) ?_
        rw [List.size_toArray, ← hl]
        exact PostE.int p hw.2
  · cases r with
    | cons r r' =>
      cases r'
      cases r
      exact call_abs_int fun u tk => PostE.int p hw
  · cases r with
    | cons r r' =>
      cases r' with
      | cons r2 r3 =>
        cases r3
        cases r
        cases r2
        rename_i a b t u
        refine min_two_ints ok.room.handled fun h' tk hk => ?_
        have pp := p.trans (Post.keep p.kin ⟨h', tk, rfl, hk⟩)
        by_cases c : b < a
        · rw [if_pos c] at hw ⊢; exact ⟨_, _, hw, pp, .int _ _⟩
        · rw [if_neg c] at hw ⊢; exact ⟨_, _, hw, pp, .int _ _⟩
  · cases r with
    | cons r r' =>
      cases r'
      cases r with
      | lst e q =>
        split at hw
        · rename_i a r hu
          have hi := ints_are q hu
          obtain ⟨xs, ex⟩ := hi.allInts.items
          have hns : a :: r = xs.toList.map (·.1) := by
            rw [← hi.numsOf, ← nums_intItems, ← ex]
          have hsz : 0 < xs.size := by
            have h3 : 0 < (a :: r).length := by simp
            rw [hns, List.length_map, Array.length_toList] at h3; exact h3
          have hl := listIs p.kin e
          rw [ex] at hl
          refine max_intList ok.room.handled hl hsz fun v h' tk hv hk => ?_
          obtain ⟨t, rfl⟩ := intItems_at hv
          obtain ⟨h1, h2⟩ := argBest_gt (numAt xs) (xs.size - 1)
          have pp := p.trans (Post.keep p.kin ⟨h', tk, rfl, hk⟩)
          have hmem : numAt xs (argBest (fun i j => decide (numAt xs i > numAt xs j)) (xs.size - 1)) ∈ a :: r := by
            rw [hns, numAt_eq]; exact getD_mem (by rw [List.length_map, Array.length_toList]; (first | lia | omega))
          have hall : ∀ x ∈ a :: r, x ≤ numAt xs (argBest (fun i j => decide (numAt xs i > numAt xs j)) (xs.size - 1)) := fun x hx => by
            rw [hns] at hx
            obtain ⟨j, hj, rfl⟩ := mem_getD hx
            rw [List.length_map, Array.length_toList] at hj
            rw [← numAt_eq]; exact h2 j (by (first | lia | omega))
          have hms := maxL_spec r a
          have e1 := hall _ hms.1
          have e2 := hms.2 _ hmem
          have e3 : numAt xs (argBest (fun i j => decide (numAt xs i > numAt xs j)) (xs.size - 1)) = maxL a r := by (first | lia | omega)
          rw [e3]
          exact ⟨_, _, hw, pp, .int _ _⟩
        · exact hw.elim
  · cases r with
    | cons r r' =>
      cases r'
      cases r with
      | lst e q =>
        have hl := q.length
        refine call_list_seq _ (.inl rfl) (p.kin _ _ e) rfl rfl (fun h' c' hk hn => ?_) (by simp [sizeLine]; (first | lia | omega))
        have hfresh : s.heap.get? s.heap.objs.size = none := fresh_size _
        have hKn : K s.heap.objs.size = none := by
          cases eK : K s.heap.objs.size with
          | none => rfl
          | some o' => have := p.kin _ _ eK; rw [hfresh] at this; cases this
        refine ⟨_, K.add s.heap.objs.size (listObj _ c'), hw.2, p.trans ⟨⟨h', s.toks, rfl, hk⟩, KM.le_add hKn, fun a o ea => ?_, fun a o ea => ?_⟩, .lst (KM.add_self _ _ _) (q.mono (KM.le_add hKn))⟩
        · unfold KM.add at ea
          by_cases ha : a = s.heap.objs.size
          · subst ha; simp at ea; subst ea; exact hn
          · rw [if_neg ha] at ea; exact hk _ _ (p.kin _ _ ea)
        · unfold KM.add at ea
          by_cases ha : a = s.heap.objs.size
          · subst ha; exact .inr hfresh
          · rw [if_neg ha] at ea; exact .inl ea
  · cases r with
    | cons r r' =>
      cases r'
      split at hw
      · rename_i n hn
        exact call_type_of (typeIs_of p.kin r hn) (tyName_not hn) ⟨_, _, hw, p, .typ _⟩
      · exact hw.elim
  · cases r with
    | cons r r' =>
      cases r' with
      | cons r2 r3 =>
        cases r3
        cases r
        cases r2
        obtain ⟨rfl, hq⟩ := hw
        exact PySem.IsiPair.bool_bool (PostE.bool p hq)
  · exact hw.elim
end bcalls

theorem boot_bi (b : BI) : bootBuiltins (Str.ofString b.name) = some b.val := by
  cases b
  · exact boot_len
  · exact boot_abs
  · exact boot_min
  · exact boot_max
  · exact boot_list
  · exact boot_type
  · exact boot_isinstance
theorem bi_mem (b : BI) : Str.ofString b.name ∈ bnames := by cases b <;> decide +kernel
theorem bi_ne (b : BI) : Str.ofString b.name ≠ "__name__" := by cases b <;> decide +kernel

theorem backTo_plain (c : Cx) (pos : Pos) (env : Env) : ∀ (es : Es) (ts : List PT), (backTo pos (starEach (toEs c es ts) env)).any (·.1) = false
  | .nil, _ => rfl
  | .cons e es, ts => by
    show (backTo pos (starEach (toE c e (hd ts) :: toEs c es ts.tail) env)).any (·.1) = false
    rw [star_cons (star_toE _ _ _)]
    have ih := backTo_plain c pos env es ts.tail
    simpa [backTo] using ih

theorem ok_bcall {b : BI} {args : Es} (ha : EsOk args) : EOk (.bcall b args) := by
  intro k ok t h cs K s Q rd hw
  simp only [zq_okE_0, zq_okE_1, zq_okE_2, zq_okE_3, zq_okE_4, zq_okE_5, zq_okE_6, zq_okE_7, zq_okE_8, zq_okE_9, zq_okE_10, zq_okE_11, zq_okE_12, zq_okE_13, zq_okE_14, zq_okE_15, zq_okE_16, zq_okE_17, zq_okE_18, zq_okE_19, zq_okE_20, zq_okE_21, Bool.and_eq_true, Bool.not_eq_true'] at h
  obtain ⟨⟨h1, h3⟩, h4⟩ := h
  obtain ⟨p, r, hpr, hp0⟩ := args_ne (c := k.c) (ts := t.cs) h3
  simp only [Cg.wpE, zq_wpE_0, zq_wpE_1, zq_wpE_2, zq_wpE_3, zq_wpE_4, zq_wpE_5, zq_wpE_6, zq_wpE_7, zq_wpE_8, zq_wpE_9, zq_wpE_10, zq_wpE_11, zq_wpE_12, zq_wpE_13, zq_wpE_14, zq_wpE_15, zq_wpE_16, zq_wpE_17, zq_wpE_18, zq_wpE_19, zq_wpE_20, zq_wpE_21] at hw
  refine Call_ (rd_builtin rd h1 (bi_mem b) (boot_bi b) (bi_ne b) ?_)
  have fin : wpAny k.M k.A (spliced (backTo t.pos (starEach (toEs k.c args t.cs) k.env))) (fun vs s₁ => wpAny k.M k.A (call b.val vs) (PostE s K Q) k.E s₁) k.E s := by
    refine wpAny_mono (ha k ok _ t.pos h4 cs K s _ rd hw) (fun vs s₁ hp => ?_) fun _ _ x => x
    obtain ⟨ds, K₁, hq, p₁, r₁⟩ := hp
    exact bcall_ok ok p₁ r₁ hq
  have hpl := backTo_plain k.c t.pos k.env args t.cs
  rw [hpr, star_cons hp0] at fin hpl ⊢
  cases b
  case list => exact PyProof.Rows.callWith_type hpl (evalArgs_plain fin)
  case type => exact PyProof.Rows.callWith_type hpl (evalArgs_plain fin)
  all_goals exact callWith_builtin hpl (evalArgs_plain fin)

theorem ok_lenv (i : Nat) : EOk (.lenv i) := by
  intro k ok t h cs K s Q rd hw
  simp only [zq_okE_0, zq_okE_1, zq_okE_2, zq_okE_3, zq_okE_4, zq_okE_5, zq_okE_6, zq_okE_7, zq_okE_8, zq_okE_9, zq_okE_10, zq_okE_11, zq_okE_12, zq_okE_13, zq_okE_14, zq_okE_15, zq_okE_16, zq_okE_17, zq_okE_18, zq_okE_19, zq_okE_20, zq_okE_21, Bool.and_eq_true] at h
  obtain ⟨h1, hn⟩ := h
  obtain ⟨h2, h3⟩ := nm_ok hn
  simp only [Cg.wpE, zq_wpE_0, zq_wpE_1, zq_wpE_2, zq_wpE_3, zq_wpE_4, zq_wpE_5, zq_wpE_6, zq_wpE_7, zq_wpE_8, zq_wpE_9, zq_wpE_10, zq_wpE_11, zq_wpE_12, zq_wpE_13, zq_wpE_14, zq_wpE_15, zq_wpE_16, zq_wpE_17, zq_wpE_18, zq_wpE_19, zq_wpE_20, zq_wpE_21] at hw
  split at hw
  · rename_i ds he
    obtain ⟨a, hv, vs, n, hg, hr⟩ := rd.vown i _ _ h2 h3 he
    refine Call_ (rd_builtin rd h1 (bi_mem .len) (boot_bi .len) (bi_ne .len) ?_)
    refine callWith_builtin1 (args_cons (rd_name rd hv (varOk_debug h3) (args_nil ?_)))
    have hl := hr.length
    refine len_list ⟨_, hg, rfl, _, rfl⟩ (by simp; (first | lia | omega)) ?_
    rw [List.size_toArray, ← hl]
    exact PostE.int rd.refl hw.2
  · exact hw.elim

theorem noSlice_sub {c : Cx} {e : Mine.E} {t : PT} {o i : Value} : subscripted (toE c e t) false o i = operate [o, i] (getItem o i) := by
  cases e <;> rfl

/-- an item of a list or a tuple -/
theorem item_ok {k : Cg} (ok : k.Ok) {T : String} {value slice : Expr} {a : Addr} {vs : List Value} {j : Int} {u : Tok} {K K₀ : KM} {s s₀ : Shared} {Q : D → Prop} {cs : List D} {ds : List D} {X' : String → Prop} (rd : Rd k K cs s) (p : Post s₀ K₀ s K)
    (hT : (T = "list" ∧ s.heap.IsList a vs.toArray) ∨ (T = "tuple" ∧ IsTup s.heap a vs.toArray)) (r : VRs K ds vs) (hs : ∀ o i, subscripted slice false o i = operate [o, i] (getItem o i)) (hw : itemW X' ds j Q) (hX : ∀ c, X' c → T = "list" ∧ k.X c) :
    wpAny k.M k.A (subscriptTail value slice (.ref a) (.int j u)) (PostE s₀ K₀ Q) k.E s := by
  obtain ⟨hsm, hw⟩ := hw
  unfold small at hsm
  have hlen := r.length
  have fin : ∀ (i : Nat) (d : D), ds[i]? = some d → seqIndex? j vs.length = some i → Q d → wpAny k.M k.A (subscriptTail value slice (.ref a) (.int j u)) (PostE s₀ K₀ Q) k.E s := by
    intro i d hd hj hq
    obtain ⟨v, hv, hr⟩ := r.get hd
    rcases hT with ⟨rfl, hl⟩ | ⟨rfl, ht⟩
    · refine tail_any hl.typeIs slot_list_getitem.lookup ?_ (hs _ _)
      by_cases h0 : 0 ≤ j
      · have e : j.toNat = i := by
          unfold seqIndex? at hj
          simp only [Int.not_lt.mpr h0, if_false] at hj
          split at hj <;> simp_all
        exact wpAny_getItem_list hl h0 hsm.2 (by rw [e]; simpa using hv) ⟨d, K, hq, p, hr⟩
      · have h1 : -(vs.length : Int) ≤ j := by
          unfold seqIndex? at hj
          simp only [show j < 0 by (first | lia | omega), if_true] at hj
          split at hj
          · rename_i hc; simp only [Bool.and_eq_true, decide_eq_true_eq] at hc; (first | lia | omega)
          · cases hj
        have e : (j + vs.length).toNat = i := by
          rw [seqIndex_neg (by (first | lia | omega)) h1] at hj; simpa using hj
        exact wpAny_getItem_list_neg hl (by (first | lia | omega)) (by simpa using h1) hsm.1 (by simp only [List.size_toArray]; rw [e]; simpa using hv) ⟨d, K, hq, p, hr⟩
    · exact item_tupleT ht hsm.1 hsm.2 hj hv ⟨d, K, hq, p, hr⟩ (hs _ _)
  by_cases h0 : 0 ≤ j
  · rw [if_pos h0] at hw
    split at hw
    · rename_i d hd
      have hlt : j.toNat < ds.length := by
        rcases Nat.lt_or_ge j.toNat ds.length with h | h
        · exact h
        · rw [List.getElem?_eq_none h] at hd; cases hd
      refine fin _ d hd ?_ hw
      unfold seqIndex?
      simp only [Int.not_lt.mpr h0, if_false]
      rw [if_pos (by simp only [Bool.and_eq_true, decide_eq_true_eq]; (first | lia | omega))]
    · rename_i hd
      have hge : ds.length ≤ j.toNat := by
        rcases Nat.lt_or_ge j.toNat ds.length with h | h
        · rw [List.getElem?_eq_getElem h] at hd; cases hd
        · exact h
      rcases hT with ⟨rfl, hl⟩ | ⟨rfl, ht⟩
      · refine tail_any hl.typeIs slot_list_getitem.lookup ?_ (hs _ _)
        exact wpAny_getItem_list_out ok.room.handled hl (.inr (by simp; (first | lia | omega))) hsm.1 hsm.2 fun h' tk e he => ok.exc _ (hX _ hw).2 K s _ _ rd.iv (.new (newX_of he))
      · exact absurd (hX _ hw).1 (by decide)
  · rw [if_neg h0] at hw
    by_cases h1 : 0 ≤ j + ds.length
    · rw [if_pos h1] at hw
      split at hw
      · rename_i d hd
        refine fin _ d hd ?_ hw
        rw [seqIndex_neg (by (first | lia | omega)) (by (first | lia | omega)), hlen]
      · exact hw.elim
    · rw [if_neg h1] at hw
      rcases hT with ⟨rfl, hl⟩ | ⟨rfl, ht⟩
      · refine tail_any hl.typeIs slot_list_getitem.lookup ?_ (hs _ _)
        exact wpAny_getItem_list_out ok.room.handled hl (.inl (by simp; (first | lia | omega))) hsm.1 hsm.2 fun h' tk e he => ok.exc _ (hX _ hw).2 K s _ _ rd.iv (.new (newX_of he))
      · exact absurd (hX _ hw).1 (by decide)

theorem dict_item {k : Cg} {value slice : Expr} {a : Addr} {o : Obj} {f : Int → Option Int} {n : Nat} {x : Int} {u : Tok} {K K₀ : KM} {s s₀ : Shared} {Q : D → Prop} (pp : Post s₀ K₀ s K) (ho : s.heap.get? a = some o) (q : DictO o f n)
    (hs : ∀ o i, subscripted slice false o i = operate [o, i] (getItem o i)) (hw : match f x with | some v => Q (.int v) | .none => False) : wpAny k.M k.A (subscriptTail value slice (.ref a) (.int x u)) (PostE s₀ K₀ Q) k.E s := by
  split at hw
  · rename_i v hf
    obtain ⟨kvs, hd, _, hv⟩ := q
    have := hv x
    rw [hf] at this
    obtain ⟨t, hvt⟩ := this
    have hm : s.heap.MapOf (intKind k.g.prog k.g.w) a (valueAt kvs) := Heap.DictOf.mapOf (Heap.dictOf_iff.mpr ⟨_, ho, hd _ _⟩)
    exact tail_any hm.typeIs slot_dict_getitem.lookup (wpAny_getItem_of (k := x) (by simp [intKind, Value.isInt]) hm hvt (PostE.int pp hw)) (hs _ _)
  · exact hw.elim

theorem ok_sub {e i : E} (he : EOk e) (hi : EOk i) : EOk (.sub e i) := by
  intro k ok t h cs K s Q rd hw
  simp only [zq_okE_0, zq_okE_1, zq_okE_2, zq_okE_3, zq_okE_4, zq_okE_5, zq_okE_6, zq_okE_7, zq_okE_8, zq_okE_9, zq_okE_10, zq_okE_11, zq_okE_12, zq_okE_13, zq_okE_14, zq_okE_15, zq_okE_16, zq_okE_17, zq_okE_18, zq_okE_19, zq_okE_20, zq_okE_21, Bool.and_eq_true] at h
  obtain ⟨h1, h2⟩ := h
  have h3 : ∀ o j, subscripted (toE k.c i (t.at 1)) false o j = operate [o, j] (getItem o j) := fun _ _ => noSlice_sub
  simp only [Cg.wpE, zq_wpE_0, zq_wpE_1, zq_wpE_2, zq_wpE_3, zq_wpE_4, zq_wpE_5, zq_wpE_6, zq_wpE_7, zq_wpE_8, zq_wpE_9, zq_wpE_10, zq_wpE_11, zq_wpE_12, zq_wpE_13, zq_wpE_14, zq_wpE_15, zq_wpE_16, zq_wpE_17, zq_wpE_18, zq_wpE_19, zq_wpE_20, zq_wpE_21] at hw
  refine Subscript_ (wpAny_mono (he k ok _ h1 cs K s _ rd hw) (fun o s₁ hp => ?_) fun _ _ x => x)
  obtain ⟨d₁, K₁, hq, p₁, r₁⟩ := hp
  refine wpAny_mono (hi k ok _ h2 cs K₁ s₁ _ (rd.post p₁) hq) (fun iv s₂ hp => ?_) fun _ _ x => x
  obtain ⟨d₂, K₂, hq, p₂, r₂⟩ := hp
  have rd₂ := (rd.post p₁).post p₂
  have pp := p₁.trans p₂
  have r₁' := r₁.mono p₂.le
  unfold subW at hq
  split at hq
  · cases r₂
    cases r₁' with
    | lst e q => exact item_ok ok rd₂ pp (.inl ⟨rfl, listIs rd₂.kin e⟩) q h3 hq fun c hc => ⟨rfl, hc⟩
  · cases r₂
    cases r₁' with
    | tup e tt q => exact item_ok ok rd₂ pp (.inr ⟨rfl, tupIs rd₂.kin e tt⟩) q h3 hq fun c hc => hc.elim
  · cases r₂
    cases r₁' with
    | dct e q c ha => exact dict_item pp (pp.kin _ _ e) q h3 hq
  · exact hq.elim

theorem ok_subv {i : Nat} {e : E} (he : EOk e) : EOk (.subv i e) := by
  intro k ok t h cs K s Q rd hw
  simp only [zq_okE_0, zq_okE_1, zq_okE_2, zq_okE_3, zq_okE_4, zq_okE_5, zq_okE_6, zq_okE_7, zq_okE_8, zq_okE_9, zq_okE_10, zq_okE_11, zq_okE_12, zq_okE_13, zq_okE_14, zq_okE_15, zq_okE_16, zq_okE_17, zq_okE_18, zq_okE_19, zq_okE_20, zq_okE_21, Bool.and_eq_true] at h
  obtain ⟨hn, h3⟩ := h
  obtain ⟨h1, h2⟩ := nm_ok hn
  have h4 : ∀ o j, subscripted (toE k.c e (t.at 1)) false o j = operate [o, j] (getItem o j) := fun _ _ => noSlice_sub
  simp only [Cg.wpE, zq_wpE_0, zq_wpE_1, zq_wpE_2, zq_wpE_3, zq_wpE_4, zq_wpE_5, zq_wpE_6, zq_wpE_7, zq_wpE_8, zq_wpE_9, zq_wpE_10, zq_wpE_11, zq_wpE_12, zq_wpE_13, zq_wpE_14, zq_wpE_15, zq_wpE_16, zq_wpE_17, zq_wpE_18, zq_wpE_19, zq_wpE_20, zq_wpE_21] at hw
  split at hw
  · rename_i d hd
    obtain ⟨a, hv, hown⟩ := rd.vown i _ _ h1 h2 hd
    refine Subscript_ (rd_name rd hv (varOk_debug h2) ?_)
    refine wpAny_mono (he k ok _ h3 cs K s _ rd hw) (fun iv s₂ hp => ?_) fun _ _ x => x
    obtain ⟨d₂, K₂, hq, p₂, r₂⟩ := hp
    have rd₂ := rd.post p₂
    have hown₂ := hown.keeps p₂.le (keeps_get p₂.keeps)
    unfold subW at hq
    split at hq
    · cases r₂
      obtain ⟨vs, n, hg, hr⟩ := hown₂
      exact item_ok ok rd₂ p₂ (.inl ⟨rfl, ⟨_, hg, rfl, _, rfl⟩⟩) hr h4 hq fun c hc => ⟨rfl, hc⟩
    · exact hown₂.elim
    · cases r₂
      obtain ⟨ha, o, ho, q, _⟩ := hown₂
      exact dict_item p₂ ho q h4 hq
    · exact hq.elim
  · exact hw.elim

theorem pick_all {items : List Value} {lo hi : Option Int} {a b : Nat} (ha : lo = some (a : Int) ∨ (lo = none ∧ a = 0)) (hb : hi = some (b : Int) ∨ (hi = none ∧ b = items.length)) :
    slicePick items.toArray lo hi none = ((items.drop a).take (b - a)).toArray := by
  have e : sliceBounds lo hi none items.toArray.size = (((min a items.length : Nat) : Int), ((min b items.length : Nat) : Int), 1) := by
    simp only [sliceBounds, Option.getD_none, List.size_toArray, show (1 : Int) > 0 by decide, if_true]
    congr 1
    · rcases ha with rfl | ⟨rfl, rfl⟩
      · simp only; rw [if_neg (by (first | lia | omega))]; (first | lia | omega)
      · simp
    · congr 1
      rcases hb with rfl | ⟨rfl, rfl⟩
      · simp only; rw [if_neg (by (first | lia | omega))]; (first | lia | omega)
      · simp
  unfold slicePick
  rw [e]
  simp only [sliceRange_one, pick_run]
  congr 1
  apply List.ext_getElem?
  intro i
  simp only [List.getElem?_take, List.getElem?_drop]
  by_cases h1 : i < b - a
  · rw [if_pos h1]
    by_cases h2 : i < min b items.length - min a items.length
    · rw [if_pos h2, show min a items.length = a by (first | lia | omega)]
    · rw [if_neg h2, List.getElem?_eq_none (by (first | lia | omega))]
  · rw [if_neg h1]
    by_cases h2 : i < min b items.length - min a items.length
    · exfalso; (first | lia | omega)
    · rw [if_neg h2]

theorem ok_slice {e lo hi : E} (he : EOk e) (hlo : EOk lo) (hhi : EOk hi) : EOk (.slice e lo hi) := by
  intro k ok t h cs K s Q rd hw
  simp only [zq_okE_0, zq_okE_1, zq_okE_2, zq_okE_3, zq_okE_4, zq_okE_5, zq_okE_6, zq_okE_7, zq_okE_8, zq_okE_9, zq_okE_10, zq_okE_11, zq_okE_12, zq_okE_13, zq_okE_14, zq_okE_15, zq_okE_16, zq_okE_17, zq_okE_18, zq_okE_19, zq_okE_20, zq_okE_21, Bool.and_eq_true] at h
  obtain ⟨⟨h1, h2⟩, h3⟩ := h
  simp only [Cg.wpE, zq_wpE_0, zq_wpE_1, zq_wpE_2, zq_wpE_3, zq_wpE_4, zq_wpE_5, zq_wpE_6, zq_wpE_7, zq_wpE_8, zq_wpE_9, zq_wpE_10, zq_wpE_11, zq_wpE_12, zq_wpE_13, zq_wpE_14, zq_wpE_15, zq_wpE_16, zq_wpE_17, zq_wpE_18, zq_wpE_19, zq_wpE_20, zq_wpE_21] at hw
  have part : ∀ (x : E), EOk x → ∀ t, okE k.c x t = true → ∀ K s Q, Rd k K cs s → k.wpE x cs Q → wpAny k.M k.A (evalPart (optE x.isNone (toE k.c x t)) k.env) (PostE s K Q) k.E s := by
    intro x hx t hpx K s Q rd hw
    cases hn : x.isNone with
    | true =>
      cases x <;> simp only [E.isNone, Bool.false_eq_true] at hn
      simp only [Cg.wpE, zq_wpE_0, zq_wpE_1, zq_wpE_2, zq_wpE_3, zq_wpE_4, zq_wpE_5, zq_wpE_6, zq_wpE_7, zq_wpE_8, zq_wpE_9, zq_wpE_10, zq_wpE_11, zq_wpE_12, zq_wpE_13, zq_wpE_14, zq_wpE_15, zq_wpE_16, zq_wpE_17, zq_wpE_18, zq_wpE_19, zq_wpE_20, zq_wpE_21] at hw
      show wpAny _ _ (evalPart none _) _ _ _
      rw [evalPart_none]
      exact wpAny_pure ⟨_, _, hw, rd.refl, .none⟩
    | false =>
      show wpAny _ _ (evalPart (some (toE k.c x t)) _) _ _ _
      rw [evalPart_some]; exact hx k ok t hpx cs K s Q rd hw
  refine Subscript_ (wpAny_mono (he k ok _ h1 cs K s _ rd hw) (fun o s₁ hp => ?_) fun _ _ x => x)
  obtain ⟨d₁, K₁, hq, p₁, r₁⟩ := hp
  refine wpAny_Slice (wpAny_mono (part lo hlo _ h2 K₁ s₁ _ (rd.post p₁) hq) (fun vl s₂ hp => ?_) fun _ _ x => x)
  obtain ⟨d₂, K₂, hq, p₂, r₂⟩ := hp
  refine wpAny_mono (part hi hhi _ h3 K₂ s₂ _ ((rd.post p₁).post p₂) hq) (fun vu s₃ hp => ?_) fun _ _ x => x
  obtain ⟨d₃, K₃, hq, p₃, r₃⟩ := hp
  rw [evalPart_none]
  refine wpAny_pure ?_
  have r₁' := (r₁.mono p₂.le).mono p₃.le
  have r₂' := r₂.mono p₃.le
  have pp := (p₁.trans p₂).trans p₃
  unfold sliceW at hq
  split at hq
  · rename_i ds
    · obtain ⟨a, b, ea, eb, hq⟩ := hq
      cases r₁' with
      | lst e q =>
        rename_i l vs n
        have hl := q.length
        have hpl : ∃ lo', IsPart vl lo' ∧ (lo' = some (a : Int) ∨ (lo' = none ∧ a = 0)) := by
          cases r₂' with
          | none => exact ⟨_, .none, .inr ⟨rfl, ea⟩⟩
          | int i t =>
            obtain ⟨hc, ea⟩ := ea
            exact ⟨_, .int i t, .inl (by rw [ea]; congr 1; (first | lia | omega))⟩
          | _ => exact ea.elim
        have hpu : ∃ hi', IsPart vu hi' ∧ (hi' = some (b : Int) ∨ (hi' = none ∧ b = vs.length)) := by
          cases r₃ with
          | none => exact ⟨_, .none, .inr ⟨rfl, by simp only [HiIs] at eb; (first | lia | omega)⟩⟩
          | int i t =>
            obtain ⟨hc, eb⟩ := eb
            exact ⟨_, .int i t, .inl (by rw [eb]; congr 1; (first | lia | omega))⟩
          | _ => exact eb.elim
        obtain ⟨lo', pl, hlo'⟩ := hpl
        obtain ⟨hi', pu, hhi'⟩ := hpu
        have hL := (listIs pp.kin e).push { cls := .type "slice", data := .fields #[vl, vu, .none] }
        refine tail_any (ops := [.ref s₃.heap.objs.size, .ref l]) (Heap.IsList.typeIs (s := { s₃ with heap := s₃.heap.push { cls := .type "slice", data := .fields #[vl, vu, .none] } }) hL) list_getitem_lookup
          (wpAny_getItem_list_slice hL (Heap.IsSliceOf.new ..) pl pu .none (by simp) ?_ (by simp [sizeLine]; (first | lia | omega))) rfl
        rw [pick_all hlo' hhi']
        have pp1 := Post.keep (s' := { s₃ with heap := s₃.heap.push { cls := .type "slice", data := .fields #[vl, vu, .none] } }) pp.kin ⟨_, _, rfl, fun b o e => Heap.get?_push_of_some _ e⟩
        have pp2 := Post.push pp1.kin (listObj ((vs.drop a).take (b - a)) 0)
        exact ⟨_, _, hq.2, pp.trans (pp1.trans pp2), VR.lst (KM.add_self _ _ _) (((q.drop' a).take' (b - a)).mono pp2.le)⟩
  · exact hq.elim

theorem ok_list {es : Es} (he : EsOk es) : EOk (.list es) := by
  intro k ok t h cs K s Q rd hw
  simp only [Cg.wpE, zq_wpE_0, zq_wpE_1, zq_wpE_2, zq_wpE_3, zq_wpE_4, zq_wpE_5, zq_wpE_6, zq_wpE_7, zq_wpE_8, zq_wpE_9, zq_wpE_10, zq_wpE_11, zq_wpE_12, zq_wpE_13, zq_wpE_14, zq_wpE_15, zq_wpE_16, zq_wpE_17, zq_wpE_18, zq_wpE_19, zq_wpE_20, zq_wpE_21] at hw
  refine List_ (wpAny_mono (he k ok _ t.pos h cs K s _ rd hw) (fun vs s₁ hp => ?_) fun _ _ x => x)
  obtain ⟨ds, K₁, hq, p₁, r₁⟩ := hp
  have hl := r₁.length
  refine wpAny_newObj_type ?_ (by show vs.toArray.size ≤ sizeLine; rw [List.size_toArray]; unfold sizeLine; (first | lia | omega))
  exact ⟨_, _, hq.2, p₁.trans (Post.push p₁.kin (listObj vs 0)), .lst (KM.add_self _ _ _) (r₁.mono (Post.push p₁.kin _).le)⟩

theorem ok_tup {es : Es} (he : EsOk es) : EOk (.tup es) := by
  intro k ok t h cs K s Q rd hw
  simp only [Cg.wpE, zq_wpE_0, zq_wpE_1, zq_wpE_2, zq_wpE_3, zq_wpE_4, zq_wpE_5, zq_wpE_6, zq_wpE_7, zq_wpE_8, zq_wpE_9, zq_wpE_10, zq_wpE_11, zq_wpE_12, zq_wpE_13, zq_wpE_14, zq_wpE_15, zq_wpE_16, zq_wpE_17, zq_wpE_18, zq_wpE_19, zq_wpE_20, zq_wpE_21] at hw
  refine Tuple_ (wpAny_mono (he k ok _ t.pos h cs K s _ rd hw) (fun vs s₁ hp => ?_) fun _ _ x => x)
  obtain ⟨ds, K₁, hq, p₁, r₁⟩ := hp
  have hl := r₁.length
  refine wpAny_newObj_type ?_ (by show vs.toArray.size ≤ sizeLine; rw [List.size_toArray]; unfold sizeLine; (first | lia | omega))
  exact ⟨_, _, hq.2, p₁.trans (Post.push p₁.kin (tupObj vs 0)), .tup (KM.add_self _ _ _) ⟨rfl, rfl⟩ (r₁.mono (Post.push p₁.kin _).le)⟩

theorem ok_count {e x : E} (he : EOk e) (hx : EOk x) : EOk (.count e x) := by
  intro k ok t h cs K s Q rd hw
  simp only [zq_okE_0, zq_okE_1, zq_okE_2, zq_okE_3, zq_okE_4, zq_okE_5, zq_okE_6, zq_okE_7, zq_okE_8, zq_okE_9, zq_okE_10, zq_okE_11, zq_okE_12, zq_okE_13, zq_okE_14, zq_okE_15, zq_okE_16, zq_okE_17, zq_okE_18, zq_okE_19, zq_okE_20, zq_okE_21, Bool.and_eq_true, beq_iff_eq] at h
  obtain ⟨⟨⟨h0, h1⟩, h2⟩, h4⟩ := h
  simp only [Cg.wpE, zq_wpE_0, zq_wpE_1, zq_wpE_2, zq_wpE_3, zq_wpE_4, zq_wpE_5, zq_wpE_6, zq_wpE_7, zq_wpE_8, zq_wpE_9, zq_wpE_10, zq_wpE_11, zq_wpE_12, zq_wpE_13, zq_wpE_14, zq_wpE_15, zq_wpE_16, zq_wpE_17, zq_wpE_18, zq_wpE_19, zq_wpE_20, zq_wpE_21] at hw
  obtain ⟨y, yp, hy⟩ : ∃ y yp, toE k.c e (t.at 0) = .Name y yp := by cases e <;> first | exact ⟨_, _, rfl⟩ | simp [E.isVar] at h0
  have hE := he k ok (t.at 0) h1 cs K s _ rd hw
  show wpAny _ _ (eval (.Call (.Attribute (toE k.c e (t.at 0)) ("count" : Str) t.pos2) [toE k.c x (t.at 1)] [] t.pos) _) _ _ _
  rw [hy] at hE ⊢
  refine Call_method1 rfl (star_cons (star_toE _ _ _)) (by simpa using h4) (wpAny_mono hE (fun o s₁ hp => ?_) fun _ _ z => z)
  obtain ⟨d₁, K₁, hq, p₁, r₁⟩ := hp
  cases r₁ with
  | lst e q =>
    rename_i l ds vs n
    refine ⟨"list", "list.count", PySem.F.plainAttrs_list, PySem.F.slot_list_count, by kernel_rfl, (listIs p₁.kin e).typeIs, (fun a ea => by cases ea; exact ⟨_, p₁.kin _ _ e, rfl⟩), ?_⟩
    refine callWith_builtin rfl (evalArgs_plain (spliced_cons (wpAny_mono (hx k ok _ h2 cs K₁ s₁ _ (rd.post p₁) hq) (fun iv s₂ hp => ?_) fun _ _ z => z)))
    obtain ⟨d₂, K₂, hq, p₂, r₂⟩ := hp
    refine spliced_nil ?_
    cases r₂ with
    | int i t =>
      simp only at hq
      split at hq
      · rename_i ns hn
        exact count_list_ints (listIs p₂.kin (p₂.le _ _ e)) (ints_are (q.mono p₂.le) hn) (PostE.int (p₁.trans p₂) hq)
      · exact hq.elim
    | _ => exact hq.elim
  | _ => exact hq.elim

/-! tests -/
theorem ok_tcmp {op : CmpOp} {l r : E} (hl : EOk l) (hr : EOk r) : TOk (.cmp op l r) := by
  intro k ok t h cs K s Q rd hw
  simp only [zq_okT_0, zq_okT_1, zq_okT_2, zq_okT_3, zq_okT_4, zq_okT_5, Bool.and_eq_true, Bool.not_eq_true'] at h
  obtain ⟨⟨h1, h2⟩, h3⟩ := h
  refine wpAny_isTrue_Compare1 (wpAny_mono (hl k ok _ h1 cs K s _ rd hw) (fun a s₁ hp => ?_) fun _ _ x => x) h3
  obtain ⟨d₁, K₁, hq, p₁, r₁⟩ := hp
  refine wpAny_mono (hr k ok _ h2 cs K₁ s₁ _ (rd.post p₁) hq) (fun b s₂ hp => ?_) fun _ _ x => x
  obtain ⟨d₂, K₂, hq, p₂, r₂⟩ := hp
  exact cmp_ok ok (p₁.trans p₂) (r₁.mono p₂.le) r₂ hq (fun c tk hc => wpAny_truthy_bool ⟨hc, _, (p₁.trans p₂).trans (Post.keep p₂.kin (keeps_toks tk))⟩)

theorem ok_tnot {t : T} (ht : TOk t) : TOk (.not t) := by
  intro k ok t h cs K s Q rd hw
  simp only [Cg.wpT, zq_wpT_0, zq_wpT_1, zq_wpT_2, zq_wpT_3, zq_wpT_4, zq_wpT_5] at hw
  exact wpAny_isTrue_Not (wpAny_mono (ht k ok _ h cs K s _ rd hw) (fun b s₁ hp => hp) fun _ _ x => x)

theorem ok_tval {e : E} (he : EOk e) : TOk (.val e) := by
  intro k ok t h cs K s Q rd hw
  simp only [zq_okT_0, zq_okT_1, zq_okT_2, zq_okT_3, zq_okT_4, zq_okT_5, Bool.and_eq_true] at h
  simp only [Cg.wpT, zq_wpT_0, zq_wpT_1, zq_wpT_2, zq_wpT_3, zq_wpT_4, zq_wpT_5] at hw
  have fin : wpAny k.M k.A (do let v ← eval (toE k.c e t) k.env; standAt (toE k.c e t).pos; holding [v] (truthy v)) (fun b s' => Q b ∧ ∃ K', Post s K s' K') k.E s := by
    refine wpAny_bind (wpAny_mono (he k ok _ h.2 cs K s _ rd hw) (fun v s₁ hp => wpAny_bind (wpAny_standAt (wpAny_holding ?_))) fun _ _ x => x)
    obtain ⟨d, K₁, hq, p₁, r₁⟩ := hp
    cases r₁ with
    | bool b => exact wpAny_truthy_bool ⟨hq, _, p₁⟩
    | _ => exact hq.elim
  have e : isTrue (toE k.c e t) k.env (eval (toE k.c e t) k.env) = (do let v ← eval (toE k.c e t) k.env; standAt (toE k.c e t).pos; holding [v] (truthy v)) := by
    have h1 := h.1
    cases e <;> first | rfl | (simp [E.plain] at h1)
  show wpAny _ _ (isTrue (toE k.c _ t) _ (eval (toE k.c _ t) _)) _ _ _
  rw [e]; exact fin

noncomputable def TsOk (ts : Ts) : Prop := (∀ (k : Cg), k.Ok → ∀ tr, okTs k.c ts tr = true → ∀ cs K s Q, Rd k K cs s → wpAll k.X (fnAt k.g k.n k.top) k.ρ ts cs Q → wpAny k.M k.A (allTrue .And (toTs k.c ts tr) k.env) (fun b s' => Q b ∧ ∃ K', Post s K s' K') k.E s) ∧
  (∀ (k : Cg), k.Ok → ∀ tr, okTs k.c ts tr = true → ∀ cs K s Q, Rd k K cs s → wpAnyT k.X (fnAt k.g k.n k.top) k.ρ ts cs Q → wpAny k.M k.A (allTrue .Or (toTs k.c ts tr) k.env) (fun b s' => Q b ∧ ∃ K', Post s K s' K') k.E s)

theorem ok_tsnil : TsOk .nil := by
  constructor
  · intro k ok ps h cs K s Q rd hw
    simp only [zq_wpAll_0, zq_wpAll_1] at hw
    exact wpAny_pure ⟨hw, _, rd.refl⟩
  · intro k ok ps h cs K s Q rd hw
    simp only [zq_wpAnyT_0, zq_wpAnyT_1] at hw
    exact wpAny_pure ⟨hw, _, rd.refl⟩

theorem ok_tscons {t : T} {ts : Ts} (ht : TOk t) (hts : TsOk ts) : TsOk (.cons t ts) := by
  constructor
  · intro k ok ps h cs K s Q rd hw
    simp only [zq_okTs_0, zq_okTs_1, Bool.and_eq_true] at h
    simp only [zq_wpAll_0, zq_wpAll_1] at hw
    show wpAny k.M k.A (do match BoolOp.And, ← isTrue (toT k.c t (hd ps)) k.env (eval (toT k.c t (hd ps)) k.env) with | .And, false => pure false | .Or, true => pure true | _, _ => allTrue .And (toTs k.c ts ps.tail) k.env) _ _ s
    refine wpAny_bind (wpAny_mono (ht k ok _ h.1 cs K s _ rd hw) (fun b s₁ hp => ?_) fun _ _ x => x)
    obtain ⟨hq, K₁, p₁⟩ := hp
    cases b with
    | false => rw [if_neg (by simp)] at hq; exact wpAny_pure ⟨hq, _, p₁⟩
    | true =>
      rw [if_pos rfl] at hq
      exact wpAny_mono (hts.1 k ok _ h.2 cs K₁ s₁ _ (rd.post p₁) hq) (fun b s₂ hp => ⟨hp.1, let ⟨K₂, p₂⟩ := hp.2; ⟨K₂, p₁.trans p₂⟩⟩) fun _ _ x => x
  · intro k ok ps h cs K s Q rd hw
    simp only [zq_okTs_0, zq_okTs_1, Bool.and_eq_true] at h
    simp only [zq_wpAnyT_0, zq_wpAnyT_1] at hw
    show wpAny k.M k.A (do match BoolOp.Or, ← isTrue (toT k.c t (hd ps)) k.env (eval (toT k.c t (hd ps)) k.env) with | .And, false => pure false | .Or, true => pure true | _, _ => allTrue .Or (toTs k.c ts ps.tail) k.env) _ _ s
    refine wpAny_bind (wpAny_mono (ht k ok _ h.1 cs K s _ rd hw) (fun b s₁ hp => ?_) fun _ _ x => x)
    obtain ⟨hq, K₁, p₁⟩ := hp
    cases b with
    | true => rw [if_pos rfl] at hq; exact wpAny_pure ⟨hq, _, p₁⟩
    | false =>
      rw [if_neg (by simp)] at hq
      exact wpAny_mono (hts.2 k ok _ h.2 cs K₁ s₁ _ (rd.post p₁) hq) (fun b s₂ hp => ⟨hp.1, let ⟨K₂, p₂⟩ := hp.2; ⟨K₂, p₁.trans p₂⟩⟩) fun _ _ x => x

theorem ok_tand {ts : Ts} (h : TsOk ts) : TOk (.and ts) := by
  intro k ok t hc cs K s Q rd hw
  exact h.1 k ok _ hc cs K s Q rd hw
theorem ok_tor {ts : Ts} (h : TsOk ts) : TOk (.or ts) := by
  intro k ok t hc cs K s Q rd hw
  exact h.2 k ok _ hc cs K s Q rd hw
theorem ok_ttt : TOk .tt := by
  intro k ok t hc cs K s Q rd hw
  simp [zq_okT_0, zq_okT_1, zq_okT_2, zq_okT_3, zq_okT_4, zq_okT_5] at hc

end Mine

namespace Mine
open PySem PySem.Calls PyProof.Rows

/-! iterators -/
noncomputable def IterObj (o : Obj) : Prop := o.cls = .type "list_iterator" ∨ o.cls = .type "range_iterator"
theorem IterObj.noData {o : Obj} (h : IterObj o) : NoData o := by
  rcases h with h | h <;> rw [NoData, h] <;> decide

theorem letOwned {M : Model} {A : Around} {E : Value → Shared → Prop} {s : Shared} {target : Expr} {I : Addr} {v : Value} {o : Obj} {Q : Unit → Shared → Prop} (ho : s.heap.get? I = some o) (hi : IterObj o) (h : Q () s) :
    wpAny M A (letOwnedTupleGo target (.ref I) v) Q E s := by
  have key : wpAny M A (do
      let (.ref r, .ref a) := (Value.ref I, v) | return
      let o ← load r
      match o.cls, o.data with
      | .type n, .fields vs =>
        if ["enumerate", "zip", "dict_itemiterator", "dict_reverseitemiterator", "odict_iterator", "itertools.zip_longest", "itertools.pairwise"].contains n && vs[0]? == some (rawInt a) then
          rule "for.unpacks-the-owned-tuple"
          updateField r 0 .none
      | _, _ => pure ()) Q E s := by
    cases v with
    | ref a =>
      refine wpAny_bind (wpAny_load ho ?_)
      rcases hi with hi | hi
      · rw [hi]
        cases hd : o.data with
        | fields vs =>
          show wpAny _ _ (if (["enumerate", "zip", "dict_itemiterator", "dict_reverseitemiterator", "odict_iterator", "itertools.zip_longest", "itertools.pairwise"].contains "list_iterator" && vs[0]? == some (rawInt a)) = true then _ else _) _ _ _
          rw [show (["enumerate", "zip", "dict_itemiterator", "dict_reverseitemiterator", "odict_iterator", "itertools.zip_longest", "itertools.pairwise"].contains "list_iterator") = false from by decide, Bool.false_and, if_neg (by simp)]
          exact wpAny_pure h
        | _ => exact wpAny_pure h
      · rw [hi]
        cases hd : o.data with
        | fields vs =>
          show wpAny _ _ (if (["enumerate", "zip", "dict_itemiterator", "dict_reverseitemiterator", "odict_iterator", "itertools.zip_longest", "itertools.pairwise"].contains "range_iterator" && vs[0]? == some (rawInt a)) = true then _ else _) _ _ _
          rw [show (["enumerate", "zip", "dict_itemiterator", "dict_reverseitemiterator", "odict_iterator", "itertools.zip_longest", "itertools.pairwise"].contains "range_iterator") = false from by decide, Bool.false_and, if_neg (by simp)]
          exact wpAny_pure h
        | _ => exact wpAny_pure h
    | _ => exact wpAny_pure h
  unfold letOwnedTupleGo
  cases target <;> first | exact key | exact wpAny_pure h

noncomputable def WalkOf (k : Cg) (K : KM) (ds : List D) (I : Addr) (s₂ : Shared) : Prop :=
  ∃ fp P St, Walks k.g.prog k.g.w k.A I fp [I] ds.length P St ∧ St 0 s₂.heap ∧ (∀ b ∈ fp, b = I ∨ ∃ o, K b = some o) ∧ (∀ i h, St i h → ∃ o, h.get? I = some o ∧ IterObj o) ∧
    (∀ i v d, P i v → ds[i]? = some d → VR K d v) ∧ K I = none

noncomputable def PostI (k : Cg) (s : Shared) (K : KM) (Q : List D → Prop) (xv : Value) (s₁ : Shared) : Prop :=
  wpAny k.M k.A (pyIter xv) (fun it s₂ => ∃ I K' ds, it = .ref I ∧ Q ds ∧ Post s K s₂ K' ∧ WalkOf k K' ds I s₂ ∧ s.heap.get? I = none) k.E s₁

noncomputable def IOk (e : E) : Prop := ∀ (k : Cg), k.Ok → ∀ t, okE k.c e t = true → ∀ cs K s Q, Rd k K cs s → k.wpI e cs Q → wpAny k.M k.A (eval (toE k.c e t) k.env) (PostI k s K Q) k.E s

theorem rangeL_length : ∀ (n : Nat) (a c : Int), (rangeL a c n).length = n
  | 0, _, _ => rfl
  | n + 1, a, c => by simp [rangeL, rangeL_length n]
theorem rangeL_get : ∀ (n : Nat) (a c : Int) (i : Nat), i < n → (rangeL a c n)[i]? = some (a + i * c)
  | 0, _, _, _, h => absurd h (Nat.not_lt_zero _)
  | n + 1, a, c, 0, _ => by simp [rangeL]
  | n + 1, a, c, i + 1, h => by
    have := rangeL_get n (a + c) c i (by (first | lia | omega))
    simp only [rangeL, List.getElem?_cons_succ, this, Option.some.injEq]
    push_cast
    rw [Int.add_mul, Int.one_mul]; (first | lia | omega)

theorem none_of_new {K : KM} {s : Shared} {a : Addr} (hk : KIn K s.heap) (h : s.heap.get? a = none) : K a = none := by
  cases e : K a with
  | none => rfl
  | some o => rw [hk _ _ e] at h; cases h

theorem iter_list {k : Cg} (ok : k.Ok) {s s₀ : Shared} {K K₀ : KM} {Q : List D → Prop} {ds : List D} {xv : Value} (p : Post s₀ K₀ s K) (r : VR K (.lst ds) xv) (hq : Q ds) : PostI k s₀ K₀ Q xv s := by
  cases r with
  | lst e q =>
    rename_i l vs n
    have hl := listIs p.kin e
    have hlt : l < s.heap.objs.size := Heap.lt_size (p.kin _ _ e)
    have hn : s₀.heap.get? s.heap.objs.size = none := by
      cases e2 : s₀.heap.get? s.heap.objs.size with
      | none => rfl
      | some o => have := keeps_get p.keeps _ _ e2; rw [fresh_size] at this; cases this
    refine wpAny_pyIter_list hl ⟨_, K, ds, rfl, hq, p.trans (Post.keep p.kin ⟨_, _, rfl, fun b o e => Heap.get?_push_of_some _ e⟩), ?_, hn⟩
    have hlen := q.length
    refine ⟨[s.heap.objs.size, l], fun i v => vs.toArray[i]? = some v, fun i h => h.IsListIter s.heap.objs.size l i ∧ h.IsList l vs.toArray, ?_, ⟨⟨_, Heap.get?_push_size _ rfl, rfl, rfl⟩, hl.push _⟩, ?_, ?_, ?_, none_of_new p.kin (fresh_size _)⟩
    · have W := Walks.list (prog := k.g.prog) (w := k.g.w) (A := k.A) ok.room.handled s.heap.objs.size l (Nat.ne_of_lt hlt) vs.toArray
      rw [show vs.toArray.size = ds.length by simp [hlen]] at W
      exact W
    · intro b hb
      rcases List.mem_cons.mp hb with rfl | hb
      · exact .inl rfl
      · rcases List.mem_cons.mp hb with rfl | hb
        · exact .inr ⟨_, e⟩
        · cases hb
    · rintro i h ⟨⟨o, ho, hc, hd⟩, _⟩
      exact ⟨o, ho, .inl hc⟩
    · intro i v d hv hd
      obtain ⟨v', hv', hr⟩ := q.get hd
      have : v = v' := by simpa [hv'] using hv.symm
      rw [this]; exact hr

theorem iter_range {k : Cg} (ok : k.Ok) {s s₀ : Shared} {K K₀ : KM} {Q : List D → Prop} {r : Addr} {a b c : Int} {t u v : Tok} {n : Nat} (p : Post s₀ K₀ s K) (hr : IsRange s.heap r a b c t u v) (hsm : Builtin.Range.small a b c = true)
    (hn : Builtin.Range.rangeSize a b c = (n : Int)) (hq : Q ((rangeL a c n).map .int)) : PostI k s₀ K₀ Q (.ref r) s := by
  have hnew : s₀.heap.get? s.heap.objs.size = none := by
    cases e2 : s₀.heap.get? s.heap.objs.size with
    | none => rfl
    | some o => have := keeps_get p.keeps _ _ e2; rw [fresh_size] at this; cases this
  refine wpAny_pyIter_range hr hsm ⟨_, K, _, rfl, hq, p.trans (Post.keep p.kin ⟨_, _, rfl, fun b o e => Heap.get?_push_of_some _ e⟩), ?_, hnew⟩
  refine ⟨[s.heap.objs.size], fun i v => ∃ t, v = .int (a + i * c) t, fun i h => IsRangeIter h s.heap.objs.size (a + (i : Nat) * c) ((n : Int) - (i : Nat)) c, ?_, ?_, ?_, ?_, ?_, none_of_new p.kin (fresh_size _)⟩
  · rw [List.length_map, rangeL_length]
    exact Walks.range ok.room.handled s.heap.objs.size a c n
  · show IsRangeIter _ _ _ _ _
    rw [hn, show a + ((0 : Nat) : Int) * c = a by simp, show (n : Int) - ((0 : Nat) : Int) = n by simp]
    exact Heap.get?_push_size _ rfl
  · intro b hb; exact .inl (by simpa using hb)
  · intro i h hi; exact ⟨_, hi, .inr rfl⟩
  · rintro i v d ⟨t, rfl⟩ hd
    rw [List.getElem?_map] at hd
    cases e : (rangeL a c n)[i]? with
    | none => rw [e] at hd; cases hd
    | some x =>
      rw [e] at hd
      have hi : i < n := by
        have := List.getElem?_eq_some_iff.mp e
        obtain ⟨h, _⟩ := this
        rw [rangeL_length] at h; exact h
      rw [rangeL_get n a c i hi] at e
      simp only [Option.some.injEq] at e
      subst e
      simp only [Option.map_some, Option.some.injEq] at hd
      subst hd
      exact .int _ _

theorem small_pos {a b c : Int} (hc : 0 < c) (hc' : c ≤ 1000) (ha : -(2 ^ 62) ≤ a) (ha' : a < 2 ^ 62) (hb : -(2 ^ 62) ≤ b) (hb' : b < 2 ^ 62) : Builtin.Range.small a b c = true := by
  have hsz : 0 ≤ Builtin.Range.rangeSize a b c ∧ Builtin.Range.rangeSize a b c ≤ 2 ^ 63 - 1 := by
    unfold Builtin.Range.rangeSize
    rw [if_pos hc]
    split
    · have h1 : 0 ≤ (b - a - 1) / c := Int.ediv_nonneg (by (first | lia | omega)) (by (first | lia | omega))
      have h2 : (b - a - 1) / c ≤ b - a - 1 := Int.ediv_le_self _ (by (first | lia | omega))
      (first | lia | omega)
    · (first | lia | omega)
  unfold Builtin.Range.small
  simp only [Builtin.Range.rangeFitsLong, Bool.and_eq_true, Bool.or_eq_true, decide_eq_true_eq, beq_iff_eq, hc, gt_iff_lt, if_true]
  (first | lia | omega)

theorem boot_range : bootBuiltins (Str.ofString "range") = some (.type "range") := by decide +kernel

theorem Post.pushK {s₀ s : Shared} {K₀ K : KM} (p : Post s₀ K₀ s K) (o : Obj) (tk : Nat) : Post s₀ K₀ { s with heap := s.heap.push o, toks := tk } K :=
  p.trans (Post.keep p.kin ⟨_, _, rfl, fun _ _ e => Heap.get?_push_of_some _ e⟩)

section ranges
variable {k : Cg} {s s₀ : Shared} {K K₀ : KM} {Q : List D → Prop}
theorem range_1 (ok : k.Ok) {b : Int} {t : Tok} (p : Post s₀ K₀ s K) (hs : small (2 * b)) (hq : Q ((rangeL 0 1 b.toNat).map .int)) : wpAny k.M k.A (call (.type "range") [.int b t]) (PostI k s₀ K₀ Q) k.E s := by
  unfold small at hs
  refine call_range_1 (iter_range ok (p.pushK _ _) (IsRange.new ..) (small_one (by (first | lia | omega)) (by (first | lia | omega)) (by (first | lia | omega)) (by (first | lia | omega))) (n := b.toNat) ?_ hq)
  rw [rangeSize_one]; split <;> (first | lia | omega)
theorem range_2 (ok : k.Ok) {a b : Int} {t u : Tok} (p : Post s₀ K₀ s K) (hs : small (2 * a)) (hs' : small (2 * b)) (hq : Q ((rangeL a 1 (b - a).toNat).map .int)) : wpAny k.M k.A (call (.type "range") [.int a t, .int b u]) (PostI k s₀ K₀ Q) k.E s := by
  unfold small at hs hs'
  refine call_range_2 (iter_range ok (p.pushK _ _) (IsRange.new ..) (small_one (by (first | lia | omega)) (by (first | lia | omega)) (by (first | lia | omega)) (by (first | lia | omega))) (n := (b - a).toNat) ?_ hq)
  rw [rangeSize_one]; split <;> (first | lia | omega)
theorem size_down (a b : Int) : Builtin.Range.rangeSize a b (-1) = if a > b then a - b else 0 := by
  unfold Builtin.Range.rangeSize
  simp only [show ¬ ((-1 : Int) > 0) by decide, if_false, show (-(-1) : Int) = 1 from rfl, Int.ediv_one]
  split <;> (first | lia | omega)
theorem small_dn {a b : Int} (ha : -(2 ^ 62) ≤ a) (ha' : a < 2 ^ 62) (hb : -(2 ^ 62) ≤ b) (hb' : b < 2 ^ 62) : Builtin.Range.small a b (-1) = true := by
  unfold Builtin.Range.small
  rw [size_down]
  simp only [Builtin.Range.rangeFitsLong, Bool.and_eq_true, Bool.or_eq_true, decide_eq_true_eq, beq_iff_eq, show ¬ ((-1 : Int) > 0) by decide, if_false]
  split <;> (first | lia | omega)
theorem range_3d (ok : k.Ok) {a b : Int} {t u v : Tok} (p : Post s₀ K₀ s K) (hs : small (2 * a)) (hs' : small (2 * b)) (hq : Q ((rangeL a (-1) (a - b).toNat).map .int)) : wpAny k.M k.A (call (.type "range") [.int a t, .int b u, .int (-1) v]) (PostI k s₀ K₀ Q) k.E s := by
  unfold small at hs hs'
  refine call_range_3 (by decide) (iter_range ok (p.pushK _ _) (IsRange.new ..) (small_dn (by (first | lia | omega)) (by (first | lia | omega)) (by (first | lia | omega)) (by (first | lia | omega))) (n := (a - b).toNat) ?_ hq) (.inl (PyProof.noPylong_small (by decide)))
  rw [size_down]; split <;> (first | lia | omega)
theorem range_3u (ok : k.Ok) {a b c : Int} {t u v : Tok} (p : Post s₀ K₀ s K) (hs : small (2 * a)) (hs' : small (2 * b)) (hc : 0 < c) (hc' : c ≤ 1000) (hq : Q ((rangeL a c (if a < b then ((b - a - 1) / c + 1).toNat else 0)).map .int)) :
    wpAny k.M k.A (call (.type "range") [.int a t, .int b u, .int c v]) (PostI k s₀ K₀ Q) k.E s := by
  unfold small at hs hs'
  refine call_range_3 (by (first | lia | omega)) (iter_range ok (p.pushK _ _) (IsRange.new ..) (small_pos hc hc' (by (first | lia | omega)) (by (first | lia | omega)) (by (first | lia | omega)) (by (first | lia | omega))) ?_ hq) (.inl (PyProof.noPylong_small (by (first | lia | omega))))
  unfold Builtin.Range.rangeSize
  rw [if_pos hc]
  by_cases hab : a < b
  · have h1 : 0 ≤ (b - a - 1) / c := Int.ediv_nonneg (by (first | lia | omega)) (by (first | lia | omega))
    rw [if_pos hab, if_pos hab]; (first | lia | omega)
  · rw [if_neg hab, if_neg hab]; rfl
theorem range_ok (ok : k.Ok) {ds : List D} {vs : List Value} (p : Post s₀ K₀ s K) (r : VRs K ds vs) (hq : rangeW ds Q) : wpAny k.M k.A (call (.type "range") vs) (PostI k s₀ K₀ Q) k.E s := by
  unfold rangeW at hq
  split at hq
  · cases r with
    | cons r₁ r₂ =>
      cases r₂; cases r₁
      exact range_1 ok p hq.1 hq.2
  · cases r with
    | cons r₁ r₂ =>
      cases r₂ with
      | cons r₂ r₃ =>
        cases r₃; cases r₂; cases r₁
        exact range_2 ok p hq.1 hq.2.1 hq.2.2
  · cases r with
    | cons r₁ r₂ =>
      cases r₂ with
      | cons r₂ r₃ =>
        cases r₃ with
        | cons r₃ r₄ =>
          cases r₄; cases r₃; cases r₂; cases r₁
          obtain ⟨hs, hs', hq⟩ := hq
          rcases hq with ⟨rfl, hq⟩ | ⟨hc, hc', hq⟩
          · exact range_3d ok p hs hs' hq
          · exact range_3u ok p hs hs' hc hc' hq
  · exact hq.elim
end ranges

theorem io_range {es : Es} (he : EsOk es) : IOk (.range es) := by
  intro k ok t h cs K s Q rd hw
  simp only [zq_okE_0, zq_okE_1, zq_okE_2, zq_okE_3, zq_okE_4, zq_okE_5, zq_okE_6, zq_okE_7, zq_okE_8, zq_okE_9, zq_okE_10, zq_okE_11, zq_okE_12, zq_okE_13, zq_okE_14, zq_okE_15, zq_okE_16, zq_okE_17, zq_okE_18, zq_okE_19, zq_okE_20, zq_okE_21, Bool.and_eq_true, Bool.not_eq_true'] at h
  obtain ⟨⟨h1, h3⟩, h4⟩ := h
  obtain ⟨p, r, hpr, hp0⟩ := args_ne (c := k.c) (ts := t.cs) h3
  simp only [Cg.wpI, zq_wpI_0, zq_wpI_1, zq_wpI_2, zq_wpI_3] at hw
  refine Call_ (rd_builtin rd h1 (by decide +kernel) boot_range (by decide +kernel) ?_)
  have hpl := backTo_plain k.c t.pos k.env es t.cs
  have fin : wpAny k.M k.A (spliced (backTo t.pos (starEach (toEs k.c es t.cs) k.env))) (fun vs s₁ => wpAny k.M k.A (call (.type "range") vs) (PostI k s K Q) k.E s₁) k.E s := by
    refine wpAny_mono (he k ok _ t.pos h4 cs K s _ rd hw) (fun vs s₁ hp => ?_) fun _ _ x => x
    obtain ⟨ds, K₁, hq, p₁, r₁⟩ := hp
    exact range_ok ok p₁ r₁ hq
  rw [hpr, star_cons hp0] at fin hpl ⊢
  exact PyProof.Rows.callWith_type hpl (evalArgs_plain fin)

theorem io_of {e : E} (he : EOk e) (hi : ∀ (k : Cg) cs Q, k.wpI e cs Q → k.wpE e cs (fun d => match d with | .lst ds => Q ds | _ => False)) : IOk e := by
  intro k ok t h cs K s Q rd hw
  refine wpAny_mono (he k ok t h cs K s _ rd (hi k cs Q hw)) (fun v s₁ hp => ?_) fun _ _ x => x
  obtain ⟨d, K₁, hq, p₁, r₁⟩ := hp
  split at hq
  · exact iter_list ok p₁ r₁ hq
  · exact hq.elim

theorem io_var (i : Nat) : IOk (.var i) := io_of (ok_var i) fun k cs Q h => h
theorem io_call {f : Str} {args : Es} (ha : EsOk args) : IOk (.call f args) := io_of (ok_call ha) fun k cs Q h => h
theorem io_slice {e lo hi : E} (he : EOk e) (hlo : EOk lo) (hhi : EOk hi) : IOk (.slice e lo hi) := io_of (ok_slice he hlo hhi) fun k cs Q h => h

/-! comprehensions -/
theorem lookup_relabel {env : Env} : ∀ {names : List (Str × NameKind)} {x : Str} {kd : NameKind}, names.lookup x = some kd → kd ≠ .free →
    (names.map fun (n, k) => if (k == NameKind.free && env.scope.kind == .function && env.kindOf n == some .cell) then (n, NameKind.cell) else (n, k)).lookup x = some kd
  | [], _, _, h, _ => by simp at h
  | (n, k) :: r, x, kd, h, hf => by
    have ih := @lookup_relabel env r x kd
    show List.lookup x ((if (k == NameKind.free && env.scope.kind == .function && env.kindOf n == some .cell) = true then (n, NameKind.cell) else (n, k)) :: _) = _
    cases hx : x == n with
    | true =>
      simp only [List.lookup_cons, hx] at h
      cases h
      rw [if_neg (by simp [hf])]
      simp [List.lookup_cons, hx]
    | false =>
      simp only [List.lookup_cons, hx] at h
      by_cases hc : (k == NameKind.free && env.scope.kind == .function && env.kindOf n == some .cell) = true
      · rw [if_pos hc]; simp only [List.lookup_cons, hx]; exact ih h hf
      · rw [if_neg hc]; simp only [List.lookup_cons, hx]; exact ih h hf
theorem lookup_relabel_free {env : Env} (hk : env.scope.kind = .function) : ∀ {names : List (Str × NameKind)} {x : Str}, names.lookup x = some .free → env.kindOf x = some .cell →
    (names.map fun (n, k) => if (k == NameKind.free && env.scope.kind == .function && env.kindOf n == some .cell) then (n, NameKind.cell) else (n, k)).lookup x = some .cell
  | [], _, h, _ => by simp at h
  | (n, k) :: r, x, h, hf => by
    have ih := @lookup_relabel_free env hk r x
    show List.lookup x ((if (k == NameKind.free && env.scope.kind == .function && env.kindOf n == some .cell) = true then (n, NameKind.cell) else (n, k)) :: _) = _
    cases hx : x == n with
    | true =>
      simp only [List.lookup_cons, hx] at h
      cases h
      have := eq_of_beq hx
      subst this
      rw [if_pos (by simp [hk, hf])]
      simp [List.lookup_cons]
    | false =>
      simp only [List.lookup_cons, hx] at h
      by_cases hc : (k == NameKind.free && env.scope.kind == .function && env.kindOf n == some .cell) = true
      · rw [if_pos hc]; simp only [List.lookup_cons, hx]; exact ih h hf
      · rw [if_neg hc]; simp only [List.lookup_cons, hx]; exact ih h hf

/-- the context within a comprehension -/
noncomputable def Cg.inner (k : Cg) (sc : Scope) (xs : List Str) (cl : List (Str × Addr)) (C : Addr) (E' : Value → Shared → Prop) : Cg :=
  { k with X := fun _ => False, E := E', inv := fun _ _ => True, c := { k.c with comp := some (sc, xs) }, env := compEnvC sc cl C k.env }

theorem inner_ok {k : Cg} (ok : k.Ok) {sc : Scope} {xs : List Str} {cl : List (Str × Addr)} {C : Addr} {E' : Value → Shared → Prop} : (k.inner sc xs cl C E').Ok :=
  ⟨ok.room, fun _ h => h.elim⟩

theorem mem_of_lookup' {β : Type} : ∀ {l : List (Str × β)} {x : Str} {b : β}, l.lookup x = some b → (x, b) ∈ l
  | [], _, _, h => by simp at h
  | (y, c) :: r, x, b, h => by
    rw [List.lookup_cons] at h
    cases hx : x == y with
    | true => rw [hx] at h; cases h; rw [eq_of_beq hx]; exact .head _
    | false => rw [hx] at h; exact .tail _ (mem_of_lookup' h)

theorem inner_var {k : Cg} {K : KM} {cs : List D} {s : Shared} (rd : Rd k K cs s) {sc : Scope} {cl : List (Str × Addr)} {C : Addr} {x : Str} {v : Value} (hcomp : k.c.comp = none)
    (hcl : ∀ y ∈ sc.names, y.2 = NameKind.free → cl.lookup y.1 = k.env.cells.lookup y.1) (h4 : sc.names.lookup x = some .free) (h5 : k.c.fs.names.lookup x = some .cell) (h : VarIs k.env s.heap x v) :
    VarIs (compEnvC sc cl C k.env) s.heap x v := by
  have hk : k.env.kindOf x = some .cell := by
    show k.env.scope.names.lookup x = _
    rw [rd.fsc hcomp]; exact h5
  rcases h with ⟨h, _⟩ | ⟨_, c, hc, hv⟩
  · rw [hk] at h; cases h
  · exact .inr ⟨.inl (lookup_relabel_free rd.ek h4 hk), c, (hcl (x, .free) (mem_of_lookup' h4) rfl).trans hc, hv⟩

theorem inner_rd {k : Cg} {K : KM} {cs : List D} {s : Shared} (rd : Rd k K cs s) {sc : Scope} {xs : List Str} {cl : List (Str × Addr)} {C : Addr} {E' : Value → Shared → Prop} {ds : List D} {m : Str → Option Value} (hcomp : k.c.comp = none)
    (hsc : compScopeOk k.c.fs sc xs = true) (hcl : ∀ y ∈ sc.names, y.2 = NameKind.free → cl.lookup y.1 = k.env.cells.lookup y.1)
    (hn : s.heap.Ns C m) (hm : ∀ (i : Nat) x d, xs[i]? = some x → ds[i]? = some d → ∃ v, m x = some v ∧ VR K d v) : Rd (k.inner sc xs cl C E') K ds s := by
  simp only [compScopeOk, Bool.and_eq_true, beq_iff_eq] at hsc
  obtain ⟨⟨hkind, hall⟩, hxs⟩ := hsc
  have hkd : ∀ x kd, sc.names.lookup x = some kd → kd ≠ .free → (compEnvC sc cl C k.env).kindOf x = some kd := fun x kd h1 h2 => lookup_relabel h1 h2
  refine ⟨rd.gok, rd.gl, rd.kin, rd.eg, rd.eb, hkind, ?_, ?_, ?_, ?_, ?_, ?_, rd.tn, rd.fn, rd.below, trivial, fun _ _ _ _ _ _ => trivial⟩
  · intro x hx
    simp only [Cg.inner, Cx.globOk, Cx.cur, Bool.and_eq_true, beq_iff_eq] at hx
    exact hkd x _ hx.1 (by decide)
  · intro i x d h1 h2 h3
    simp only [Cg.inner, Cx.varOk, Bool.and_eq_true, beq_iff_eq, Bool.not_eq_true'] at h1 h2 h3
    obtain ⟨⟨h4, h5⟩, h6⟩ := h2
    have hv : k.c.varOk x = true := by simp [Cx.varOk, hcomp, h5, h6]
    obtain ⟨v, hvi, hr⟩ := rd.var i x d h1 hv h3
    exact ⟨v, inner_var rd hcomp hcl h4 h5 hvi, hr⟩
  · intro i x d h1 h2 h3
    simp only [Cg.inner, Cx.varOk, Bool.and_eq_true, beq_iff_eq, Bool.not_eq_true'] at h1 h2 h3
    obtain ⟨⟨h4, h5⟩, h6⟩ := h2
    have hv : k.c.varOk x = true := by simp [Cx.varOk, hcomp, h5, h6]
    obtain ⟨v, hvi, hr⟩ := rd.vown i x d h1 hv h3
    exact ⟨v, inner_var rd hcomp hcl h4 h5 hvi, hr⟩
  · intro i x d h1 h2
    obtain ⟨v, h3, h4⟩ := hm i x d h1 h2
    have hx := List.all_eq_true.mp hxs x (List.mem_of_getElem? h1)
    simp only [Bool.and_eq_true, beq_iff_eq] at hx
    exact ⟨v, .inl ⟨hkd x _ hx.1 (by decide), m, hn, h3⟩, h4⟩
  · intro sc' h; cases h
  · intro h; cases h

section loop
variable {prog : Program} {w : World} {A : Around} {R : Result → Shared → Prop} {s : Shared}
theorem compLoop_any {elt target iter : Expr} {ifs : List Expr} {scope : Scope} {pos : Pos} {it acc : Value} {env : Env} (I : Nat → Shared → Prop)
    (turn : ∀ n s, I n s → wpAny (model prog w) A (pyNext it) (fun r s₁ => match r with
      | none => R (.ok .next) s₁
      | some v => wpAny (model prog w) A (letOwnedTupleGo target it v) (fun _ s₁' => wpAny (model prog w) A (assign target env v) (fun _ s₂ =>
          wpAny (model prog w) A (forIn ifs true fun c r => if r = true then do let ok ← isTrue c env (eval c env); pure (ForInStep.yield ok) else pure (ForInStep.yield r)) (fun ok s₃ =>
            if ok = true then wpAny (model prog w) A (eval elt env) (fun x s₄ =>
              wpAny (model prog w) A (call (.builtin "list.append") [acc, x]) (fun _ s₅ => ∃ m, m < n ∧ I m s₅) (notedBy (model prog w) A env fun e s' => R (.error e) s') s₄) (notedBy (model prog w) A env fun e s' => R (.error e) s') s₃
            else ∃ m, m < n ∧ I m s₃) (notedBy (model prog w) A env fun e s' => R (.error e) s') s₂) (notedBy (model prog w) A env fun e s' => R (.error e) s') s₁') (notedBy (model prog w) A env fun e s' => R (.error e) s') s₁) (notedBy (model prog w) A env fun e s' => R (.error e) s') s)
    (n : Nat) (h : I n s) :
    codeAny (model prog w) A (.compLoop (.ListComp elt [⟨target, iter, ifs, 0⟩] scope pos) 0 it acc env) R s := by
  refine codeAny_loop rfl I (fun n s hI => ?_) n h
  show wpAny _ A ((compTurn (.ListComp elt [⟨target, iter, ifs, 0⟩] scope pos) 0 it acc env).onRaise (fun x => do noteFrame x env; theTreesLotGoes x)) _ _ s
  refine wpAny_noted ?_
  rw [compTurn_list]
  refine wpAny_bind (wpAny_standAt (wpAny_bind (wpAny_mono (turn n s hI) (fun r s₁ h₁ => ?_) fun _ _ h' => h')))
  cases r with
  | none => exact wpAny_pure h₁
  | some v =>
    refine wpAny_bind (wpAny_mono h₁ (fun _ s₁' h₁' => ?_) fun _ _ h' => h')
    refine wpAny_bind (wpAny_mono h₁' (fun _ s₂ h₂ => wpAny_bind (wpAny_mono h₂ (fun ok s₃ h₃ => ?_) fun _ _ h' => h')) fun _ _ h' => h')
    cases ok with
    | false => exact wpAny_pure ⟨rfl, h₃⟩
    | true =>
      exact wpAny_bind (wpAny_bind (wpAny_mono h₃ (fun x s₄ h₄ => wpAny_bind (wpAny_mono h₄ (fun _ s₅ h₅ => wpAny_pure (wpAny_pure ⟨rfl, h₅⟩)) fun _ _ h' => h')) fun _ _ h' => h'))
end loop

end Mine

namespace Mine
open PySem PySem.Calls PyProof.Rows

theorem ext_get {h h' : Heap} (he : Heap.ExtBut h.objs.size h h') : ∀ b o, h.get? b = some o → h'.get? b = some o :=
  fun b o e => he b o (Nat.ne_of_lt (Heap.lt_size e)) e

/-- the comprehension's names are bound -/
theorem bind_comp {prog : Program} {w : World} {A : Around} {E : Value → Shared → Prop} {s : Shared} {cenv : Env} {m : Str → Option Value} {K : KM} {xs : List Str} {t : PT} {d : D} {v : Value} {ds : List D} {Q : Unit → Shared → Prop}
    (hh : A.handled = none) (hk : cenv.scope.kind = .function) (hx : ∀ x ∈ xs, cenv.kindOf x = some .local) (ht : tgtOk xs = true) (hb : bindC xs d = some ds) (hkin : KIn K s.heap) (hr : VR K d v) (hn : s.heap.Ns cenv.locals m)
    (h : ∀ h' tk m', h'.Ns cenv.locals m' → (∀ (i : Nat) x d', xs[i]? = some x → ds[i]? = some d' → ∃ v', m' x = some v' ∧ VR K d' v') → (∀ b o, b ≠ cenv.locals → s.heap.get? b = some o → h'.get? b = some o) → Q () { s with heap := h', toks := tk }) :
    wpAny (model prog w) A (assign (toTarget xs t) cenv v) Q E s := by
  have hp : (cenv.scope.kind == .class || (cenv.scope.kind == .module && cenv.locals != cenv.globals)) = false := by rw [hk]; rfl
  unfold bindC at hb
  split at hb
  · rename_i x d'
    simp only [Option.some.injEq] at hb
    subst hb
    refine wpAny_assign_Name (wpAny_storeName_local (hx _ (by simp)) hn (fun h' hns hs => ?_) hp)
    refine h h' _ _ hns (fun i y d' h1 h2 => ?_) fun b o hb e => hs.extBut b o hb e
    cases i with
    | zero => simp at h1 h2; subst h1; subst h2; exact ⟨v, by simp, hr⟩
    | succ i => simp at h1
  · rename_i x y a b
    simp only [Option.some.injEq] at hb
    subst hb
    have hne : ¬ x = y := by simpa [tgtOk] using ht
    cases hr with
    | tup e tt q =>
      cases q with
      | cons q1 q2 =>
        cases q2 with
        | cons q2 q3 =>
          cases q3
          rename_i tp o n v1 v2
          show wpAny _ _ (do standAt t.pos; unpack (.ref tp) [(false, assign (.Name x t.pos2) cenv), (false, assign (.Name y t.pos3) cenv)]) _ _ _
          refine wpAny_bind (wpAny_standAt ?_)
          show wpAny _ _ (do assignInOrder [assign (.Name x t.pos2) cenv, assign (.Name y t.pos3) cenv] (← holding [.ref tp] (unpackItems (.ref tp) 2 none))) _ _ _
          refine wpAny_bind (wpAny_holding ?_)
          refine unpackItems_tuple (items := #[v1, v2]) hh ⟨_, hkin _ _ e, tt.1, _, tt.2⟩ fun h₁ he₁ => ?_
          have hn₁ := hn.keeps (ext_get he₁)
          show wpAny _ _ (do holding [v2] (assign (.Name x t.pos2) cenv v1); assignInOrder [assign (.Name y t.pos3) cenv] [v2]) _ _ _
          refine wpAny_bind (wpAny_holding (wpAny_assign_Name (wpAny_storeName_local (hx _ (by simp)) hn₁ (fun h₂ hn₂ hs₂ => ?_) hp)))
          show wpAny _ _ (do holding [] (assign (.Name y t.pos3) cenv v2); assignInOrder [] []) _ _ _
          refine wpAny_bind (wpAny_holding (wpAny_assign_Name (wpAny_storeName_local (hx _ (by simp)) hn₂ (fun h₃ hn₃ hs₃ => ?_) hp)))
          refine wpAny_pure (h h₃ _ _ hn₃ (fun i z d' h1 h2 => ?_) fun b o hb e => hs₃.extBut b o hb (hs₂.extBut b o hb (ext_get he₁ b o e)))
          match i, h1, h2 with
          | 0, h1, h2 => simp at h1 h2; subst h1; subst h2; exact ⟨v1, by simp [hne], q1⟩
          | 1, h1, h2 => simp at h1 h2; subst h1; subst h2; exact ⟨v2, by simp, q2⟩
          | i + 2, h1, h2 => simp at h1
  · cases hb

theorem KNew.none_of {K K' : KM} {h : Heap} {a : Addr} {o : Obj} (hn : KNew K K' h) (hk : K a = none) (ha : h.get? a = some o) : K' a = none := by
  cases e : K' a with
  | none => rfl
  | some o' =>
    rcases hn a o' e with h1 | h1
    · rw [hk] at h1; cases h1
    · rw [ha] at h1; cases h1

theorem tests_ok {cond : T} (hc : TOk cond) {k : Cg} (ok : k.Ok) {t : PT} (hi : (cond.isTT || okT k.c cond t) = true) {cs : List D} {K : KM} {s : Shared} {Q : Bool → Prop} (rd : Rd k K cs s)
    (hw : k.wpT cond cs Q) : wpAny k.M k.A (forIn (if cond.isTT = true then [] else [toT k.c cond t]) true fun c r => if r = true then do let ok ← isTrue c k.env (eval c k.env); pure (ForInStep.yield ok) else pure (ForInStep.yield r)) (fun b s' => Q b ∧ ∃ K', Post s K s' K') k.E s := by
  cases hn : cond.isTT with
  | true =>
    rw [if_pos rfl]
    refine wpAny_tests_nil ?_
    cases cond <;> simp only [T.isTT, Bool.false_eq_true] at hn
    simp only [Cg.wpT, zq_wpT_0, zq_wpT_1, zq_wpT_2, zq_wpT_3, zq_wpT_4, zq_wpT_5] at hw
    exact ⟨hw, K, rd.refl⟩
  | false =>
    rw [if_neg (by simp)]
    rw [hn] at hi
    exact wpAny_tests_one (hc k ok t hi cs K s Q rd hw)

section comps
variable {k : Cg} {K : KM} {cs : List D} {s : Shared}

structure CompChk (k : Cg) (elt : E) (xs : List Str) (it : E) (cond : T) (pelt tgt pit : Expr) (ifs : List Expr) (sc : Scope) : Prop where
  none : k.c.comp = none
  scope : compScopeOk k.c.fs sc xs = true
  tgt : tgtOk xs = true ∧ ∃ t, tgt = toTarget xs t
  it : ∃ t, pit = toE k.c it t ∧ okE k.c it t = true
  elt : ∃ t, pelt = toE { k.c with comp := some (sc, xs) } elt t ∧ okE { k.c with comp := some (sc, xs) } elt t = true
  ifs : ∃ t, ifs = (if cond.isTT = true then [] else [toT { k.c with comp := some (sc, xs) } cond t]) ∧ (cond.isTT || okT { k.c with comp := some (sc, xs) } cond t) = true

theorem comp_run (ok : k.Ok) {elt it : E} {cond : T} {xs : List Str} {pelt tgt pit : Expr} {ifs : List Expr} {sc : Scope} {pos : Pos} {cl : List (Str × Addr)} {Q : D → Prop} {RR : Value → Addr → Result → Shared → Prop} (helt : EOk elt) (hcond : TOk cond) (hit : IOk it)
    (hc : CompChk k elt xs it cond pelt tgt pit ifs sc) (hclos : ∀ y ∈ sc.names, y.2 = NameKind.free → cl.lookup y.1 = k.env.cells.lookup y.1) (rd : Rd k K cs s) (hw : k.wpE (.comp elt xs it cond) cs Q)
    (hRR : ∀ Da C s' K' ds vs c m, Q (.lst ds) → Post s K s' K' → s.heap.get? Da = none → s.heap.get? C = none → Da ≠ C → K' Da = none → K' C = none → s'.heap.Ns C m → s'.heap.get? Da = some (listObj vs c) → VRs K' ds vs → RR (.ref Da) C (.ok .next) s') :
    wpAny k.M k.A (eval pit k.env) (fun xv s₁ => wpAny k.M k.A (pyIter xv) (fun itv s₂ => wpAny k.M k.A (newList []) (fun acc s₃ => wpAny k.M k.A (newFunctionEnv sc k.env.globals cl [] k.env.qual none .none (some k.env)) (fun cenv s₄ =>
      codeAny k.M k.A (.compStart (.ListComp pelt [⟨tgt, pit, ifs, 0⟩] sc pos) 0 itv acc { cenv with scope := relabel sc k.env }) (RR acc cenv.locals) s₄) k.E s₃) k.E s₂) k.E s₁) k.E s := by
  obtain ⟨cnone, cscope, ⟨ctgt, tt, rfl⟩, ⟨ti, rfl, cit⟩, ⟨te, rfl, celt⟩, ⟨tc, rfl, cifs⟩⟩ := hc
  simp only [Cg.wpE, zq_wpE_0, zq_wpE_1, zq_wpE_2, zq_wpE_3, zq_wpE_4, zq_wpE_5, zq_wpE_6, zq_wpE_7, zq_wpE_8, zq_wpE_9, zq_wpE_10, zq_wpE_11, zq_wpE_12, zq_wpE_13, zq_wpE_14, zq_wpE_15, zq_wpE_16, zq_wpE_17, zq_wpE_18, zq_wpE_19, zq_wpE_20, zq_wpE_21] at hw
  refine wpAny_mono (hit k ok ti cit cs K s _ rd hw) (fun xv s₁ hp => wpAny_mono hp (fun itv s₂ hp => ?_) fun _ _ x => x) fun _ _ x => x
  obtain ⟨I, K₂, items, rfl, ⟨hlen, p, f, hall, hq⟩, p₂, ⟨fp, P, St, W, hst, hfp, hio, hP, hKI⟩, hI0⟩ := hp
  have hscope := cscope
  simp only [compScopeOk, Bool.and_eq_true, beq_iff_eq] at hscope
  obtain ⟨⟨hkind, hnames⟩, hxs⟩ := hscope
  have hcell : ∀ y ∈ sc.names, y.2 ≠ .cell := fun y hy => by
    have := List.all_eq_true.mp hnames y hy
    simp only [Bool.and_eq_true, bne_iff_ne, ne_eq] at this
    exact this.1.1
  obtain ⟨oI, hoI, hIter⟩ := hio 0 _ hst
  have hIlt : I < s₂.heap.objs.size := Heap.lt_size hoI
  refine wpAny_newObj_type (wpAny_newFunctionEnv hcell (by intro y hy; simp at hy) (fun h₁ hns₁ hsb₁ => ?_) hkind)
  dsimp only at hns₁ hsb₁ ⊢
  generalize hH2 : s₂.heap.push { cls := .type "list", dict := none, data := .seq ([] : List Value).toArray } = H2 at hns₁ hsb₁ ⊢
  have hC : H2.objs.size = s₂.heap.objs.size + 1 := by rw [← hH2, Heap.size_push]
  have hDC : s₂.heap.objs.size ≠ H2.objs.size := by rw [hC]; exact Nat.ne_of_lt (Nat.lt_succ_self _)
  have old : ∀ b o, s₂.heap.get? b = some o → h₁.get? b = some o := fun b o e =>
    hsb₁.extBut b o (by rw [hC]; exact Nat.ne_of_lt (Nat.lt_succ_of_lt (Heap.lt_size e))) (Heap.get?_push_of_some _ (hH2 ▸ Heap.get?_push_of_some _ e))
  have hD₁ : h₁.get? s₂.heap.objs.size = some (listObj [] 0) := hsb₁.extBut _ _ hDC (Heap.get?_push_of_some _ (hH2 ▸ Heap.get?_push_size _ rfl))
  generalize hDa : s₂.heap.objs.size = Da at *
  generalize hCa : H2.objs.size = C at *
  have hDa0 : s₂.heap.get? Da = none := by rw [← hDa]; exact fresh_size _
  have hCa0 : s₂.heap.get? C = none := Heap.get?_none_of_le (by rw [hDa, hC]; exact Nat.le_succ _)
  have sfresh : ∀ a, s₂.heap.get? a = none → s.heap.get? a = none := fun a ha => by
    cases e : s.heap.get? a with
    | none => rfl
    | some o => rw [keeps_get p₂.keeps _ _ e] at ha; cases ha
  have hIne : I ≠ Da ∧ I ≠ C := ⟨Nat.ne_of_lt hIlt, by rw [hC]; exact Nat.ne_of_lt (Nat.lt_succ_of_lt hIlt)⟩
  let cenv : Env := compEnvC sc cl C k.env
  have loop : ∀ s₃ : Shared, s₃ = { s₂ with heap := h₁, toks := s₂.toks + ([] : List (Str × Value)).length } →
      codeAny k.M k.A (.compLoop (.ListComp (toE { k.c with comp := some (sc, xs) } elt te) [⟨toTarget xs tt, toE k.c it ti, if cond.isTT = true then [] else [toT { k.c with comp := some (sc, xs) } cond tc], 0⟩] sc pos) 0 (.ref I) (.ref Da) cenv) (RR (.ref Da) C) s₃ := by
    rintro s₃ rfl
    refine compLoop_any (fun n s' => ∃ (i : Nat) (h : Heap) (tk : Nat) (K' : KM) (ys : List Value) (c : Nat) (m : Str → Option Value), s' = { s₂ with heap := h, toks := tk } ∧ n = items.length + 1 - i ∧ i ≤ items.length ∧ St i h ∧ h.get? Da = some (listObj ys c) ∧ h.Ns C m ∧
        VRs K' (((items.take i).filter p).map f) ys ∧ ys.length ≤ i ∧ K₂.le K' ∧ KIn K' h ∧ K' Da = none ∧ K' C = none ∧ K' I = none ∧ KNew K K' s.heap ∧ (∀ b o, s.heap.get? b = some o → h.get? b = some o)) ?_ (items.length + 1)
      ⟨0, h₁, _, K₂, [], 0, _, rfl, by (first | lia | omega), by (first | lia | omega), W.frame _ _ _ hst (fun b _ o e => old b o e), hD₁, hns₁, .nil, by simp, KM.le_refl _, fun a o e => old a o (p₂.kin a o e), none_of_new p₂.kin hDa0, none_of_new p₂.kin hCa0, hKI, p₂.new, fun b o e => old b o (keeps_get p₂.keeps b o e)⟩
    rintro n s' ⟨i, h, tk, K', ys, c, m, rfl, rfl, hi, hst', hDh, hn, hr, hyl, hle, hkin, hKD, hKC, hKI', hnew, hkeep⟩
    by_cases hlt : i < items.length
    · refine W.item i _ _ _ hlt hst' fun v h₂ tk₂ hPv hst₂ hk₂ => ?_
      have hd : items[i]? = some items[i] := List.getElem?_eq_getElem hlt
      have hv : VR K' items[i] v := (hP i v _ hPv hd).mono hle
      obtain ⟨ds', hb, hwt, hwe⟩ := hall items[i] (List.getElem_mem hlt)
      obtain ⟨oI₂, hoI₂, hIter₂⟩ := hio _ _ hst₂
      have keepI : ∀ b o, b ≠ I → h.get? b = some o → h₂.get? b = some o := fun b o hb e => hk₂ b o (by simpa using hb) e
      have hkin₂ : KIn K' h₂ := fun a o e => keepI a o (by intro hb; rw [hb, hKI'] at e; cases e) (hkin a o e)
      have hn₂ : h₂.Ns C m := hn.at' fun o e => keepI C o (Ne.symm hIne.2) e
      refine letOwned (s := { s₂ with heap := h₂, toks := tk₂ }) hoI₂ hIter₂ ?_
      refine bind_comp (cenv := cenv) (ds := ds') ok.room.handled hkind (fun x hx => ?_) ctgt hb hkin₂ hv hn₂ fun h₃ tk₃ m₃ hn₃ hm₃ hk₃ => ?_
      · have := List.all_eq_true.mp hxs x hx
        simp only [Bool.and_eq_true, beq_iff_eq] at this
        exact lookup_relabel this.1 (by decide)
      have hkin₃ : KIn K' h₃ := fun a o e => hk₃ a o (by intro hb; rw [hb, show cenv.locals = C from rfl, hKC] at e; cases e) (hkin₂ a o e)
      have hI₃ : ∀ o, h₂.get? I = some o → h₃.get? I = some o := fun o e => hk₃ I o hIne.2 e
      have hst₃ : St (i + 1) h₃ := W.frame _ _ _ hst₂ fun b hb o e => by
        rcases hfp b hb with rfl | ⟨ob, hob⟩
        · exact hI₃ o e
        · exact hk₃ b o (by intro hb; rw [hb, show cenv.locals = C from rfl] at hob; rw [hle _ _ hob] at hKC; cases hKC) e
      have hD₃ : h₃.get? Da = some (listObj ys c) := hk₃ Da _ hDC (keepI Da _ (Ne.symm hIne.1) hDh)
      have hkeep₃ : ∀ b o, s.heap.get? b = some o → h₃.get? b = some o := fun b o e =>
        hk₃ b o (by intro hb; rw [hb, show cenv.locals = C from rfl, sfresh _ hCa0] at e; cases e) (keepI b o (by intro hb; rw [hb, hI0] at e; cases e) (hkeep b o e))
      have pst : Post s K { s₂ with heap := h₃, toks := tk₃ } K' := by
        refine ⟨?_, p₂.le.trans hle, hkin₃, hnew⟩
        obtain ⟨hh, tt, e, _⟩ := p₂.keeps
        exact ⟨h₃, tk₃, by rw [e], hkeep₃⟩
      have rd₃ : Rd (k.inner sc xs cl C (notedBy k.M k.A cenv fun e s' => RR (.ref Da) C (.error e) s')) K' ds' { s₂ with heap := h₃, toks := tk₃ } :=
        inner_rd (rd.post pst) cnone cscope hclos hn₃ hm₃
      refine wpAny_mono (tests_ok hcond (inner_ok ok) cifs rd₃ hwt) (fun b s₄ hp => ?_) fun _ _ x => x
      obtain ⟨rfl, K₄, p₄⟩ := hp
      have rd₄ := rd₃.post p₄
      obtain ⟨h₄, tk₄, e₄, k₄⟩ := p₄.keeps
      have hKD₄ := p₄.new.none_of hKD hD₃
      obtain ⟨oC₃, hoC₃⟩ : ∃ o, h₃.get? C = some o := by obtain ⟨o, es, ep, ho, _⟩ := hn₃; exact ⟨o, ho⟩
      have hKC₄ := p₄.new.none_of hKC hoC₃
      have hKI₄ := p₄.new.none_of hKI' (hI₃ _ hoI₂)
      have hst₄ : St (i + 1) s₄.heap := W.frame _ _ _ hst₃ fun b _ o e => keeps_get p₄.keeps b o e
      have htake : (items.take (i + 1)).filter p = (items.take i).filter p ++ (if p items[i] then [items[i]] else []) := take_succ_filter p items i items[i] hd
      cases hpv : p items[i] with
      | false =>
        rw [if_neg (by simp)]
        refine ⟨items.length + 1 - (i + 1), by (first | lia | omega), i + 1, h₄, tk₄, K₄, ys, c, _, (by rw [e₄]), rfl, by (first | lia | omega), (by rw [e₄] at hst₄; exact hst₄), k₄ _ _ hD₃, hn₃.keeps k₄, ?_, by (first | lia | omega), hle.trans p₄.le, (by have := p₄.kin; rw [e₄] at this; exact this), hKD₄, hKC₄, hKI₄, (pst.trans p₄).new, fun b o e => k₄ b o (hkeep₃ b o e)⟩
        rw [htake, hpv]; simpa using hr.mono p₄.le
      | true =>
        rw [if_pos rfl]
        refine wpAny_mono (helt _ (inner_ok ok) te celt ds' K₄ s₄ _ rd₄ (hwe hpv)) (fun y s₅ hp => ?_) fun _ _ x => x
        obtain ⟨d₅, K₅, rfl, p₅, r₅⟩ := hp
        obtain ⟨h₅, tk₅, e₅, k₅⟩ := p₅.keeps
        have hD₅ : s₅.heap.PlainList Da ys.toArray := ⟨c, keeps_get p₅.keeps _ _ (keeps_get p₄.keeps _ _ hD₃)⟩
        refine wpAny_list_append_plain hD₅ (fun h₆ hl₆ hs₆ => ?_) (by simp [sizeLine]; (first | lia | omega))
        obtain ⟨c', hl₆⟩ := hl₆
        have hKD₅ := p₅.new.none_of hKD₄ (keeps_get p₄.keeps _ _ hD₃)
        have hnC : ∃ o, s₄.heap.get? C = some o := by obtain ⟨o, es, ep, ho, _⟩ := hn₃; exact ⟨o, keeps_get p₄.keeps _ _ ho⟩
        obtain ⟨oC, hoC⟩ := hnC
        have hKC₅ := p₅.new.none_of hKC₄ hoC
        have hKI₅ := p₅.new.none_of hKI₄ (keeps_get p₄.keeps _ _ (hI₃ _ hoI₂))
        have keep₆ : ∀ b o, b ≠ Da → s₄.heap.get? b = some o → h₆.get? b = some o := fun b o hb e => hs₆.extBut b o hb (keeps_get p₅.keeps b o e)
        have hst₆ : St (i + 1) h₆ := W.frame _ _ _ hst₄ fun b hb o e => by
          refine keep₆ b o ?_ e
          rcases hfp b hb with rfl | ⟨ob, hob⟩
          · exact hIne.1
          · intro hb; rw [hb] at hob; rw [hle _ _ hob] at hKD; cases hKD
        have e45 : s₅ = { s₂ with heap := h₅, toks := tk₅ } := by rw [e₅, e₄]
        refine ⟨items.length + 1 - (i + 1), by (first | lia | omega), i + 1, h₆, tk₅, K₅, ys ++ [y], c', _, (by rw [e45]), rfl, by (first | lia | omega), hst₆, ?_, (hn₃.keeps (keeps_get p₄.keeps)).at' fun o e => keep₆ C o (Ne.symm hDC) e, ?_, (by simp; (first | lia | omega)), (hle.trans p₄.le).trans p₅.le, ?_, hKD₅, hKC₅, hKI₅, ((pst.trans p₄).trans p₅).new, ?_⟩
        · rw [hl₆]; simp [listObj]
        · rw [htake, hpv]; simpa using ((hr.mono p₄.le).mono p₅.le).append (.cons r₅ .nil)
        · intro a o e
          exact hs₆.extBut a o (by intro hb; rw [hb, hKD₅] at e; cases e) (p₅.kin a o e)
        · intro b o e
          exact keep₆ b o (by intro hb; rw [hb, sfresh _ hDa0] at e; cases e) (keeps_get p₄.keeps b o (hkeep₃ b o e))
    · have hin : i = items.length := by (first | lia | omega)
      subst hin
      refine W.done _ _ _ hst' fun h₂ tk₂ hk₂ => ?_
      have keepI : ∀ b o, b ≠ I → h.get? b = some o → h₂.get? b = some o := fun b o hb e => hk₂ b o (by simpa using hb) e
      refine hRR Da C _ K' _ ys c m hq ⟨?_, p₂.le.trans hle, fun a o e => keepI a o (by intro hb; rw [hb, hKI'] at e; cases e) (hkin a o e), hnew⟩ (sfresh _ hDa0) (sfresh _ hCa0) hDC hKD hKC (hn.at' fun o e => keepI C o (Ne.symm hIne.2) e) (keepI Da _ (Ne.symm hIne.1) hDh) (by simpa using hr)
      obtain ⟨hh, tt, e, _⟩ := p₂.keeps
      exact ⟨h₂, tk₂, by rw [e], fun b o e => keepI b o (by intro hb; rw [hb, hI0] at e; cases e) (hkeep b o e)⟩
  exact codeAny_compStart_list (loop _ rfl) (W.self 0 _ _ _ (W.frame _ _ _ hst fun b _ o e => old b o e) (loop _ rfl))
end comps

theorem fold_plain {c : Cx} {e : E} {t : PT} {env : Env} : ∀ x, foldedSetIterable (toE c e t) env x = pure x := by
  intro x
  cases e <;> rfl

theorem ok_comp {elt it : E} {cond : T} {xs : List Str} (helt : EOk elt) (hcond : TOk cond) (hit : IOk it) : EOk (.comp elt xs it cond) := by
  intro k ok t h cs K s Q rd hw
  simp only [zq_okE_0, zq_okE_1, zq_okE_2, zq_okE_3, zq_okE_4, zq_okE_5, zq_okE_6, zq_okE_7, zq_okE_8, zq_okE_9, zq_okE_10, zq_okE_11, zq_okE_12, zq_okE_13, zq_okE_14, zq_okE_15, zq_okE_16, zq_okE_17, zq_okE_18, zq_okE_19, zq_okE_20, zq_okE_21, Bool.and_eq_true, Option.isNone_iff_eq_none] at h
  obtain ⟨⟨⟨⟨⟨h1, h2⟩, h3⟩, h4⟩, h5⟩, h6⟩ := h
  have hsc := h2
  simp only [compScopeOk, Bool.and_eq_true, beq_iff_eq] at hsc
  obtain ⟨cl, hcl, hcl'⟩ := rd.comp t.sc h1 (fun y hy hf => by
    have := List.all_eq_true.mp hsc.1.2 y hy
    simp only [Bool.and_eq_true, Bool.or_eq_true, bne_iff_ne, ne_eq, beq_iff_eq] at this
    exact this.2.resolve_left (fun x => x hf))
  show wpAny _ _ (eval (.ListComp (toE { k.c with comp := some (t.sc, xs) } elt (t.at 0)) [⟨toTarget xs (t.at 1), toE k.c it (t.at 2), if cond.isTT = true then [] else [toT { k.c with comp := some (t.sc, xs) } cond (t.at 3)], 0⟩] t.sc t.pos) _) _ _ _
  rw [eval_ListComp]
  refine wpAny_comprehension_free (use := none) (gs := []) rfl fold_plain hcl hsc.1.1 (fun y hy hl => ?_)
    (comp_run (RR := fun acc C => compPost k.M k.A k.E none (PostE s K Q) acc C) ok helt hcond hit ⟨h1, h2, ⟨h3, _, rfl⟩, ⟨_, rfl, h4⟩, ⟨_, rfl, h5⟩, ⟨_, rfl, h6⟩⟩ hcl' rd hw ?_)
  · have := List.all_eq_true.mp hsc.1.2 y hy
    simp only [Bool.and_eq_true, Bool.or_eq_true, bne_iff_ne, ne_eq, beq_iff_eq] at this
    exact this.1.2.resolve_left (fun x => x hl)
  · intro Da C s' K' ds vs c m hq p hD hC hDC hKD hKC hn hg hr
    refine ⟨m, hn, fun h' hs' => ?_⟩
    have hg' : h'.get? Da = some (listObj vs c) := hs'.extBut _ _ hDC hg
    have hs0 : ∀ b o, s.heap.get? b = some o → h'.get? b = some o := fun b o e =>
      hs'.extBut b o (by intro hb; rw [hb, hC] at e; cases e) (keeps_get p.keeps b o e)
    refine ⟨_, K'.add Da (listObj vs c), hq, ⟨?_, p.le.trans (KM.le_add hKD), fun a o e => ?_, fun a o e => ?_⟩, .lst (KM.add_self _ _ _) (hr.mono (KM.le_add hKD))⟩
    · obtain ⟨h₁, tk₁, e₁, _⟩ := p.keeps
      exact ⟨h', tk₁, by rw [e₁], hs0⟩
    · unfold KM.add at e
      by_cases ha : a = Da
      · subst ha; simp at e; subst e; exact hg'
      · rw [if_neg ha] at e; exact hs'.extBut a o (by intro hb; rw [hb, hKC] at e; cases e) (p.kin a o e)
    · unfold KM.add at e
      by_cases ha : a = Da
      · subst ha; exact .inr hD
      · rw [if_neg ha] at e; exact p.new a o e

end Mine

namespace Mine
open PySem PySem.Calls PyProof.Rows

theorem ok_false {e : E} (h : ∀ X fn ρ cs Q, ¬ wpE X fn ρ e cs Q) : EOk e := fun k ok pe hc cs K s Q rd hw => (h _ _ _ _ _ hw).elim
theorem io_false {e : E} (h : ∀ X fn ρ cs Q, ¬ wpI X fn ρ e cs Q) : IOk e := fun k ok pe hc cs K s Q rd hw => (h _ _ _ _ _ hw).elim

mutual
theorem allE : ∀ e : E, EOk e
  | .int i => ok_int i
  | .bool b => ok_bool b
  | .none => ok_none
  | .var i => ok_var i
  | .cvar i => ok_cvar i
  | .tyname n => ok_tyname n
  | .glob j => ok_glob j
  | .neg e => ok_neg (allE e)
  | .bin op l r => ok_bin (allE l) (allE r)
  | .cmp op l r => ok_cmp (allE l) (allE r)
  | .and2 l r => ok_and2 (allE l) (allE r)
  | .call f args => ok_call (allEs args)
  | .bcall b args => ok_bcall (allEs args)
  | .lenv i => ok_lenv i
  | .subv i e => ok_subv (allE e)
  | .sub e i => ok_sub (allE e) (allE i)
  | .slice e lo hi => ok_slice (allE e) (allE lo) (allE hi)
  | .list es => ok_list (allEs es)
  | .tup es => ok_tup (allEs es)
  | .comp elt xs it cond => ok_comp (allE elt) (allT cond) (allI it)
  | .range es => ok_false fun X fn ρ cs Q h => h
  | .count e x => ok_count (allE e) (allE x)
theorem allEs : ∀ es : Es, EsOk es
  | .nil => ok_nil
  | .cons e es => ok_cons (allE e) (allEs es)
theorem allT : ∀ t : T, TOk t
  | .tt => ok_ttt
  | .cmp op l r => ok_tcmp (allE l) (allE r)
  | .not t => ok_tnot (allT t)
  | .and ts => ok_tand (allTs ts)
  | .or ts => ok_tor (allTs ts)
  | .val e => ok_tval (allE e)
theorem allTs : ∀ ts : Ts, TsOk ts
  | .nil => ok_tsnil
  | .cons t ts => ok_tscons (allT t) (allTs ts)
theorem allI : ∀ e : E, IOk e
  | .range es => io_range (allEs es)
  | .var i => io_var i
  | .call f args => io_call (allEs args)
  | .slice e lo hi => io_slice (allE e) (allE lo) (allE hi)
  | .int _ => io_false fun X fn ρ cs Q h => h
  | .bool _ => io_false fun X fn ρ cs Q h => h
  | .none => io_false fun X fn ρ cs Q h => h
  | .cvar _ => io_false fun X fn ρ cs Q h => h
  | .tyname _ => io_false fun X fn ρ cs Q h => h
  | .glob _ => io_false fun X fn ρ cs Q h => h
  | .neg _ => io_false fun X fn ρ cs Q h => h
  | .bin _ _ _ => io_false fun X fn ρ cs Q h => h
  | .cmp _ _ _ => io_false fun X fn ρ cs Q h => h
  | .and2 _ _ => io_false fun X fn ρ cs Q h => h
  | .bcall _ _ => io_false fun X fn ρ cs Q h => h
  | .lenv _ => io_false fun X fn ρ cs Q h => h
  | .subv _ _ => io_false fun X fn ρ cs Q h => h
  | .sub _ _ => io_false fun X fn ρ cs Q h => h
  | .list _ => io_false fun X fn ρ cs Q h => h
  | .tup _ => io_false fun X fn ρ cs Q h => h
  | .comp _ _ _ _ => io_false fun X fn ρ cs Q h => h
  | .count _ _ => io_false fun X fn ρ cs Q h => h
end

end Mine

namespace Mine
open PySem PySem.Calls PyProof.Rows

/-- a frame of a def of the program -/
structure Fm where
  g : GC
  n : Nat
  A : Around
  s₀ : Shared
  K₀ : KM
  L : Addr
  a : Addr
  cd : Value
  name : Str
  scope : Scope
  names : List Str
  tn : List Str
  fn : List Str
  base : Heap
  fr : List Env
  top : Prop

noncomputable abbrev Fm.env (f : Fm) : Env := envOfC f.name f.scope f.L f.a f.cd
noncomputable abbrev Fm.cells (f : Fm) : List (Str × Addr) := cellsFrom (f.L + 1) f.scope.names []
noncomputable abbrev Fm.M (f : Fm) : Model := model f.g.prog f.g.w
noncomputable def Fm.c (f : Fm) : Cx := ⟨f.scope, f.names, none, f.tn, f.fn⟩
noncomputable def Fm.val (f : Fm) (m cm : Str → Option Value) (x : Str) : Option Value := if f.scope.names.lookup x = some .cell then cm x else m x

noncomputable def SlotAt (f : Fm) (K : KM) (h : Heap) (ov : Option Value) : Slot → Prop
  | .unb => True
  | .frz d => ∃ v, ov = some v ∧ VR K d v
  | .own d => ∃ a, ov = some (.ref a) ∧ K a = none ∧ f.s₀.heap.get? a = none ∧ a ≠ f.L ∧ (∀ n c, f.cells.lookup n = some c → a ≠ c) ∧ OwnObj K h a d

structure RelM (f : Fm) (K : KM) (ρ : List Slot) (s : Shared) (m cm : Str → Option Value) : Prop where
  st : ∃ h tk, s = { f.s₀ with heap := h, toks := tk }
  keep : ∀ b o, f.s₀.heap.get? b = some o → s.heap.get? b = some o
  kin : KIn K s.heap
  kle : f.K₀.le K
  knew : KNew f.K₀ K f.s₀.heap
  kL : K f.L = none
  kC : ∀ n c, f.cells.lookup n = some c → K c = none
  len : ρ.length = f.names.length
  ns : s.heap.Ns f.L m
  cl : Cl f.L f.cells s.heap cm
  slots : ∀ (i : Nat) x sl, f.names[i]? = some x → ρ[i]? = some sl → SlotAt f K s.heap (f.val m cm x) sl
  sep : ∀ (i j : Nat) x y a d d', i ≠ j → f.names[i]? = some x → f.names[j]? = some y → ρ[i]? = some (.own d) → ρ[j]? = some (.own d') → f.val m cm x = some (.ref a) → f.val m cm y = some (.ref a) → False

noncomputable def Rel (f : Fm) (K : KM) (ρ : List Slot) (s : Shared) : Prop := ∃ m cm, RelM f K ρ s m cm

structure Fm.Ok (f : Fm) : Prop where
  room : Room f.A f.n
  gok : GOk f.g f.s₀.heap
  gl : GlOk f.g f.K₀
  kind : f.scope.kind = .function
  above : f.s₀.heap.objs.size ≤ f.L
  nodup : f.names.Nodup
  loc : ∀ x ∈ f.names, f.scope.names.lookup x = some .local ∨ f.scope.names.lookup x = some .cell
  cellIn : ∀ x, f.scope.names.lookup x = some .cell → ∃ c, f.cells.lookup x = some c
  tn : f.tn = f.g.tabs.map (·.1)
  fn : ∀ y ∈ f.fn, ∃ d ∈ recsOf f.g.tp, d.name = y
  k0 : KIn f.K₀ f.s₀.heap
  stack : f.A.frames = some (f.env :: f.fr)
  stays : f.base.StaysIn f.s₀.heap
  frames : f.s₀.heap.FunFrames f.base f.fr
  tops : f.top → f.fr = []

noncomputable def Fm.cg (f : Fm) (X : String → Prop) (E : Value → Shared → Prop) (ρ : List Slot) : Cg := ⟨f.g, f.n, f.A, X, E, ρ, f.c, f.env, fun K s => Rel f K ρ s, f.base, f.env :: f.fr, f.top⟩

theorem OwnObj.there {K : KM} {h : Heap} {a : Addr} {d : D} (ho : OwnObj K h a d) : ∃ o, h.get? a = some o := by
  cases d with
  | lst ds => obtain ⟨vs, n, e, _⟩ := ho; exact ⟨_, e⟩
  | dct f n => obtain ⟨_, o, e, _⟩ := ho; exact ⟨_, e⟩
  | _ => exact ho.elim
theorem OwnObj.at' {K : KM} {h h' : Heap} {a : Addr} {d : D} (ho : OwnObj K h a d) (hk : ∀ o, h.get? a = some o → h'.get? a = some o) : OwnObj K h' a d := by
  cases d with
  | lst ds => obtain ⟨vs, n, e, r⟩ := ho; exact ⟨_, _, hk _ e, r⟩
  | dct f n => obtain ⟨ha, o, e, r⟩ := ho; exact ⟨ha, o, hk _ e, r⟩
  | _ => exact ho.elim

theorem SlotAt.post {f : Fm} {K K' : KM} {s s' : Shared} {ov : Option Value} {sl : Slot} (h : SlotAt f K s.heap ov sl) (p : Post s K s' K') : SlotAt f K' s'.heap ov sl := by
  cases sl with
  | unb => trivial
  | frz d => obtain ⟨v, e, r⟩ := h; exact ⟨v, e, r.mono p.le⟩
  | own d =>
    obtain ⟨a, e, hk, h0, hL, hc, ho⟩ := h
    obtain ⟨o, ha⟩ := ho.there
    exact ⟨a, e, p.new.none_of hk ha, h0, hL, hc, ho.keeps p.le (keeps_get p.keeps)⟩

theorem SlotAt.heap {f : Fm} {K : KM} {h h' : Heap} {ov : Option Value} {sl : Slot} (q : SlotAt f K h ov sl) (hk : ∀ b o, b ≠ f.L → (∀ n c, f.cells.lookup n = some c → b ≠ c) → h.get? b = some o → h'.get? b = some o) : SlotAt f K h' ov sl := by
  cases sl with
  | unb => trivial
  | frz d => exact q
  | own d =>
    obtain ⟨a, e, hK, h0, hL, hc, ho⟩ := q
    exact ⟨a, e, hK, h0, hL, hc, ho.at' fun o e => hk a o hL hc e⟩

theorem knew_trans {f : Fm} {K K' : KM} {s : Shared} (h : KNew f.K₀ K f.s₀.heap) (hk : ∀ b o, f.s₀.heap.get? b = some o → s.heap.get? b = some o) (p : KNew K K' s.heap) : KNew f.K₀ K' f.s₀.heap := fun a o e => by
  rcases p a o e with e | e
  · exact h a o e
  · refine .inr ?_
    cases hq : f.s₀.heap.get? a with
    | none => rfl
    | some o' => rw [hk a o' hq] at e; cases e

theorem RelM.post {f : Fm} {K K' : KM} {ρ : List Slot} {s s' : Shared} {m cm : Str → Option Value} (r : RelM f K ρ s m cm) (p : Post s K s' K') : RelM f K' ρ s' m cm := by
  obtain ⟨oL, hoL⟩ : ∃ o, s.heap.get? f.L = some o := by obtain ⟨o, _, _, ho, _⟩ := r.ns; exact ⟨o, ho⟩
  refine ⟨?_, fun b o e => keeps_get p.keeps b o (r.keep b o e), p.kin, r.kle.trans p.le, knew_trans r.knew r.keep p.new, p.new.none_of r.kL hoL, fun n c hm => ?_, r.len, r.ns.keeps (keeps_get p.keeps), r.cl.keeps (keeps_get p.keeps), fun i x sl h1 h2 => (r.slots i x sl h1 h2).post p, r.sep⟩
  · obtain ⟨h, tk, e⟩ := r.st
    obtain ⟨h', tk', e', _⟩ := p.keeps
    exact ⟨h', tk', by rw [e', e]⟩
  · obtain ⟨o, ho, _⟩ := r.cl.cell n c hm
    exact p.new.none_of (r.kC n c hm) ho
theorem Rel.post {f : Fm} {K K' : KM} {ρ : List Slot} {s s' : Shared} (r : Rel f K ρ s) (p : Post s K s' K') : Rel f K' ρ s' := let ⟨m, cm, r⟩ := r; ⟨m, cm, r.post p⟩

theorem closureFor_pure {sc : Scope} {env : Env} (h : ∀ y ∈ sc.names, y.2 = NameKind.free → ∃ c, env.cells.lookup y.1 = some c) :
    ∃ cl, closureFor sc env = pure cl ∧ ∀ y ∈ sc.names, y.2 = NameKind.free → cl.lookup y.1 = env.cells.lookup y.1 := by
  have key : ∀ (l : List (Str × NameKind)) (acc : List (Str × Addr)), (∀ y ∈ l, y.2 = NameKind.free → ∃ c, env.cells.lookup y.1 = some c) → (∀ x c, acc.lookup x = some c → env.cells.lookup x = some c) →
      ∃ cl, (forIn l acc fun x r => (if x.2 == NameKind.free then do let c ← cellOf env x.1; pure (ForInStep.yield ((x.1, c) :: r)) else pure (ForInStep.yield r) : Sem (ForInStep (List (Str × Addr))))) = pure cl ∧
        (∀ x c, cl.lookup x = some c → env.cells.lookup x = some c) ∧ (∀ x c, acc.lookup x = some c → ∃ c', cl.lookup x = some c') ∧ ∀ y ∈ l, y.2 = NameKind.free → ∃ c, cl.lookup y.1 = some c := by
    intro l
    induction l with
    | nil => intro acc _ ha; exact ⟨acc, rfl, ha, fun x c h => ⟨c, h⟩, fun y hy => nomatch hy⟩
    | cons z l ih =>
      intro acc hl ha
      obtain ⟨zn, zk⟩ := z
      by_cases hz : zk = NameKind.free
      · subst hz
        obtain ⟨c, hc⟩ := hl (zn, .free) (.head _) rfl
        have ha' : ∀ x c', ((zn, c) :: acc).lookup x = some c' → env.cells.lookup x = some c' := fun x c' hx => by
          rw [List.lookup_cons] at hx
          cases hb : x == zn with
          | true => rw [hb] at hx; cases hx; rw [eq_of_beq hb]; exact hc
          | false => rw [hb] at hx; exact ha x c' hx
        obtain ⟨cl, h1, h2, h3, h4⟩ := ih ((zn, c) :: acc) (fun y hy => hl y (.tail _ hy)) ha'
        refine ⟨cl, ?_, h2, fun x c' hx => ?_, fun y hy hf => ?_⟩
        · rw [List.forIn_cons]
          have : cellOf env zn = pure c := by unfold cellOf; rw [hc]
          simp only [beq_self_eq_true, if_true, this, pure_bind]
          exact h1
        · by_cases hb : x = zn
          · subst hb; exact h3 x c (by simp)
          · exact h3 x c' (by rw [List.lookup_cons, beq_eq_false_iff_ne.mpr hb]; exact hx)
        · rcases List.mem_cons.mp hy with rfl | hy
          · exact h3 zn c (by simp)
          · exact h4 y hy hf
      · obtain ⟨cl, h1, h2, h3, h4⟩ := ih acc (fun y hy => hl y (.tail _ hy)) ha
        refine ⟨cl, ?_, h2, h3, fun y hy hf => ?_⟩
        · rw [List.forIn_cons]
          have : (zk == NameKind.free) = false := by simpa using hz
          simp only [this, Bool.false_eq_true, if_false, pure_bind]
          exact h1
        · rcases List.mem_cons.mp hy with rfl | hy
          · exact absurd hf hz
          · exact h4 y hy hf
  obtain ⟨cl, h1, h2, _, h4⟩ := key sc.names [] h (fun x c hx => by simp at hx)
  refine ⟨cl, ?_, fun y hy hf => ?_⟩
  · unfold closureFor
    have e : (forIn sc.names ([] : List (Str × Addr)) fun x r => (if x.2 == NameKind.free then do let c ← cellOf env x.1; pure (ForInStep.yield ((x.1, c) :: r)) else pure (ForInStep.yield r) : Sem (ForInStep (List (Str × Addr))))) >>= pure = pure cl := by
      rw [h1]; rfl
    exact e
  · obtain ⟨c, hc⟩ := h4 y hy hf
    rw [hc, h2 _ _ hc]

theorem rel_var {f : Fm} (ok : f.Ok) {K : KM} {ρ : List Slot} {s : Shared} {m cm : Str → Option Value} (r : RelM f K ρ s m cm) {x : Str} {v : Value} (hx : x ∈ f.names) (hv : f.val m cm x = some v) : VarIs f.env s.heap x v := by
  rcases ok.loc x hx with hl | hc
  · refine .inl ⟨hl, m, r.ns, ?_⟩
    unfold Fm.val at hv
    rw [hl, if_neg (by decide)] at hv
    exact hv
  · obtain ⟨c, hc'⟩ := ok.cellIn x hc
    refine .inr ⟨.inl hc, c, hc', ?_⟩
    unfold Fm.val at hv
    rw [hc, if_pos rfl] at hv
    rw [← hv]; exact r.cl.cell x c hc'

theorem rel_below {f : Fm} (ok : f.Ok) {K : KM} {ρ : List Slot} {s : Shared} {m cm : Str → Option Value} (r : RelM f K ρ s m cm) : Below f.A f.base (f.env :: f.fr) s.heap := by
  refine ⟨ok.stack, fun b o e => r.keep b o (ok.stays b o e), .cons (by show f.scope.kind ≠ .module; rw [ok.kind]; decide) rfl r.ns ?_ (ok.frames.of_keeps fun b o e _ => ⟨o, r.keep b o e, rfl⟩)⟩
  cases hq : f.base.get? f.L with
  | none => rfl
  | some o => exact absurd (Nat.lt_of_lt_of_le (Heap.lt_size (ok.stays _ o hq)) ok.above) (Nat.lt_irrefl _)

theorem rel_rd {f : Fm} (ok : f.Ok) {K : KM} {ρ : List Slot} {s : Shared} {X : String → Prop} {E : Value → Shared → Prop} (r : Rel f K ρ s) : Rd (f.cg X E ρ) K [] s := by
  obtain ⟨m, cm, r'⟩ := r
  refine ⟨ok.gok.keeps r'.keep, ok.gl.mono r'.kle, r'.kin, rfl, rfl, ok.kind, ?_, ?_, ?_, ?_, ?_, fun _ => rfl, ok.tn, ok.fn, rel_below ok r', ⟨m, cm, r'⟩, fun K s K' s' h p => Rel.post h p⟩
  · intro x hx
    simp only [Fm.cg, Cx.globOk, Bool.and_eq_true, beq_iff_eq] at hx
    exact hx.1
  · intro i x d h1 h2 h3
    obtain ⟨v, e, hr⟩ := r'.slots i x _ h1 h3
    exact ⟨v, rel_var ok r' (List.mem_of_getElem? h1) e, hr⟩
  · intro i x d h1 h2 h3
    obtain ⟨a, e, _, _, _, _, ho⟩ := r'.slots i x _ h1 h3
    exact ⟨a, rel_var ok r' (List.mem_of_getElem? h1) e, ho⟩
  · intro i x d h1 h2
    simp [Fm.cg, Cx.cnames, Fm.c] at h1
  · intro sc _ hf
    exact closureFor_pure fun y hy hfree => ok.cellIn _ (hf y hy hfree)

/-- a name is stored -/
theorem rel_store {f : Fm} (ok : f.Ok) {K : KM} {ρ : List Slot} {s : Shared} {m cm : Str → Option Value} (r : RelM f K ρ s m cm) {i : Nat} {x : Str} {v : Value} {sl : Slot} {A : Around} {E : Value → Shared → Prop} {Q : Unit → Shared → Prop}
    (hx : f.names[i]? = some x) (hsl : SlotAt f K s.heap (some v) sl)
    (hsep : ∀ a d, v = .ref a → sl = .own d → ∀ (j : Nat) y d', j ≠ i → f.names[j]? = some y → ρ[j]? = some (.own d') → f.val m cm y ≠ some (.ref a))
    (h : ∀ h' tk m' cm', RelM f K (ρ.set i sl) { s with heap := h', toks := tk } m' cm' → (∀ y, f.val m' cm' y = if y = x then some v else f.val m cm y) → (∀ b o, b ≠ f.L → (∀ n c, f.cells.lookup n = some c → b ≠ c) → s.heap.get? b = some o → h'.get? b = some o) → Q () { s with heap := h', toks := tk }) :
    wpAny f.M A (storeName f.env x v) Q E s := by
  have hmem := List.mem_of_getElem? hx
  have hp : (f.env.scope.kind == .class || (f.env.scope.kind == .module && f.env.locals != f.env.globals)) = false := by
    show (f.scope.kind == .class || _) = false
    rw [show f.env.scope.kind = .function from ok.kind, ok.kind]; rfl
  have fin : ∀ h' tk m' cm', h'.Ns f.L m' → Cl f.L f.cells h' cm' → (∀ y, f.val m' cm' y = if y = x then some v else f.val m cm y) →
      (∀ b o, b ≠ f.L → (∀ n c, f.cells.lookup n = some c → b ≠ c) → s.heap.get? b = some o → h'.get? b = some o) → Q () { s with heap := h', toks := tk } := by
    intro h' tk m' cm' hn hc hval hk
    have hLs : ∀ b o, f.s₀.heap.get? b = some o → b ≠ f.L ∧ ∀ n c, f.cells.lookup n = some c → b ≠ c := fun b o e => by
      have hb := Heap.lt_size e
      refine ⟨Nat.ne_of_lt (Nat.lt_of_lt_of_le hb ok.above), fun n c hl => ?_⟩
      have := r.cl.above n c (mem_of_lookup' hl)
      exact Nat.ne_of_lt (Nat.lt_trans (Nat.lt_of_lt_of_le hb ok.above) this)
    have hnm : ∀ (j : Nat) y, j ≠ i → f.names[j]? = some y → y ≠ x := fun j y hj hy hyx => by
      subst hyx
      have h1 : j < f.names.length := (List.getElem?_eq_some_iff.mp hy).1
      exact hj ((List.getElem?_inj h1 ok.nodup).mp (hy.trans hx.symm))
    refine h h' tk m' cm' ⟨?_, fun b o e => hk b o (hLs b o e).1 (hLs b o e).2 (r.keep b o e), fun a o e => hk a o (fun q => by rw [q, r.kL] at e; cases e) (fun n c hl q => by rw [q, r.kC n c hl] at e; cases e) (r.kin a o e), r.kle, r.knew, r.kL, r.kC, (by rw [List.length_set]; exact r.len), hn, hc, ?_, ?_⟩ hval hk
    · obtain ⟨h₁, tk₁, e⟩ := r.st
      exact ⟨h', tk, by rw [e]⟩
    · intro j y sl' h1 h2
      by_cases hj : j = i
      · subst hj
        rw [hx] at h1; cases h1
        have hlt : j < ρ.length := by
          have := (List.getElem?_eq_some_iff.mp h2).1
          simpa using this
        rw [List.getElem?_set_self hlt] at h2
        cases h2
        rw [hval, if_pos rfl]
        exact hsl.heap hk
      · rw [List.getElem?_set_ne (Ne.symm hj)] at h2
        rw [hval, if_neg (hnm j y hj h1)]
        exact (r.slots j y sl' h1 h2).heap hk
    · intro j l y z a d d' hjl h1 h2 h3 h4 h5 h6
      rw [hval] at h5 h6
      by_cases hj : j = i
      · subst hj
        have hl : l ≠ j := Ne.symm hjl
        rw [hx] at h1; cases h1
        rw [if_pos rfl] at h5
        rw [if_neg (hnm l z hl h2)] at h6
        rw [List.getElem?_set_ne (Ne.symm hl)] at h4
        have hlt : j < ρ.length := by
          have := (List.getElem?_eq_some_iff.mp h3).1
          simpa using this
        rw [List.getElem?_set_self hlt] at h3
        cases h3; cases h5
        exact hsep a d rfl rfl l z d' hl h2 h4 h6
      · by_cases hl : l = i
        · subst hl
          rw [hx] at h2; cases h2
          rw [if_pos rfl] at h6
          rw [if_neg (hnm j y hj h1)] at h5
          rw [List.getElem?_set_ne (Ne.symm hj)] at h3
          have hlt : l < ρ.length := by
            have := (List.getElem?_eq_some_iff.mp h4).1
            simpa using this
          rw [List.getElem?_set_self hlt] at h4
          cases h4; cases h6
          exact hsep a d' rfl rfl j y d hj h1 h3 h5
        · rw [if_neg (hnm j y hj h1)] at h5
          rw [if_neg (hnm l z hl h2)] at h6
          rw [List.getElem?_set_ne (Ne.symm hj)] at h3
          rw [List.getElem?_set_ne (Ne.symm hl)] at h4
          exact r.sep j l y z a d d' hjl h1 h2 h3 h4 h5 h6
  rcases ok.loc x hmem with hl | hc
  · refine wpAny_storeName_local (env := f.env) hl r.ns (fun h' hn hs => fin h' _ _ cm hn (r.cl.sameBut hs (Nat.le_refl _)) (fun y => ?_) fun b o hb _ e => hs.extBut b o hb e) hp
    unfold Fm.val
    by_cases hy : y = x
    · subst hy; rw [hl]; simp
    · simp [hy]
  · obtain ⟨c, hc'⟩ := ok.cellIn x hc
    have hLc : f.L < c := r.cl.above x c (mem_of_lookup' hc')
    refine wpAny_storeName_cell (env := f.env) ok.kind hc hc' (r.cl.cell x c hc') fun h' hv hs => fin h' _ m (fun y => if y = x then some v else cm y) (r.ns.sameBut hs (Nat.ne_of_lt hLc)) ⟨fun n c' e => ?_, r.cl.apart, r.cl.above⟩ (fun y => ?_) fun b o _ hb e => hs.extBut b o (hb x c hc') e
    · by_cases hn : n = x
      · subst hn; rw [hc'] at e; cases e; simpa using hv
      · have hcc : c' ≠ c := fun q => hn (name_of_addr r.cl.apart (mem_of_lookup' e) (q ▸ mem_of_lookup' hc'))
        simpa [hn] using (r.cl.cell n c' e).sameBut hs hcc
    · unfold Fm.val
      by_cases hy : y = x
      · subst hy; rw [hc]; simp
      · simp [hy]

end Mine

namespace Mine
open PySem PySem.Calls PyProof.Rows

section
variable {M : Model} {A : Around} {E : Value → Shared → Prop} {s : Shared}

theorem newX_fresh {base h h' : Heap} {e : Addr} {cl : String} (x : NewX h h' e cl) (hk : base.StaysIn h) : base.get? e = none := by
  cases hq : base.get? e with
  | none => rfl
  | some o => have := hk e o hq; rw [x.new] at this; cases this

/-- the frame's entry is written for a new exception -/
theorem note_new {base h : Heap} {env : Env} {outer : List Env} {L e : Addr} {cl : String} {Q : Unit → Shared → Prop} (hb : Below A base (env :: outer) h) (hf : env.frame = some L) (hx : NewX h s.heap e cl)
    (hQ : ∀ h' a0, Heap.HeldW base (env :: outer) e (.type cl) a0 L h' → h.UpToSlots h' → Q () { s with heap := h' }) : wpAny M A (noteFrame (.ref e) env) Q E s := by
  obtain ⟨ob, vs, a0, he, hc, hd, h0, h1⟩ := hx.there
  unfold noteFrame
  simp only [hf]
  refine wpAny_bind (wpAny_field he hd h1 ?_)
  rw [if_neg (by decide)]
  refine wpAny_entryW hb.stack (hb.frames.of_keeps fun b o e _ => ⟨o, hx.keeps b o e, rfl⟩) hf he (fun b o e => hx.keeps b o (hb.stays b o e)) (newX_fresh hx hb.stays) hd (Array.getElem?_eq_some_iff.mp h1).1 h0 fun h' hn => ?_
  obtain ⟨k1, k2, k3, k4⟩ := hn
  exact hQ h' a0 ⟨k1, newX_fresh hx hb.stays, k2, by rw [← hc]; exact k3⟩ ((Heap.UpToSlots.of_keeps hx.keeps).trans k4)

/-- the flight is set to the frame where it stands already -/
theorem set_held {base : Heap} {l : List Env} {L e : Addr} {cls a0 : Value} {Q : Unit → Shared → Prop} (hh : Heap.HeldW base l e cls a0 L s.heap)
    (hQ : ∀ h', Heap.HeldW base l e cls a0 L h' → s.heap.UpToSlots h' → Q () { s with heap := h' }) : wpAny M A (setFlight (.ref e) (some L)) Q E s := by
  obtain ⟨f1, f2, f3, oe, vs, T, oT, ts, he, hcls, hd, h1, hnT, hTe, hT, hdT, h3⟩ := hh
  have other : ∀ b, b ≠ T → (s.heap.update T (Obj.mapFields (·.setIfInBounds 3 ((some L : Option Addr).elim Value.none fun f => rawInt f)))).get? b = s.heap.get? b := fun b hb => Heap.get?_update_other _ _ (Ne.symm hb)
  have nrec : ∀ b o, s.heap.get? b = some o → (∀ vs, o.data ≠ .fields vs) → b ≠ T := fun b o hb hn q => by
    rw [q, hT] at hb; injection hb with hb; subst hb; exact hn ts hdT
  have h3' : 3 < ts.size := (Array.getElem?_eq_some_iff.mp h3).1
  unfold setFlight
  refine wpAny_bind (wpAny_field he hd h1 ?_)
  rw [if_pos (show (Value.ref T != Value.none) = true from by simp)]
  refine wpAny_setField hT hdT h3' (hQ _ ⟨fun b o e => ?_, f2, f3.of_keeps fun b o e hn => ⟨o, (other b (nrec b o e hn)).trans e, rfl⟩, oe, vs, T, _, _, (other e (Ne.symm hTe)).trans he, hcls, hd, h1, hnT, hTe,
    Heap.get?_update_self _ hT (Obj.isFreed_of_fields (Obj.data_mapFields hdT _)), Obj.data_mapFields hdT _, by simp [h3']⟩ fun b o e hn => ⟨o.slots, (other b (nrec b o e hn)).trans e⟩)
  exact (other b fun q => by rw [q, hnT] at e; cases e).trans (f1 b o e)

/-- out of a loop, within the frame -/
theorem back_held {base : Heap} {env : Env} {outer : List Env} {L e : Addr} {cls a0 : Value} (hf : env.frame = some L) (hh : Heap.HeldW base (env :: outer) e cls a0 L s.heap)
    (hQ : ∀ h', Heap.HeldW base (env :: outer) e cls a0 L h' → s.heap.UpToSlots h' → E (.ref e) { s with heap := h' }) : cameBackBy M A env E (.ref e) s := by
  obtain ⟨f1, f2, f3, oe, vs, T, oT, ts, he, hcls, hd, h1, r⟩ := hh
  show wpAny M A (do
    if (← field (.ref e) 1) == .none then unsupported "frame.own-activation:exception-without-traceback"
    setFlight (.ref e) env.frame) _ _ _
  refine wpAny_bind (wpAny_field he hd h1 ?_)
  rw [if_neg (show ¬ ((Value.ref T == Value.none) = true) from by simp), hf]
  exact set_held ⟨f1, f2, f3, oe, vs, T, oT, ts, he, hcls, hd, h1, r⟩ hQ

theorem noted_back {base : Heap} {env : Env} {outer : List Env} {L : Addr} {cl : String} {s s' : Shared} {e : Value} (hb : Below A base (env :: outer) s.heap) (hf : env.frame = some L) (hx : RaisedAt base (env :: outer) cl s e s')
    (hE : ∀ e s', RaisedAt base (env :: outer) cl s e s' → E e s') : notedBy M A env (cameBackBy M A env E) e s' := by
  unfold notedBy
  cases hx with
  | new x =>
    refine note_new (s := { s with heap := _, toks := _ }) hb hf x fun h' a0 hh hu => ?_
    exact back_held (s := { s with heap := h', toks := _ }) hf hh fun h₂ hh₂ hu₂ => hE _ _ (.held rfl hf hh₂ (hu.trans hu₂))
  | held hfr hf' hh hu =>
    cases hfr
    rw [hf] at hf'; cases hf'
    refine wpAny_noteFrame_againW (s := { s with heap := _, toks := _ }) hf hh.2.2.2 ?_
    exact back_held (s := { s with heap := _, toks := _ }) hf hh fun h₂ hh₂ hu₂ => hE _ _ (.held rfl hf hh₂ (hu.trans hu₂))
  | flown x =>
    obtain ⟨h', tk, a0, rfl, hfl, hu⟩ := x
    refine wpAny_looks_onW (s := { s with heap := h', toks := tk }) hb.stack hf hfl fun h₁ hh hu₁ => ?_
    exact back_held (s := { s with heap := h₁, toks := tk }) hf hh fun h₂ hh₂ hu₂ => hE _ _ (.held rfl hf hh₂ ((hu.trans hu₁).trans hu₂))

/-- out of the frame -/
theorem leave_raised {base : Heap} {env : Env} {outer : List Env} {L : Addr} {cl : String} {s s' : Shared} {e : Value} {Q : Unit → Shared → Prop} (hb : Below A base (env :: outer) s.heap) (hf : env.frame = some L) (hx : RaisedAt base (env :: outer) cl s e s')
    (hQ : ∀ a s'', e = .ref a → Flown base outer cl s a s'' → Q () s'') : wpAny M A (leaving env e) Q E s' := by
  cases hx with
  | @new e h' tk x =>
    obtain ⟨ob, vs, a0, he, hc, hd, h0, h1⟩ := x.there
    refine wpAny_leaving_firstW (s := { s with heap := h', toks := tk }) hb.stack (hb.frames.of_keeps fun b o e _ => ⟨o, x.keeps b o e, rfl⟩) hf he (fun b o e => x.keeps b o (hb.stays b o e)) (newX_fresh x hb.stays) hd h1 h0 fun h₁ hl => ?_
    obtain ⟨k1, ⟨_, _, k2⟩, k3, k4⟩ := hl
    exact hQ _ _ rfl ⟨h₁, tk, a0, rfl, ⟨k1, newX_fresh x hb.stays, k2, by rw [← hc]; exact k3⟩, (Heap.UpToSlots.of_keeps x.keeps).trans k4⟩
  | @held e h' tk _ _ _ a0 hfr hf' hh hu =>
    cases hfr
    rw [hf] at hf'; cases hf'
    unfold leaving
    refine wpAny_bind (wpAny_noteFrame_againW (s := { s with heap := h', toks := tk }) hf hh.2.2.2 ?_)
    refine wpAny_landsW (s := { s with heap := h', toks := tk }) hh fun h₁ hfl hu₁ => ?_
    obtain ⟨k1, k2, ⟨_, _, k3⟩, k4⟩ := hfl
    exact hQ _ _ rfl ⟨h₁, tk, a0, rfl, ⟨k1, k2, k3, k4⟩, hu.trans hu₁⟩
  | flown x =>
    obtain ⟨h', tk, a0, rfl, hfl, hu⟩ := x
    refine wpAny_leaves_onW (s := { s with heap := h', toks := tk }) hb.stack hf hfl fun h₁ hfl₁ hu₁ => ?_
    exact hQ _ _ rfl ⟨h₁, tk, a0, rfl, hfl₁, hu.trans hu₁⟩
end

end Mine

namespace Mine
open PySem PySem.Calls PyProof.Rows

/-! my statements and the program's -/
noncomputable def toNames (c : Cx) : List Nat → List PT → List Expr
  | [], _ => []
  | i :: is, ts => .Name (nmAt c.names i) (hd ts).pos :: toNames c is ts.tail
noncomputable def inN (c : Cx) (i : Nat) : Bool := decide (i < c.names.length)
noncomputable def E.isComp : E → Bool
  | .comp .. => true
  | _ => false
noncomputable def E.isFresh : E → Bool
  | .comp .. => true
  | .list _ => true
  | .bin .Add _ _ => true
  | .bin .Mult _ _ => true
  | _ => false
noncomputable def E.unpackable : E → Bool
  | .call .. => true
  | .sub .. => true
  | .subv .. => true
  | _ => false

noncomputable def S.isFz : S → Bool
  | .freeze _ => true
  | _ => false

mutual
noncomputable def toS (c : Cx) : S → PT → Stmt
  | .assign i e, t => .Assign [.Name (nmAt c.names i) (t.at 0).pos] (toE c e (t.at 1)) t.pos
  | .assignO i e, t => .Assign [.Name (nmAt c.names i) (t.at 0).pos] (toE c e (t.at 1)) t.pos
  | .freeze _, t => t.st
  | .unpack is e, t => .Assign [.Tuple (toNames c is (t.at 0).cs) (t.at 0).n (t.at 0).pos] (toE c e (t.at 1)) t.pos
  | .setitem i idx e, t => .Assign [.Subscript (.Name (nmAt c.names i) ((t.at 0).at 0).pos) (toE c idx ((t.at 0).at 1)) (t.at 0).pos] (toE c e (t.at 1)) t.pos
  | .append i e, t => .Expr (.Call (.Attribute (.Name (nmAt c.names i) ((t.at 0).at 0).pos) ("append" : Str) (t.at 0).pos2) [toE c e ((t.at 0).at 1)] [] (t.at 0).pos) t.pos
  | .delitem i idx, t => .Delete [.Subscript (.Name (nmAt c.names i) ((t.at 0).at 0).pos) (toE c idx ((t.at 0).at 1)) (t.at 0).pos] t.pos
  | .ite u a b, t => .If (toT c u (t.at 0)) (toSs c a (t.at 1).cs) (toSs c b (t.at 2).cs) t.pos
  | .for1 x it body, t => .For (.Name (nmAt c.names x) (t.at 0).pos) (toE c it (t.at 1)) (toSs c body (t.at 2).cs) [] t.pos
  | .forT xs it body, t => .For (.Tuple (toNames c xs (t.at 0).cs) (t.at 0).n (t.at 0).pos) (toE c it (t.at 1)) (toSs c body (t.at 2).cs) [] t.pos
  | .whil u body, t => .While (toT c u (t.at 0)) (toSs c body (t.at 1).cs) [] t.pos
  | .ret e, t => .Return (some (toE c e (t.at 0))) t.pos
  | .raise cl, t => .Raise (some (.Call (.Name (Str.ofString cl) (t.at 0).pos2) [.Constant (.str (nmAt ((t.at 0).at 0).xs 0)) ((t.at 0).at 0).n ((t.at 0).at 0).pos] [] (t.at 0).pos)) none t.pos
  | .tryE i e cl j b, t => .Try [.Assign [.Name (nmAt c.names i) ((t.at 0).at 0).pos] (toE c e ((t.at 0).at 1)) (t.at 0).pos] [.ExceptHandler (some (.Name (Str.ofString cl) (t.at 1).pos2)) none
      [.Assign [.Name (nmAt c.names j) ((t.at 2).at 0).pos] (.Constant (.bool b) ((t.at 2).at 1).n ((t.at 2).at 1).pos) (t.at 2).pos] (t.at 1).pos] [] [] t.pos
  | .newdict i, t => .Assign [.Name (nmAt c.names i) (t.at 0).pos] (.Dict [] [] (t.at 1).pos) t.pos
  | .junk, t => t.st
noncomputable def toSs (c : Cx) : Ss → List PT → List Stmt
  | .nil, _ => []
  | .cons s ss, ts => if s.isFz then toSs c ss ts else toS c s (hd ts) :: toSs c ss ts.tail
end

mutual
noncomputable def okS (c : Cx) : S → PT → Bool
  | .assign i e, t => inN c i && okE c e (t.at 1)
  | .assignO i e, t => inN c i && e.isFresh && okE c e (t.at 1)
  | .freeze _, _ => false
  | .unpack is e, t => is.all (inN c) && e.unpackable && okE c e (t.at 1)
  | .setitem i idx e, t => nmOk c.names i c.varOk && !e.isComp && okE c idx ((t.at 0).at 1) && okE c e (t.at 1)
  | .append i e, t => nmOk c.names i c.varOk && okE c e ((t.at 0).at 1) && (t.at 0).pos2.endLine == (t.at 0).pos.line
  | .delitem i idx, t => nmOk c.names i c.varOk && okE c idx ((t.at 0).at 1)
  | .ite u a b, t => okT c u (t.at 0) && okSs c a (t.at 1).cs && okSs c b (t.at 2).cs
  | .for1 x it body, t => inN c x && okE c it (t.at 1) && okSs c body (t.at 2).cs
  | .forT xs it body, t => xs.all (inN c) && okE c it (t.at 1) && okSs c body (t.at 2).cs
  | .whil u body, t => okT c u (t.at 0) && okSs c body (t.at 1).cs
  | .ret e, t => okE c e (t.at 0)
  | .raise cl, _ => cl == "ValueError" && c.globOk (Str.ofString cl)
  | .tryE i e cl j _, t => inN c i && okE c e ((t.at 0).at 1) && !e.isComp && (cl == "ValueError" || cl == "IndexError") && c.globOk (Str.ofString cl) && inN c j
  | .newdict i, _ => inN c i
  | .junk, _ => true
noncomputable def okSs (c : Cx) : Ss → List PT → Bool
  | .nil, _ => true
  | .cons s ss, ts => if s.isFz then okSs c ss ts else okS c s (hd ts) && okSs c ss ts.tail
end
theorem zq_okS_0 (c : Cx) : ∀ i e t, okS c (.assign i e) (t) = (inN c i && okE c e (t.at 1)) := fun _ _ _ => rfl
theorem zq_okS_1 (c : Cx) : ∀ i e t, okS c (.assignO i e) (t) = (inN c i && e.isFresh && okE c e (t.at 1)) := fun _ _ _ => rfl
theorem zq_okS_2 (c : Cx) : ∀ z0_0 z1_0, okS c (.freeze z0_0) (z1_0) = (false) := fun _ _ => rfl
theorem zq_okS_3 (c : Cx) : ∀ is e t, okS c (.unpack is e) (t) = (is.all (inN c) && e.unpackable && okE c e (t.at 1)) := fun _ _ _ => rfl
theorem zq_okS_4 (c : Cx) : ∀ i idx e t, okS c (.setitem i idx e) (t) = (nmOk c.names i c.varOk && !e.isComp && okE c idx ((t.at 0).at 1) && okE c e (t.at 1)) := fun _ _ _ _ => rfl
theorem zq_okS_5 (c : Cx) : ∀ i e t, okS c (.append i e) (t) = (nmOk c.names i c.varOk && okE c e ((t.at 0).at 1) && (t.at 0).pos2.endLine == (t.at 0).pos.line) := fun _ _ _ => rfl
theorem zq_okS_6 (c : Cx) : ∀ i idx t, okS c (.delitem i idx) (t) = (nmOk c.names i c.varOk && okE c idx ((t.at 0).at 1)) := fun _ _ _ => rfl
theorem zq_okS_7 (c : Cx) : ∀ u a b t, okS c (.ite u a b) (t) = (okT c u (t.at 0) && okSs c a (t.at 1).cs && okSs c b (t.at 2).cs) := fun _ _ _ _ => rfl
theorem zq_okS_8 (c : Cx) : ∀ x it body t, okS c (.for1 x it body) (t) = (inN c x && okE c it (t.at 1) && okSs c body (t.at 2).cs) := fun _ _ _ _ => rfl
theorem zq_okS_9 (c : Cx) : ∀ xs it body t, okS c (.forT xs it body) (t) = (xs.all (inN c) && okE c it (t.at 1) && okSs c body (t.at 2).cs) := fun _ _ _ _ => rfl
theorem zq_okS_10 (c : Cx) : ∀ u body t, okS c (.whil u body) (t) = (okT c u (t.at 0) && okSs c body (t.at 1).cs) := fun _ _ _ => rfl
theorem zq_okS_11 (c : Cx) : ∀ e t, okS c (.ret e) (t) = (okE c e (t.at 0)) := fun _ _ => rfl
theorem zq_okS_12 (c : Cx) : ∀ cl z1_0, okS c (.raise cl) (z1_0) = (cl == "ValueError" && c.globOk (Str.ofString cl)) := fun _ _ => rfl
theorem zq_okS_13 (c : Cx) : ∀ z0_0 i e cl j t, okS c (.tryE i e cl j z0_0) (t) = (inN c i && okE c e ((t.at 0).at 1) && !e.isComp && (cl == "ValueError" || cl == "IndexError") && c.globOk (Str.ofString cl) && inN c j) := fun _ _ _ _ _ _ => rfl
theorem zq_okS_14 (c : Cx) : ∀ i z1_0, okS c (.newdict i) (z1_0) = (inN c i) := fun _ _ => rfl
theorem zq_okS_15 (c : Cx) : ∀ z1_0, okS c (.junk) (z1_0) = (true) := fun _ => rfl
theorem zq_okSs_0 (c : Cx) : ∀ z1_0, okSs c (.nil) (z1_0) = (true) := fun _ => rfl
theorem zq_okSs_1 (c : Cx) : ∀ s ss ts, okSs c (.cons s ss) (ts) = (if s.isFz then okSs c ss ts else okS c s (hd ts) && okSs c ss ts.tail) := fun _ _ _ => rfl
theorem zq_toSs_0 (c : Cx) : ∀ z1_0, toSs c (.nil) (z1_0) = ([]) := fun _ => rfl
theorem zq_toSs_1 (c : Cx) : ∀ s ss ts, toSs c (.cons s ss) (ts) = (if s.isFz then toSs c ss ts else toS c s (hd ts) :: toSs c ss ts.tail) := fun _ _ _ => rfl

theorem in_ok {c : Cx} {i : Nat} (h : inN c i = true) : c.names[i]? = some (nmAt c.names i) := by
  simp only [inN, decide_eq_true_eq] at h
  simp [nmAt, h]

noncomputable def PostS (f : Fm) (K : KM) (Q : Out → List Slot → Prop) (fl : Flow) (s' : Shared) : Prop :=
  ∃ out ρ' K', Q out ρ' ∧ Rel f K' ρ' s' ∧ K.le K' ∧ (match out with | .next => fl = .next | .ret d => ∃ v, fl = .ret v ∧ VR K' d v)
noncomputable def ExcS (f : Fm) (X : String → List Slot → Prop) (E : Value → Shared → Prop) : Prop := ∀ cl ρ, X cl ρ → ∀ K s e s', Rel f K ρ s → RaisedAt f.base (f.env :: f.fr) cl s e s' → E e s'

theorem excLoop {f : Fm} (ok : f.Ok) {X : String → List Slot → Prop} {E : Value → Shared → Prop} (hx : ExcS f X E) : ExcS f X (notedBy f.M f.A f.env (cameBackBy f.M f.A f.env E)) := fun cl ρ h K s e s' r hr =>
  let ⟨m, cm, r₁⟩ := r; noted_back (rel_below ok r₁) rfl hr fun e s' hr' => hx cl ρ h K s e s' r hr'

noncomputable def SOk (st : S) : Prop := ∀ (f : Fm), f.Ok → ∀ X E, ExcS f X E → ∀ t, okS f.c st t = true → ∀ K ρ s Q, Rel f K ρ s → wpS (fnAt f.g f.n f.top) st X ρ Q → wpAny f.M f.A (exec (toS f.c st t) f.env) (PostS f K Q) E s
noncomputable def SsOk (st : Ss) : Prop := ∀ (f : Fm), f.Ok → ∀ X E, ExcS f X E → ∀ ts, okSs f.c st ts = true → ∀ K ρ s Q, Rel f K ρ s → wpSs (fnAt f.g f.n f.top) st X ρ Q → wpAny f.M f.A (execs (toSs f.c st ts) f.env) (PostS f K Q) E s

theorem cgOk {f : Fm} (ok : f.Ok) {X : String → List Slot → Prop} {E : Value → Shared → Prop} (hx : ExcS f X E) (ρ : List Slot) : (f.cg (fun c => X c ρ) E ρ).Ok :=
  ⟨ok.room, fun cl h K s e s' hi hr => hx cl ρ h K s e s' hi hr⟩

/-- an expression in the frame -/
theorem run_e {f : Fm} (ok : f.Ok) {X : String → List Slot → Prop} {E : Value → Shared → Prop} (hx : ExcS f X E) {e : Mine.E} {t : PT} (hc : okE f.c e t = true) {K : KM} {ρ : List Slot} {s : Shared} {Q : D → Prop} (r : Rel f K ρ s)
    (hw : wpE (fun c => X c ρ) (fnAt f.g f.n f.top) ρ e [] Q) : wpAny f.M f.A (eval (toE f.c e t) f.env) (PostE s K Q) E s :=
  allE e (f.cg (fun c => X c ρ) E ρ) (cgOk ok hx ρ) t hc [] K s Q (rel_rd ok r) hw
theorem run_t {f : Fm} (ok : f.Ok) {X : String → List Slot → Prop} {E : Value → Shared → Prop} (hx : ExcS f X E) {u : T} {t : PT} (hc : okT f.c u t = true) {K : KM} {ρ : List Slot} {s : Shared} {Q : Bool → Prop} (r : Rel f K ρ s)
    (hw : wpT (fun c => X c ρ) (fnAt f.g f.n f.top) ρ u [] Q) : wpAny f.M f.A (isTrue (toT f.c u t) f.env (eval (toT f.c u t) f.env)) (fun b s' => Q b ∧ ∃ K', Post s K s' K') E s :=
  allT u (f.cg (fun c => X c ρ) E ρ) (cgOk ok hx ρ) t hc [] K s Q (rel_rd ok r) hw

theorem so_junk : SOk .junk := fun f ok X E hx t hc K ρ s Q r hw => False.elim hw
theorem so_freeze (i : Nat) : SOk (.freeze i) := fun f ok X E hx t hc K ρ s Q r hw => nomatch hc

theorem so_ret (e : E) : SOk (.ret e) := by
  intro f ok X E hx t hc K ρ s Q r hw
  simp only [zq_wpS_0, zq_wpS_1, zq_wpS_2, zq_wpS_3, zq_wpS_4, zq_wpS_5, zq_wpS_6, zq_wpS_7, zq_wpS_8, zq_wpS_9, zq_wpS_10, zq_wpS_11, zq_wpS_12, zq_wpS_13, zq_wpS_14, zq_wpS_15] at hw
  refine wpAny_Return_some (wpAny_mono (run_e ok hx hc r hw) (fun v s₁ hp => ?_) fun _ _ x => x)
  obtain ⟨d, K₁, hq, p₁, r₁⟩ := hp
  exact ⟨_, ρ, K₁, hq, r.post p₁, p₁.le, v, rfl, r₁⟩

theorem so_ite {u : T} {a b : Ss} (ha : SsOk a) (hb : SsOk b) : SOk (.ite u a b) := by
  intro f ok X E hx t hc K ρ s Q r hw
  simp only [zq_okS_0, zq_okS_1, zq_okS_2, zq_okS_3, zq_okS_4, zq_okS_5, zq_okS_6, zq_okS_7, zq_okS_8, zq_okS_9, zq_okS_10, zq_okS_11, zq_okS_12, zq_okS_13, zq_okS_14, zq_okS_15, Bool.and_eq_true] at hc
  obtain ⟨⟨h1, h2⟩, h3⟩ := hc
  simp only [zq_wpS_0, zq_wpS_1, zq_wpS_2, zq_wpS_3, zq_wpS_4, zq_wpS_5, zq_wpS_6, zq_wpS_7, zq_wpS_8, zq_wpS_9, zq_wpS_10, zq_wpS_11, zq_wpS_12, zq_wpS_13, zq_wpS_14, zq_wpS_15] at hw
  refine wpAny_If (wpAny_mono (run_t ok hx h1 r hw) (fun c s₁ hp => ?_) fun _ _ x => x)
  obtain ⟨hq, K₁, p₁⟩ := hp
  have fin : ∀ {ss : Ss} {ps : List PT}, SsOk ss → okSs f.c ss ps = true → wpSs (fnAt f.g f.n f.top) ss X ρ Q → wpAny f.M f.A (execs (toSs f.c ss ps) f.env) (PostS f K Q) E s₁ := by
    intro ss ps hss hcs hws
    refine wpAny_mono (hss f ok X E hx ps hcs K₁ ρ s₁ Q (r.post p₁) hws) (fun fl s₂ hp => ?_) fun _ _ x => x
    obtain ⟨out, ρ', K₂, q, r₂, le, ho⟩ := hp
    exact ⟨out, ρ', K₂, q, r₂, p₁.le.trans le, ho⟩
  cases c with
  | true => rw [if_pos rfl] at hq ⊢; exact fin ha h2 hq
  | false => rw [if_neg (by simp)] at hq ⊢; exact fin hb h3 hq

theorem ss_nil : SsOk .nil := by
  intro f ok X E hx ps hc K ρ s Q r hw
  simp only [zq_wpSs_0, zq_wpSs_1] at hw
  exact wpAny_execs_nil ⟨.next, ρ, K, hw, r, KM.le_refl _, rfl⟩

/-- a list of the frame's own is given away -/
theorem rel_freeze {f : Fm} (ok : f.Ok) {K : KM} {ρ : List Slot} {s : Shared} {i : Nat} {d : D} (r : Rel f K ρ s) (h : ρ[i]? = some (.own d)) : ∃ K', Rel f K' (ρ.set i (.frz d)) s ∧ K.le K' := by
  obtain ⟨m, cm, r⟩ := r
  have hlt : i < ρ.length := (List.getElem?_eq_some_iff.mp h).1
  have hx := List.getElem?_eq_getElem (r.len ▸ hlt)
  obtain ⟨a, e, hK, h0, hL, hc, ho⟩ := r.slots i _ _ hx h
  obtain ⟨o, ha⟩ := ho.there
  have hle : K.le (K.add a o) := KM.le_add hK
  refine ⟨K.add a o, ⟨m, cm, r.st, r.keep, fun b ob eb => ?_, r.kle.trans hle, fun b ob eb => ?_, ?_, fun n c hl => ?_, (by rw [List.length_set]; exact r.len), r.ns, r.cl, fun j y sl h1 h2 => ?_, fun j l y z b d₁ d₂ hjl h1 h2 h3 h4 h5 h6 => ?_⟩, hle⟩
  · unfold KM.add at eb
    by_cases hb : b = a
    · subst hb; simp at eb; subst eb; exact ha
    · rw [if_neg hb] at eb; exact r.kin b ob eb
  · unfold KM.add at eb
    by_cases hb : b = a
    · subst hb; exact .inr h0
    · rw [if_neg hb] at eb; exact r.knew b ob eb
  · unfold KM.add; rw [if_neg (Ne.symm hL)]; exact r.kL
  · unfold KM.add; rw [if_neg (Ne.symm (hc n c hl))]; exact r.kC n c hl
  · by_cases hj : j = i
    · subst hj
      rw [List.getElem?_set_self hlt] at h2
      cases h2
      rw [hx] at h1; cases h1
      refine ⟨_, e, ?_⟩
      cases d with
      | lst ds => obtain ⟨vs, n, e', hr⟩ := ho; rw [e'] at ha; cases ha; exact .lst (KM.add_self _ _ _) (hr.mono hle)
      | dct g n => obtain ⟨hs, o', e', hr, hc⟩ := ho; rw [e'] at ha; cases ha; exact .dct (KM.add_self _ _ _) hr hc hs
      | _ => exact ho.elim
    · rw [List.getElem?_set_ne (Ne.symm hj)] at h2
      have q := r.slots j y sl h1 h2
      cases sl with
      | unb => trivial
      | frz d' => obtain ⟨v, e, hr⟩ := q; exact ⟨v, e, hr.mono hle⟩
      | own d' =>
        obtain ⟨a', e', hK', h0', hL', hc', ho'⟩ := q
        have hne : a' ≠ a := fun q => r.sep j i y _ a d' d hj h1 hx h2 h (q ▸ e') e
        exact ⟨a', e', by unfold KM.add; rw [if_neg hne]; exact hK', h0', hL', hc', ho'.keeps hle fun _ _ x => x⟩
  · have key : ∀ (j : Nat) d', (ρ.set i (.frz d))[j]? = some (.own d') → ρ[j]? = some (.own d') := fun j d' hj => by
      by_cases hji : j = i
      · subst hji; rw [List.getElem?_set_self hlt] at hj; cases hj
      · rwa [List.getElem?_set_ne (Ne.symm hji)] at hj
    exact r.sep j l y z b d₁ d₂ hjl h1 h2 (key j d₁ h3) (key l d₂ h4) h5 h6

theorem ss_cons {st : S} {ss : Ss} (hs : SOk st) (hss : SsOk ss) : SsOk (.cons st ss) := by
  intro f ok X E hx ps hc K ρ s Q r hw
  simp only [zq_wpSs_0, zq_wpSs_1] at hw
  by_cases hf : ∃ i, st = .freeze i
  · obtain ⟨i, rfl⟩ := hf
    have hc : okSs f.c ss ps = true := hc
    show wpAny f.M f.A (execs (toSs f.c ss ps) f.env) _ _ _
    simp only [zq_wpS_0, zq_wpS_1, zq_wpS_2, zq_wpS_3, zq_wpS_4, zq_wpS_5, zq_wpS_6, zq_wpS_7, zq_wpS_8, zq_wpS_9, zq_wpS_10, zq_wpS_11, zq_wpS_12, zq_wpS_13, zq_wpS_14, zq_wpS_15] at hw
    split at hw
    · rename_i d hd
      obtain ⟨K', r', hle⟩ := rel_freeze ok r hd
      refine wpAny_mono (hss f ok X E hx ps hc K' _ s Q r' hw) (fun fl s₂ hp => ?_) fun _ _ x => x
      obtain ⟨out, ρ', K₂, q, r₂, le, ho⟩ := hp
      exact ⟨out, ρ', K₂, q, r₂, hle.trans le, ho⟩
    · exact hss f ok X E hx ps hc K ρ s Q r hw
    · exact hw.elim
  · have hz : st.isFz = false := by cases st <;> first | rfl | exact absurd ⟨_, rfl⟩ hf
    simp only [zq_okSs_0, zq_okSs_1, hz, Bool.false_eq_true, if_false, Bool.and_eq_true] at hc
    obtain ⟨h1, h2⟩ := hc
    simp only [zq_toSs_0, zq_toSs_1, hz, Bool.false_eq_true, if_false]
    refine wpAny_execs_cons (wpAny_mono (hs f ok X E hx _ h1 K ρ s _ r hw) (fun fl s₁ hp => ?_) fun _ _ x => x)
    obtain ⟨out, ρ', K₁, q, r₁, le, ho⟩ := hp
    cases out with
    | next =>
      cases ho
      refine wpAny_mono (hss f ok X E hx _ h2 K₁ ρ' s₁ Q r₁ q) (fun fl s₂ hp => ?_) fun _ _ x => x
      obtain ⟨out, ρ', K₂, q, r₂, le', ho⟩ := hp
      exact ⟨out, ρ', K₂, q, r₂, le.trans le', ho⟩
    | ret d =>
      obtain ⟨v, rfl, hv⟩ := ho
      exact ⟨.ret d, ρ', K₁, q, r₁, le, v, rfl, hv⟩

theorem noComp {c : Cx} {e : Mine.E} {t : PT} (hn : e.isComp = false) (u : Option Expr) (ln : Nat) (env : Env) : swapsWith (toE c e t) u ln env = pure false := by
  cases e <;> first | rfl | (simp [E.isComp] at hn)

/-- the value of an expression goes to a name -/
theorem store_frz {f : Fm} (ok : f.Ok) {K K₁ : KM} {ρ : List Slot} {s₁ : Shared} {i : Nat} {x : Str} {v : Value} {d : D} {A : Around} {E : Value → Shared → Prop} {Q : Out → List Slot → Prop} (r : Rel f K₁ ρ s₁) (hx : f.names[i]? = some x) (hr : VR K₁ d v) (hle : K.le K₁)
    (hq : Q .next (ρ.set i (.frz d))) : wpAny f.M A (storeName f.env x v) (fun _ s' => PostS f K Q .next s') E s₁ := by
  obtain ⟨m, cm, r⟩ := r
  exact rel_store ok r hx (sl := .frz d) ⟨v, rfl, hr⟩ (fun a d' _ h => nomatch h) fun h' tk m' cm' r' _ _ => ⟨.next, _, K₁, hq, ⟨m', cm', r'⟩, hle, rfl⟩

end Mine

namespace Mine
open PySem PySem.Calls PyProof.Rows

theorem swap_at {K K' : KM} {I b : Addr} {o' : Obj} (hkk : ∀ b, b ≠ I → K' b = K b) (hv : ∀ o, K I = some o → NoData o) (e : K b = some o') (hc : o'.cls = .type "list" ∨ o'.cls = .type "tuple" ∨ o'.cls = .type "dict") : K' b = some o' := by
  by_cases hb : b = I
  · subst hb
    have hn := hv _ e
    rcases hc with hc | hc | hc
    · exact absurd hc hn.1
    · exact absurd hc hn.2.1
    · exact absurd hc hn.2.2
  · rw [hkk b hb]; exact e
mutual
theorem VR.swap {K K' : KM} {I : Addr} (hkk : ∀ b, b ≠ I → K' b = K b) (hv : ∀ o, K I = some o → NoData o) : ∀ {d : D} {v : Value}, VR K d v → VR K' d v
  | _, _, .none => .none
  | _, _, .bool b => .bool b
  | _, _, .int i t => .int i t
  | _, _, .typ n => .typ n
  | _, _, .tup e t r => .tup (swap_at hkk hv e (.inr (.inl t.1))) t (VRs.swap hkk hv r)
  | _, _, .lst e r => .lst (swap_at hkk hv e (.inl rfl)) (VRs.swap hkk hv r)
  | _, _, .dct e r c a => .dct (swap_at hkk hv e (.inr (.inr c))) r c a
theorem VRs.swap {K K' : KM} {I : Addr} (hkk : ∀ b, b ≠ I → K' b = K b) (hv : ∀ o, K I = some o → NoData o) : ∀ {ds : List D} {vs : List Value}, VRs K ds vs → VRs K' ds vs
  | _, _, .nil => .nil
  | _, _, .cons x r => .cons (VR.swap hkk hv x) (VRs.swap hkk hv r)
end
theorem OwnObj.swap {K K' : KM} {I a : Addr} {h : Heap} {d : D} (hkk : ∀ b, b ≠ I → K' b = K b) (hv : ∀ o, K I = some o → NoData o) (ho : OwnObj K h a d) : OwnObj K' h a d := by
  cases d with
  | lst ds => obtain ⟨vs, n, e, r⟩ := ho; exact ⟨_, _, e, r.swap hkk hv⟩
  | dct f n => exact ho
  | _ => exact ho.elim

/-- an object that is no datum of the frame's turns -/
theorem RelM.change {f : Fm} (ok : f.Ok) {K K' : KM} {ρ : List Slot} {s : Shared} {m cm : Str → Option Value} (r : RelM f K ρ s m cm) {I : Addr} {h' : Heap} {tk : Nat} (hkk : ∀ b, b ≠ I → K' b = K b) (hI : ∀ o', K' I = some o' → h'.get? I = some o')
    (hv : ∀ o, K I = some o → NoData o) (hk : ∀ b o, b ≠ I → s.heap.get? b = some o → h'.get? b = some o) (hs0 : f.s₀.heap.get? I = none) (hL : I ≠ f.L) (hC : ∀ n c, f.cells.lookup n = some c → I ≠ c)
    (hown : ∀ (j : Nat) y d, f.names[j]? = some y → ρ[j]? = some (.own d) → f.val m cm y ≠ some (.ref I)) : RelM f K' ρ { s with heap := h', toks := tk } m cm := by
  have hk0 : f.K₀ I = none := by
    cases e : f.K₀ I with
    | none => rfl
    | some o => rw [ok.k0 _ _ e] at hs0; cases hs0
  refine ⟨?_, fun b o e => hk b o (by intro q; rw [q, hs0] at e; cases e) (r.keep b o e), fun a o e => ?_, fun a o e => ?_, fun a o e => ?_, ?_, fun n c hl => ?_, r.len, r.ns.at' fun o e => hk _ o (Ne.symm hL) e, ⟨fun n c hl => ?_, r.cl.apart, r.cl.above⟩, fun j y sl h1 h2 => ?_, r.sep⟩
  · obtain ⟨h₁, tk₁, e⟩ := r.st
    exact ⟨h', tk, by rw [e]⟩
  · by_cases ha : a = I
    · subst ha; exact hI o e
    · rw [hkk a ha] at e; exact hk a o ha (r.kin a o e)
  · have ha : a ≠ I := by intro q; rw [q, hk0] at e; cases e
    rw [hkk a ha]; exact r.kle a o e
  · by_cases ha : a = I
    · subst ha; exact .inr hs0
    · rw [hkk a ha] at e; exact r.knew a o e
  · rw [hkk _ (Ne.symm hL)]; exact r.kL
  · rw [hkk _ (Ne.symm (hC n c hl))]; exact r.kC n c hl
  · obtain ⟨o, ho, hd⟩ := r.cl.cell n c hl
    exact ⟨o, hk c o (Ne.symm (hC n c hl)) ho, hd⟩
  · have q := r.slots j y sl h1 h2
    cases sl with
    | unb => trivial
    | frz d => obtain ⟨v, e, hr⟩ := q; exact ⟨v, e, hr.swap hkk hv⟩
    | own d =>
      obtain ⟨a, e, hK, h0, haL, hac, ho⟩ := q
      have ha : a ≠ I := fun q => hown j y d h1 h2 (q ▸ e)
      exact ⟨a, e, by rw [hkk a ha]; exact hK, h0, haL, hac, (ho.swap hkk hv).at' fun o e => hk a o ha e⟩

/-- new lists, not yet given away -/
noncomputable def PostF (s : Shared) (K : KM) (Q : List D → Prop) (v : Value) (s' : Shared) : Prop :=
  ∃ ds K' a vs c, v = .ref a ∧ Q ds ∧ Post s K s' K' ∧ s.heap.get? a = none ∧ K' a = none ∧ s'.heap.get? a = some (listObj vs c) ∧ VRs K' ds vs
noncomputable abbrev asLst (Q : List D → Prop) (d : D) : Prop := match d with | .lst ds => Q ds | _ => False
noncomputable def FOk (e : Mine.E) : Prop := ∀ (k : Cg), k.Ok → ∀ t, okE k.c e t = true → ∀ cs K s Q, Rd k K cs s → k.wpE e cs (asLst Q) → wpAny k.M k.A (eval (toE k.c e t) k.env) (PostF s K Q) k.E s

theorem new_of {s s₁ : Shared} {K K₁ : KM} (p : Post s K s₁ K₁) : s.heap.get? s₁.heap.objs.size = none := by
  cases e2 : s.heap.get? s₁.heap.objs.size with
  | none => rfl
  | some o => have := keeps_get p.keeps _ _ e2; rw [fresh_size] at this; cases this

theorem fresh_new {s s₁ : Shared} {K K₁ : KM} {Q : List D → Prop} {ds : List D} {vs : List Value} (p : Post s K s₁ K₁) (r : VRs K₁ ds vs) (hq : Q ds) : PostF s K Q (.ref s₁.heap.objs.size) { s₁ with heap := s₁.heap.push (listObj vs 0) } :=
  ⟨ds, K₁, _, vs, 0, rfl, hq, p.trans (Post.keep p.kin ⟨_, _, rfl, fun _ _ e => Heap.get?_push_of_some _ e⟩), new_of p, none_of_new p.kin (fresh_size _), Heap.get?_push_size _ rfl, r⟩

theorem f_list (es : Es) : FOk (.list es) := by
  intro k ok t h cs K s Q rd hw
  simp only [Cg.wpE, zq_wpE_0, zq_wpE_1, zq_wpE_2, zq_wpE_3, zq_wpE_4, zq_wpE_5, zq_wpE_6, zq_wpE_7, zq_wpE_8, zq_wpE_9, zq_wpE_10, zq_wpE_11, zq_wpE_12, zq_wpE_13, zq_wpE_14, zq_wpE_15, zq_wpE_16, zq_wpE_17, zq_wpE_18, zq_wpE_19, zq_wpE_20, zq_wpE_21] at hw
  refine List_ (wpAny_mono (allEs es k ok _ t.pos h cs K s _ rd hw) (fun vs s₁ hp => ?_) fun _ _ x => x)
  obtain ⟨ds, K₁, hq, p₁, r₁⟩ := hp
  have hl := r₁.length
  exact wpAny_newObj_type (fresh_new p₁ r₁ hq.2) (by show vs.toArray.size ≤ sizeLine; rw [List.size_toArray]; unfold sizeLine; (first | lia | omega))

theorem f_bin (op : Operator) (l r : Mine.E) : FOk (.bin op l r) := by
  intro k ok t h cs K s Q rd hw
  simp only [zq_okE_0, zq_okE_1, zq_okE_2, zq_okE_3, zq_okE_4, zq_okE_5, zq_okE_6, zq_okE_7, zq_okE_8, zq_okE_9, zq_okE_10, zq_okE_11, zq_okE_12, zq_okE_13, zq_okE_14, zq_okE_15, zq_okE_16, zq_okE_17, zq_okE_18, zq_okE_19, zq_okE_20, zq_okE_21, Bool.and_eq_true] at h
  obtain ⟨h1, h2⟩ := h
  refine wpAny_BinOp (wpAny_mono (allE l k ok _ h1 cs K s _ rd hw) (fun a s₁ hp => ?_) fun _ _ x => x)
  obtain ⟨d₁, K₁, hq, p₁, r₁⟩ := hp
  refine wpAny_mono (allE r k ok _ h2 cs K₁ s₁ _ (rd.post p₁) hq) (fun b s₂ hp => ?_) fun _ _ x => x
  obtain ⟨d₂, K₂, hq, p₂, r₂⟩ := hp
  have r₁' := r₁.mono p₂.le
  have p := p₁.trans p₂
  unfold binW at hq
  split at hq <;> try exact hq.elim
  · exact hq.2.elim
  · exact hq.2.2.elim
  · exact hq.2.elim
  · exact hq.2.2.2.elim
  · cases r₁' with
    | lst e1 q1 =>
      cases r₂ with
      | lst e2 q2 =>
        have := q1.length
        have := q2.length
        exact add_lists (p.kin _ _ e1) (p.kin _ _ e2) (by (first | lia | omega)) (fresh_new p (q1.append q2) hq.2)
  · cases r₁' with
    | lst e1 q1 =>
      cases r₂
      have := q1.length
      exact mul_lists (p.kin _ _ e1) hq.1 (by rw [← this]; exact hq.2.1) (fresh_new p (q1.rep _) hq.2.2)

end Mine

namespace Mine
open PySem PySem.Calls PyProof.Rows

noncomputable abbrev cElt (c : Cx) (elt : Mine.E) (xs : List Str) (t : PT) : Expr := toE { c with comp := some (t.sc, xs) } elt (t.at 0)
noncomputable abbrev cIfs (c : Cx) (cond : T) (xs : List Str) (t : PT) : List Expr := if cond.isTT = true then [] else [toT { c with comp := some (t.sc, xs) } cond (t.at 3)]
/-- what is known of a comprehension by its look -/
theorem comp_parts {k : Cg} {elt it : Mine.E} {cond : T} {xs : List Str} {t : PT} {K : KM} {cs : List D} {s : Shared} (rd : Rd k K cs s)
    (h : okE k.c (.comp elt xs it cond) t = true) :
    CompChk k elt xs it cond (cElt k.c elt xs t) (toTarget xs (t.at 1)) (toE k.c it (t.at 2)) (cIfs k.c cond xs t) t.sc ∧ t.sc.kind = .function ∧ (∀ y ∈ t.sc.names, y.2 = .local → t.sc.names.lookup y.1 = some .local) ∧
      ∃ cl, closureFor t.sc k.env = pure cl ∧ ∀ y ∈ t.sc.names, y.2 = NameKind.free → cl.lookup y.1 = k.env.cells.lookup y.1 := by
  simp only [zq_okE_0, zq_okE_1, zq_okE_2, zq_okE_3, zq_okE_4, zq_okE_5, zq_okE_6, zq_okE_7, zq_okE_8, zq_okE_9, zq_okE_10, zq_okE_11, zq_okE_12, zq_okE_13, zq_okE_14, zq_okE_15, zq_okE_16, zq_okE_17, zq_okE_18, zq_okE_19, zq_okE_20, zq_okE_21, Bool.and_eq_true, Option.isNone_iff_eq_none] at h
  obtain ⟨⟨⟨⟨⟨h1, h2⟩, h3⟩, h4⟩, h5⟩, h6⟩ := h
  have hsc := h2
  simp only [compScopeOk, Bool.and_eq_true, beq_iff_eq] at hsc
  refine ⟨⟨h1, h2, ⟨h3, _, rfl⟩, ⟨_, rfl, h4⟩, ⟨_, rfl, h5⟩, ⟨_, rfl, h6⟩⟩, hsc.1.1, fun y hy hl => ?_, rd.comp t.sc h1 fun y hy hf => ?_⟩
  · have := List.all_eq_true.mp hsc.1.2 y hy
    simp only [Bool.and_eq_true, Bool.or_eq_true, bne_iff_ne, ne_eq, beq_iff_eq] at this
    exact this.1.2.resolve_left (fun x => x hl)
  · have := List.all_eq_true.mp hsc.1.2 y hy
    simp only [Bool.and_eq_true, Bool.or_eq_true, bne_iff_ne, ne_eq, beq_iff_eq] at this
    exact this.2.resolve_left (fun x => x hf)

theorem f_comp (elt it : Mine.E) (cond : T) (xs : List Str) : FOk (.comp elt xs it cond) := by
  intro k ok t h cs K s Q rd hw
  obtain ⟨hc, hkind, hnames, cl, hcl, hcl'⟩ := comp_parts rd h
  show wpAny _ _ (eval (.ListComp (cElt k.c elt xs t) [⟨toTarget xs (t.at 1), toE k.c it (t.at 2), cIfs k.c cond xs t, 0⟩] t.sc t.pos) _) _ _ _
  rw [eval_ListComp]
  refine wpAny_comprehension_free (use := none) (gs := []) rfl fold_plain hcl hkind hnames
    (comp_run (RR := fun acc C => compPost k.M k.A k.E none (PostF s K Q) acc C) ok (allE elt) (allT cond) (allI it) hc hcl' rd hw ?_)
  intro Da C s' K' ds vs c m hq p hD hC hDC hKD hKC hn hg hr
  refine ⟨m, hn, fun h' hs' => ?_⟩
  have hg' : h'.get? Da = some (listObj vs c) := hs'.extBut _ _ hDC hg
  have hs0 : ∀ b o, s.heap.get? b = some o → h'.get? b = some o := fun b o e =>
    hs'.extBut b o (by intro hb; rw [hb, hC] at e; cases e) (keeps_get p.keeps b o e)
  refine ⟨ds, K', Da, vs, c, rfl, hq, ⟨?_, p.le, fun a o e => ?_, p.new⟩, hD, hKD, hg', hr⟩
  · obtain ⟨h₁, tk₁, e₁, _⟩ := p.keeps
    exact ⟨h', tk₁, by rw [e₁], hs0⟩
  · exact hs'.extBut a o (by intro hb; rw [hb, hKC] at e; cases e) (p.kin a o e)

theorem fresh_ok {e : Mine.E} (h : e.isFresh = true) : FOk e := by
  cases e <;> first | exact f_comp _ _ _ _ | exact f_list _ | exact f_bin _ _ _ | (simp [E.isFresh] at h)

/-- a new list goes to a name -/
theorem store_own {f : Fm} (ok : f.Ok) {K K₁ : KM} {ρ : List Slot} {s s₁ : Shared} {i : Nat} {x : Str} {a : Addr} {ds : List D} {vs : List Value} {c : Nat} {E : Value → Shared → Prop} {Q : Unit → Shared → Prop} {m cm : Str → Option Value} (r : RelM f K ρ s m cm) (p : Post s K s₁ K₁) (hx : f.names[i]? = some x)
    (h0 : s.heap.get? a = none) (hK : K₁ a = none) (hg : s₁.heap.get? a = some (listObj vs c)) (hr : VRs K₁ ds vs)
    (h : ∀ h' tk m' cm', RelM f K₁ (ρ.set i (.own (.lst ds))) { s₁ with heap := h', toks := tk } m' cm' → (∀ y, f.val m' cm' y = if y = x then some (.ref a) else f.val m cm y) → (∀ b o, b ≠ f.L → (∀ n c, f.cells.lookup n = some c → b ≠ c) → s₁.heap.get? b = some o → h'.get? b = some o) → Q () { s₁ with heap := h', toks := tk }) :
    wpAny f.M f.A (storeName f.env x (.ref a)) Q E s₁ := by
  have hs0 : f.s₀.heap.get? a = none := by
    cases e : f.s₀.heap.get? a with
    | none => rfl
    | some o => rw [r.keep _ _ e] at h0; cases h0
  have hL : a ≠ f.L := by
    intro q; obtain ⟨o, _, _, ho, _⟩ := r.ns; rw [← q, h0] at ho; cases ho
  have hC : ∀ n c, f.cells.lookup n = some c → a ≠ c := by
    intro n c hl q; obtain ⟨o, ho, _⟩ := r.cl.cell n c hl; rw [← q, h0] at ho; cases ho
  refine rel_store ok (r.post p) hx (sl := .own (.lst ds)) ⟨a, rfl, hK, hs0, hL, hC, vs, c, hg, hr⟩ (fun a' d' ha _ j y d'' hj h1 h2 hv => ?_) h
  cases ha
  obtain ⟨a'', e, _, _, _, _, ho⟩ := r.slots j y _ h1 h2
  rw [hv] at e; cases e
  obtain ⟨o, ho⟩ := ho.there
  rw [h0] at ho; cases ho

theorem swap_bool {pelt tgt pit : Expr} {ifs : List Expr} {sc : Scope} {pos : Pos} (x : Str) (xp : Pos) (ln : Nat) (env : Env) : ∃ b, swapsWith (.ListComp pelt [⟨tgt, pit, ifs, 0⟩] sc pos) (some (.Name x xp)) ln env = pure b := ⟨_, rfl⟩

/-- a comprehension whose list goes to a name at once -/
theorem comp_used {f : Fm} (ok : f.Ok) {X : String → List Slot → Prop} {E : Value → Shared → Prop} (hx : ExcS f X E) {elt it : Mine.E} {cond : T} {xs : List Str} {t : PT} {spos xp : Pos} {i : Nat} {x : Str} {K : KM} {ρ : List Slot} {s : Shared} {Q : List D → Prop}
    {QF : Flow → Shared → Prop} (hsw : swapsWith (.ListComp (cElt f.c elt xs t) [⟨toTarget xs (t.at 1), toE f.c it (t.at 2), cIfs f.c cond xs t, 0⟩] t.sc t.pos) (some (.Name x xp)) spos.line f.env = pure true) (hc : okE f.c (.comp elt xs it cond) t = true) (hi : f.names[i]? = some x) (r : Rel f K ρ s)
    (hw : wpE (fun c => X c ρ) (fnAt f.g f.n f.top) ρ (.comp elt xs it cond) [] (asLst Q))
    (hQ : ∀ ds K' s', Q ds → Rel f K' (ρ.set i (.own (.lst ds))) s' → K.le K' → QF .next s') :
    wpAny f.M f.A (exec (.Assign [.Name x xp] (.ListComp (cElt f.c elt xs t) [⟨toTarget xs (t.at 1), toE f.c it (t.at 2), cIfs f.c cond xs t, 0⟩] t.sc t.pos) spos) f.env) QF E s := by
  have rd := rel_rd (X := fun c => X c ρ) (E := E) ok r
  obtain ⟨hcc, hkind, hnames, cl, hcl, hcl'⟩ := comp_parts rd hc
  rw [exec_Assign_Name_used _ _ _ _ hsw]
  refine wpAny_bind (wpAny_standAt (wpAny_bind ?_))
  show wpAny _ _ (do let _ ← comprehension (.ListComp (cElt f.c elt xs t) [⟨toTarget xs (t.at 1), toE f.c it (t.at 2), cIfs f.c cond xs t, 0⟩] t.sc t.pos) t.sc f.env _ (newList []) false (eval (toE f.c it (t.at 2)) f.env) (some (assign (.Name x xp) f.env))) _ _ s
  refine wpAny_bind (wpAny_mono (wpAny_comprehension_free (Q := fun _ s' => QF .next s') (use := some (assign (.Name x xp) f.env)) (gs := []) rfl fold_plain hcl hkind hnames
    (comp_run (RR := fun acc C => compPost f.M f.A E (some (assign (.Name x xp) f.env)) (fun _ s' => QF .next s') acc C) (cgOk ok hx ρ) (allE elt) (allT cond) (allI it) hcc hcl' rd hw ?_)) (fun _ s' hq => wpAny_pure (wpAny_pure hq)) fun _ _ z => z)
  intro Da C s' K' ds vs c m hq p hD hC hDC hKD hKC hn hg hr
  show wpAny f.M f.A (assign (.Name x xp) f.env (.ref Da)) _ E s'
  obtain ⟨m₀, cm₀, r₀⟩ := r
  refine wpAny_assign_Name (store_own ok r₀ p hi hD hKD hg hr fun h' tk m' cm' r' hval hk => ?_)
  have hCL : C ≠ f.L := by intro q; obtain ⟨o, _, _, ho, _⟩ := r₀.ns; rw [← q, hC] at ho; cases ho
  have hCC : ∀ n c, f.cells.lookup n = some c → C ≠ c := by intro n c hl q; obtain ⟨o, ho, _⟩ := r₀.cl.cell n c hl; rw [← q, hC] at ho; cases ho
  have hC0 : f.s₀.heap.get? C = none := by
    cases e : f.s₀.heap.get? C with
    | none => rfl
    | some o => rw [r₀.keep _ _ e] at hC; cases hC
  refine ⟨m, hn.at' fun o e => hk C o hCL hCC e, fun h'' hs'' => hQ ds K' _ hq ⟨m', cm', ?_⟩ p.le⟩
  refine r'.change ok (I := C) (fun b hb => rfl) (fun o' e => by rw [hKC] at e; cases e) (fun o e => by rw [hKC] at e; cases e) (fun b o hb e => hs''.extBut b o hb e) hC0 hCL hCC fun j y d h1 h2 hv => ?_
  rw [hval] at hv
  by_cases hy : y = x
  · rw [if_pos hy] at hv; cases hv; exact hDC rfl
  · rw [if_neg hy] at hv
    have hji : j ≠ i := by intro q; subst q; rw [hi] at h1; cases h1; exact hy rfl
    rw [List.getElem?_set_ne (Ne.symm hji)] at h2
    obtain ⟨a, e, hKa, _, _, _, ho⟩ := r₀.slots j y _ h1 h2
    rw [hv] at e; cases e
    obtain ⟨o, ho⟩ := ho.there
    rw [hC] at ho; cases ho

theorem so_assignO (i : Nat) (e : Mine.E) : SOk (.assignO i e) := by
  intro f ok X E hx t hc K ρ s Q r hw
  simp only [zq_okS_0, zq_okS_1, zq_okS_2, zq_okS_3, zq_okS_4, zq_okS_5, zq_okS_6, zq_okS_7, zq_okS_8, zq_okS_9, zq_okS_10, zq_okS_11, zq_okS_12, zq_okS_13, zq_okS_14, zq_okS_15, Bool.and_eq_true] at hc
  obtain ⟨⟨hin, h2⟩, h3⟩ := hc
  have h1 := in_ok hin
  simp only [zq_wpS_0, zq_wpS_1, zq_wpS_2, zq_wpS_3, zq_wpS_4, zq_wpS_5, zq_wpS_6, zq_wpS_7, zq_wpS_8, zq_wpS_9, zq_wpS_10, zq_wpS_11, zq_wpS_12, zq_wpS_13, zq_wpS_14, zq_wpS_15] at hw
  have plain : swapsWith (toE f.c e (t.at 1)) (some (.Name (nmAt f.c.names i) (t.at 0).pos)) t.pos.line f.env = pure false → wpAny f.M f.A (exec (.Assign [.Name (nmAt f.c.names i) (t.at 0).pos] (toE f.c e (t.at 1)) t.pos) f.env) (PostS f K Q) E s := by
    intro hsw
    refine wpAny_Assign_Name (wpAny_mono (fresh_ok h2 (f.cg (fun c => X c ρ) E ρ) (cgOk ok hx ρ) _ h3 [] K s (fun ds => Q .next (ρ.set i (.own (.lst ds)))) (rel_rd ok r) hw) (fun u s₁ hp => ?_) fun _ _ z => z) hsw
    obtain ⟨ds, K', a, vs, c, rfl, hq, p, h0, hK, hg, hr⟩ := hp
    obtain ⟨m, cm, r⟩ := r
    exact store_own ok r p h1 h0 hK hg hr fun h' tk m' cm' r' _ _ => ⟨.next, _, K', hq, ⟨m', cm', r'⟩, p.le, rfl⟩
  cases hcomp : e.isComp with
  | false => exact plain (noComp hcomp _ _ _)
  | true =>
    cases e <;> simp only [Mine.E.isComp, Bool.false_eq_true] at hcomp
    rename_i elt xs it cond
    obtain ⟨b, hb⟩ := swap_bool (pelt := cElt f.c elt xs (t.at 1)) (tgt := toTarget xs ((t.at 1).at 1)) (pit := toE f.c it ((t.at 1).at 2)) (ifs := cIfs f.c cond xs (t.at 1)) (sc := (t.at 1).sc) (pos := (t.at 1).pos) (nmAt f.c.names i) (t.at 0).pos t.pos.line f.env
    cases b with
    | false => exact plain hb
    | true =>
      exact comp_used (Q := fun ds => Q .next (ρ.set i (.own (.lst ds)))) ok hx hb h3 h1 r hw fun ds K' s' hq r' hle => ⟨.next, _, K', hq, r', hle, rfl⟩

theorem wpE_comp_lst {X : String → Prop} {fn : Fn} {ρ : List Slot} {elt it : Mine.E} {cond : T} {xs : List Str} {cs : List D} {Q : D → Prop} (h : wpE X fn ρ (.comp elt xs it cond) cs Q) : wpE X fn ρ (.comp elt xs it cond) cs (asLst fun ds => Q (.lst ds)) := h

theorem so_assign (i : Nat) (e : Mine.E) : SOk (.assign i e) := by
  intro f ok X E hx t hc K ρ s Q r hw
  simp only [zq_okS_0, zq_okS_1, zq_okS_2, zq_okS_3, zq_okS_4, zq_okS_5, zq_okS_6, zq_okS_7, zq_okS_8, zq_okS_9, zq_okS_10, zq_okS_11, zq_okS_12, zq_okS_13, zq_okS_14, zq_okS_15, Bool.and_eq_true] at hc
  obtain ⟨hin, h3⟩ := hc
  have h1 := in_ok hin
  simp only [zq_wpS_0, zq_wpS_1, zq_wpS_2, zq_wpS_3, zq_wpS_4, zq_wpS_5, zq_wpS_6, zq_wpS_7, zq_wpS_8, zq_wpS_9, zq_wpS_10, zq_wpS_11, zq_wpS_12, zq_wpS_13, zq_wpS_14, zq_wpS_15] at hw
  have plain : swapsWith (toE f.c e (t.at 1)) (some (.Name (nmAt f.c.names i) (t.at 0).pos)) t.pos.line f.env = pure false → wpAny f.M f.A (exec (.Assign [.Name (nmAt f.c.names i) (t.at 0).pos] (toE f.c e (t.at 1)) t.pos) f.env) (PostS f K Q) E s := by
    intro hsw
    refine wpAny_Assign_Name (wpAny_mono (run_e ok hx h3 r hw) (fun u s₁ hp => ?_) fun _ _ z => z) hsw
    obtain ⟨d, K₁, hq, p, hr⟩ := hp
    exact store_frz ok (r.post p) h1 hr p.le hq
  cases hcomp : e.isComp with
  | false => exact plain (noComp hcomp _ _ _)
  | true =>
    cases e <;> simp only [Mine.E.isComp, Bool.false_eq_true] at hcomp
    rename_i elt xs it cond
    obtain ⟨b, hb⟩ := swap_bool (pelt := cElt f.c elt xs (t.at 1)) (tgt := toTarget xs ((t.at 1).at 1)) (pit := toE f.c it ((t.at 1).at 2)) (ifs := cIfs f.c cond xs (t.at 1)) (sc := (t.at 1).sc) (pos := (t.at 1).pos) (nmAt f.c.names i) (t.at 0).pos t.pos.line f.env
    cases b with
    | false => exact plain hb
    | true =>
      refine comp_used (Q := fun ds => Q .next (ρ.set i (.frz (.lst ds)))) ok hx hb h3 h1 r (wpE_comp_lst hw) fun ds K' s' hq r' hle => ?_
      have hlt : i < ρ.length := by
        obtain ⟨m, cm, r⟩ := r
        have := (List.getElem?_eq_some_iff.mp h1).1
        rw [r.len]; exact this
      obtain ⟨K₂, r₂, hle₂⟩ := rel_freeze ok r' (i := i) (d := .lst ds) (by rw [List.getElem?_set_self hlt])
      rw [List.set_set] at r₂
      exact ⟨.next, _, K₂, hq, r₂, hle.trans hle₂, rfl⟩

end Mine

namespace Mine
open PySem PySem.Calls PyProof.Rows

/-- a list of the frame's own turns -/
theorem rel_mut {f : Fm} (ok : f.Ok) {K : KM} {ρ : List Slot} {s : Shared} {m cm : Str → Option Value} (r : RelM f K ρ s m cm) {i : Nat} {x : Str} {d d' : D} {a : Addr} {h' : Heap} {tk : Nat} (hi : f.names[i]? = some x) (hd : ρ[i]? = some (.own d)) (hv : f.val m cm x = some (.ref a))
    (ho : OwnObj K h' a d') (hs : ∀ b o, b ≠ a → s.heap.get? b = some o → h'.get? b = some o) : RelM f K (ρ.set i (.own d')) { s with heap := h', toks := tk } m cm := by
  obtain ⟨a', e, hK, h0, hL, hC, ho'⟩ := r.slots i x _ hi hd
  rw [hv] at e; cases e
  have hlt : i < ρ.length := (List.getElem?_eq_some_iff.mp hd).1
  refine ⟨?_, fun b o e => hs b o (by intro q; rw [q, h0] at e; cases e) (r.keep b o e), fun b o e => hs b o (by intro q; rw [q, hK] at e; cases e) (r.kin b o e), r.kle, r.knew, r.kL, r.kC, (by rw [List.length_set]; exact r.len), r.ns.at' fun o e => hs _ o (Ne.symm hL) e,
    ⟨fun n c hl => ?_, r.cl.apart, r.cl.above⟩, fun j y sl h1 h2 => ?_, fun j l y z b d₁ d₂ hjl h1 h2 h3 h4 h5 h6 => ?_⟩
  · obtain ⟨h₁, tk₁, e⟩ := r.st
    exact ⟨h', tk, by rw [e]⟩
  · obtain ⟨o, ho, hd⟩ := r.cl.cell n c hl
    exact ⟨o, hs c o (Ne.symm (hC n c hl)) ho, hd⟩
  · by_cases hj : j = i
    · subst hj
      rw [List.getElem?_set_self hlt] at h2
      cases h2
      rw [hi] at h1; cases h1
      exact ⟨a, hv, hK, h0, hL, hC, ho⟩
    · rw [List.getElem?_set_ne (Ne.symm hj)] at h2
      have q := r.slots j y sl h1 h2
      cases sl with
      | unb => trivial
      | frz d => exact q
      | own d₁ =>
        obtain ⟨a', e', hK', h0', hL', hC', ho₁⟩ := q
        have hne : a' ≠ a := fun q => r.sep j i y x a d₁ d hj h1 hi h2 hd (q ▸ e') hv
        exact ⟨a', e', hK', h0', hL', hC', ho₁.at' fun o e => hs a' o hne e⟩
  · have key : ∀ (j : Nat) d₁, (ρ.set i (.own d'))[j]? = some (.own d₁) → ∃ d₂, ρ[j]? = some (.own d₂) := fun j d₁ hj => by
      by_cases hji : j = i
      · subst hji; exact ⟨d, hd⟩
      · rw [List.getElem?_set_ne (Ne.symm hji)] at hj; exact ⟨d₁, hj⟩
    obtain ⟨_, k1⟩ := key j d₁ h3
    obtain ⟨_, k2⟩ := key l d₂ h4
    exact r.sep j l y z b _ _ hjl h1 h2 k1 k2 h5 h6

theorem own_at {f : Fm} {K : KM} {ρ : List Slot} {s : Shared} {m cm : Str → Option Value} (r : RelM f K ρ s m cm) {i : Nat} {x : Str} {ds : List D} (hi : f.names[i]? = some x) (hd : ρ[i]? = some (.own (.lst ds))) :
    ∃ a vs n, f.val m cm x = some (.ref a) ∧ s.heap.get? a = some (listObj vs n) ∧ VRs K ds vs := by
  obtain ⟨a, e, _, _, _, _, vs, n, hg, hr⟩ := r.slots i x _ hi hd
  exact ⟨a, vs, n, e, hg, hr⟩

theorem rel_name {f : Fm} (ok : f.Ok) {K : KM} {ρ : List Slot} {s : Shared} {m cm : Str → Option Value} (r : RelM f K ρ s m cm) {i : Nat} {x : Str} {pos : Pos} {v : Value} {E : Value → Shared → Prop} {Q : Value → Shared → Prop} (hi : f.names[i]? = some x) (hx : f.c.varOk x = true) (hv : f.val m cm x = some v) (h : Q v s) :
    wpAny f.M f.A (eval (.Name x pos) f.env) Q E s :=
  rd_name (k := f.cg (fun _ => False) E ρ) (rel_rd ok ⟨m, cm, r⟩) (rel_var ok r (List.mem_of_getElem? hi) hv) (varOk_debug hx) h

theorem so_append (i : Nat) (e : Mine.E) : SOk (.append i e) := by
  intro f ok X E hx t hc K ρ s Q r hw
  simp only [zq_okS_0, zq_okS_1, zq_okS_2, zq_okS_3, zq_okS_4, zq_okS_5, zq_okS_6, zq_okS_7, zq_okS_8, zq_okS_9, zq_okS_10, zq_okS_11, zq_okS_12, zq_okS_13, zq_okS_14, zq_okS_15, Bool.and_eq_true, beq_iff_eq] at hc
  obtain ⟨⟨hn, h3⟩, h5⟩ := hc
  obtain ⟨h1, h2⟩ := nm_ok hn
  have h4 : notStar (toE f.c e ((t.at 0).at 1)) = true := star_toE _ _ _
  simp only [zq_wpS_0, zq_wpS_1, zq_wpS_2, zq_wpS_3, zq_wpS_4, zq_wpS_5, zq_wpS_6, zq_wpS_7, zq_wpS_8, zq_wpS_9, zq_wpS_10, zq_wpS_11, zq_wpS_12, zq_wpS_13, zq_wpS_14, zq_wpS_15] at hw
  refine wpAny_Expr (wpAny_Call_append rfl ?_ (by simpa using h5) (by rw [star_cons h4]; rfl) ?_) (by show (f.scope.kind == ScopeKind.module && _) = false; rw [ok.kind]; rfl) rfl
  · rw [star_cons h4]; rfl
  · split at hw
    · rename_i ds hd
      obtain ⟨m, cm, r⟩ := r
      obtain ⟨a, vs, n, hv, hg, hr⟩ := own_at r h1 hd
      refine rel_name ok r h1 h2 hv ⟨a, vs.toArray, rfl, ⟨_, n, hg, rfl, rfl, rfl⟩, ?_⟩
      refine wpAny_mono (run_e ok hx h3 ⟨m, cm, r⟩ hw) (fun u s₁ hp => ?_) fun _ _ z => z
      obtain ⟨d, K₁, hq, p, hu⟩ := hp
      have r₁ := r.post p
      have hg₁ := keeps_get p.keeps _ _ hg
      have hl := hr.length
      refine wpAny_list_append_plain (items := vs.toArray) ⟨n, hg₁⟩ (fun h' hpl hs => ?_) (by simp [sizeLine]; (first | lia | omega))
      obtain ⟨n', hpl⟩ := hpl
      refine ⟨.next, _, K₁, hq.2, ⟨m, cm, rel_mut ok r₁ h1 hd hv (d' := .lst (ds ++ [d])) ⟨vs ++ [u], n', ?_, (hr.mono p.le).append (.cons hu .nil)⟩ fun b o hb e => hs.extBut b o hb e⟩, p.le, rfl⟩
      rw [hpl]; simp [listObj]
    · exact hw.elim

section items
variable {prog : Program} {w : World} {A : Around} {E : Value → Shared → Prop} {s : Shared}
theorem set_neg {l : Addr} {items : Array Value} {n : Nat} {k : Int} {t : Tok} {v : Value} {Q : Unit → Shared → Prop} (ho : s.heap.get? l = some { cls := .type "list", data := .seq items n }) (h0 : k < 0) (h1 : -(items.size : Int) ≤ k) (hfit : -(2 ^ 63) ≤ k)
    (hQ : Q () { s with heap := s.heap.update l (Obj.mapSeq (·.setIfInBounds (k + items.size).toNat v)) }) : wpAny (model prog w) A (setItem (.ref l) (.int k t) v) Q E s := by
  have hl : s.heap.IsList l items := ⟨_, ho, rfl, _, rfl⟩
  unfold setItem
  try with_reducible refine wpAny_holding ?_
  first | refine wpAny_bind (wpAny_pure ?_) | skip
  refine wpAny_bind (wpAny_sequenceKey hl.typeIs (by decide) ?_)
  refine wpAny_bind (wpAny_callSpecial?_slot (name := Str.ofString "__setitem__") hl.typeIs slot_list_setitem
    (wpAny_call_entry slot_list_setitem hl.typeIs entry_list_setitem ?_ (args_list_setitem _ _ _)))
  show wpAny _ _ (Builtin.List.listSubscript? (.int k t) >>= _) _ _ s
  refine wpAny_bind (wpAny_listSubscript_int (fitsIndex_neg h0 hfit) ?_)
  clear hfit
  have hidx := seqIndex_neg h0 h1
  generalize hj' : (k + items.size).toNat = j' at *
  obtain ⟨j, rfl⟩ : ∃ j : Nat, k = Int.negSucc j := by
    cases k with
    | ofNat n => exact absurd h0 (Int.not_lt.mpr (Int.ofNat_nonneg n))
    | negSucc n => exact ⟨n, rfl⟩
  have hlt : j' < items.size := by (first | lia | omega)
  show wpAny _ _ ((Builtin.List.listItems (.ref l) >>= fun xs => pure ((seqIndex? (Int.negSucc j) xs.size).bind fun i => xs[i]?.map (i, ·))) >>= _) _ _ s
  refine wpAny_bind (wpAny_bind ?_)
  show wpAny _ _ (seqItems? (.ref l) >>= _) _ _ s
  refine wpAny_bind (wpAny_seqItems ho rfl (wpAny_pure (wpAny_pure ?_)))
  rw [hidx]
  simp only [Option.bind_some, Array.getElem?_eq_getElem hlt, Option.map_some]
  show wpAny _ _ (setSeqItemAt l j' v >>= _) _ _ s
  refine wpAny_bind (wpAny_setSeqItemAt ho rfl ?_)
  first
    | exact wpAny_bind (wpAny_pure (wpAny_pure ⟨.none, rfl, wpAny_pure hQ⟩))
    | exact wpAny_pure ⟨.none, rfl, wpAny_pure hQ⟩

/-- the same, counted from the front -/
theorem set_pos {l : Addr} {items : Array Value} {n : Nat} {k : Int} {t : Tok} {v : Value} {Q : Unit → Shared → Prop} (ho : s.heap.get? l = some { cls := .type "list", data := .seq items n }) (h0 : 0 ≤ k) (h1 : k < items.size) (hfit : k < 2 ^ 63)
    (hQ : Q () { s with heap := s.heap.update l (Obj.mapSeq (·.setIfInBounds k.toNat v)) }) : wpAny (model prog w) A (setItem (.ref l) (.int k t) v) Q E s := by
  have hl : s.heap.IsList l items := ⟨_, ho, rfl, _, rfl⟩
  have hlt : k.toNat < items.size := by (first | lia | omega)
  unfold setItem
  try with_reducible refine wpAny_holding ?_
  first | refine wpAny_bind (wpAny_pure ?_) | skip
  refine wpAny_bind (wpAny_sequenceKey hl.typeIs (by decide) ?_)
  refine wpAny_bind (wpAny_callSpecial?_slot (name := Str.ofString "__setitem__") hl.typeIs slot_list_setitem
    (wpAny_call_entry slot_list_setitem hl.typeIs entry_list_setitem ?_ (args_list_setitem _ _ _)))
  show wpAny _ _ (Builtin.List.listSubscript? (.int k t) >>= _) _ _ s
  refine wpAny_bind (wpAny_listSubscript_int (fitsIndex_of h0 hfit) ?_)
  clear hfit h1
  generalize hj : k.toNat = j at *
  obtain rfl : k = (j : Int) := by (first | lia | omega)
  show wpAny _ _ ((seqItemAt l j >>= fun r => pure (r.map (j, ·))) >>= _) _ _ s
  refine wpAny_bind (wpAny_bind (wpAny_seqItemAt ho rfl (wpAny_pure ?_)))
  simp only [Array.getElem?_eq_getElem hlt, Option.map_some]
  show wpAny _ _ (setSeqItemAt l j v >>= _) _ _ s
  refine wpAny_bind (wpAny_setSeqItemAt ho rfl ?_)
  first
    | exact wpAny_pure ⟨.none, rfl, wpAny_pure hQ⟩
    | exact wpAny_bind (wpAny_pure (wpAny_pure ⟨.none, rfl, wpAny_pure hQ⟩))

theorem upd_get {h : Heap} {a : Addr} {vs : List Value} {n j : Nat} {v : Value} (ho : h.get? a = some (listObj vs n)) : (h.update a (Obj.mapSeq (·.setIfInBounds j v))).get? a = some (listObj (vs.set j v) n) := by
  have e : Obj.mapSeq (·.setIfInBounds j v) (listObj vs n) = listObj (vs.set j v) n := by
    simp [Obj.mapSeq, listObj]
  rw [Heap.get?_update_self _ ho (by rw [e]; rfl), e]
end items

theorem val_map (k : Int) (v : Value) : ∀ (kvs : List (Int × Value)) (x : Int), valueAt (kvs.map fun kv => if kv.1 = k then (kv.1, v) else kv) x = if x = k then (valueAt kvs k).map (fun _ => v) else valueAt kvs x
  | [], x => by simp [valueAt]
  | p :: r, x => by
    have ih := val_map k v r x
    unfold valueAt at ih ⊢
    simp only [List.map_cons, List.find?_cons]
    by_cases hp : p.1 = k
    · by_cases hx : p.1 = x
      · have : x = k := hx.symm.trans hp
        simp [hp, this]
      · have : ¬ x = k := fun e => hx (hp.trans e.symm)
        simp [hp, this, Ne.symm this] at ih ⊢
        exact ih
    · by_cases hx : p.1 = x
      · have : ¬ x = k := fun e => hp (hx.trans e)
        simp [hp, hx, this]
      · simp [hp, hx] at ih ⊢
        exact ih
theorem val_stored (kvs : List (Int × Value)) (k : Int) (v : Value) (x : Int) : valueAt (stored kvs k v) x = if x = k then some v else valueAt kvs x := by
  unfold stored
  split
  · rename_i h
    rw [val_map]
    split
    · have : (valueAt kvs k).isSome = true := by
        obtain ⟨p, hp, e⟩ := List.any_eq_true.mp h
        unfold valueAt
        rw [Option.isSome_map, List.find?_isSome]
        exact ⟨p, hp, e⟩
      obtain ⟨u, hu⟩ := Option.isSome_iff_exists.mp this
      rw [hu]; rfl
    · rfl
  · rename_i h
    unfold valueAt
    rw [List.find?_append]
    by_cases hx : x = k
    · subst hx
      have : kvs.find? (fun kv => kv.1 = x) = none := by
        rw [List.find?_eq_none]
        intro p hp e
        exact h (List.any_eq_true.mpr ⟨p, hp, e⟩)
      simp [this]
    · simp [hx, Ne.symm hx]
theorem pairs_any {p p' : Program} {w w' : World} {es : List DictEntry} {kvs : List (Int × Value)} (h : Pairs (intKind p w) es kvs) : Pairs (intKind p' w') es kvs := by
  induction h with
  | nil => exact .nil
  | cons a b _ ih => exact .cons a b ih
theorem dict_any {p : Program} {w : World} {o : Obj} {kvs : List (Int × Value)} (h : o.IsDictOf (intKind p w) kvs) (p' : Program) (w' : World) : o.IsDictOf (intKind p' w') kvs :=
  let ⟨es, ep, a, b, c, d, e⟩ := h; ⟨es, ep, a, b, c, pairs_any d, e⟩

theorem so_setitem (i : Nat) (idx e : Mine.E) : SOk (.setitem i idx e) := by
  intro f ok X E hx t hc K ρ s Q r hw
  simp only [zq_okS_0, zq_okS_1, zq_okS_2, zq_okS_3, zq_okS_4, zq_okS_5, zq_okS_6, zq_okS_7, zq_okS_8, zq_okS_9, zq_okS_10, zq_okS_11, zq_okS_12, zq_okS_13, zq_okS_14, zq_okS_15, Bool.and_eq_true, Bool.not_eq_true'] at hc
  obtain ⟨⟨⟨hn, h3⟩, h4⟩, h5⟩ := hc
  obtain ⟨h1, h2⟩ := nm_ok hn
  simp only [zq_wpS_0, zq_wpS_1, zq_wpS_2, zq_wpS_3, zq_wpS_4, zq_wpS_5, zq_wpS_6, zq_wpS_7, zq_wpS_8, zq_wpS_9, zq_wpS_10, zq_wpS_11, zq_wpS_12, zq_wpS_13, zq_wpS_14, zq_wpS_15] at hw
  split at hw
  · rename_i ds hd
    refine wpAny_Assign_Subscript (wpAny_mono (run_e ok hx h5 r hw) (fun u s₁ hp => ?_) fun _ _ z => z) (noComp h3 _ _ _)
    obtain ⟨d, K₁, hq, p₁, hu⟩ := hp
    obtain ⟨m, cm, r⟩ := r
    have r₁ := r.post p₁
    obtain ⟨a, vs, n, hv, hg, hr⟩ := own_at r₁ h1 hd
    refine rel_name ok r₁ h1 h2 hv ?_
    refine wpAny_mono (run_e ok hx h4 ⟨m, cm, r₁⟩ hq) (fun iv s₂ hp => ?_) fun _ _ z => z
    obtain ⟨d₂, K₂, hq, p₂, hi⟩ := hp
    have r₂ := r₁.post p₂
    have hg₂ := keeps_get p₂.keeps _ _ hg
    have hr₂ := hr.mono p₂.le
    have hu₂ := hu.mono p₂.le
    have hlen := hr.length
    cases hi with
    | int k t =>
      obtain ⟨hsm, hq⟩ := hq
      unfold small at hsm
      have fin : ∀ (j : Nat) ds', ds' = ds.set j d → Q .next (ρ.set i (.own (.lst ds'))) → PostS f K Q .next { s₂ with heap := s₂.heap.update a (Obj.mapSeq (·.setIfInBounds j u)) } := by
        rintro j ds' rfl hq
        exact ⟨.next, _, K₂, hq, ⟨m, cm, rel_mut ok r₂ h1 hd hv (d' := .lst (ds.set j d)) ⟨vs.set j u, n, upd_get hg₂, hr₂.set' hu₂ j⟩ fun b o hb e => (Heap.SameBut.update (a := a) (h := s₂.heap) ..).extBut b o hb e⟩, p₁.le.trans p₂.le, rfl⟩
      unfold setAt at hq
      by_cases hk : 0 ≤ k ∧ k < ds.length
      · rw [if_pos hk] at hq
        exact set_pos (items := vs.toArray) (n := n) hg₂ hk.1 (by simp; (first | lia | omega)) (by (first | lia | omega)) (fin _ _ rfl hq)
      · rw [if_neg hk] at hq
        by_cases hk' : k < 0 ∧ 0 ≤ k + ds.length
        · rw [if_pos hk'] at hq
          refine set_neg (items := vs.toArray) (n := n) hg₂ hk'.1 (by simp; (first | lia | omega)) hsm.1 ?_
          rw [List.size_toArray, ← hlen]
          exact fin _ _ rfl hq
        · rw [if_neg hk'] at hq; exact hq.elim
    | _ => exact hq.elim
  · rename_i g n hd
    refine wpAny_Assign_Subscript (wpAny_mono (run_e ok hx h5 r hw) (fun u s₁ hp => ?_) fun _ _ z => z) (noComp h3 _ _ _)
    obtain ⟨d, K₁, hq, p₁, hu⟩ := hp
    obtain ⟨m, cm, r⟩ := r
    have r₁ := r.post p₁
    obtain ⟨a, hv, _, _, _, _, hsm, o, hg, hdo, hcl⟩ := r₁.slots i _ _ h1 hd
    refine rel_name ok r₁ h1 h2 hv ?_
    refine wpAny_mono (run_e ok hx h4 ⟨m, cm, r₁⟩ hq) (fun iv s₂ hp => ?_) fun _ _ z => z
    obtain ⟨d₂, K₂, hq, p₂, hi⟩ := hp
    split at hq
    · rename_i x y _
      cases hi
      cases hu
      rename_i tx ty
      obtain ⟨kvs, hall, hlen, hval⟩ := hdo
      refine wpAny_setItem_pairs (knd := intKind f.g.prog f.g.w) (k := x) (by simp [intKind, Value.isInt]) (Heap.dictOf_iff.mpr ⟨_, keeps_get p₂.keeps _ _ hg, hall _ _⟩) (fun h' hd' hs' => ?_) (by simp [sizeLine]; (first | lia | omega))
      obtain ⟨o', ho', hk'⟩ := Heap.dictOf_iff.mp hd'
      exact ⟨.next, _, K₂, hq.2, ⟨m, cm, rel_mut ok (r₁.post p₂) h1 hd hv ⟨hsm, o', ho', ⟨_, dict_any hk', by have := stored_length_le kvs x (.int y ty); (first | lia | omega), fun z => by rw [val_stored]; by_cases hz : z = x <;> simp only [hz, if_true, if_false] <;> first | exact ⟨_, rfl⟩ | exact hval z⟩, by obtain ⟨_, _, e, _⟩ := hk'; exact e.1⟩ fun b o hb e => hs'.extBut b o hb e⟩, p₁.le.trans p₂.le, rfl⟩
    · exact hq.elim
  · exact hw.elim

theorem so_newdict (i : Nat) : SOk (.newdict i) := by
  intro f ok X E hx t hc K ρ s Q r hw
  have h1 := in_ok hc
  simp only [zq_wpS_0, zq_wpS_1, zq_wpS_2, zq_wpS_3, zq_wpS_4, zq_wpS_5, zq_wpS_6, zq_wpS_7, zq_wpS_8, zq_wpS_9, zq_wpS_10, zq_wpS_11, zq_wpS_12, zq_wpS_13, zq_wpS_14, zq_wpS_15] at hw
  obtain ⟨m, cm, r⟩ := r
  refine wpAny_Assign_Name (wpAny_Dict_empty ?_) rfl
  have hk : ∀ b o, s.heap.get? b = some o → (s.heap.push { cls := .type "dict", data := .dict #[] }).get? b = some o := fun b o e => Heap.get?_push_of_some _ e
  have r₁ : RelM f K ρ { s with heap := s.heap.push { cls := .type "dict", data := .dict #[] } } m cm := r.post (Post.keep r.kin ⟨_, _, rfl, hk⟩)
  have h0 : s.heap.get? s.heap.objs.size = none := fresh_size _
  have hs0 : f.s₀.heap.get? s.heap.objs.size = none := by
    cases e : f.s₀.heap.get? s.heap.objs.size with
    | none => rfl
    | some o => rw [r.keep _ _ e] at h0; cases h0
  have hL : s.heap.objs.size ≠ f.L := by
    intro q; obtain ⟨o, _, _, ho, _⟩ := r.ns; rw [← q, h0] at ho; cases ho
  have hC : ∀ n c, f.cells.lookup n = some c → s.heap.objs.size ≠ c := by
    intro n c hl q; obtain ⟨o, ho, _⟩ := r.cl.cell n c hl; rw [← q, h0] at ho; cases ho
  have hsm : (s.heap.objs.size == sysModules) = false := by
    obtain ⟨mc, ⟨o, _, _, ho, _⟩, _⟩ := (ok.gok.keeps r.keep).top.nolimit
    have := Heap.lt_size ho
    exact beq_eq_false_iff_ne.mpr fun q => by rw [q] at this; exact absurd this (by decide)
  refine rel_store ok r₁ h1 (sl := .own (.dct (fun _ => none) 0)) ⟨_, rfl, none_of_new r.kin h0, hs0, hL, hC, hsm, _, Heap.get?_push_size _ rfl, ⟨[], fun p w => ⟨#[], 0, ⟨rfl, rfl, rfl⟩, rfl, fun e he => by simp at he, .nil, List.nodup_nil⟩, Nat.le_refl _, fun _ => rfl⟩, rfl⟩
    (fun a' d' ha _ j y d'' hj h1 h2 hv => ?_) fun h' tk m' cm' r' _ _ => ⟨.next, _, K, hw, ⟨m', cm', r'⟩, KM.le_refl _, rfl⟩
  cases ha
  obtain ⟨a'', e, _, _, _, _, ho⟩ := r.slots j y _ h1 h2
  rw [hv] at e; cases e
  obtain ⟨o, ho⟩ := ho.there
  rw [h0] at ho; cases ho

end Mine

namespace Mine
open PySem PySem.Calls PyProof.Rows

theorem boot_ValueError : bootBuiltins (Str.ofString "ValueError") = some (.type "ValueError") := by decide +kernel
theorem boot_IndexError : bootBuiltins (Str.ofString "IndexError") = some (.type "IndexError") := by decide +kernel

theorem so_raise (c : String) : SOk (.raise c) := by
  intro f ok X E hx t hc K ρ s Q r hw
  simp only [zq_okS_0, zq_okS_1, zq_okS_2, zq_okS_3, zq_okS_4, zq_okS_5, zq_okS_6, zq_okS_7, zq_okS_8, zq_okS_9, zq_okS_10, zq_okS_11, zq_okS_12, zq_okS_13, zq_okS_14, zq_okS_15, Bool.and_eq_true, beq_iff_eq] at hc
  obtain ⟨rfl, h3⟩ := hc
  simp only [zq_wpS_0, zq_wpS_1, zq_wpS_2, zq_wpS_3, zq_wpS_4, zq_wpS_5, zq_wpS_6, zq_wpS_7, zq_wpS_8, zq_wpS_9, zq_wpS_10, zq_wpS_11, zq_wpS_12, zq_wpS_13, zq_wpS_14, zq_wpS_15] at hw
  have rd : Rd (f.cg (fun _ => False) E ρ) K [] s := rel_rd ok r
  refine Raise_madeB PySem.F.excCall_ValueError PySem.F.excRaise_ValueError ok.room.handled (rd_builtin (v := .type "ValueError") rd h3 (by decide) boot_ValueError (by decide) ⟨rfl, ?_⟩)
  refine Calls.spliced_cons (Calls.Constant_str (k := ((t.at 0).at 0).n) (pos := ((t.at 0).at 0).pos) ?_)
  refine Calls.spliced_nil ⟨by simp [sizeLine], fun h' e he => ?_⟩
  exact hx _ ρ hw K s _ _ r (.new (newX_of he.newExc))

section
variable {M : Model} {A : Around} {E : Value → Shared → Prop} {s : Shared}
/-- a frame that catches: its entry is written, the flight ends -/
theorem land_raised {base : Heap} {env : Env} {outer : List Env} {L : Addr} {cl : String} {s s' : Shared} {e : Value} {Q : Shared → Prop} (hb : Below A base (env :: outer) s.heap) (hf : env.frame = some L) (hx : RaisedAt base (env :: outer) cl s e s')
    (hQ : ∀ a h' tk a0, e = .ref a → Heap.FlyingW base (env :: outer) a (.type cl) a0 h' → s.heap.UpToSlots h' → Q { s with heap := h', toks := tk }) :
    wpAny M A (noteFrame e env) (fun _ s₂ => wpAny M A (setFlight e none) (fun _ s₃ => Q s₃) E s₂) E s' := by
  cases hx with
  | @new e h' tk x =>
    refine note_new (s := { s with heap := h', toks := tk }) hb hf x fun h₁ a0 hh hu => ?_
    exact wpAny_landsW (s := { s with heap := h₁, toks := tk }) hh fun h₂ hfl hu₂ => hQ _ _ _ _ rfl hfl (hu.trans hu₂)
  | @held e h' tk _ _ _ a0 hfr hf' hh hu =>
    cases hfr
    rw [hf] at hf'; cases hf'
    refine wpAny_noteFrame_againW (s := { s with heap := h', toks := tk }) hf hh.2.2.2 ?_
    exact wpAny_landsW (s := { s with heap := h', toks := tk }) hh fun h₂ hfl hu₂ => hQ _ _ _ _ rfl hfl (hu.trans hu₂)
  | flown x =>
    obtain ⟨h', tk, a0, rfl, hfl, hu⟩ := x
    refine wpAny_looks_onW (s := { s with heap := h', toks := tk }) hb.stack hf hfl fun h₁ hh hu₁ => ?_
    exact wpAny_landsW (s := { s with heap := h₁, toks := tk }) hh fun h₂ hfl hu₂ => hQ _ _ _ _ rfl hfl ((hu.trans hu₁).trans hu₂)
end

/-- the frame's ground after an exception was caught: all but the frame's own names stays -/
theorem rel_caught {f : Fm} (ok : f.Ok) {K : KM} {ρ : List Slot} {s s₁ : Shared} {m cm : Str → Option Value} (r : RelM f K ρ s m cm) (hk : ∀ b o, s.heap.get? b = some o → s₁.heap.get? b = some o) (st : ∃ h tk, s₁ = { f.s₀ with heap := h, toks := tk })
    {h' : Heap} {tk : Nat} (hs : (TI.gone s.heap [f.L]).StaysIn h') (hu : s₁.heap.UpToSlots h') : RelM f K ρ { s₁ with heap := h', toks := tk } m cm := by
  have at' : ∀ b o, b ≠ f.L → s.heap.get? b = some o → h'.get? b = some o := fun b o hb e => hs b o ((TI.gone_get (by simpa using hb)).trans e)
  have hcL : ∀ n c, f.cells.lookup n = some c → c ≠ f.L := fun n c hl q => by
    have := r.cl.above n c (mem_of_lookup' hl)
    rw [q] at this; exact Nat.lt_irrefl _ this
  refine ⟨?_, fun b o e => at' b o ?_ (r.keep b o e), fun a o e => at' a o ?_ (r.kin a o e), r.kle, r.knew, r.kL, r.kC, r.len, hu.ns (r.ns.keeps hk), ⟨fun n c hl => ?_, r.cl.apart, r.cl.above⟩, fun i x sl h1 h2 => (r.slots i x sl h1 h2).heap fun b o hb _ e => at' b o hb e, r.sep⟩
  · obtain ⟨h, tk', rfl⟩ := st
    exact ⟨h', tk, rfl⟩
  · intro q
    subst q
    exact Nat.lt_irrefl _ (Nat.lt_of_lt_of_le (Heap.lt_size e) ok.above)
  · intro q; rw [q, r.kL] at e; cases e
  · obtain ⟨o, ho, hd⟩ := r.cl.cell n c hl
    exact ⟨o, at' c o (hcL n c hl) ho, hd⟩

theorem so_try (i : Nat) (e : Mine.E) (cl : String) (j : Nat) (b : Bool) : SOk (.tryE i e cl j b) := by
  intro f ok X E hx t hc K ρ s Q r hw
  simp only [zq_okS_0, zq_okS_1, zq_okS_2, zq_okS_3, zq_okS_4, zq_okS_5, zq_okS_6, zq_okS_7, zq_okS_8, zq_okS_9, zq_okS_10, zq_okS_11, zq_okS_12, zq_okS_13, zq_okS_14, zq_okS_15, Bool.and_eq_true, beq_iff_eq, Bool.not_eq_true', Bool.or_eq_true] at hc
  obtain ⟨⟨⟨⟨⟨hi1, h2⟩, h3⟩, h4⟩, h6⟩, hi7⟩ := hc
  have h1 := in_ok hi1
  have h7 := in_ok hi7
  simp only [zq_wpS_0, zq_wpS_1, zq_wpS_2, zq_wpS_3, zq_wpS_4, zq_wpS_5, zq_wpS_6, zq_wpS_7, zq_wpS_8, zq_wpS_9, zq_wpS_10, zq_wpS_11, zq_wpS_12, zq_wpS_13, zq_wpS_14, zq_wpS_15] at hw
  obtain ⟨htop, hw⟩ := hw
  have hfr := ok.tops htop
  have r' := r
  obtain ⟨m, cm, rm⟩ := r'
  have hb : Below f.A (TI.gone s.heap [f.L]) (f.env :: f.fr) s.heap := by
    refine ⟨ok.stack, fun b o e => (TI.gone_some e).2, ?_⟩
    rw [hfr]
    exact .cons (by show f.scope.kind ≠ .module; rw [ok.kind]; decide) rfl rm.ns (TI.gone_none (by simp)) trivial
  let k : Cg := ⟨f.g, f.n, f.A, fun c => c = cl ∧ Q .next (ρ.set j (.frz (.bool b))), fun ev s₁ => wpAny f.M f.A (noteFrame ev f.env) (fun _ s₂ => wpAny f.M f.A (setFlight ev none) (fun _ s₃ =>
      wpAny f.M f.A (handleBy ev f.env [.ExceptHandler (some (.Name (Str.ofString cl) (t.at 1).pos2)) none [.Assign [.Name (nmAt f.c.names j) ((t.at 2).at 0).pos] (.Constant (.bool b) ((t.at 2).at 1).n ((t.at 2).at 1).pos) (t.at 2).pos] (t.at 1).pos]) (PostS f K Q) E s₃) E s₂) E s₁, ρ, f.c, f.env,
    fun K₁ s₁ => Rel f K₁ ρ s₁ ∧ ∀ b o, s.heap.get? b = some o → s₁.heap.get? b = some o, TI.gone s.heap [f.L], f.env :: f.fr, f.top⟩
  have rd0 : Rd (f.cg (fun _ => False) E ρ) K [] s := rel_rd ok r
  have rd : Rd k K [] s := ⟨rd0.gok, rd0.gl, rd0.kin, rd0.eg, rd0.eb, rd0.ek, rd0.gk, rd0.var, rd0.vown, rd0.cvar, rd0.comp, rd0.fsc, rd0.tn, rd0.fn, hb, ⟨r, fun _ _ e => e⟩,
    fun K s K' s' h p => ⟨h.1.post p, fun b o e => keeps_get p.keeps b o (h.2 b o e)⟩⟩
  have kok : k.Ok := by
    refine ⟨ok.room, fun c hX K₁ s₁ ev s' hi hr => ?_⟩
    obtain ⟨rfl, hq⟩ := hX
    obtain ⟨⟨m₁, cm₁, r₁⟩, hk⟩ := hi
    refine land_raised (below_keeps hb hk) rfl hr fun a h' tk a0 ha hfl hu => ?_
    subst ha
    have hboot : bootBuiltins (Str.ofString c) = some (.type c) ∧ Str.ofString c ∈ bnames ∧ Str.ofString c ≠ "__name__" ∧ isSubtype (.type c) (.type "BaseException") = pure true ∧ isSubtype (.type ((Manifest.find? c).elim "type" fun x => x.metatype)) (.type "tuple") = pure false ∧ isSubtype (.type c) (.type c) = pure true := by
      rcases h4 with rfl | rfl
      · exact ⟨boot_ValueError, by decide, by decide, by rw [isSubtype_type]; kernel_rfl, by rw [isSubtype_type]; kernel_rfl, by rw [isSubtype_type]; kernel_rfl⟩
      · exact ⟨boot_IndexError, by decide, by decide, by rw [isSubtype_type]; kernel_rfl, by rw [isSubtype_type]; kernel_rfl, by rw [isSubtype_type]; kernel_rfl⟩
    obtain ⟨hv, hbn, hnn, q1, q2, q3⟩ := hboot
    have rc : RelM f K ρ { s₁ with heap := h', toks := tk } m cm := rel_caught ok rm hk r₁.st hfl.1 hu
    have gok := ok.gok.keeps rc.keep
    have hd : (Str.ofString c == ("__debug__" : Str)) = false := by
      have h6' := h6
      unfold Cx.globOk at h6'; simp only [Bool.and_eq_true, Bool.not_eq_true'] at h6'; exact h6'.2
    refine wpAny_handleBy_builtin (X := c) (T := c) (b := true) q1 q2 q3 (Name_function_global rd0.ek (rd0.gk _ h6) (loadGlobal_builtin gok.top.g (gok.bn _ hbn) gok.top.b ((gok.top.builtins _ hnn).trans hv) ?_) hd)
    refine ⟨rfl, hfl.there, ?_⟩
    rw [if_pos rfl]
    refine lands_againW (s := { s₁ with heap := h', toks := tk }) hfl fun h₂ hfl₂ hu₂ => ?_
    have r₂ : RelM f K ρ { s₁ with heap := h₂, toks := tk } m cm := rel_caught ok rm hk r₁.st hfl₂.1 (hu.trans hu₂)
    refine wpAny_execs_cons (wpAny_Assign_Name (wpAny_Constant_bool ?_) rfl)
    exact wpAny_mono (store_frz ok ⟨m, cm, r₂⟩ h7 (.bool b) (KM.le_refl K) hq) (fun _ s₄ hp => wpAny_execs_nil hp) fun _ _ z => z
  refine wpAny_Try_except (wpAny_execs_cons (wpAny_Assign_Name (wpAny_mono (allE e k kok _ h2 [] K s _ rd hw) (fun u s₁ hp => ?_) fun _ _ z => z) (noComp h3 _ _ _)))
  obtain ⟨d, K₁, hq, p, hr⟩ := hp
  exact wpAny_mono (store_frz ok (r.post p) h1 hr p.le hq) (fun _ s' hp => wpAny_execs_nil (wpAny_execs_nil hp)) fun _ _ z => z

end Mine

namespace Mine
open PySem PySem.Calls PyProof.Rows

theorem so_delitem (i : Nat) (idx : Mine.E) : SOk (.delitem i idx) := by
  intro f ok X E hx t hc K ρ s Q r hw
  simp only [zq_okS_0, zq_okS_1, zq_okS_2, zq_okS_3, zq_okS_4, zq_okS_5, zq_okS_6, zq_okS_7, zq_okS_8, zq_okS_9, zq_okS_10, zq_okS_11, zq_okS_12, zq_okS_13, zq_okS_14, zq_okS_15, Bool.and_eq_true] at hc
  obtain ⟨hn, h3⟩ := hc
  obtain ⟨h1, h2⟩ := nm_ok hn
  simp only [zq_wpS_0, zq_wpS_1, zq_wpS_2, zq_wpS_3, zq_wpS_4, zq_wpS_5, zq_wpS_6, zq_wpS_7, zq_wpS_8, zq_wpS_9, zq_wpS_10, zq_wpS_11, zq_wpS_12, zq_wpS_13, zq_wpS_14, zq_wpS_15] at hw
  split at hw
  · rename_i ds hd
    obtain ⟨m, cm, r⟩ := r
    obtain ⟨a, vs, n, hv, hg, hr⟩ := own_at r h1 hd
    refine wpAny_Delete (wpAny_deleteEach_cons (wpAny_delete_Subscript (rel_name ok r h1 h2 hv ?_)))
    refine wpAny_mono (run_e ok hx h3 ⟨m, cm, r⟩ hw) (fun iv s₂ hp => ?_) fun _ _ z => z
    obtain ⟨d₂, K₂, hq, p₂, hi⟩ := hp
    have r₂ := r.post p₂
    have hg₂ := keeps_get p₂.keeps _ _ hg
    have hr₂ := hr.mono p₂.le
    have hlen := hr.length
    cases hi with
    | int k t =>
      obtain ⟨rfl, hne, hsz, hq⟩ := hq
      have hpos : 0 < vs.length := by rw [← hlen]; exact List.length_pos_iff.mpr hne
      refine wpAny_delItem_plain (items := vs.toArray) (k := vs.length - 1) ⟨n, hg₂⟩ (by decide) ?_ (fun h' hpl hs => ?_) (by simp [sizeLine]; (first | lia | omega))
      · rw [List.size_toArray, seqIndex_neg (by decide) (by (first | lia | omega))]
        congr 1; (first | lia | omega)
      · obtain ⟨n', hpl⟩ := hpl
        refine wpAny_deleteEach_nil ⟨.next, _, K₂, hq, ⟨m, cm, rel_mut ok r₂ h1 hd hv (d' := .lst ds.dropLast) ⟨vs.dropLast, n', ?_, ?_⟩ fun b o hb e => hs.extBut b o hb e⟩, p₂.le, rfl⟩
        · rw [hpl]
          have : vs.toArray.eraseIdxIfInBounds (vs.length - 1) = vs.dropLast.toArray := by
            apply Array.toList_inj.mp
            rw [Array.eraseIdxIfInBounds, dif_pos (by simp; (first | lia | omega))]
            simp [List.eraseIdx_length_sub_one]
          rw [this]; rfl
        · rw [List.dropLast_eq_take, List.dropLast_eq_take, ← hlen]; exact hr₂.take' _
    | _ => exact hq.elim
  · exact hw.elim

/-! unpacking -/
theorem assign_names {f : Fm} (ok : f.Ok) {E : Value → Shared → Prop} {K : KM} (is : List Nat) : ∀ (ts : List PT) (ds : List D) (vs : List Value) (ρ : List Slot) (s : Shared), is.all (inN f.c) = true → VRs K ds vs → ds.length = is.length → Rel f K ρ s →
    wpAny f.M f.A (assignInOrder ((assignEach (toNames f.c is ts) f.env).map (·.2)) vs) (fun _ s' => Rel f K (setAll ρ is ds) s') E s := by
  induction is with
  | nil =>
    intro ts ds vs ρ s hn hr hl r
    cases ds with
    | cons _ _ => simp at hl
    | nil => cases hr; exact wpAny_pure r
  | cons i is ih =>
    intro ts ds vs ρ s hn hr hl r
    cases ds with
    | nil => simp at hl
    | cons d ds =>
      cases hr with
      | cons hv hr =>
        rename_i v vs
        simp only [List.all_cons, Bool.and_eq_true] at hn
        obtain ⟨h1, h2⟩ := hn
        have hx : f.names[i]? = some (nmAt f.c.names i) := in_ok h1
        have e1 : assignInOrder ((assignEach (toNames f.c (i :: is) ts) f.env).map (·.2)) (v :: vs) = (do holding vs (assign (.Name (nmAt f.c.names i) (hd ts).pos) f.env v); assignInOrder ((assignEach (toNames f.c is ts.tail) f.env).map (·.2)) vs) := rfl
        rw [e1]
        obtain ⟨m, cm, r⟩ := r
        refine wpAny_bind (wpAny_holding (wpAny_assign_Name (rel_store ok r hx (sl := .frz d) ⟨v, rfl, hv⟩ (fun a d' _ h => nomatch h) fun h' tk m' cm' r' _ _ => ?_)))
        exact ih ts.tail ds vs _ _ h2 hr (by simpa using hl) ⟨m', cm', r'⟩

theorem names_len (c : Cx) (env : Env) : ∀ (is : List Nat) (ts : List PT), (assignEach (toNames c is ts) env).length = is.length ∧ (assignEach (toNames c is ts) env).findIdx? (·.1) = none
  | [], _ => ⟨rfl, rfl⟩
  | i :: is, ts => by
    have q := names_len c env is ts.tail
    refine ⟨by show (assignEach (toNames c is ts.tail) env).length + 1 = _; rw [q.1]; rfl, ?_⟩
    show ((false, assign (.Name (nmAt c.names i) (hd ts).pos) env) :: assignEach (toNames c is ts.tail) env).findIdx? (·.1) = none
    rw [List.findIdx?_cons, q.2]; rfl

theorem assign_tuple {f : Fm} (ok : f.Ok) {E : Value → Shared → Prop} {K : KM} {is : List Nat} {ts : List PT} {kk : Nat} {pp : Pos} {ds : List D} {v : Value} {ρ : List Slot} {s : Shared} {Q : Unit → Shared → Prop} (hn : is.all (inN f.c) = true) (hv : VR K (.tup ds) v) (hl : ds.length = is.length)
    (r : Rel f K ρ s) (h : ∀ s', Rel f K (setAll ρ is ds) s' → Q () s') : wpAny f.M f.A (assign (.Tuple (toNames f.c is ts) kk pp) f.env v) Q E s := by
  obtain ⟨h1, h2⟩ := names_len f.c f.env is ts
  cases hv with
  | tup e tt q =>
    rename_i t o vs n
    have hvl := q.length
    show wpAny _ _ (do standAt pp; unpack (.ref t) (assignEach (toNames f.c is ts) f.env)) _ _ _
    refine wpAny_bind (wpAny_standAt ?_)
    unfold unpack
    rw [h1, h2]
    refine wpAny_bind (wpAny_holding ?_)
    obtain ⟨m, cm, r⟩ := r
    rw [show is.length = vs.toArray.size by simp; (first | lia | omega)]
    refine unpackItems_tuple (items := vs.toArray) ok.room.handled ⟨_, r.kin _ _ e, tt.1, _, tt.2⟩ fun h₁ he₁ => ?_
    refine wpAny_mono (assign_names ok is ts ds vs ρ _ hn q hl ⟨m, cm, r.post (Post.keep r.kin ⟨h₁, s.toks, rfl, ext_get he₁⟩)⟩) (fun _ s' hr => h s' hr) fun _ _ z => z

theorem so_unpack (is : List Nat) (e : Mine.E) : SOk (.unpack is e) := by
  intro f ok X E hx t hc K ρ s Q r hw
  simp only [zq_okS_0, zq_okS_1, zq_okS_2, zq_okS_3, zq_okS_4, zq_okS_5, zq_okS_6, zq_okS_7, zq_okS_8, zq_okS_9, zq_okS_10, zq_okS_11, zq_okS_12, zq_okS_13, zq_okS_14, zq_okS_15, Bool.and_eq_true] at hc
  obtain ⟨⟨h1, h2⟩, h3⟩ := hc
  simp only [zq_wpS_0, zq_wpS_1, zq_wpS_2, zq_wpS_3, zq_wpS_4, zq_wpS_5, zq_wpS_6, zq_wpS_7, zq_wpS_8, zq_wpS_9, zq_wpS_10, zq_wpS_11, zq_wpS_12, zq_wpS_13, zq_wpS_14, zq_wpS_15] at hw
  have hcomp : e.isComp = false := by cases e <;> first | rfl | (simp [Mine.E.unpackable] at h2)
  have hsw : swappedStores [.Tuple (toNames f.c is (t.at 0).cs) (t.at 0).n (t.at 0).pos] (toE f.c e (t.at 1)) f.env = pure none := by
    cases e <;> first | rfl | (simp [Mine.E.unpackable] at h2)
  refine Assign_Tuple (wpAny_mono (run_e ok hx h3 r hw) (fun u s₁ hp => ?_) fun _ _ z => z) (show swapsWith (toE f.c e (t.at 1)) (some (.Tuple (toNames f.c is (t.at 0).cs) (t.at 0).n (t.at 0).pos)) t.pos.line f.env = pure false from noComp hcomp _ _ _) hsw
  obtain ⟨d, K₁, hq, p, hu⟩ := hp
  split at hq
  · exact assign_tuple ok h1 hu hq.1 (r.post p) fun s' r' => ⟨.next, _, K₁, hq.2, r', p.le, rfl⟩
  · exact hq.elim

/-! loops -/
theorem excFalse {f : Fm} {E : Value → Shared → Prop} : ExcS f (fun _ _ => False) E := fun _ _ h => h.elim

theorem run_i {f : Fm} (ok : f.Ok) {X : String → List Slot → Prop} {E : Value → Shared → Prop} (hx : ExcS f X E) {e : Mine.E} {t : PT} (hc : okE f.c e t = true) {K : KM} {ρ : List Slot} {s : Shared} {Q : List D → Prop} (r : Rel f K ρ s)
    (hw : wpI (fun c => X c ρ) (fnAt f.g f.n f.top) ρ e [] Q) : wpAny f.M f.A (eval (toE f.c e t) f.env) (PostI (f.cg (fun c => X c ρ) E ρ) s K Q) E s :=
  allI e (f.cg (fun c => X c ρ) E ρ) (cgOk ok hx ρ) t hc [] K s Q (rel_rd ok r) hw

theorem For_ {M : Model} {A : Around} {E : Value → Shared → Prop} {s : Shared} {env : Env} {target iter : Expr} {body orelse : List Stmt} {pos : Pos} {Q : Flow → Shared → Prop} (hs : ∀ x, foldedSetIterable iter env x = pure x)
    (h : wpAny M A (eval iter env) (fun xv s₁ => wpAny M A (pyIter xv) (fun it s₂ => codeAny M A (.forLoop target it body orelse env) (fun r s' => match r with | .ok f => Q f s' | .error e => cameBackBy M A env E e s') s₂) E s₁) E s) :
    wpAny M A (exec (.For target iter body orelse pos) env) Q E s := by
  show wpAny M A (do
    standAt pos
    let x ← foldedSetIterable iter env (← eval iter env)
    standAt iter.pos
    runOwn (.forLoop target (← holding [x] (pyIter x)) body orelse env) env) Q E s
  refine wpAny_bind (wpAny_standAt (wpAny_bind (wpAny_mono h (fun xv s₁ h₁ => wpAny_bind (wpAny_of_eq (hs xv) (wpAny_bind (wpAny_standAt (wpAny_bind (wpAny_holding (wpAny_mono h₁ (fun it s₂ h₂ => ?_) fun _ _ x => x))))))) fun _ _ x => x)))
  exact wpAny_runOwn h₂

/-- what the loop's target takes -/
noncomputable def TgtOk (f : Fm) (tgt : Expr) (bind : List Slot → D → Option (List Slot)) : Prop :=
  ∀ (E : Value → Shared → Prop) (K : KM) (ρ ρ₁ : List Slot) (s : Shared) (d : D) (v : Value) (Q : Unit → Shared → Prop), bind ρ d = some ρ₁ → VR K d v → Rel f K ρ s → (∀ s', Rel f K ρ₁ s' → Q () s') → wpAny f.M f.A (assign tgt f.env v) Q E s

theorem for_core {f : Fm} (ok : f.Ok) {X : String → List Slot → Prop} {E : Value → Shared → Prop} (hx : ExcS f X E) {it : Mine.E} {body : Ss} (hb : SsOk body) {tgt : Expr} {ti : PT} {tb : List PT} {pos : Pos} {bind : List Slot → D → Option (List Slot)} (ht : TgtOk f tgt bind)
    (h1 : okE f.c it ti = true) (h2 : okSs f.c body tb = true) {K : KM} {ρ : List Slot} {s : Shared} {Q : Out → List Slot → Prop} (r : Rel f K ρ s)
    (hw : wpI (fun c => X c ρ) (fnAt f.g f.n f.top) ρ it [] (fun items => forW items bind (fun ρ Q => wpSs (fnAt f.g f.n f.top) body X ρ Q) ρ Q)) :
    wpAny f.M f.A (exec (.For tgt (toE f.c it ti) (toSs f.c body tb) [] pos) f.env) (PostS f K Q) E s := by
  refine For_ fold_plain (wpAny_mono (run_i ok hx h1 r hw) (fun xv s₁ hp => wpAny_mono hp (fun itv s₂ hp => ?_) fun _ _ x => x) fun _ _ x => x)
  obtain ⟨I, K₂, items, rfl, ⟨Inv, h0, hturn, hend⟩, p₂, ⟨fp, P, St, W, hst, hfp, hio, hP, hKI⟩, hI0⟩ := hp
  obtain ⟨m, cm, r⟩ := r
  have hCL : I ≠ f.L := by intro q; obtain ⟨o, _, _, ho, _⟩ := r.ns; rw [← q, hI0] at ho; cases ho
  have hCC : ∀ n c, f.cells.lookup n = some c → I ≠ c := by intro n c hl q; obtain ⟨o, ho, _⟩ := r.cl.cell n c hl; rw [← q, hI0] at ho; cases ho
  have hC0 : f.s₀.heap.get? I = none := by
    cases e : f.s₀.heap.get? I with
    | none => rfl
    | some o => rw [r.keep _ _ e] at hI0; cases hI0
  have hnot : ∀ (j : Nat) y d, f.names[j]? = some y → ρ[j]? = some (.own d) → f.val m cm y ≠ some (.ref I) := by
    intro j y d hj hd hv
    obtain ⟨a, e, _, _, _, _, ho⟩ := r.slots j y _ hj hd
    rw [hv] at e; cases e
    obtain ⟨o, ho⟩ := ho.there
    rw [hI0] at ho; cases ho
  obtain ⟨oI, hoI, hIter⟩ := hio 0 _ hst
  have r₂ : RelM f (K₂.add I oI) ρ s₂ m cm := by
    obtain ⟨hh, tt, e, _⟩ := p₂.keeps
    have := (r.post p₂).change ok (K' := K₂.add I oI) (I := I) (h' := s₂.heap) (tk := s₂.toks) (fun b hb => by unfold KM.add; rw [if_neg hb]) (fun o' e => by rw [KM.add_self] at e; cases e; exact hoI) (fun o e => by rw [hKI] at e; cases e) (fun b o _ e => e) hC0 hCL hCC hnot
    exact this
  refine codeAny_forLoop_any (fun n s' => ∃ (i : Nat) (K' : KM) (ρ' : List Slot) (o : Obj), n = items.length + 1 - i ∧ i ≤ items.length ∧ Inv i ρ' ∧ Rel f K' ρ' s' ∧ K₂.le K' ∧ K' I = some o ∧ IterObj o ∧ St i s'.heap) ?_ (items.length + 1)
    ⟨0, K₂.add I oI, ρ, oI, by (first | lia | omega), by (first | lia | omega), h0, ⟨m, cm, r₂⟩, KM.le_add hKI, KM.add_self _ _ _, hIter, hst⟩
  rintro n s' ⟨i, K', ρ', o, rfl, hi, hinv, ⟨m', cm', r'⟩, hle, hKo, hIo, hst'⟩
  have hnot' : ∀ (j : Nat) y d, f.names[j]? = some y → ρ'[j]? = some (.own d) → f.val m' cm' y ≠ some (.ref I) := by
    intro j y d hj hd hv
    obtain ⟨a, e, hK, _, _, _, _⟩ := r'.slots j y _ hj hd
    rw [hv] at e; cases e
    rw [hKo] at hK; cases hK
  by_cases hlt : i < items.length
  · refine W.item i _ _ _ hlt hst' fun v h₁ tk₁ hPv hst₁ hk₁ => ?_
    have hd : items[i]? = some items[i] := List.getElem?_eq_getElem hlt
    obtain ⟨o₁, ho₁, hIo₁⟩ := hio _ _ hst₁
    have r₁ : RelM f (K'.add I o₁) ρ' { s' with heap := h₁, toks := tk₁ } m' cm' :=
      r'.change ok (I := I) (fun b hb => by unfold KM.add; rw [if_neg hb]) (fun o' e => by rw [KM.add_self] at e; cases e; exact ho₁) (fun ob e => by rw [hKo] at e; cases e; exact hIo.noData) (fun b ob hb e => hk₁ b ob (by simpa using hb) e) hC0 hCL hCC hnot'
    have hle₁ : K₂.le (K'.add I o₁) := fun b ob e => by
      unfold KM.add
      rw [if_neg (by intro q; rw [q, hKI] at e; cases e)]
      exact hle b ob e
    obtain ⟨ρ₁, hb₁, hws⟩ := hturn i ρ' items[i] hinv hd
    have hv : VR (K'.add I o₁) items[i] v := (hP i v _ hPv hd).mono hle₁
    refine letOwned (s := { s' with heap := h₁, toks := tk₁ }) ho₁ hIo₁ ?_
    refine ht _ (K'.add I o₁) ρ' ρ₁ _ _ v _ hb₁ hv ⟨m', cm', r₁⟩ fun s₃ r₃ => ?_
    refine wpAny_mono (hb f ok _ _ (excLoop ok hx) tb h2 (K'.add I o₁) ρ₁ s₃ _ r₃ hws) (fun fl s₄ hp => ?_) fun _ _ x => x
    obtain ⟨out, ρ₄, K₄, hq, r₄, le₄, ho⟩ := hp
    have hKI₄ : K₄ I = some o₁ := le₄ _ _ (KM.add_self _ _ _)
    cases out with
    | next =>
      cases ho
      obtain ⟨m₄, cm₄, r₄⟩ := r₄
      refine ⟨items.length + 1 - (i + 1), by (first | lia | omega), i + 1, K₄, ρ₄, o₁, rfl, by (first | lia | omega), hq, ⟨m₄, cm₄, r₄⟩, hle₁.trans le₄, hKI₄, hIo₁, W.frame _ _ _ hst₁ fun b hb ob e => ?_⟩
      rcases hfp b hb with rfl | ⟨ob', hob⟩
      · rw [ho₁] at e; cases e; exact r₄.kin _ _ hKI₄
      · have e1 := r₁.kin _ _ (hle₁ _ _ hob)
        have e2 : some ob' = some ob := e1.symm.trans e
        cases e2
        exact r₄.kin _ _ (le₄ _ _ (hle₁ _ _ hob))
    | ret d =>
      obtain ⟨u, rfl, hu⟩ := ho
      obtain ⟨m₄, cm₄, r₄⟩ := r₄
      exact ⟨.ret d, ρ₄, K₄, hq, ⟨m₄, cm₄, r₄⟩, p₂.le.trans (hle₁.trans le₄), u, rfl, hu⟩
  · have hin : i = items.length := by (first | lia | omega)
    subst hin
    refine W.done _ _ _ hst' fun h₁ tk₁ hk₁ => ?_
    have r₁ : RelM f (K'.drop I) ρ' { s' with heap := h₁, toks := tk₁ } m' cm' :=
      r'.change ok (I := I) (fun b hb => by unfold KM.drop; rw [if_neg hb]) (fun o' e => by simp [KM.drop] at e) (fun ob e => by rw [hKo] at e; cases e; exact hIo.noData) (fun b ob hb e => hk₁ b ob (by simpa using hb) e) hC0 hCL hCC hnot'
    have hle₁ : K₂.le (K'.drop I) := fun b ob e => by
      unfold KM.drop
      rw [if_neg (by intro q; rw [q, hKI] at e; cases e)]
      exact hle b ob e
    exact wpAny_execs_nil ⟨.next, ρ', K'.drop I, hend ρ' hinv, ⟨m', cm', r₁⟩, p₂.le.trans hle₁, rfl⟩

theorem so_for1 (x : Nat) (it : Mine.E) {body : Ss} (hb : SsOk body) : SOk (.for1 x it body) := by
  intro f ok X E hx t hc K ρ s Q r hw
  simp only [zq_okS_0, zq_okS_1, zq_okS_2, zq_okS_3, zq_okS_4, zq_okS_5, zq_okS_6, zq_okS_7, zq_okS_8, zq_okS_9, zq_okS_10, zq_okS_11, zq_okS_12, zq_okS_13, zq_okS_14, zq_okS_15, Bool.and_eq_true] at hc
  obtain ⟨⟨hin, h2⟩, h3⟩ := hc
  have h1 := in_ok hin
  simp only [zq_wpS_0, zq_wpS_1, zq_wpS_2, zq_wpS_3, zq_wpS_4, zq_wpS_5, zq_wpS_6, zq_wpS_7, zq_wpS_8, zq_wpS_9, zq_wpS_10, zq_wpS_11, zq_wpS_12, zq_wpS_13, zq_wpS_14, zq_wpS_15] at hw
  refine for_core ok hx hb (bind := fun ρ d => some (ρ.set x (.frz d))) (fun E K ρ ρ₁ s d v Q hb hv r h => ?_) h2 h3 r hw
  simp only [Option.some.injEq] at hb
  subst hb
  obtain ⟨m, cm, r⟩ := r
  exact wpAny_assign_Name (rel_store ok r h1 (sl := .frz d) ⟨v, rfl, hv⟩ (fun a d' _ h => nomatch h) fun h' tk m' cm' r' _ _ => h _ ⟨m', cm', r'⟩)

theorem so_forT (xs : List Nat) (it : Mine.E) {body : Ss} (hb : SsOk body) : SOk (.forT xs it body) := by
  intro f ok X E hx t hc K ρ s Q r hw
  simp only [zq_okS_0, zq_okS_1, zq_okS_2, zq_okS_3, zq_okS_4, zq_okS_5, zq_okS_6, zq_okS_7, zq_okS_8, zq_okS_9, zq_okS_10, zq_okS_11, zq_okS_12, zq_okS_13, zq_okS_14, zq_okS_15, Bool.and_eq_true] at hc
  obtain ⟨⟨h1, h2⟩, h3⟩ := hc
  simp only [zq_wpS_0, zq_wpS_1, zq_wpS_2, zq_wpS_3, zq_wpS_4, zq_wpS_5, zq_wpS_6, zq_wpS_7, zq_wpS_8, zq_wpS_9, zq_wpS_10, zq_wpS_11, zq_wpS_12, zq_wpS_13, zq_wpS_14, zq_wpS_15] at hw
  refine for_core ok hx hb (bind := bindT xs) (fun E K ρ ρ₁ s d v Q hb hv r h => ?_) h2 h3 r hw
  unfold bindT at hb
  split at hb
  · split at hb
    · rename_i ds hl
      simp only [Option.some.injEq] at hb
      subst hb
      exact assign_tuple ok h1 hv hl r h
    · cases hb
  · cases hb

theorem so_whil (u : T) {body : Ss} (hb : SsOk body) : SOk (.whil u body) := by
  intro f ok X E hx t hc K ρ s Q r hw
  simp only [zq_okS_0, zq_okS_1, zq_okS_2, zq_okS_3, zq_okS_4, zq_okS_5, zq_okS_6, zq_okS_7, zq_okS_8, zq_okS_9, zq_okS_10, zq_okS_11, zq_okS_12, zq_okS_13, zq_okS_14, zq_okS_15, Bool.and_eq_true] at hc
  obtain ⟨h1, h2⟩ := hc
  simp only [zq_wpS_0, zq_wpS_1, zq_wpS_2, zq_wpS_3, zq_wpS_4, zq_wpS_5, zq_wpS_6, zq_wpS_7, zq_wpS_8, zq_wpS_9, zq_wpS_10, zq_wpS_11, zq_wpS_12, zq_wpS_13, zq_wpS_14, zq_wpS_15] at hw
  obtain ⟨Inv, n₀, h0, hturn⟩ := hw
  refine wpAny_While (codeAny_whileLoop (fun n s' => ∃ K' ρ', Inv n ρ' ∧ Rel f K' ρ' s' ∧ K.le K') ?_ n₀ ⟨K, ρ, h0, r, KM.le_refl _⟩)
  rintro n s' ⟨K', ρ', hinv, r', hle⟩
  refine wpAny_mono (run_t ok (excLoop ok hx) h1 r' (hturn n ρ' hinv)) (fun b s₂ hp => ?_) fun _ _ x => x
  obtain ⟨hq, K₂, p₂⟩ := hp
  cases b with
  | true =>
    rw [if_pos rfl] at hq ⊢
    refine wpAny_mono (hb f ok _ _ (excLoop ok hx) _ h2 K₂ ρ' s₂ _ (r'.post p₂) hq) (fun fl s₄ hp => ?_) fun _ _ x => x
    obtain ⟨out, ρ₄, K₄, hq, r₄, le₄, ho⟩ := hp
    cases out with
    | next => cases ho; obtain ⟨m, hm, hI⟩ := hq; exact ⟨m, hm, K₄, ρ₄, hI, r₄, (hle.trans p₂.le).trans le₄⟩
    | ret d => obtain ⟨u, rfl, hu⟩ := ho; exact ⟨.ret d, ρ₄, K₄, hq, r₄, (hle.trans p₂.le).trans le₄, u, rfl, hu⟩
  | false =>
    rw [if_neg (by simp)] at hq ⊢
    exact wpAny_execs_nil ⟨.next, ρ', K₂, hq, r'.post p₂, hle.trans p₂.le, rfl⟩

mutual
theorem allS : ∀ st : S, SOk st
  | .assign i e => so_assign i e
  | .assignO i e => so_assignO i e
  | .freeze i => so_freeze i
  | .unpack is e => so_unpack is e
  | .setitem i idx e => so_setitem i idx e
  | .append i e => so_append i e
  | .delitem i idx => so_delitem i idx
  | .ite t a b => so_ite (allSs a) (allSs b)
  | .for1 x it body => so_for1 x it (allSs body)
  | .forT xs it body => so_forT xs it (allSs body)
  | .whil t body => so_whil t (allSs body)
  | .ret e => so_ret e
  | .raise c => so_raise c
  | .tryE i e c j b => so_try i e c j b
  | .newdict i => so_newdict i
  | .junk => so_junk
theorem allSs : ∀ ss : Ss, SsOk ss
  | .nil => ss_nil
  | .cons s ss => ss_cons (allS s) (allSs ss)
end

end Mine

namespace Mine
open PySem PySem.Calls PyProof.Rows

theorem zip_lookup : ∀ {ps : List Str} {vs : List Value}, ps.Nodup → vs.length = ps.length → (ps.filterMap fun n => ((ps.zip vs).lookup n).map (n, ·)) = ps.zip vs
  | [], [], _, _ => rfl
  | [], _ :: _, _, h => by simp at h
  | _ :: _, [], _, h => by simp at h
  | p :: ps, v :: vs, hn, h => by
    have hn' := List.nodup_cons.mp hn
    have ih := zip_lookup hn'.2 (by simpa using h)
    rw [List.zip_cons_cons, List.filterMap_cons]
    simp only [List.lookup_cons, beq_self_eq_true, Option.map_some]
    congr 1
    refine Eq.trans ?_ ih
    have key : ∀ l : List Str, (∀ n ∈ l, n ≠ p) → (l.filterMap fun n => (match n == p with | true => some v | false => (ps.zip vs).lookup n).map (n, ·)) = l.filterMap fun n => ((ps.zip vs).lookup n).map (n, ·) := by
      intro l
      induction l with
      | nil => intro _; rfl
      | cons n l ihl =>
        intro hp
        rw [List.filterMap_cons, List.filterMap_cons, ihl fun m hm => hp m (.tail _ hm)]
        have : (n == p) = false := beq_eq_false_iff_ne.mpr (hp n (.head _))
        rw [this]
    exact key ps fun n hm e => hn'.1 (e ▸ hm)
theorem zip_has : ∀ {ps : List Str} {vs : List Value} {n : Str}, vs.length = ps.length → n ∈ ps → ((ps.zip vs).lookup n).isNone = false
  | [], _, _, _, h => by simp at h
  | _ :: _, [], _, h, _ => by simp at h
  | p :: ps, v :: vs, n, hl, hm => by
    rw [List.zip_cons_cons, List.lookup_cons]
    cases hb : n == p with
    | true => rfl
    | false =>
      rcases List.mem_cons.mp hm with rfl | hm
      · simp at hb
      · exact zip_has (by simpa using hl) hm

theorem bind_simple {name : Str} {as : List Arg} {kwd : List (Option Expr)} {dfl : List Expr} {body : List Stmt} {scope : Scope} {pm code doc : Value} {ps : List Str} {vs : List Value} (ha : as.map (·.arg) = ps) (hn : ps.Nodup) (hl : vs.length = ps.length) :
    bindArgs (docDef name ⟨[], as, none, [], kwd, none, dfl⟩ body scope pm code doc) ⟨vs, []⟩ = pure (ps.zip vs) := by
  have h1 : (ps.filter fun n => ((ps.zip vs).lookup n).isNone) = [] := List.filter_eq_nil_iff.mpr fun n hm => by rw [zip_has hl hm]; simp
  have h2 := zip_lookup hn hl
  unfold bindArgs docDef
  simp only [List.map_nil, List.nil_append, List.append_nil, ha, List.forIn_nil, pure_bind, hl]
  have h3 : seqItems? Value.none = pure none := rfl
  simp only [h3, pure_bind, Option.getD_none]
  simp only [Nat.lt_irrefl, gt_iff_lt, decide_false, Bool.false_and, Bool.false_eq_true, if_false]
  simp only [List.drop_nil, List.length_nil, Nat.sub_zero, List.take_length, List.drop_length, List.zip_nil_right, List.zip_nil_left, h1, List.isEmpty_nil, Bool.not_true, Bool.false_eq_true, if_false, List.forIn_nil, pure_bind, h2]

/-! a def of the program -/
noncomputable def paramsOk (p : Arguments) (ps : List Str) : Bool :=
  match p with
  | ⟨[], as, none, [], _, none, _⟩ => as.map (·.arg) == ps
  | _ => false
noncomputable def nodupB : List Str → Bool
  | [] => true
  | x :: xs => !xs.contains x && nodupB xs
theorem nodup_of : ∀ {xs : List Str}, nodupB xs = true → xs.Nodup
  | [], _ => List.nodup_nil
  | x :: xs, h => by
    simp only [nodupB, Bool.and_eq_true, Bool.not_eq_true'] at h
    refine List.nodup_cons.mpr ⟨fun hm => ?_, nodup_of h.2⟩
    rw [List.contains_iff_mem.mpr hm] at h; cases h.1

noncomputable def hdChk (d : DefRec) (ps more : List Str) : Bool :=
  paramsOk d.params ps && d.scope.kind == .function && !d.scope.isGenerator && !d.scope.isCoroutine && nodupB (ps ++ more) &&
  (ps ++ more).all (fun x => d.scope.names.lookup x == some .local || d.scope.names.lookup x == some .cell)
/-! the places of the program's text -/
noncomputable def box (cs : List PT) : PT := .mk default default default 0 default [] (.Pass default) cs
noncomputable def at1 (p p2 : Pos) (n : Nat) (cs : List PT) : PT := .mk p p2 default n default [] (.Pass default) cs
noncomputable def ptE : Nat → Expr → PT
  | 0, _ => .nil
  | m + 1, e => match e with
    | .Constant v k p => .mk p default default k default (match v with | .str s => [s] | _ => []) (.Pass default) []
    | .Name _ p => at1 p default 0 []
    | .UnaryOp _ e p => at1 p default 0 [ptE m e]
    | .BinOp l _ r p => at1 p default 0 [ptE m l, ptE m r]
    | .Compare l _ rs p => at1 p default 0 (ptE m l :: rs.map (ptE m))
    | .BoolOp _ es p => at1 p default 0 (es.map (ptE m))
    | .Call f as _ p => at1 p f.pos 0 ((match f with | .Attribute v _ _ => [ptE m v] | _ => []) ++ as.map (ptE m))
    | .Subscript v i p => at1 p i.pos 0 (ptE m v :: (match i with | .Slice lo hi _ _ => [(lo.map (ptE m)).getD .nil, (hi.map (ptE m)).getD .nil] | i => [ptE m i]))
    | .List es p => at1 p default 0 (es.map (ptE m))
    | .Tuple es k p => .mk p (hd (es.map (ptE m))).pos (hd (es.map (ptE m)).tail).pos k default [] (.Pass default) (es.map (ptE m))
    | .ListComp e gs sc p => .mk p default default 0 sc [] (.Pass default) (ptE m e :: (gs.map fun g => ptE m g.target :: ptE m g.iter :: g.ifs.map (ptE m)).flatten)
    | .Dict _ _ p => at1 p default 0 []
    | _ => .nil
noncomputable def ptS : Nat → Stmt → PT
  | 0, _ => .nil
  | m + 1, s => match s with
    | .Assign ts v p => at1 p default 0 [hd (ts.map (ptE m)), ptE m v]
    | .Expr e p => at1 p default 0 [ptE m e]
    | .Delete ts p => at1 p default 0 (ts.map (ptE m))
    | .If t a b p => at1 p default 0 [ptE m t, box (a.map (ptS m)), box (b.map (ptS m))]
    | .For t i b _ p => at1 p default 0 [ptE m t, ptE m i, box (b.map (ptS m))]
    | .While t b _ p => at1 p default 0 [ptE m t, box (b.map (ptS m))]
    | .Return e p => at1 p default 0 [(e.map (ptE m)).getD .nil]
    | .Raise e _ p => .mk p default default 0 default [] s [(e.map (ptE m)).getD .nil]
    | .Try b hs _ _ p => at1 p default 0 (hd (b.map (ptS m)) :: (hs.map fun h => match h with | .ExceptHandler t _ hb hp => [at1 hp ((t.map (·.pos)).getD default) 0 [], hd (hb.map (ptS m))]).flatten)
    | s => .mk default default default 0 default [] s []
noncomputable def ptSs (b : List Stmt) : List PT := b.map (ptS 60)

noncomputable def cxOf (d : DefRec) (names tn fn : List Str) : Cx := ⟨d.scope, names, none, tn, fn⟩
noncomputable def fnChk (d : DefRec) (ps more tn fn : List Str) (body : Ss) : Bool := hdChk d ps more && okSs (cxOf d (ps ++ more) tn fn) body (ptSs d.body)

theorem cells_keep : ∀ (names : List (Str × NameKind)) (n : Nat) (acc : List (Str × Addr)) (x : Str), (acc.lookup x).isSome = true → ((cellsFrom n names acc).lookup x).isSome = true
  | [], _, _, _, h => h
  | (y, k) :: r, n, acc, x, h => by
    unfold cellsFrom
    split
    · refine cells_keep r _ _ x ?_
      rw [List.lookup_cons]
      cases hb : x == y with
      | true => rfl
      | false => exact h
    · exact cells_keep r _ _ x h
theorem cells_has : ∀ (names : List (Str × NameKind)) (n : Nat) (acc : List (Str × Addr)) (x : Str), (x, NameKind.cell) ∈ names → ((cellsFrom n names acc).lookup x).isSome = true
  | [], _, _, _, h => nomatch h
  | (y, k) :: r, n, acc, x, h => by
    unfold cellsFrom
    rcases List.mem_cons.mp h with e | h
    · cases e
      rw [if_pos (by decide)]
      exact cells_keep r _ _ _ (by simp)
    · split
      · exact cells_has r _ _ x h
      · exact cells_has r _ _ x h

theorem bind_val (f : Fm) : ∀ (binds : List (Str × Value)) (m cm : Str → Option Value), (∀ p ∈ binds, f.scope.names.lookup p.1 = some .local ∨ f.scope.names.lookup p.1 = some .cell) → (binds.map (·.1)).Nodup → ∀ x v, (x, v) ∈ binds →
    f.val (PySem.bindL f.env.kindOf binds m) (PySem.bindC f.env.kindOf binds cm) x = some v := by
  have keep : ∀ (binds : List (Str × Value)) (m cm : Str → Option Value) (x : Str), x ∉ binds.map (·.1) → f.val (PySem.bindL f.env.kindOf binds m) (PySem.bindC f.env.kindOf binds cm) x = f.val m cm x := by
    intro binds
    induction binds with
    | nil => intro m cm x _; rfl
    | cons p r ih =>
      intro m cm x hx
      obtain ⟨y, u⟩ := p
      simp only [List.map_cons, List.mem_cons, not_or] at hx
      unfold PySem.bindL PySem.bindC
      rw [ih _ _ x hx.2]
      unfold Fm.val
      split
      · split
        · rfl
        · simp [hx.1]
      · split
        · simp [hx.1]
        · rfl
  intro binds
  induction binds with
  | nil => intro m cm _ _ x v h; nomatch h
  | cons p r ih =>
    intro m cm hk hn x v h
    obtain ⟨y, u⟩ := p
    simp only [List.map_cons, List.nodup_cons] at hn
    unfold PySem.bindL PySem.bindC
    rcases List.mem_cons.mp h with e | h
    · cases e
      rw [keep r _ _ x hn.1]
      unfold Fm.val
      rcases hk (x, v) (.head _) with hl | hc
      · have hl' : f.scope.names.lookup x = some .local := hl
        have : f.env.kindOf x = some .local := hl'
        rw [hl', if_neg (by decide), this, if_pos rfl]; simp
      · have hc' : f.scope.names.lookup x = some .cell := hc
        have : f.env.kindOf x = some .cell := hc'
        rw [hc', if_pos rfl, this, if_neg (by decide)]; simp
    · exact ih _ _ (fun p hp => hk p (.tail _ hp)) hn.2 x v h

/-- the frame of a call -/
noncomputable def mkFm (g : GC) (n : Nat) (A : Around) (s : Shared) (K : KM) (base : Heap) (fr : List Env) (top : Prop) (a : Addr) (code : Value) (d : DefRec) (names tn fn : List Str) : Fm :=
  { g := g, n := n, A := A.deeper (envOfC d.name d.scope s.heap.objs.size a code), s₀ := s, K₀ := K, L := s.heap.objs.size, a := a, cd := code, name := d.name, scope := d.scope, names := names, tn := tn, fn := fn, base := base, fr := fr, top := top }

theorem fn_run {g : GC} {n : Nat} {d : DefRec} (hd : d ∈ recsOf g.tp) {ps more tn fn : List Str} (hc : hdChk d ps more = true) (htn : tn = g.tabs.map (·.1)) (hfn : ∀ y ∈ fn, ∃ d ∈ recsOf g.tp, d.name = y)
    {A : Around} {base : Heap} {fr : List Env} {top : Prop} {s : Shared} {K : KM} {ds : List D} {vs : List Value} {a : Addr} {R : Result → Shared → Prop} (room : Room A (n + 1)) (hb : Below A base fr s.heap) (htop : top → fr = []) (gok : GOk g s.heap) (gl : GlOk g K) (kin : KIn K s.heap) (hvs : VRs K ds vs)
    (hl : ds.length = ps.length) (hm : g.mg d.name = some (.ref a))
    (h : ∀ code h₁ tk, (mkFm g n A s K base fr top a code d (ps ++ more) tn fn).Ok → (∃ c P, code = .ref c ∧ s.heap.IsCode c P #[] ∧ s.heap.TableAt c P #[]) →
      Rel (mkFm g n A s K base fr top a code d (ps ++ more) tn fn) K (ds.map Slot.frz ++ List.replicate more.length Slot.unb) { s with heap := h₁, toks := tk } →
      wpAny (model g.prog g.w) (mkFm g n A s K base fr top a code d (ps ++ more) tn fn).A (execs d.body (mkFm g n A s K base fr top a code d (ps ++ more) tn fn).env)
        (fun fl s' => R (.ok (.ret (match fl with | .ret v => v | _ => .none))) s')
        (fun e s' => wpAny (model g.prog g.w) (mkFm g n A s K base fr top a code d (ps ++ more) tn fn).A (leaving (mkFm g n A s K base fr top a code d (ps ++ more) tn fn).env e) (fun _ s'' => R (.error e) s'') (fun e' s'' => R (.error e') s'') s') { s with heap := h₁, toks := tk }) :
    codeAny (model g.prog g.w) A (.call (.ref a) ⟨vs, []⟩) R s := by
  simp only [hdChk, Bool.and_eq_true, beq_iff_eq, Bool.not_eq_true'] at hc
  obtain ⟨⟨⟨⟨⟨hp, hkind⟩, hgen⟩, hco⟩, hnd⟩, hloc⟩ := hc
  obtain ⟨a', o, pm, code, doc, hm', ho, hdat, hcr⟩ := gok.top.fn d hd
  rw [hm] at hm'; cases hm'
  have htab : ∃ c P, code = .ref c ∧ s.heap.IsCode c P #[] ∧ s.heap.TableAt c P #[] := by
    obtain ⟨a', o', fd, c', P', h1, h2, h3, h4, h5, h6⟩ := gok.top.tab d hd
    rw [hm] at h1; cases h1
    rw [ho] at h2; cases h2
    rw [hdat] at h3; cases h3
    exact ⟨c', P', h4, h5, h6⟩
  have hvl := hvs.length
  have hnod := nodup_of hnd
  have hpn : ps.Nodup := (List.nodup_append.mp hnod).1
  have hkinds : ∀ x ∈ ps ++ more, d.scope.names.lookup x = some .local ∨ d.scope.names.lookup x = some .cell := fun x hx => by
    have := List.all_eq_true.mp hloc x hx
    simpa using this
  have hbind : bindArgs (docDef d.name d.params d.body d.scope pm code doc) ⟨vs, []⟩ = pure (ps.zip vs) := by
    unfold paramsOk at hp
    split at hp
    · rename_i as _ _ heq
      rw [heq]
      exact bind_simple (beq_iff_eq.mp hp) hpn (by (first | lia | omega))
    · cases hp
  have hcells : ∀ x, d.scope.names.lookup x = some .cell → ∃ c, (cellsFrom (s.heap.objs.size + 1) d.scope.names []).lookup x = some c := fun x hx =>
    Option.isSome_iff_exists.mp (cells_has d.scope.names _ [] x (mem_of_lookup' hx))
  refine call_cells (by have := room.depth; unfold recursionLimit; (first | lia | omega)) ho hdat gok.top.nolimit hcr hbind (fun x hx => ?_) (fun h₁ tk F X => ?_) hco hgen hkind
  · rcases hkinds x.1 (List.mem_append_left _ (List.of_mem_zip hx).1) with h1 | h1
    · exact .inl h1
    · exact .inr ⟨h1, by obtain ⟨c, hc⟩ := hcells x.1 h1; rw [hc]; rfl⟩
  · refine h code h₁ tk ?_ htab ?_
    · refine ⟨⟨room.handled, ?_, ?_⟩, gok, gl, hkind, Nat.le_refl _, hnod, hkinds, hcells, htn, hfn, kin, Around.frames_deeper hb.stack, hb.stays, hb.frames, htop⟩
      · show A.depth + 1 + n ≤ 500
        have := room.depth; (first | lia | omega)
      · show A.units + 3 + 10 * n ≤ 1000
        have := room.units; (first | lia | omega)
    · have hnone : ∀ b, s.heap.objs.size ≤ b → K b = none := fun b hb => none_of_new kin (Heap.get?_none_of_le hb)
      refine ⟨_, _, ⟨h₁, tk, rfl⟩, F.keep, fun b ob e => F.keep b ob (kin b ob e), KM.le_refl _, fun b ob e => .inl e, hnone _ (Nat.le_refl _), fun nm c hc => hnone _ (Nat.le_of_lt (X.above nm c (mem_of_lookup' hc))), ?_, F.ns, X, fun i x sl h1 h2 => ?_, fun i j x y b d₁ d₂ hij h1 h2 h3 h4 => ?_⟩
      · simp [mkFm, hl]
      · by_cases hi : i < ds.length
        · rw [List.getElem?_append_left (by simpa using hi), List.getElem?_map, List.getElem?_eq_getElem hi] at h2
          simp only [Option.map_some, Option.some.injEq] at h2
          subst h2
          obtain ⟨v, hv, hr⟩ := hvs.get (List.getElem?_eq_getElem hi)
          have hx : ps[i]? = some x := by
            have : (ps ++ more)[i]? = some x := h1
            rwa [List.getElem?_append_left (by (first | lia | omega))] at this
          refine ⟨v, bind_val (mkFm g n A s K base fr top a code d (ps ++ more) tn fn) (ps.zip vs) _ _ (fun p hp => hkinds p.1 (List.mem_append_left _ (List.of_mem_zip hp).1)) (by rw [List.map_fst_zip (by (first | lia | omega))]; exact hpn) x v ?_, hr⟩
          exact List.mem_of_getElem? (i := i) (by rw [List.getElem?_zip_eq_some]; exact ⟨hx, hv⟩)
        · rw [List.getElem?_append_right (by simpa using hi)] at h2
          have := List.mem_of_getElem? h2
          rw [List.eq_of_mem_replicate this]; trivial
      · exfalso
        by_cases hi : i < ds.length
        · rw [List.getElem?_append_left (by simpa using hi), List.getElem?_map, List.getElem?_eq_getElem hi] at h3
          simp at h3
        · rw [List.getElem?_append_right (by simpa using hi)] at h3
          have := List.eq_of_mem_replicate (List.mem_of_getElem? h3)
          cases this

/-- the call of a def in the outermost frame -/
noncomputable def FnTop (g : GC) (n : Nat) (f : Str) (ds : List D) (r : R D) : Prop :=
  ∀ (A : Around) (base : Heap) (s : Shared) (K : KM) (vs : List Value) (a : Addr), Room A n → Below A base [] s.heap → GOk g s.heap → GlOk g K → KIn K s.heap → VRs K ds vs →
    g.mg f = some (.ref a) → codeAny (model g.prog g.w) A (.call (.ref a) ⟨vs, []⟩) (ResOk r base [] s K) s
theorem FnOk.top {g : GC} {n : Nat} {f : Str} {ds : List D} {r : R D} (h : FnOk g n f ds r) : FnTop g n f ds r := fun A base s K vs a => h A base [] s K vs a

theorem fn_at {g : GC} {n : Nat} {f : Str} {ps more tn fn : List Str} {body : Ss} {top : Prop} {d : DefRec} (hd : d ∈ recsOf g.tp) (hdn : d.name = f) (hc : fnChk d ps more tn fn body = true) (hbd : d.body = toSs (cxOf d (ps ++ more) tn fn) body (ptSs d.body)) (htn : tn = g.tabs.map (·.1)) (hfn : ∀ y ∈ fn, ∃ d ∈ recsOf g.tp, d.name = y)
    {ds : List D} {r : R D} (hl : ds.length = ps.length) {X : String → List Slot → Prop} (hX : ∀ c ρ, X c ρ → r = .exc c)
    (hw : wpSs (fnAt g n top) body X (ds.map Slot.frz ++ List.replicate more.length Slot.unb) (fun out _ => match out with | .ret d => r = .ok d | .next => r = .ok .none))
    {A : Around} {base : Heap} {fr : List Env} {s : Shared} {K : KM} {vs : List Value} {a : Addr} (htop : top → fr = []) (room : Room A (n + 1)) (hb : Below A base fr s.heap) (gok : GOk g s.heap) (gl : GlOk g K) (kin : KIn K s.heap) (hvs : VRs K ds vs)
    (hm : g.mg f = some (.ref a)) : codeAny (model g.prog g.w) A (.call (.ref a) ⟨vs, []⟩) (ResOk r base fr s K) s := by
  subst hdn
  simp only [fnChk, Bool.and_eq_true] at hc
  obtain ⟨hc, hbody⟩ := hc
  refine fn_run hd hc htn hfn room hb htop gok gl kin hvs hl hm fun code h₁ tk ok _ rel => ?_
  rw [hbd]
  refine wpAny_mono (allSs body _ ok X _ (fun cl ρ hXc K' s' e s'' rel' hr => ?_) (ptSs d.body) hbody K _ _ _ rel hw) (fun fl s' hp => ?_) fun _ _ x => x
  · cases hX cl ρ hXc
    obtain ⟨m, cm, r'⟩ := rel'
    refine leave_raised (rel_below ok r') rfl hr fun a' s₃ he hfl => ?_
    obtain ⟨h₃, tk₃, a0, rfl, q1, q2⟩ := hfl
    obtain ⟨h', tk', e'⟩ := r'.st
    refine ⟨a', by rw [he], h₃, tk₃, a0, by rw [e']; rfl, q1, (Heap.UpToSlots.of_keeps r'.keep).trans q2⟩
  · obtain ⟨out, ρ', K', hq, ⟨m, cm, r'⟩, le, hout⟩ := hp
    have post : Post s K s' K' := by
      obtain ⟨h', tk', e⟩ := r'.st
      exact ⟨⟨h', tk', e, fun b ob eb => by have := r'.keep b ob eb; rw [e] at this; exact this⟩, le, r'.kin, r'.knew⟩
    cases out with
    | next => cases hout; cases hq; exact ⟨_, K', rfl, post, .none⟩
    | ret dd => obtain ⟨v, rfl, hv⟩ := hout; cases hq; exact ⟨v, K', rfl, post, hv⟩

end Mine

namespace Mine
open PySem PySem.Calls PyProof.Rows

/-! a law -/
structure FnRec where
  name : Str
  ps : List Str
  more : List Str
  body : Ss

noncomputable def bOk (tp : Program) (loose : List Str) : Bool :=
  bnames.all fun x => !startupNames.contains x && !loose.contains x && !((recsOf tp).map (·.name)).contains x && !((litsOf tp).map (·.1)).contains x && !((clssOf tp loose).map (·.name)).contains x
noncomputable def recAt (tp : Program) (x : Str) : Option DefRec := (recsOf tp).find? fun d => d.name == x
noncomputable def fnsOk (tp : Program) (tn : List Str) (fs : List FnRec) : Bool :=
  fs.all fun r => (match recAt tp r.name with | some d => fnChk d r.ps r.more tn (fs.map (·.name)) r.body | none => false)
/-- the bodies are mine, written out -/
noncomputable def fnsEq (tp : Program) (tn : List Str) (fs : List FnRec) : Prop :=
  (fs.map fun r => (recAt tp r.name).map (·.body)) = fs.map fun r => (recAt tp r.name).map fun d => toSs (cxOf d (r.ps ++ r.more) tn (fs.map (·.name))) r.body (ptSs d.body)

/-- a program whose defs are read -/
structure GP (g : GC) (fs : List FnRec) : Prop where
  ok : fnsOk g.tp (g.tabs.map (·.1)) fs = true
  same : fnsEq g.tp (g.tabs.map (·.1)) fs

theorem GP.at {g : GC} {fs : List FnRec} (h : GP g fs) {r : FnRec} (hr : r ∈ fs) : ∃ d ∈ recsOf g.tp, d.name = r.name ∧ fnChk d r.ps r.more (g.tabs.map (·.1)) (fs.map (·.name)) r.body = true ∧
    d.body = toSs (cxOf d (r.ps ++ r.more) (g.tabs.map (·.1)) (fs.map (·.name))) r.body (ptSs d.body) := by
  have h1 := List.all_eq_true.mp h.ok r hr
  have h2 := List.map_inj_left.mp h.same r hr
  cases e : recAt g.tp r.name with
  | none => rw [e] at h1; cases h1
  | some d =>
    rw [e] at h1 h2
    exact ⟨d, List.mem_of_find?_eq_some e, beq_iff_eq.mp (List.find?_some (p := fun d : DefRec => d.name == r.name) e), h1, by simpa using h2⟩
theorem GP.fns {g : GC} {fs : List FnRec} (h : GP g fs) : ∀ y ∈ fs.map (·.name), ∃ d ∈ recsOf g.tp, d.name = y := fun y hy => by
  obtain ⟨r', hr', rfl⟩ := List.mem_map.mp hy
  obtain ⟨d, hd, hn, _⟩ := h.at hr'
  exact ⟨d, hd, hn⟩
theorem GP.run {g : GC} {fs : List FnRec} (h : GP g fs) {r : FnRec} (hr : r ∈ fs) {n : Nat} {ds : List D} {res : R D} (hl : ds.length = r.ps.length) {top : Prop} {X : String → List Slot → Prop} (hX : ∀ c ρ, X c ρ → res = .exc c)
    (hw : wpSs (fnAt g n top) r.body X (ds.map Slot.frz ++ List.replicate r.more.length Slot.unb) (fun out _ => match out with | .ret d => res = .ok d | .next => res = .ok .none)) :
    ∀ (A : Around) (base : Heap) (fr : List Env) (s : Shared) (K : KM) (vs : List Value) (a : Addr), (top → fr = []) → Room A (n + 1) → Below A base fr s.heap → GOk g s.heap → GlOk g K → KIn K s.heap → VRs K ds vs →
      g.mg r.name = some (.ref a) → codeAny (model g.prog g.w) A (.call (.ref a) ⟨vs, []⟩) (ResOk res base fr s K) s := by
  obtain ⟨d, hd, hn, hc, hb⟩ := h.at hr
  exact fun A base fr s K vs a ht room hbl gok gl kin hvs hm => fn_at hd hn hc hb rfl h.fns hl hX hw ht room hbl gok gl kin hvs hm
theorem GP.fnX {g : GC} {fs : List FnRec} (h : GP g fs) {r : FnRec} (hr : r ∈ fs) {n : Nat} {ds : List D} {res : R D} (hl : ds.length = r.ps.length)
    (hw : wpSs (fnOf g n) r.body (fun c _ => res = .exc c) (ds.map Slot.frz ++ List.replicate r.more.length Slot.unb) (fun out _ => match out with | .ret d => res = .ok d | .next => res = .ok .none)) : FnOk g (n + 1) r.name ds res :=
  fun A base fr s K vs a => h.run hr hl (top := False) (fun c ρ h => h) hw A base fr s K vs a (fun h => h.elim)
theorem GP.fn {g : GC} {fs : List FnRec} (h : GP g fs) {r : FnRec} (hr : r ∈ fs) {n : Nat} {ds : List D} {res : R D} (hl : ds.length = r.ps.length)
    (hw : wpSs (fnOf g n) r.body (fun _ _ => False) (ds.map Slot.frz ++ List.replicate r.more.length Slot.unb) (fun out _ => match out with | .ret d => res = .ok d | .next => res = .ok .none)) : FnOk g (n + 1) r.name ds res :=
  fun A base fr s K vs a => h.run hr hl (top := False) (fun c ρ h => h.elim) hw A base fr s K vs a (fun h => h.elim)
theorem GP.top {g : GC} {fs : List FnRec} (h : GP g fs) {r : FnRec} (hr : r ∈ fs) {n : Nat} {ds : List D} {res : R D} (hl : ds.length = r.ps.length)
    (hw : wpSs (fnAt g n True) r.body (fun _ _ => False) (ds.map Slot.frz ++ List.replicate r.more.length Slot.unb) (fun out _ => match out with | .ret d => res = .ok d | .next => res = .ok .none)) : FnTop g (n + 1) r.name ds res :=
  fun A base s K vs a => h.run hr hl (top := True) (fun c ρ h => h.elim) hw A base [] s K vs a (fun _ => rfl)

noncomputable def dInts (ns : List Int) : List D := ns.map .int


end Mine

namespace Mine
open PySem PySem.Calls PyProof.Rows

/-! stepping -/
noncomputable def Kn (fn : Fn) (ss : Ss) (X : String → List Slot → Prop) (Q : Out → List Slot → Prop) : Out → List Slot → Prop :=
  fun o ρ' => match o with | .next => wpSs fn ss X ρ' Q | .ret d => Q (.ret d) ρ'

theorem kn_next {fn ss X Q ρ} (h : wpSs fn ss X ρ Q) : Kn fn ss X Q .next ρ := h
theorem kn_ret {fn ss X Q d ρ} (h : Q (.ret d) ρ) : Kn fn ss X Q (.ret d) ρ := h
theorem st_cons {fn s ss X Q ρ} (h : wpS fn s X ρ (Kn fn ss X Q)) : wpSs fn (.cons s ss) X ρ Q := h
theorem st_nil {fn X Q ρ} (h : Q .next ρ) : wpSs fn .nil X ρ Q := h
theorem kn_cons {fn s ss X Q ρ} (h : wpS fn s X ρ (Kn fn ss X Q)) : Kn fn (.cons s ss) X Q .next ρ := h
theorem kn_nil {fn X Q ρ} (h : Q .next ρ) : Kn fn .nil X Q .next ρ := h

theorem call_ok {fn : Fn} {f : Str} {ds : List D} {d : D} {Q : D → Prop} {X : String → Prop} (h : fn.call f ds (.ok d)) (hq : Q d) : ∃ r, fn.call f ds r ∧ (match r with | .ok d => Q d | .exc c => X c | .bad => False) := ⟨_, h, hq⟩

theorem rgL_length (a c : Int) : ∀ n, (rangeL a c n).length = n
  | 0 => rfl
  | n + 1 => by simp [rangeL, rgL_length _ c n]
theorem rgL_get (c : Int) : ∀ (n k : Nat) (a : Int), k < n → (rangeL a c n)[k]? = some (a + k * c)
  | 0, k, a, h => by (first | lia | omega)
  | n + 1, 0, a, h => by simp [rangeL]
  | n + 1, k + 1, a, h => by
    simp only [rangeL, List.getElem?_cons_succ]
    rw [rgL_get c n k _ (by (first | lia | omega))]
    congr 1
    push_cast
    rw [Int.add_mul]; (first | lia | omega)
theorem rgL_get_some {c : Int} {n k : Nat} {a : Int} {d : D} (h : ((rangeL a c n).map D.int)[k]? = some d) : k < n ∧ d = .int (a + k * c) := by
  rw [List.getElem?_map] at h
  by_cases hk : k < n
  · rw [rgL_get c n k a hk] at h
    exact ⟨hk, by simpa using h.symm⟩
  · rw [List.getElem?_eq_none (by rw [rgL_length]; (first | lia | omega))] at h
    cases h
theorem rgL_mem {c : Int} {n : Nat} {a x : Int} (h : x ∈ rangeL a c n) : ∃ k : Nat, k < n ∧ x = a + k * c := by
  obtain ⟨k, hk, e⟩ := List.mem_iff_getElem.mp h
  rw [rgL_length] at hk
  have := rgL_get c n k a hk
  rw [List.getElem?_eq_getElem (by rw [rgL_length]; exact hk), e] at this
  exact ⟨k, hk, by injection this⟩
theorem rgL_mem_of {c : Int} {n k : Nat} {a : Int} (h : k < n) : a + k * c ∈ rangeL a c n :=
  List.mem_of_getElem? (rgL_get c n k a h)
theorem rgL_one (a : Int) (n : Nat) : rangeL a 1 n = (List.range n).map (fun k : Nat => a + (k : Int)) := by
  apply List.ext_getElem?
  intro k
  by_cases hk : k < n
  · rw [rgL_get 1 n k a hk]; simp [hk]
  · rw [List.getElem?_eq_none (by rw [rgL_length]; (first | lia | omega)), List.getElem?_eq_none (by simp; (first | lia | omega))]

theorem for1_of {items : List D} {x : Nat} {turn : List Slot → (Out → List Slot → Prop) → Prop} {ρ : List Slot} {Q : Out → List Slot → Prop} (I : Nat → List Slot → Prop) (h0 : I 0 ρ)
    (h1 : ∀ k ρ' d, I k ρ' → items[k]? = some d → turn (ρ'.set x (.frz d)) (fun o ρ'' => match o with | .next => I (k + 1) ρ'' | .ret v => Q (.ret v) ρ'')) (h2 : ∀ ρ', I items.length ρ' → Q .next ρ') :
    forW items (fun ρ d => some (ρ.set x (.frz d))) turn ρ Q := ⟨I, h0, fun k ρ' d hI hd => ⟨_, rfl, h1 k ρ' d hI hd⟩, h2⟩

/-- what the loop leaves after a turn -/
noncomputable def Lp (I : Nat → List Slot → Prop) (k : Nat) (Q : Out → List Slot → Prop) : Out → List Slot → Prop :=
  fun o ρ'' => match o with | .next => I (k + 1) ρ'' | .ret v => Q (.ret v) ρ''
theorem for1_ofL {items : List D} {x : Nat} {fn : Fn} {body : Ss} {X} {ρ : List Slot} {Q : Out → List Slot → Prop} (I : Nat → List Slot → Prop) (h0 : I 0 ρ)
    (h1 : ∀ k ρ' d, I k ρ' → items[k]? = some d → wpSs fn body X (ρ'.set x (.frz d)) (Lp I k Q)) (h2 : ∀ ρ', I items.length ρ' → Q .next ρ') :
    forW items (fun ρ d => some (ρ.set x (.frz d))) (fun ρ Q => wpSs fn body X ρ Q) ρ Q := ⟨I, h0, fun k ρ' d hI hd => ⟨_, rfl, h1 k ρ' d hI hd⟩, h2⟩
theorem lp_next {I k Q ρ} (h : I (k + 1) ρ) : Lp I k Q .next ρ := h
theorem lp_ret {I k Q ρ v} (h : Q (.ret v) ρ) : Lp I k Q (.ret v) ρ := h

theorem dInts_length (ns : List Int) : (dInts ns).length = ns.length := by simp [dInts]
theorem dInts_get (ns : List Int) (k : Nat) : (dInts ns)[k]? = (ns[k]?).map D.int := by simp [dInts]
theorem unInts_dInts : ∀ ns : List Int, unInts (dInts ns) = some ns
  | [] => rfl
  | n :: r => by
    have := unInts_dInts r
    unfold dInts at this
    simp [dInts, unInts, this]
theorem plain_ints (ns : List Int) : Plain (.lst (dInts ns)) := .lst fun d hd => by
  obtain ⟨n, _, rfl⟩ := List.mem_map.mp hd
  exact .int n
theorem dep_ints (ns : List Int) : D.dep 6 (.lst (dInts ns)) := by
  intro d hd
  obtain ⟨n, _, rfl⟩ := List.mem_map.mp hd
  simp [D.dep]
theorem dInts_inj : ∀ {a b : List Int} (h : dInts a = dInts b), a = b
  | [], [], _ => rfl
  | [], _ :: _, h => by cases h
  | _ :: _, [], h => by cases h
  | x :: a, y :: b, h => by
    simp only [dInts, List.map_cons, List.cons.injEq, D.int.injEq] at h
    rw [h.1, dInts_inj (a := a) (b := b) h.2]
theorem eqB_ints (a b : List Int) : eqB (.lst (dInts a)) (.lst (dInts b)) = decide (a = b) := by
  unfold eqB
  by_cases h : a = b
  · subst h; simp
  · have : ¬ (D.lst (dInts a) = D.lst (dInts b)) := fun e => h (dInts_inj (by injection e))
    simp [h, this]
theorem eqB_self (a : D) : eqB a a = true := by simp [eqB]
theorem eqW_ints {a b : List Int} {Q : Bool → Prop} (h : Q (decide (a = b))) : eqW (.lst (dInts a)) (.lst (dInts b)) Q :=
  ⟨plain_ints a, plain_ints b, dep_ints a, dep_ints b, by rw [eqB_ints]; exact h⟩

/-- the script's cell -/
noncomputable def cell (ns : List Int) (k : Nat) (z : Int) : Int := ns.getD k z

theorem item_ints {X : String → Prop} {ns : List Int} {k : Int} {Q : D → Prop} (h0 : 0 ≤ k) (h1 : k < ns.length) (h2 : ns.length < 2 ^ 62) (h : Q (.int (ns.getD k.toNat 0))) : itemW X (dInts ns) k Q := by
  refine ⟨⟨by (first | lia | omega), by (first | lia | omega)⟩, ?_⟩
  rw [if_pos h0, dInts_get]
  have : k.toNat < ns.length := by (first | lia | omega)
  rw [List.getElem?_eq_getElem this]
  simp only [Option.map_some]
  rw [List.getD_eq_getElem?_getD, List.getElem?_eq_getElem this] at h
  exact h

theorem eqW_int (x y : Int) (Q : Bool → Prop) : eqW (.int x) (.int y) Q = Q (x == y) := rfl
theorem eqW_bool (x y : Bool) (Q : Bool → Prop) : eqW (.bool x) (.bool y) Q = Q (x == y) := rfl
section
variable (a b c : Int) (x y : Bool) (u v : String) (d e : D) (ds es : List D) (Q : D → Prop) (P : Bool → Prop) (L : List D → Prop) (X : String → Prop)
theorem bw_add : binW .Add (.int a) (.int b) Q = Q (.int (a + b)) := rfl
theorem bw_sub : binW .Sub (.int a) (.int b) Q = Q (.int (a - b)) := rfl
theorem bw_mul : binW .Mult (.int a) (.int b) Q = ((small a ∨ small b) ∧ Q (.int (a * b))) := rfl
theorem bw_div : binW .FloorDiv (.int a) (.int b) Q = (b ≠ 0 ∧ small b ∧ Q (.int (a.fdiv b))) := rfl
theorem bw_mod : binW .Mod (.int a) (.int b) Q = (b ≠ 0 ∧ Q (.int (a.fmod b))) := rfl
theorem bw_pow : binW .Pow (.int a) (.int b) Q = (a = 2 ∧ 0 ≤ b ∧ b ≤ 1000 ∧ Q (.int (2 ^ b.toNat))) := rfl
theorem bw_cat : binW .Add (.lst ds) (.lst es) Q = (ds.length + es.length ≤ 16777216 ∧ Q (.lst (ds ++ es))) := rfl
theorem bw_rep : binW .Mult (.lst ds) (.int b) Q = (small b ∧ ds.length * b.toNat ≤ 16777216 ∧ Q (.lst (List.replicate b.toNat ds).flatten)) := rfl
theorem cw_eq : cmpW .Eq d e P = eqW d e P := rfl
theorem cw_ne : cmpW .NotEq d e P = eqW d e (fun r => P (!r)) := rfl
theorem cw_lt : cmpW .Lt (.int a) (.int b) P = P (decide (a < b)) := rfl
theorem cw_le : cmpW .LtE (.int a) (.int b) P = P (decide (a ≤ b)) := rfl
theorem cw_gt : cmpW .Gt (.int a) (.int b) P = P (decide (b < a)) := rfl
theorem cw_ge : cmpW .GtE (.int a) (.int b) P = P (decide (b ≤ a)) := rfl
theorem cw_is : cmpW .Is d e P = isW d e P := rfl
theorem cw_isn : cmpW .IsNot d e P = isW d e (fun r => P (!r)) := rfl
theorem iw_bool : isW (.bool x) (.bool y) P = P (x == y) := rfl
theorem iw_none : isW .none .none P = P true := rfl
theorem iw_typ : isW (.typ u) (.typ v) P = P (u == v) := rfl
theorem iw_tup : isW (.tup ds) .none P = P false := rfl
theorem iw_lst : isW (.lst ds) .none P = P false := rfl
theorem cw_in {f : Int → Option Int} {n : Nat} : cmpW .In (.int a) (.dct f n) P = P (f a).isSome := rfl
theorem sw_dct {f : Int → Option Int} {n : Nat} : subW X (.dct f n) (.int a) Q = (match f a with | some v => Q (.int v) | .none => False) := rfl
theorem sw_lst : subW X (.lst ds) (.int a) Q = itemW X ds a Q := rfl
theorem sw_tup : subW X (.tup ds) (.int a) Q = itemW (fun _ => False) ds a Q := rfl
theorem bc_len : bcallW .len [.lst ds] Q = (ds.length < 2 ^ 62 ∧ Q (.int ds.length)) := rfl
theorem bc_lent : bcallW .len [.tup ds] Q = (ds.length < 2 ^ 62 ∧ Q (.int ds.length)) := rfl
theorem bc_abs : bcallW .abs [.int a] Q = Q (.int (if a < 0 then -a else a)) := rfl
theorem bc_min : bcallW .min [.int a, .int b] Q = Q (.int (if b < a then b else a)) := rfl
theorem bc_list : bcallW .list [.lst ds] Q = (ds.length ≤ 16777216 ∧ Q (.lst ds)) := rfl
theorem bc_ty_i : bcallW .type [.int a] Q = Q (.typ "int") := rfl
theorem bc_ty_l : bcallW .type [.lst ds] Q = Q (.typ "list") := rfl
theorem bc_isb : bcallW .isinstance [.bool x, .typ u] Q = (u = "bool" ∧ Q (.bool true)) := rfl
theorem rw_1 : rangeW [.int b] L = (small (2 * b) ∧ L ((rangeL 0 1 b.toNat).map .int)) := rfl
theorem rw_2 : rangeW [.int a, .int b] L = (small (2 * a) ∧ small (2 * b) ∧ L ((rangeL a 1 (b - a).toNat).map .int)) := rfl
theorem rw_3 : rangeW [.int a, .int b, .int c] L = (small (2 * a) ∧ small (2 * b) ∧
      ((c = -1 ∧ L ((rangeL a (-1) (a - b).toNat).map .int)) ∨ (0 < c ∧ c ≤ 1000 ∧ L ((rangeL a c (if a < b then ((b - a - 1) / c + 1).toNat else 0)).map .int)))) := rfl
end
/-- where the two arms of a test meet -/
theorem ite_join {c : Bool} {fn : Fn} {a b : Ss} {X} {ρ : List Slot} {K : Out → List Slot → Prop} (I : List Slot → Prop) (ht : c = true → (∀ ρ', I ρ' → K .next ρ') → wpSs fn a X ρ K) (he : c = false → (∀ ρ', I ρ' → K .next ρ') → wpSs fn b X ρ K) (hk : ∀ ρ', I ρ' → K .next ρ') :
    if c = true then wpSs fn a X ρ K else wpSs fn b X ρ K := by
  cases c with
  | true => exact ht rfl hk
  | false => exact he rfl hk

/-! comprehensions, slices -/
theorem comp_gen {α : Type} {items : List D} {xs : List Str} {cond : List D → (Bool → Prop) → Prop} {elt : List D → (D → Prop) → Prop} {Q : D → Prop} (enc : α → D) (dec : D → α) (hde : ∀ a, dec (enc a) = a) (is : List α) (p : α → Bool) (f : α → D) (bs : α → List D)
    (hb : ∀ a ∈ is, bindC xs (enc a) = some (bs a)) (he : items = is.map enc) (hl : is.length ≤ 16777216) (h : ∀ a ∈ is, cond (bs a) (fun b => b = p a) ∧ (p a = true → elt (bs a) (fun y => y = f a))) (hq : Q (.lst ((is.filter p).map f))) : compW items xs cond elt Q := by
  subst he
  refine ⟨by simpa using hl, fun d => p (dec d), fun d => f (dec d), ?_, ?_⟩
  · intro d hd
    obtain ⟨a, ha, rfl⟩ := List.mem_map.mp hd
    refine ⟨_, hb a ha, ?_⟩
    simp only [hde]
    exact h a ha
  · rw [List.filter_map, List.map_map]
    have e1 : ((fun d => p (dec d)) ∘ enc) = p := by funext a; simp [hde]
    have e2 : ((fun d => f (dec d)) ∘ enc) = f := by funext a; simp [hde]
    rw [e1, e2]
    exact hq

noncomputable def D.asInt : D → Int
  | .int i => i
  | _ => 0

theorem comp_ints {items : List D} {x : Str} {cond : List D → (Bool → Prop) → Prop} {elt : List D → (D → Prop) → Prop} {Q : D → Prop} (is : List Int) (p : Int → Bool) (f : Int → Int) (he : items = is.map D.int) (hl : is.length ≤ 16777216)
    (h : ∀ a ∈ is, cond [.int a] (fun b => b = p a) ∧ (p a = true → elt [.int a] (fun y => y = .int (f a)))) (hq : Q (.lst (dInts ((is.filter p).map f)))) : compW items [x] cond elt Q := by
  refine comp_gen D.int D.asInt (fun _ => rfl) is p (fun a => .int (f a)) (fun a => [.int a]) (fun _ _ => rfl) he hl h ?_
  have : (is.filter p).map (fun a => D.int (f a)) = dInts ((is.filter p).map f) := by simp [dInts]
  rw [this]; exact hq

theorem comp_ints_all {items : List D} {x : Str} {cond : List D → (Bool → Prop) → Prop} {elt : List D → (D → Prop) → Prop} {Q : D → Prop} (is : List Int) (f : Int → Int) (he : items = is.map D.int) (hl : is.length ≤ 16777216)
    (hc : ∀ ds, cond ds (fun b => b = true)) (h : ∀ a ∈ is, elt [.int a] (fun y => y = .int (f a))) (hq : Q (.lst (dInts (is.map f)))) : compW items [x] cond elt Q := by
  refine comp_ints is (fun _ => true) f he hl (fun a ha => ⟨hc _, fun _ => h a ha⟩) ?_
  rw [show is.filter (fun _ => true) = is by simp]
  exact hq

theorem slice_lst {ds : List D} {a b : Int} {Q : D → Prop} (h0 : 0 ≤ a ∧ a < 2 ^ 63) (h1 : 0 ≤ b ∧ b < 2 ^ 63) (hl : ds.length ≤ 16777216) (h : Q (.lst ((ds.drop a.toNat).take (b.toNat - a.toNat)))) : sliceW (.lst ds) (.int a) (.int b) Q := by
  exact ⟨_, _, ⟨h0, rfl⟩, ⟨h1, rfl⟩, hl, h⟩
theorem slice_lst_to {ds : List D} {b : Int} {Q : D → Prop} (h1 : 0 ≤ b ∧ b < 2 ^ 63) (hl : ds.length ≤ 16777216) (h : Q (.lst (ds.take b.toNat))) : sliceW (.lst ds) .none (.int b) Q := by
  exact ⟨0, _, rfl, ⟨h1, rfl⟩, hl, by simpa using h⟩
theorem slice_lst_from {ds : List D} {a : Int} {Q : D → Prop} (h0 : 0 ≤ a ∧ a < 2 ^ 63) (hl : ds.length ≤ 16777216) (h : Q (.lst (ds.drop a.toNat))) : sliceW (.lst ds) (.int a) .none Q := by
  exact ⟨_, _, ⟨h0, rfl⟩, rfl, hl, by rw [List.take_of_length_le (by simp)]; exact h⟩
theorem slice_lst_all {ds : List D} {Q : D → Prop} (hl : ds.length ≤ 16777216) (h : Q (.lst ds)) : sliceW (.lst ds) .none .none Q := by
  exact ⟨0, _, rfl, rfl, hl, by simpa using h⟩
theorem dInts_take (ns : List Int) (k : Nat) : (dInts ns).take k = dInts (ns.take k) := by simp [dInts]
theorem dInts_drop (ns : List Int) (k : Nat) : (dInts ns).drop k = dInts (ns.drop k) := by simp [dInts]
theorem dInts_append (a b : List Int) : dInts a ++ dInts b = dInts (a ++ b) := by simp [dInts]
theorem dInts_snoc (a : List Int) (b : Int) : dInts a ++ [.int b] = dInts (a ++ [b]) := by simp [dInts]

theorem item_lst {X : String → Prop} {ds : List D} {k : Int} {d : D} {Q : D → Prop} (h0 : 0 ≤ k) (h2 : ds.length < 2 ^ 62) (e : ds[k.toNat]? = some d) (h : Q d) : itemW X ds k Q := by
  have : k.toNat < ds.length := by
    rcases Nat.lt_or_ge k.toNat ds.length with h | h
    · exact h
    · rw [List.getElem?_eq_none h] at e; cases e
  refine ⟨⟨by (first | lia | omega), by (first | lia | omega)⟩, ?_⟩
  rw [if_pos h0, e]
  exact h

theorem fmod_bd (a : Int) {b : Int} (h : 0 < b) : 0 ≤ a.fmod b ∧ a.fmod b < b := by
  rw [Int.fmod_eq_emod_of_nonneg _ (by (first | lia | omega))]
  exact ⟨Int.emod_nonneg _ (by (first | lia | omega)), Int.emod_lt_of_pos _ h⟩

theorem maxL_ge (b : Int) : ∀ (l : List Int) (a : Int), (b = a ∨ b ∈ l) → b ≤ maxL a l
  | [], a, h => by simp [maxL]; rcases h with h | h <;> simp_all
  | c :: l, a, h => by
    unfold maxL
    rcases h with rfl | h
    · split
      · rename_i hc
        have := maxL_ge c l c (.inl rfl); (first | lia | omega)
      · exact maxL_ge b l b (.inl rfl)
    · rcases List.mem_cons.mp h with rfl | h
      · split
        · exact maxL_ge b l b (.inl rfl)
        · rename_i hc
          have := maxL_ge a l a (.inl rfl); (first | lia | omega)
      · exact maxL_ge b l _ (.inr h)
theorem maxL_mem : ∀ (l : List Int) (a : Int), maxL a l = a ∨ maxL a l ∈ l
  | [], a => .inl rfl
  | c :: l, a => by
    unfold maxL
    rcases maxL_mem l (if c > a then c else a) with h | h
    · rw [h]
      split
      · exact .inr (List.mem_cons_self ..)
      · exact .inl rfl
    · exact .inr (List.mem_cons_of_mem _ h)

theorem max_ints {L : List Int} {m : Int} {Q : D → Prop} (hm : m ∈ L) (ha : ∀ x ∈ L, x ≤ m) (h : Q (.int m)) : bcallW .max [.lst (dInts L)] Q := by
  show (match unInts (dInts L) with | some (a :: r) => Q (.int (maxL a r)) | _ => False)
  rw [unInts_dInts]
  cases L with
  | nil => cases hm
  | cons a r =>
    have h1 := maxL_ge m r a (List.mem_cons.mp hm)
    have h2 : maxL a r ≤ m := by
      rcases maxL_mem r a with e | e
      · rw [e]; exact ha a (List.mem_cons_self ..)
      · exact ha _ (List.mem_cons_of_mem _ e)
    have e : maxL a r = m := by (first | lia | omega)
    simp only [e]
    exact h

end Mine

namespace Mine
open PySem PySem.Calls PyProof.Rows

-- match_length: 0 data, 1 i, 2 j, 3 limit, 4 top, 5 n
noncomputable def f_match_length : FnRec := ⟨"match_length", ["data", "i", "j", "limit"], ["top", "n"],
  (.cons (.assign 4 (.bcall .min (.cons (.var 3) (.cons (.bin .Sub (.bcall .len (.cons (.var 0) .nil)) (.var 2)) .nil)))) (.cons (.for1 5 (.range (.cons (.var 4) .nil)) (.cons (.ite (.cmp .NotEq (.sub (.var 0) (.bin .Add (.var 1) (.var 5))) (.sub (.var 0) (.bin .Add (.var 2) (.var 5)))) (.cons (.ret (.var 5)) .nil) .nil) .nil)) (.cons (.ret (.var 4)) .nil)))⟩

/-- the longest common run -/
noncomputable def mlen (xs : List Int) (i j : Nat) : Nat → Nat
  | 0 => 0
  | t + 1 => if xs.getD i 0 = xs.getD j 0 then mlen xs (i + 1) (j + 1) t + 1 else 0

theorem mlen_le (xs : List Int) : ∀ t i j, mlen xs i j t ≤ t
  | 0, _, _ => Nat.le_refl 0
  | t + 1, i, j => by
    unfold mlen
    split
    · have := mlen_le xs t (i + 1) (j + 1); (first | lia | omega)
    · (first | lia | omega)
theorem mlen_same (xs : List Int) : ∀ t i j k, k < mlen xs i j t → xs.getD (i + k) 0 = xs.getD (j + k) 0
  | 0, _, _, k, h => by simp [mlen] at h
  | t + 1, i, j, k, h => by
    unfold mlen at h
    split at h
    · rename_i e
      cases k with
      | zero => exact e
      | succ k =>
        have := mlen_same xs t (i + 1) (j + 1) k (by (first | lia | omega))
        rw [show i + 1 + k = i + (k + 1) by (first | lia | omega), show j + 1 + k = j + (k + 1) by (first | lia | omega)] at this
        exact this
    · (first | lia | omega)
theorem mlen_eq (xs : List Int) : ∀ t i j k, k ≤ t → (∀ m, m < k → xs.getD (i + m) 0 = xs.getD (j + m) 0) → (k = t ∨ xs.getD (i + k) 0 ≠ xs.getD (j + k) 0) → mlen xs i j t = k
  | 0, _, _, k, h, _, _ => by simp [mlen]; (first | lia | omega)
  | t + 1, i, j, 0, h, hs, hd => by
    rcases hd with hd | hd
    · (first | lia | omega)
    · unfold mlen; exact if_neg hd
  | t + 1, i, j, k + 1, h, hs, hd => by
    unfold mlen
    rw [if_pos (show xs.getD i 0 = xs.getD j 0 from hs 0 (by (first | lia | omega)))]
    rw [mlen_eq xs t (i + 1) (j + 1) k (by (first | lia | omega)) (fun m hm => by
      have := hs (m + 1) (by (first | lia | omega))
      rw [show i + 1 + m = i + (m + 1) by (first | lia | omega), show j + 1 + m = j + (m + 1) by (first | lia | omega)]; exact this)
      (by
        rcases hd with hd | hd
        · left; (first | lia | omega)
        · right; rw [show i + 1 + k = i + (k + 1) by (first | lia | omega), show j + 1 + k = j + (k + 1) by (first | lia | omega)]; exact hd)]
theorem mlen_ge (xs : List Int) {t i j k : Nat} (hk : k ≤ t) (hs : ∀ m, m < k → xs.getD (i + m) 0 = xs.getD (j + m) 0) : k ≤ mlen xs i j t := by
  induction t generalizing i j k with
  | zero => (first | lia | omega)
  | succ t ih =>
    cases k with
    | zero => (first | lia | omega)
    | succ k =>
      unfold mlen
      rw [if_pos (show xs.getD i 0 = xs.getD j 0 from hs 0 (by (first | lia | omega)))]
      have := ih (i := i + 1) (j := j + 1) (k := k) (by (first | lia | omega)) (fun m hm => by
        have := hs (m + 1) (by (first | lia | omega))
        rw [show i + 1 + m = i + (m + 1) by (first | lia | omega), show j + 1 + m = j + (m + 1) by (first | lia | omega)]; exact this)
      (first | lia | omega)

theorem match_ok {g : GC} {fs : List FnRec} (h : GP g fs) (hm : f_match_length ∈ fs) (n : Nat) {xs : List Int} (hl : xs.length ≤ 1000) {i j limit : Int} (h0 : 0 ≤ i) (h1 : i ≤ j) (h2 : j ≤ xs.length) (h3 : 0 ≤ limit) :
    FnOk g (n + 1) "match_length" [.lst (dInts xs), .int i, .int j, .int limit] (.ok (.int (mlen xs i.toNat j.toNat (min limit (xs.length - j)).toNat))) := by
  refine h.fn (r := f_match_length) hm rfl ?_
  unfold f_match_length
  refine st_cons ?_
  simp only [zq_wpS_0, zq_wpS_1, zq_wpS_2, zq_wpS_3, zq_wpS_4, zq_wpS_5, zq_wpS_6, zq_wpS_7, zq_wpS_8, zq_wpS_9, zq_wpS_10, zq_wpS_11, zq_wpS_12, zq_wpS_13, zq_wpS_14, zq_wpS_15, zq_wpE_0, zq_wpE_1, zq_wpE_2, zq_wpE_3, zq_wpE_4, zq_wpE_5, zq_wpE_6, zq_wpE_7, zq_wpE_8, zq_wpE_9, zq_wpE_10, zq_wpE_11, zq_wpE_12, zq_wpE_13, zq_wpE_14, zq_wpE_15, zq_wpE_16, zq_wpE_17, zq_wpE_18, zq_wpE_19, zq_wpE_20, zq_wpE_21, zq_wpEs_0, zq_wpEs_1, zq_wpT_0, zq_wpT_1, zq_wpT_2, zq_wpT_3, zq_wpT_4, zq_wpT_5, zq_wpAll_0, zq_wpAll_1, zq_wpAnyT_0, zq_wpAnyT_1, zq_wpI_0, zq_wpI_1, zq_wpI_2, zq_wpI_3, bw_add, bw_sub, bw_mul, bw_div, bw_mod, bw_pow, bw_cat, bw_rep, cw_eq, cw_ne, cw_lt, cw_le, cw_gt, cw_ge, cw_is, cw_isn, cw_in, sw_dct, eqW_int, eqW_bool, iw_bool, iw_none, iw_typ, iw_tup, iw_lst, sw_lst, sw_tup, bc_len, bc_lent, bc_abs, bc_min, bc_list, bc_ty_i, bc_ty_l, bc_isb, rw_1, rw_2, rw_3, setAll, bindC, List.getElem?_cons_zero, List.getElem?_cons_succ, List.set_cons_zero, List.set_cons_succ, List.map_cons, List.map_nil, List.cons_append, List.nil_append, List.replicate_succ, List.replicate_zero, List.length_cons, List.length_nil, Nat.reduceAdd, Nat.zero_add, ne_eq, dInts_length]
  refine ⟨by (first | lia | omega), ?_⟩
  rw [show (if (xs.length : Int) - j < limit then (xs.length : Int) - j else limit) = min limit (xs.length - j) by (first | lia | omega)]
  have ht : 0 ≤ min limit (xs.length - j) ∧ min limit (xs.length - j) ≤ xs.length - j := by (first | lia | omega)
  generalize min limit (xs.length - j) = top at ht ⊢
  refine kn_cons ?_
  simp only [zq_wpS_0, zq_wpS_1, zq_wpS_2, zq_wpS_3, zq_wpS_4, zq_wpS_5, zq_wpS_6, zq_wpS_7, zq_wpS_8, zq_wpS_9, zq_wpS_10, zq_wpS_11, zq_wpS_12, zq_wpS_13, zq_wpS_14, zq_wpS_15, zq_wpE_0, zq_wpE_1, zq_wpE_2, zq_wpE_3, zq_wpE_4, zq_wpE_5, zq_wpE_6, zq_wpE_7, zq_wpE_8, zq_wpE_9, zq_wpE_10, zq_wpE_11, zq_wpE_12, zq_wpE_13, zq_wpE_14, zq_wpE_15, zq_wpE_16, zq_wpE_17, zq_wpE_18, zq_wpE_19, zq_wpE_20, zq_wpE_21, zq_wpEs_0, zq_wpEs_1, zq_wpT_0, zq_wpT_1, zq_wpT_2, zq_wpT_3, zq_wpT_4, zq_wpT_5, zq_wpAll_0, zq_wpAll_1, zq_wpAnyT_0, zq_wpAnyT_1, zq_wpI_0, zq_wpI_1, zq_wpI_2, zq_wpI_3, bw_add, bw_sub, bw_mul, bw_div, bw_mod, bw_pow, bw_cat, bw_rep, cw_eq, cw_ne, cw_lt, cw_le, cw_gt, cw_ge, cw_is, cw_isn, cw_in, sw_dct, eqW_int, eqW_bool, iw_bool, iw_none, iw_typ, iw_tup, iw_lst, sw_lst, sw_tup, bc_len, bc_lent, bc_abs, bc_min, bc_list, bc_ty_i, bc_ty_l, bc_isb, rw_1, rw_2, rw_3, setAll, bindC, List.getElem?_cons_zero, List.getElem?_cons_succ, List.set_cons_zero, List.set_cons_succ, List.map_cons, List.map_nil, List.cons_append, List.nil_append, List.replicate_succ, List.replicate_zero, List.length_cons, List.length_nil, Nat.reduceAdd, Nat.zero_add, ne_eq]
  refine ⟨⟨by (first | lia | omega), by (first | lia | omega)⟩, ?_⟩
  refine for1_ofL (fun k ρ => ∃ s, ρ = [.frz (.lst (dInts xs)), .frz (.int i), .frz (.int j), .frz (.int limit), .frz (.int top), s] ∧ ∀ m : Nat, m < k → xs.getD (i.toNat + m) 0 = xs.getD (j.toNat + m) 0) ⟨_, rfl, fun m hm => by (first | lia | omega)⟩ ?_ ?_
  · rintro k ρ' d ⟨s, rfl, hs⟩ hd
    obtain ⟨hk, rfl⟩ := rgL_get_some hd
    refine st_cons ?_
    simp only [zq_wpS_0, zq_wpS_1, zq_wpS_2, zq_wpS_3, zq_wpS_4, zq_wpS_5, zq_wpS_6, zq_wpS_7, zq_wpS_8, zq_wpS_9, zq_wpS_10, zq_wpS_11, zq_wpS_12, zq_wpS_13, zq_wpS_14, zq_wpS_15, zq_wpE_0, zq_wpE_1, zq_wpE_2, zq_wpE_3, zq_wpE_4, zq_wpE_5, zq_wpE_6, zq_wpE_7, zq_wpE_8, zq_wpE_9, zq_wpE_10, zq_wpE_11, zq_wpE_12, zq_wpE_13, zq_wpE_14, zq_wpE_15, zq_wpE_16, zq_wpE_17, zq_wpE_18, zq_wpE_19, zq_wpE_20, zq_wpE_21, zq_wpEs_0, zq_wpEs_1, zq_wpT_0, zq_wpT_1, zq_wpT_2, zq_wpT_3, zq_wpT_4, zq_wpT_5, zq_wpAll_0, zq_wpAll_1, zq_wpAnyT_0, zq_wpAnyT_1, zq_wpI_0, zq_wpI_1, zq_wpI_2, zq_wpI_3, bw_add, bw_sub, bw_mul, bw_div, bw_mod, bw_pow, bw_cat, bw_rep, cw_eq, cw_ne, cw_lt, cw_le, cw_gt, cw_ge, cw_is, cw_isn, cw_in, sw_dct, eqW_int, eqW_bool, iw_bool, iw_none, iw_typ, iw_tup, iw_lst, sw_lst, sw_tup, bc_len, bc_lent, bc_abs, bc_min, bc_list, bc_ty_i, bc_ty_l, bc_isb, rw_1, rw_2, rw_3, setAll, bindC, List.getElem?_cons_zero, List.getElem?_cons_succ, List.set_cons_zero, List.set_cons_succ, List.map_cons, List.map_nil, List.cons_append, List.nil_append, List.replicate_succ, List.replicate_zero, List.length_cons, List.length_nil, Nat.reduceAdd, Nat.zero_add, ne_eq]
    refine item_ints (by (first | lia | omega)) (by (first | lia | omega)) (by (first | lia | omega)) ?_
    refine item_ints (by (first | lia | omega)) (by (first | lia | omega)) (by (first | lia | omega)) ?_
    simp only [zq_wpS_0, zq_wpS_1, zq_wpS_2, zq_wpS_3, zq_wpS_4, zq_wpS_5, zq_wpS_6, zq_wpS_7, zq_wpS_8, zq_wpS_9, zq_wpS_10, zq_wpS_11, zq_wpS_12, zq_wpS_13, zq_wpS_14, zq_wpS_15, zq_wpE_0, zq_wpE_1, zq_wpE_2, zq_wpE_3, zq_wpE_4, zq_wpE_5, zq_wpE_6, zq_wpE_7, zq_wpE_8, zq_wpE_9, zq_wpE_10, zq_wpE_11, zq_wpE_12, zq_wpE_13, zq_wpE_14, zq_wpE_15, zq_wpE_16, zq_wpE_17, zq_wpE_18, zq_wpE_19, zq_wpE_20, zq_wpE_21, zq_wpEs_0, zq_wpEs_1, zq_wpT_0, zq_wpT_1, zq_wpT_2, zq_wpT_3, zq_wpT_4, zq_wpT_5, zq_wpAll_0, zq_wpAll_1, zq_wpAnyT_0, zq_wpAnyT_1, zq_wpI_0, zq_wpI_1, zq_wpI_2, zq_wpI_3, bw_add, bw_sub, bw_mul, bw_div, bw_mod, bw_pow, bw_cat, bw_rep, cw_eq, cw_ne, cw_lt, cw_le, cw_gt, cw_ge, cw_is, cw_isn, cw_in, sw_dct, eqW_int, eqW_bool, iw_bool, iw_none, iw_typ, iw_tup, iw_lst, sw_lst, sw_tup, bc_len, bc_lent, bc_abs, bc_min, bc_list, bc_ty_i, bc_ty_l, bc_isb, rw_1, rw_2, rw_3, setAll, bindC, List.getElem?_cons_zero, List.getElem?_cons_succ, List.set_cons_zero, List.set_cons_succ, List.map_cons, List.map_nil, List.cons_append, List.nil_append, List.replicate_succ, List.replicate_zero, List.length_cons, List.length_nil, Nat.reduceAdd, Nat.zero_add, ne_eq]
    split
    · rename_i hne
      refine st_cons ?_
      simp only [zq_wpS_0, zq_wpS_1, zq_wpS_2, zq_wpS_3, zq_wpS_4, zq_wpS_5, zq_wpS_6, zq_wpS_7, zq_wpS_8, zq_wpS_9, zq_wpS_10, zq_wpS_11, zq_wpS_12, zq_wpS_13, zq_wpS_14, zq_wpS_15, zq_wpE_0, zq_wpE_1, zq_wpE_2, zq_wpE_3, zq_wpE_4, zq_wpE_5, zq_wpE_6, zq_wpE_7, zq_wpE_8, zq_wpE_9, zq_wpE_10, zq_wpE_11, zq_wpE_12, zq_wpE_13, zq_wpE_14, zq_wpE_15, zq_wpE_16, zq_wpE_17, zq_wpE_18, zq_wpE_19, zq_wpE_20, zq_wpE_21, zq_wpEs_0, zq_wpEs_1, zq_wpT_0, zq_wpT_1, zq_wpT_2, zq_wpT_3, zq_wpT_4, zq_wpT_5, zq_wpAll_0, zq_wpAll_1, zq_wpAnyT_0, zq_wpAnyT_1, zq_wpI_0, zq_wpI_1, zq_wpI_2, zq_wpI_3, bw_add, bw_sub, bw_mul, bw_div, bw_mod, bw_pow, bw_cat, bw_rep, cw_eq, cw_ne, cw_lt, cw_le, cw_gt, cw_ge, cw_is, cw_isn, cw_in, sw_dct, eqW_int, eqW_bool, iw_bool, iw_none, iw_typ, iw_tup, iw_lst, sw_lst, sw_tup, bc_len, bc_lent, bc_abs, bc_min, bc_list, bc_ty_i, bc_ty_l, bc_isb, rw_1, rw_2, rw_3, setAll, bindC, List.getElem?_cons_zero, List.getElem?_cons_succ, List.set_cons_zero, List.set_cons_succ, List.map_cons, List.map_nil, List.cons_append, List.nil_append, List.replicate_succ, List.replicate_zero, List.length_cons, List.length_nil, Nat.reduceAdd, Nat.zero_add, ne_eq]
      refine kn_ret (kn_ret (lp_ret (kn_ret ?_)))
      simp only [R.ok.injEq, D.int.injEq]
      rw [mlen_eq xs _ _ _ k (by (first | lia | omega)) hs]
      · (first | lia | omega)
      · right
        rw [show (i + (0 + (k : Int) * 1)).toNat = i.toNat + k by (first | lia | omega), show (j + (0 + (k : Int) * 1)).toNat = j.toNat + k by (first | lia | omega)] at hne
        simpa using hne
    · rename_i hne
      refine st_nil (kn_nil (lp_next ⟨_, rfl, ?_⟩))
      intro m hm
      by_cases e : m = k
      · subst e
        rw [show (i + (0 + (m : Int) * 1)).toNat = i.toNat + m by (first | lia | omega), show (j + (0 + (m : Int) * 1)).toNat = j.toNat + m by (first | lia | omega)] at hne
        simpa using hne
      · exact hs m (by (first | lia | omega))
  · rintro ρ' ⟨s, rfl, hs⟩
    refine kn_cons ?_
    simp only [zq_wpS_0, zq_wpS_1, zq_wpS_2, zq_wpS_3, zq_wpS_4, zq_wpS_5, zq_wpS_6, zq_wpS_7, zq_wpS_8, zq_wpS_9, zq_wpS_10, zq_wpS_11, zq_wpS_12, zq_wpS_13, zq_wpS_14, zq_wpS_15, zq_wpE_0, zq_wpE_1, zq_wpE_2, zq_wpE_3, zq_wpE_4, zq_wpE_5, zq_wpE_6, zq_wpE_7, zq_wpE_8, zq_wpE_9, zq_wpE_10, zq_wpE_11, zq_wpE_12, zq_wpE_13, zq_wpE_14, zq_wpE_15, zq_wpE_16, zq_wpE_17, zq_wpE_18, zq_wpE_19, zq_wpE_20, zq_wpE_21, zq_wpEs_0, zq_wpEs_1, zq_wpT_0, zq_wpT_1, zq_wpT_2, zq_wpT_3, zq_wpT_4, zq_wpT_5, zq_wpAll_0, zq_wpAll_1, zq_wpAnyT_0, zq_wpAnyT_1, zq_wpI_0, zq_wpI_1, zq_wpI_2, zq_wpI_3, bw_add, bw_sub, bw_mul, bw_div, bw_mod, bw_pow, bw_cat, bw_rep, cw_eq, cw_ne, cw_lt, cw_le, cw_gt, cw_ge, cw_is, cw_isn, cw_in, sw_dct, eqW_int, eqW_bool, iw_bool, iw_none, iw_typ, iw_tup, iw_lst, sw_lst, sw_tup, bc_len, bc_lent, bc_abs, bc_min, bc_list, bc_ty_i, bc_ty_l, bc_isb, rw_1, rw_2, rw_3, setAll, bindC, List.getElem?_cons_zero, List.getElem?_cons_succ, List.set_cons_zero, List.set_cons_succ, List.map_cons, List.map_nil, List.cons_append, List.nil_append, List.replicate_succ, List.replicate_zero, List.length_cons, List.length_nil, Nat.reduceAdd, Nat.zero_add, ne_eq]
    refine kn_ret ?_
    simp only [List.length_map, rgL_length] at hs
    simp only [R.ok.injEq, D.int.injEq]
    rw [mlen_eq xs _ _ _ top.toNat (by (first | lia | omega)) hs (.inl rfl)]
    (first | lia | omega)

theorem getD_eq {xs : List Int} {k : Nat} (h : k < xs.length) : xs.getD k 0 = xs[k] := by
  rw [List.getD_eq_getElem?_getD, List.getElem?_eq_getElem h]; rfl

/-- two runs are the same -/
theorem runs_same (xs : List Int) {i j n : Nat} (hi : i + n ≤ xs.length) (hj : j + n ≤ xs.length) : ((xs.drop i).take n = (xs.drop j).take n) ↔ ∀ m, m < n → xs.getD (i + m) 0 = xs.getD (j + m) 0 := by
  constructor
  · intro e m hm
    have := congrArg (fun l => l[m]?) e
    simp only [List.getElem?_take, List.getElem?_drop, hm, if_true] at this
    rw [List.getD_eq_getElem?_getD, List.getD_eq_getElem?_getD, this]
  · intro h
    apply List.ext_getElem?
    intro m
    by_cases hm : m < n
    · have := h m hm
      rw [getD_eq (by (first | lia | omega)), getD_eq (by (first | lia | omega))] at this
      simp only [List.getElem?_take, List.getElem?_drop, hm, if_true]
      rw [List.getElem?_eq_getElem (by (first | lia | omega)), List.getElem?_eq_getElem (by (first | lia | omega)), this]
    · simp only [List.getElem?_take, hm, if_false]

end Mine

namespace Mine
open PySem PySem.Calls PyProof.Rows

-- longest_match: 0 data, 1 j, 2 window, 3 limit, 4 best, 5 longest, 6 distance, 7 n
noncomputable def f_longest_match : FnRec := ⟨"longest_match", ["data", "j", "window", "limit"], ["best", "longest", "distance", "n"],
  (.cons (.assign 4 (.tup (.cons (.int 0) (.cons (.int 0) .nil)))) (.cons (.assign 5 (.int 3)) (.cons (.for1 6 (.range (.cons (.int 1) (.cons (.bin .Add (.bcall .min (.cons (.var 2) (.cons (.var 1) .nil))) (.int 1)) .nil))) (.cons (.assign 7 (.call "match_length" (.cons (.var 0) (.cons (.bin .Sub (.var 1) (.var 6)) (.cons (.var 1) (.cons (.var 3) .nil)))))) (.cons (.ite (.cmp .Gt (.var 7) (.var 5)) (.cons (.assign 5 (.var 7)) (.cons (.assign 4 (.tup (.cons (.var 6) (.cons (.var 7) .nil)))) .nil)) .nil) .nil))) (.cons (.ret (.var 4)) .nil))))⟩

/-- the best distance and length below a distance, and the length to beat -/
noncomputable def lmS (xs : List Int) (j top : Nat) : Nat → Nat × Nat × Nat
  | 0 => (0, 0, 3)
  | k + 1 => if (lmS xs j top k).2.2 < mlen xs (j - (k + 1)) j top then (k + 1, mlen xs (j - (k + 1)) j top, mlen xs (j - (k + 1)) j top) else lmS xs j top k

/-- what the best match is -/
noncomputable def LM (xs : List Int) (j top w d l : Nat) : Prop :=
  (d = 0 ∧ l = 0 ∧ ∀ e, 1 ≤ e → e ≤ w → mlen xs (j - e) j top ≤ 3) ∨
  (1 ≤ d ∧ d ≤ w ∧ l = mlen xs (j - d) j top ∧ 4 ≤ l ∧ (∀ e, 1 ≤ e → e ≤ w → mlen xs (j - e) j top ≤ l) ∧ (∀ e, 1 ≤ e → e < d → mlen xs (j - e) j top < l))

theorem lmS_lm (xs : List Int) (j top : Nat) : ∀ w, LM xs j top w (lmS xs j top w).1 (lmS xs j top w).2.1 ∧ ((lmS xs j top w).2.2 = if (lmS xs j top w).2.1 = 0 then 3 else (lmS xs j top w).2.1)
  | 0 => by
    refine ⟨.inl ⟨rfl, rfl, fun e h1 h2 => by (first | lia | omega)⟩, rfl⟩
  | k + 1 => by
    obtain ⟨h1, h2⟩ := lmS_lm xs j top k
    unfold lmS
    by_cases hc : (lmS xs j top k).2.2 < mlen xs (j - (k + 1)) j top
    · rw [if_pos hc]
      simp only
      refine ⟨.inr ⟨by (first | lia | omega), Nat.le_refl _, rfl, ?_, ?_, ?_⟩, ?_⟩
      · rcases h1 with ⟨a, b, c⟩ | ⟨a, b, c, d, e, f⟩
        · rw [b] at h2; simp at h2; (first | lia | omega)
        · split at h2 <;> (first | lia | omega)
      · intro e he1 he2
        by_cases ee : e = k + 1
        · subst ee; exact Nat.le_refl _
        · rcases h1 with ⟨a, b, c⟩ | ⟨a, b, c, d, f, _⟩
          · have := c e he1 (by (first | lia | omega))
            rw [b] at h2; simp at h2; (first | lia | omega)
          · have := f e he1 (by (first | lia | omega))
            split at h2 <;> (first | lia | omega)
      · intro e he1 he2
        rcases h1 with ⟨a, b, c⟩ | ⟨a, b, c, d, f, _⟩
        · have := c e he1 (by (first | lia | omega))
          rw [b] at h2; simp at h2; (first | lia | omega)
        · have := f e he1 (by (first | lia | omega))
          split at h2 <;> (first | lia | omega)
      · rw [if_neg (by (first | lia | omega))]
    · rw [if_neg hc]
      refine ⟨?_, h2⟩
      rcases h1 with ⟨a, b, c⟩ | ⟨a, b, c, d, f, q⟩
      · refine .inl ⟨a, b, fun e he1 he2 => ?_⟩
        by_cases ee : e = k + 1
        · subst ee
          rw [b] at h2; simp at h2; (first | lia | omega)
        · exact c e he1 (by (first | lia | omega))
      · refine .inr ⟨a, by (first | lia | omega), c, d, fun e he1 he2 => ?_, q⟩
        by_cases ee : e = k + 1
        · subst ee
          split at h2 <;> (first | lia | omega)
        · exact f e he1 (by (first | lia | omega))

theorem longest_ok' {g : GC} {fs : List FnRec} (h : GP g fs) (hm : f_match_length ∈ fs) (hm2 : f_longest_match ∈ fs) (n : Nat) {xs : List Int} (hl : xs.length ≤ 1000) {j window limit : Int} (h0 : 0 ≤ j) (h2 : j ≤ xs.length) (hw : 1 ≤ window) (h3 : 0 ≤ limit) :
    FnOk g (n + 1 + 1) "longest_match" [.lst (dInts xs), .int j, .int window, .int limit] (.ok (.tup [.int (lmS xs j.toNat (min limit (xs.length - j)).toNat (min window j).toNat).1, .int (lmS xs j.toNat (min limit (xs.length - j)).toNat (min window j).toNat).2.1])) := by
  refine h.fn (r := f_longest_match) hm2 rfl ?_
  unfold f_longest_match
  refine st_cons ?_
  simp only [zq_wpS_0, zq_wpS_1, zq_wpS_2, zq_wpS_3, zq_wpS_4, zq_wpS_5, zq_wpS_6, zq_wpS_7, zq_wpS_8, zq_wpS_9, zq_wpS_10, zq_wpS_11, zq_wpS_12, zq_wpS_13, zq_wpS_14, zq_wpS_15, zq_wpE_0, zq_wpE_1, zq_wpE_2, zq_wpE_3, zq_wpE_4, zq_wpE_5, zq_wpE_6, zq_wpE_7, zq_wpE_8, zq_wpE_9, zq_wpE_10, zq_wpE_11, zq_wpE_12, zq_wpE_13, zq_wpE_14, zq_wpE_15, zq_wpE_16, zq_wpE_17, zq_wpE_18, zq_wpE_19, zq_wpE_20, zq_wpE_21, zq_wpEs_0, zq_wpEs_1, zq_wpT_0, zq_wpT_1, zq_wpT_2, zq_wpT_3, zq_wpT_4, zq_wpT_5, zq_wpAll_0, zq_wpAll_1, zq_wpAnyT_0, zq_wpAnyT_1, zq_wpI_0, zq_wpI_1, zq_wpI_2, zq_wpI_3, bw_add, bw_sub, bw_mul, bw_div, bw_mod, bw_pow, bw_cat, bw_rep, cw_eq, cw_ne, cw_lt, cw_le, cw_gt, cw_ge, cw_is, cw_isn, cw_in, sw_dct, eqW_int, eqW_bool, iw_bool, iw_none, iw_typ, iw_tup, iw_lst, sw_lst, sw_tup, bc_len, bc_lent, bc_abs, bc_min, bc_list, bc_ty_i, bc_ty_l, bc_isb, rw_1, rw_2, rw_3, setAll, bindC, List.getElem?_cons_zero, List.getElem?_cons_succ, List.set_cons_zero, List.set_cons_succ, List.map_cons, List.map_nil, List.cons_append, List.nil_append, List.replicate_succ, List.replicate_zero, List.length_cons, List.length_nil, Nat.reduceAdd, Nat.zero_add, ne_eq]
  refine ⟨by (first | lia | omega), ?_⟩
  refine kn_cons ?_
  simp only [zq_wpS_0, zq_wpS_1, zq_wpS_2, zq_wpS_3, zq_wpS_4, zq_wpS_5, zq_wpS_6, zq_wpS_7, zq_wpS_8, zq_wpS_9, zq_wpS_10, zq_wpS_11, zq_wpS_12, zq_wpS_13, zq_wpS_14, zq_wpS_15, zq_wpE_0, zq_wpE_1, zq_wpE_2, zq_wpE_3, zq_wpE_4, zq_wpE_5, zq_wpE_6, zq_wpE_7, zq_wpE_8, zq_wpE_9, zq_wpE_10, zq_wpE_11, zq_wpE_12, zq_wpE_13, zq_wpE_14, zq_wpE_15, zq_wpE_16, zq_wpE_17, zq_wpE_18, zq_wpE_19, zq_wpE_20, zq_wpE_21, zq_wpEs_0, zq_wpEs_1, zq_wpT_0, zq_wpT_1, zq_wpT_2, zq_wpT_3, zq_wpT_4, zq_wpT_5, zq_wpAll_0, zq_wpAll_1, zq_wpAnyT_0, zq_wpAnyT_1, zq_wpI_0, zq_wpI_1, zq_wpI_2, zq_wpI_3, bw_add, bw_sub, bw_mul, bw_div, bw_mod, bw_pow, bw_cat, bw_rep, cw_eq, cw_ne, cw_lt, cw_le, cw_gt, cw_ge, cw_is, cw_isn, cw_in, sw_dct, eqW_int, eqW_bool, iw_bool, iw_none, iw_typ, iw_tup, iw_lst, sw_lst, sw_tup, bc_len, bc_lent, bc_abs, bc_min, bc_list, bc_ty_i, bc_ty_l, bc_isb, rw_1, rw_2, rw_3, setAll, bindC, List.getElem?_cons_zero, List.getElem?_cons_succ, List.set_cons_zero, List.set_cons_succ, List.map_cons, List.map_nil, List.cons_append, List.nil_append, List.replicate_succ, List.replicate_zero, List.length_cons, List.length_nil, Nat.reduceAdd, Nat.zero_add, ne_eq]
  refine kn_cons ?_
  simp only [zq_wpS_0, zq_wpS_1, zq_wpS_2, zq_wpS_3, zq_wpS_4, zq_wpS_5, zq_wpS_6, zq_wpS_7, zq_wpS_8, zq_wpS_9, zq_wpS_10, zq_wpS_11, zq_wpS_12, zq_wpS_13, zq_wpS_14, zq_wpS_15, zq_wpE_0, zq_wpE_1, zq_wpE_2, zq_wpE_3, zq_wpE_4, zq_wpE_5, zq_wpE_6, zq_wpE_7, zq_wpE_8, zq_wpE_9, zq_wpE_10, zq_wpE_11, zq_wpE_12, zq_wpE_13, zq_wpE_14, zq_wpE_15, zq_wpE_16, zq_wpE_17, zq_wpE_18, zq_wpE_19, zq_wpE_20, zq_wpE_21, zq_wpEs_0, zq_wpEs_1, zq_wpT_0, zq_wpT_1, zq_wpT_2, zq_wpT_3, zq_wpT_4, zq_wpT_5, zq_wpAll_0, zq_wpAll_1, zq_wpAnyT_0, zq_wpAnyT_1, zq_wpI_0, zq_wpI_1, zq_wpI_2, zq_wpI_3, bw_add, bw_sub, bw_mul, bw_div, bw_mod, bw_pow, bw_cat, bw_rep, cw_eq, cw_ne, cw_lt, cw_le, cw_gt, cw_ge, cw_is, cw_isn, cw_in, sw_dct, eqW_int, eqW_bool, iw_bool, iw_none, iw_typ, iw_tup, iw_lst, sw_lst, sw_tup, bc_len, bc_lent, bc_abs, bc_min, bc_list, bc_ty_i, bc_ty_l, bc_isb, rw_1, rw_2, rw_3, setAll, bindC, List.getElem?_cons_zero, List.getElem?_cons_succ, List.set_cons_zero, List.set_cons_succ, List.map_cons, List.map_nil, List.cons_append, List.nil_append, List.replicate_succ, List.replicate_zero, List.length_cons, List.length_nil, Nat.reduceAdd, Nat.zero_add, ne_eq]
  rw [show (if j < window then j else window) = min window j by (first | lia | omega)]
  refine ⟨⟨by (first | lia | omega), by (first | lia | omega)⟩, ⟨by (first | lia | omega), by (first | lia | omega)⟩, ?_⟩
  have ew : (min window j + 1 - 1).toNat = (min window j).toNat := by (first | lia | omega)
  rw [ew]
  have hwj : (min window j).toNat ≤ j.toNat := by (first | lia | omega)
  generalize (min window j).toNat = w at hwj ⊢
  refine for1_ofL (fun k ρ => ∃ s t, ρ = [.frz (.lst (dInts xs)), .frz (.int j), .frz (.int window), .frz (.int limit), .frz (.tup [.int (lmS xs j.toNat (min limit (xs.length - j)).toNat k).1, .int (lmS xs j.toNat (min limit (xs.length - j)).toNat k).2.1]), .frz (.int (lmS xs j.toNat (min limit (xs.length - j)).toNat k).2.2), s, t]) ⟨_, _, rfl⟩ ?_ ?_
  · rintro k ρ' d ⟨s, t, rfl⟩ hd
    obtain ⟨hk, rfl⟩ := rgL_get_some hd
    rw [show (1 + (k : Int) * 1) = ((k + 1 : Nat) : Int) by (first | lia | omega)]
    refine st_cons ?_
    simp only [zq_wpS_0, zq_wpS_1, zq_wpS_2, zq_wpS_3, zq_wpS_4, zq_wpS_5, zq_wpS_6, zq_wpS_7, zq_wpS_8, zq_wpS_9, zq_wpS_10, zq_wpS_11, zq_wpS_12, zq_wpS_13, zq_wpS_14, zq_wpS_15, zq_wpE_0, zq_wpE_1, zq_wpE_2, zq_wpE_3, zq_wpE_4, zq_wpE_5, zq_wpE_6, zq_wpE_7, zq_wpE_8, zq_wpE_9, zq_wpE_10, zq_wpE_11, zq_wpE_12, zq_wpE_13, zq_wpE_14, zq_wpE_15, zq_wpE_16, zq_wpE_17, zq_wpE_18, zq_wpE_19, zq_wpE_20, zq_wpE_21, zq_wpEs_0, zq_wpEs_1, zq_wpT_0, zq_wpT_1, zq_wpT_2, zq_wpT_3, zq_wpT_4, zq_wpT_5, zq_wpAll_0, zq_wpAll_1, zq_wpAnyT_0, zq_wpAnyT_1, zq_wpI_0, zq_wpI_1, zq_wpI_2, zq_wpI_3, bw_add, bw_sub, bw_mul, bw_div, bw_mod, bw_pow, bw_cat, bw_rep, cw_eq, cw_ne, cw_lt, cw_le, cw_gt, cw_ge, cw_is, cw_isn, cw_in, sw_dct, eqW_int, eqW_bool, iw_bool, iw_none, iw_typ, iw_tup, iw_lst, sw_lst, sw_tup, bc_len, bc_lent, bc_abs, bc_min, bc_list, bc_ty_i, bc_ty_l, bc_isb, rw_1, rw_2, rw_3, setAll, bindC, List.getElem?_cons_zero, List.getElem?_cons_succ, List.set_cons_zero, List.set_cons_succ, List.map_cons, List.map_nil, List.cons_append, List.nil_append, List.replicate_succ, List.replicate_zero, List.length_cons, List.length_nil, Nat.reduceAdd, Nat.zero_add, ne_eq]
    refine call_ok (match_ok h hm n hl (by (first | lia | omega)) (by (first | lia | omega)) h2 h3) ?_
    rw [show (j - ((k + 1 : Nat) : Int)).toNat = j.toNat - (k + 1) by (first | lia | omega)]
    refine kn_cons ?_
    simp only [zq_wpS_0, zq_wpS_1, zq_wpS_2, zq_wpS_3, zq_wpS_4, zq_wpS_5, zq_wpS_6, zq_wpS_7, zq_wpS_8, zq_wpS_9, zq_wpS_10, zq_wpS_11, zq_wpS_12, zq_wpS_13, zq_wpS_14, zq_wpS_15, zq_wpE_0, zq_wpE_1, zq_wpE_2, zq_wpE_3, zq_wpE_4, zq_wpE_5, zq_wpE_6, zq_wpE_7, zq_wpE_8, zq_wpE_9, zq_wpE_10, zq_wpE_11, zq_wpE_12, zq_wpE_13, zq_wpE_14, zq_wpE_15, zq_wpE_16, zq_wpE_17, zq_wpE_18, zq_wpE_19, zq_wpE_20, zq_wpE_21, zq_wpEs_0, zq_wpEs_1, zq_wpT_0, zq_wpT_1, zq_wpT_2, zq_wpT_3, zq_wpT_4, zq_wpT_5, zq_wpAll_0, zq_wpAll_1, zq_wpAnyT_0, zq_wpAnyT_1, zq_wpI_0, zq_wpI_1, zq_wpI_2, zq_wpI_3, bw_add, bw_sub, bw_mul, bw_div, bw_mod, bw_pow, bw_cat, bw_rep, cw_eq, cw_ne, cw_lt, cw_le, cw_gt, cw_ge, cw_is, cw_isn, cw_in, sw_dct, eqW_int, eqW_bool, iw_bool, iw_none, iw_typ, iw_tup, iw_lst, sw_lst, sw_tup, bc_len, bc_lent, bc_abs, bc_min, bc_list, bc_ty_i, bc_ty_l, bc_isb, rw_1, rw_2, rw_3, setAll, bindC, List.getElem?_cons_zero, List.getElem?_cons_succ, List.set_cons_zero, List.set_cons_succ, List.map_cons, List.map_nil, List.cons_append, List.nil_append, List.replicate_succ, List.replicate_zero, List.length_cons, List.length_nil, Nat.reduceAdd, Nat.zero_add, ne_eq]
    split
    · rename_i hc
      simp only [decide_eq_true_eq] at hc
      have el : lmS xs j.toNat (min limit (xs.length - j)).toNat (k + 1) = (k + 1, mlen xs (j.toNat - (k + 1)) j.toNat (min limit (xs.length - j)).toNat, mlen xs (j.toNat - (k + 1)) j.toNat (min limit (xs.length - j)).toNat) := by
        conv => lhs; unfold lmS
        rw [if_pos (by (first | lia | omega))]
      refine st_cons ?_
      simp only [zq_wpS_0, zq_wpS_1, zq_wpS_2, zq_wpS_3, zq_wpS_4, zq_wpS_5, zq_wpS_6, zq_wpS_7, zq_wpS_8, zq_wpS_9, zq_wpS_10, zq_wpS_11, zq_wpS_12, zq_wpS_13, zq_wpS_14, zq_wpS_15, zq_wpE_0, zq_wpE_1, zq_wpE_2, zq_wpE_3, zq_wpE_4, zq_wpE_5, zq_wpE_6, zq_wpE_7, zq_wpE_8, zq_wpE_9, zq_wpE_10, zq_wpE_11, zq_wpE_12, zq_wpE_13, zq_wpE_14, zq_wpE_15, zq_wpE_16, zq_wpE_17, zq_wpE_18, zq_wpE_19, zq_wpE_20, zq_wpE_21, zq_wpEs_0, zq_wpEs_1, zq_wpT_0, zq_wpT_1, zq_wpT_2, zq_wpT_3, zq_wpT_4, zq_wpT_5, zq_wpAll_0, zq_wpAll_1, zq_wpAnyT_0, zq_wpAnyT_1, zq_wpI_0, zq_wpI_1, zq_wpI_2, zq_wpI_3, bw_add, bw_sub, bw_mul, bw_div, bw_mod, bw_pow, bw_cat, bw_rep, cw_eq, cw_ne, cw_lt, cw_le, cw_gt, cw_ge, cw_is, cw_isn, cw_in, sw_dct, eqW_int, eqW_bool, iw_bool, iw_none, iw_typ, iw_tup, iw_lst, sw_lst, sw_tup, bc_len, bc_lent, bc_abs, bc_min, bc_list, bc_ty_i, bc_ty_l, bc_isb, rw_1, rw_2, rw_3, setAll, bindC, List.getElem?_cons_zero, List.getElem?_cons_succ, List.set_cons_zero, List.set_cons_succ, List.map_cons, List.map_nil, List.cons_append, List.nil_append, List.replicate_succ, List.replicate_zero, List.length_cons, List.length_nil, Nat.reduceAdd, Nat.zero_add, ne_eq]
      refine kn_cons ?_
      simp only [zq_wpS_0, zq_wpS_1, zq_wpS_2, zq_wpS_3, zq_wpS_4, zq_wpS_5, zq_wpS_6, zq_wpS_7, zq_wpS_8, zq_wpS_9, zq_wpS_10, zq_wpS_11, zq_wpS_12, zq_wpS_13, zq_wpS_14, zq_wpS_15, zq_wpE_0, zq_wpE_1, zq_wpE_2, zq_wpE_3, zq_wpE_4, zq_wpE_5, zq_wpE_6, zq_wpE_7, zq_wpE_8, zq_wpE_9, zq_wpE_10, zq_wpE_11, zq_wpE_12, zq_wpE_13, zq_wpE_14, zq_wpE_15, zq_wpE_16, zq_wpE_17, zq_wpE_18, zq_wpE_19, zq_wpE_20, zq_wpE_21, zq_wpEs_0, zq_wpEs_1, zq_wpT_0, zq_wpT_1, zq_wpT_2, zq_wpT_3, zq_wpT_4, zq_wpT_5, zq_wpAll_0, zq_wpAll_1, zq_wpAnyT_0, zq_wpAnyT_1, zq_wpI_0, zq_wpI_1, zq_wpI_2, zq_wpI_3, bw_add, bw_sub, bw_mul, bw_div, bw_mod, bw_pow, bw_cat, bw_rep, cw_eq, cw_ne, cw_lt, cw_le, cw_gt, cw_ge, cw_is, cw_isn, cw_in, sw_dct, eqW_int, eqW_bool, iw_bool, iw_none, iw_typ, iw_tup, iw_lst, sw_lst, sw_tup, bc_len, bc_lent, bc_abs, bc_min, bc_list, bc_ty_i, bc_ty_l, bc_isb, rw_1, rw_2, rw_3, setAll, bindC, List.getElem?_cons_zero, List.getElem?_cons_succ, List.set_cons_zero, List.set_cons_succ, List.map_cons, List.map_nil, List.cons_append, List.nil_append, List.replicate_succ, List.replicate_zero, List.length_cons, List.length_nil, Nat.reduceAdd, Nat.zero_add, ne_eq]
      refine ⟨by (first | lia | omega), ?_⟩
      refine kn_nil (kn_nil (lp_next ?_))
      rw [el]
      exact ⟨_, _, rfl⟩
    · rename_i hc
      simp only [decide_eq_true_eq] at hc
      have el : lmS xs j.toNat (min limit (xs.length - j)).toNat (k + 1) = lmS xs j.toNat (min limit (xs.length - j)).toNat k := by
        conv => lhs; unfold lmS
        rw [if_neg (by (first | lia | omega))]
      refine st_nil ?_
      refine kn_nil (lp_next ?_)
      rw [el]
      exact ⟨_, _, rfl⟩
  · rintro ρ' ⟨s, t, rfl⟩
    refine kn_cons ?_
    simp only [zq_wpS_0, zq_wpS_1, zq_wpS_2, zq_wpS_3, zq_wpS_4, zq_wpS_5, zq_wpS_6, zq_wpS_7, zq_wpS_8, zq_wpS_9, zq_wpS_10, zq_wpS_11, zq_wpS_12, zq_wpS_13, zq_wpS_14, zq_wpS_15, zq_wpE_0, zq_wpE_1, zq_wpE_2, zq_wpE_3, zq_wpE_4, zq_wpE_5, zq_wpE_6, zq_wpE_7, zq_wpE_8, zq_wpE_9, zq_wpE_10, zq_wpE_11, zq_wpE_12, zq_wpE_13, zq_wpE_14, zq_wpE_15, zq_wpE_16, zq_wpE_17, zq_wpE_18, zq_wpE_19, zq_wpE_20, zq_wpE_21, zq_wpEs_0, zq_wpEs_1, zq_wpT_0, zq_wpT_1, zq_wpT_2, zq_wpT_3, zq_wpT_4, zq_wpT_5, zq_wpAll_0, zq_wpAll_1, zq_wpAnyT_0, zq_wpAnyT_1, zq_wpI_0, zq_wpI_1, zq_wpI_2, zq_wpI_3, bw_add, bw_sub, bw_mul, bw_div, bw_mod, bw_pow, bw_cat, bw_rep, cw_eq, cw_ne, cw_lt, cw_le, cw_gt, cw_ge, cw_is, cw_isn, cw_in, sw_dct, eqW_int, eqW_bool, iw_bool, iw_none, iw_typ, iw_tup, iw_lst, sw_lst, sw_tup, bc_len, bc_lent, bc_abs, bc_min, bc_list, bc_ty_i, bc_ty_l, bc_isb, rw_1, rw_2, rw_3, setAll, bindC, List.getElem?_cons_zero, List.getElem?_cons_succ, List.set_cons_zero, List.set_cons_succ, List.map_cons, List.map_nil, List.cons_append, List.nil_append, List.replicate_succ, List.replicate_zero, List.length_cons, List.length_nil, Nat.reduceAdd, Nat.zero_add, ne_eq, List.length_map, rgL_length]
    exact kn_ret rfl

theorem longest_ok {g : GC} {fs : List FnRec} (h : GP g fs) (hm : f_match_length ∈ fs) (hm2 : f_longest_match ∈ fs) (n : Nat) {xs : List Int} (hl : xs.length ≤ 1000) {j window limit : Int} (h0 : 0 ≤ j) (h2 : j ≤ xs.length) (hw : 1 ≤ window) (h3 : 0 ≤ limit) :
    ∃ d l : Nat, LM xs j.toNat (min limit (xs.length - j)).toNat (min window j).toNat d l ∧ FnOk g (n + 1 + 1) "longest_match" [.lst (dInts xs), .int j, .int window, .int limit] (.ok (.tup [.int d, .int l])) :=
  ⟨_, _, (lmS_lm _ _ _ _).1, longest_ok' h hm hm2 n hl h0 h2 hw h3⟩

end Mine

namespace Mine
open PySem PySem.Calls PyProof.Rows

/-! more loops -/
noncomputable def Lw (I : Nat → List Slot → Prop) (n : Nat) (Q : Out → List Slot → Prop) : Out → List Slot → Prop :=
  fun o ρ => match o with | .next => ∃ m, m < n ∧ I m ρ | .ret v => Q (.ret v) ρ
theorem lw_next {I n Q ρ} (m : Nat) (hm : m < n) (h : I m ρ) : Lw I n Q .next ρ := ⟨m, hm, h⟩
theorem lw_ret {I n Q ρ v} (h : Q (.ret v) ρ) : Lw I n Q (.ret v) ρ := h
theorem whil_of {fn : Fn} {t : T} {body : Ss} {X : String → List Slot → Prop} {ρ : List Slot} {Q : Out → List Slot → Prop} (I : Nat → List Slot → Prop) (n₀ : Nat) (h0 : I n₀ ρ)
    (h1 : ∀ n ρ', I n ρ' → wpT (fun c => X c ρ') fn ρ' t [] (fun b => if b = true then wpSs fn body X ρ' (Lw I n Q) else Q .next ρ')) : wpS fn (.whil t body) X ρ Q := ⟨I, n₀, h0, h1⟩
theorem forT_ofL {items : List D} {xs : List Nat} {fn : Fn} {body : Ss} {X} {ρ : List Slot} {Q : Out → List Slot → Prop} (I : Nat → List Slot → Prop) (h0 : I 0 ρ)
    (h1 : ∀ k ρ' d, I k ρ' → items[k]? = some d → ∃ ds, d = .tup ds ∧ ds.length = xs.length ∧ wpSs fn body X (setAll ρ' xs ds) (Lp I k Q)) (h2 : ∀ ρ', I items.length ρ' → Q .next ρ') :
    forW items (bindT xs) (fun ρ Q => wpSs fn body X ρ Q) ρ Q := by
  refine ⟨I, h0, fun k ρ' d hI hd => ?_, h2⟩
  obtain ⟨ds, rfl, hl, hw⟩ := h1 k ρ' d hI hd
  exact ⟨_, by simp only [bindT, if_pos hl], hw⟩
/-- the last item -/
theorem item_last {X : String → Prop} {ds : List D} {d : D} {Q : D → Prop} (hl : ds.length < 2 ^ 61) (h : Q d) : itemW X (ds ++ [d]) (-1) Q := by
  refine ⟨⟨by decide, by decide⟩, ?_⟩
  rw [if_neg (by decide), List.length_append, List.length_singleton, if_pos (by (first | lia | omega)), show (-1 + ((ds.length + 1 : Nat) : Int)).toNat = ds.length by (first | lia | omega), List.getElem?_append_right (Nat.le_refl _), Nat.sub_self]
  exact h

end Mine

namespace Mine
open PySem PySem.Calls PyProof.Rows

-- lz_tokens: 0 data, 1 window, 2 limit, 3 tokens, 4 j, 5 distance, 6 length
noncomputable def f_lz_tokens : FnRec := ⟨"lz_tokens", ["data", "window", "limit"], ["tokens", "j", "distance", "length"],
  (.cons (.assignO 3 (.list .nil)) (.cons (.assign 4 (.int 0)) (.cons (.whil (.cmp .Lt (.var 4) (.bcall .len (.cons (.var 0) .nil))) (.cons (.unpack [5, 6] (.call "longest_match" (.cons (.var 0) (.cons (.var 4) (.cons (.var 1) (.cons (.var 2) .nil)))))) (.cons (.ite (.cmp .Gt (.var 6) (.int 0)) (.cons (.append 3 (.tup (.cons (.int 1) (.cons (.var 5) (.cons (.var 6) .nil))))) (.cons (.assign 4 (.bin .Add (.var 4) (.var 6))) .nil)) (.cons (.append 3 (.tup (.cons (.int 0) (.cons (.sub (.var 0) (.var 4)) (.cons (.int 0) .nil))))) (.cons (.assign 4 (.bin .Add (.var 4) (.int 1))) .nil))) .nil))) (.cons (.freeze 3) (.cons (.ret (.var 3)) .nil)))))⟩

/-! tokens -/
noncomputable def dTok (t : Int × Int × Int) : D := .tup [.int t.1, .int t.2.1, .int t.2.2]
noncomputable def dToks (ts : List (Int × Int × Int)) : List D := ts.map dTok
theorem dToks_length (ts) : (dToks ts).length = ts.length := by simp [dToks]
theorem dToks_snoc (ts t) : dToks ts ++ [dTok t] = dToks (ts ++ [t]) := by simp [dToks]
theorem dToks_get {ts : List (Int × Int × Int)} {k : Nat} {d : D} (h : (dToks ts)[k]? = some d) : ∃ t, ts[k]? = some t ∧ d = dTok t := by
  rw [dToks, List.getElem?_map] at h
  obtain ⟨t, h1, rfl⟩ := Option.map_eq_some_iff.mp h
  exact ⟨t, h1, rfl⟩
theorem dTok_inj {a b : Int × Int × Int} (h : dTok a = dTok b) : a = b := by
  obtain ⟨a1, a2, a3⟩ := a
  obtain ⟨b1, b2, b3⟩ := b
  simpa [dTok] using h
theorem dToks_inj : ∀ {a b : List (Int × Int × Int)} (h : dToks a = dToks b), a = b
  | [], [], _ => rfl
  | [], _ :: _, h => by cases h
  | _ :: _, [], h => by cases h
  | x :: a, y :: b, h => by
    simp only [dToks, List.map_cons, List.cons.injEq] at h
    rw [dTok_inj h.1, dToks_inj (a := a) (b := b) h.2]
theorem plain_toks (ts) : Plain (.lst (dToks ts)) := .lst fun d hd => by
  obtain ⟨n, _, rfl⟩ := List.mem_map.mp hd
  refine .tup fun d hd => ?_
  simp only [List.mem_cons, List.not_mem_nil, or_false] at hd
  rcases hd with rfl | rfl | rfl <;> exact .int _
theorem dep_toks (ts) : D.dep 6 (.lst (dToks ts)) := by
  intro d hd
  obtain ⟨n, _, rfl⟩ := List.mem_map.mp hd
  simp [D.dep, dTok]
theorem eqW_toks {a b : List (Int × Int × Int)} {Q : Bool → Prop} (h : Q (decide (a = b))) : eqW (.lst (dToks a)) (.lst (dToks b)) Q :=
  ⟨plain_toks a, plain_toks b, dep_toks a, dep_toks b, by
    have : eqB (.lst (dToks a)) (.lst (dToks b)) = decide (a = b) := by
      unfold eqB
      by_cases h : a = b
      · subst h; simp
      · have : ¬ (D.lst (dToks a) = D.lst (dToks b)) := fun e => h (dToks_inj (by injection e))
        simp [h, this]
    rw [this]; exact h⟩

noncomputable def lzF (xs : List Int) (W L : Int) : Nat → Nat → List (Int × Int × Int)
  | 0, _ => []
  | f + 1, j => if j < xs.length then
      (if 0 < (lmS xs j (min L (xs.length - j)).toNat (min W j).toNat).2.1
        then (1, ((lmS xs j (min L (xs.length - j)).toNat (min W j).toNat).1 : Int), ((lmS xs j (min L (xs.length - j)).toNat (min W j).toNat).2.1 : Int)) :: lzF xs W L f (j + (lmS xs j (min L (xs.length - j)).toNat (min W j).toNat).2.1)
        else (0, xs.getD j 0, 0) :: lzF xs W L f (j + 1)) else []

/-- tokens that tell the list from a place on -/
inductive Tk (xs : List Int) : Nat → List (Int × Int × Int) → Prop where
  | done : Tk xs xs.length []
  | lit {j r} : j < xs.length → Tk xs (j + 1) r → Tk xs j ((0, xs.getD j 0, 0) :: r)
  | cpy {j r} {d l : Nat} : 1 ≤ d → d ≤ j → 4 ≤ l → j + l ≤ xs.length → (∀ m, m < l → xs.getD (j - d + m) 0 = xs.getD (j + m) 0) → Tk xs (j + l) r → Tk xs j ((1, (d : Int), (l : Int)) :: r)

theorem lzF_tk (xs : List Int) (W L : Int) : ∀ f j, j ≤ xs.length → xs.length - j ≤ f → Tk xs j (lzF xs W L f j)
  | 0, j, h0, h1 => by
    have : j = xs.length := by (first | lia | omega)
    subst this
    exact .done
  | f + 1, j, h0, h1 => by
    unfold lzF
    by_cases hj : j < xs.length
    · rw [if_pos hj]
      obtain ⟨hlm, _⟩ := lmS_lm xs j (min L (xs.length - j)).toNat (min W j).toNat
      generalize (lmS xs j (min L (xs.length - j)).toNat (min W j).toNat).1 = d at hlm ⊢
      generalize (lmS xs j (min L (xs.length - j)).toNat (min W j).toNat).2.1 = l at hlm ⊢
      by_cases hl : 0 < l
      · rw [if_pos hl]
        rcases hlm with ⟨a, b, c⟩ | ⟨a, b, c, e, _, _⟩
        · (first | lia | omega)
        · have m1 := mlen_le xs (min L (xs.length - j)).toNat (j - d) j
          refine .cpy a (by (first | lia | omega)) e (by (first | lia | omega)) (fun m hm => ?_) (lzF_tk xs W L f _ (by (first | lia | omega)) (by (first | lia | omega)))
          exact mlen_same xs (min L (xs.length - j)).toNat (j - d) j m (by (first | lia | omega))
      · rw [if_neg hl]
        exact .lit hj (lzF_tk xs W L f _ (by (first | lia | omega)) (by (first | lia | omega)))
    · rw [if_neg hj]
      have : j = xs.length := by (first | lia | omega)
      subst this
      exact .done

theorem lz_tokens_ok {g : GC} {fs : List FnRec} (h : GP g fs) (hm : f_match_length ∈ fs) (hm2 : f_longest_match ∈ fs) (hm3 : f_lz_tokens ∈ fs) (n : Nat) {xs : List Int} (hl : xs.length ≤ 1000) {window limit : Int} (hw : 1 ≤ window) (h3 : 0 ≤ limit) :
    FnOk g (n + 1 + 1 + 1) "lz_tokens" [.lst (dInts xs), .int window, .int limit] (.ok (.lst (dToks (lzF xs window limit xs.length 0)))) := by
  refine h.fn (r := f_lz_tokens) hm3 rfl ?_
  generalize hres : lzF xs window limit xs.length 0 = res
  unfold f_lz_tokens
  refine st_cons ?_
  simp only [zq_wpS_0, zq_wpS_1, zq_wpS_2, zq_wpS_3, zq_wpS_4, zq_wpS_5, zq_wpS_6, zq_wpS_7, zq_wpS_8, zq_wpS_9, zq_wpS_10, zq_wpS_11, zq_wpS_12, zq_wpS_13, zq_wpS_14, zq_wpS_15, zq_wpE_0, zq_wpE_1, zq_wpE_2, zq_wpE_3, zq_wpE_4, zq_wpE_5, zq_wpE_6, zq_wpE_7, zq_wpE_8, zq_wpE_9, zq_wpE_10, zq_wpE_11, zq_wpE_12, zq_wpE_13, zq_wpE_14, zq_wpE_15, zq_wpE_16, zq_wpE_17, zq_wpE_18, zq_wpE_19, zq_wpE_20, zq_wpE_21, zq_wpEs_0, zq_wpEs_1, zq_wpT_0, zq_wpT_1, zq_wpT_2, zq_wpT_3, zq_wpT_4, zq_wpT_5, zq_wpAll_0, zq_wpAll_1, zq_wpAnyT_0, zq_wpAnyT_1, zq_wpI_0, zq_wpI_1, zq_wpI_2, zq_wpI_3, bw_add, bw_sub, bw_mul, bw_div, bw_mod, bw_pow, bw_cat, bw_rep, cw_eq, cw_ne, cw_lt, cw_le, cw_gt, cw_ge, cw_is, cw_isn, cw_in, sw_dct, eqW_int, eqW_bool, iw_bool, iw_none, iw_typ, iw_tup, iw_lst, sw_lst, sw_tup, bc_len, bc_lent, bc_abs, bc_min, bc_list, bc_ty_i, bc_ty_l, bc_isb, rw_1, rw_2, rw_3, setAll, bindC, List.getElem?_cons_zero, List.getElem?_cons_succ, List.set_cons_zero, List.set_cons_succ, List.map_cons, List.map_nil, List.cons_append, List.nil_append, List.replicate_succ, List.replicate_zero, List.length_cons, List.length_nil, Nat.reduceAdd, Nat.zero_add, ne_eq]
  refine ⟨by (first | lia | omega), ?_⟩
  refine kn_cons ?_
  simp only [zq_wpS_0, zq_wpS_1, zq_wpS_2, zq_wpS_3, zq_wpS_4, zq_wpS_5, zq_wpS_6, zq_wpS_7, zq_wpS_8, zq_wpS_9, zq_wpS_10, zq_wpS_11, zq_wpS_12, zq_wpS_13, zq_wpS_14, zq_wpS_15, zq_wpE_0, zq_wpE_1, zq_wpE_2, zq_wpE_3, zq_wpE_4, zq_wpE_5, zq_wpE_6, zq_wpE_7, zq_wpE_8, zq_wpE_9, zq_wpE_10, zq_wpE_11, zq_wpE_12, zq_wpE_13, zq_wpE_14, zq_wpE_15, zq_wpE_16, zq_wpE_17, zq_wpE_18, zq_wpE_19, zq_wpE_20, zq_wpE_21, zq_wpEs_0, zq_wpEs_1, zq_wpT_0, zq_wpT_1, zq_wpT_2, zq_wpT_3, zq_wpT_4, zq_wpT_5, zq_wpAll_0, zq_wpAll_1, zq_wpAnyT_0, zq_wpAnyT_1, zq_wpI_0, zq_wpI_1, zq_wpI_2, zq_wpI_3, bw_add, bw_sub, bw_mul, bw_div, bw_mod, bw_pow, bw_cat, bw_rep, cw_eq, cw_ne, cw_lt, cw_le, cw_gt, cw_ge, cw_is, cw_isn, cw_in, sw_dct, eqW_int, eqW_bool, iw_bool, iw_none, iw_typ, iw_tup, iw_lst, sw_lst, sw_tup, bc_len, bc_lent, bc_abs, bc_min, bc_list, bc_ty_i, bc_ty_l, bc_isb, rw_1, rw_2, rw_3, setAll, bindC, List.getElem?_cons_zero, List.getElem?_cons_succ, List.set_cons_zero, List.set_cons_succ, List.map_cons, List.map_nil, List.cons_append, List.nil_append, List.replicate_succ, List.replicate_zero, List.length_cons, List.length_nil, Nat.reduceAdd, Nat.zero_add, ne_eq]
  refine kn_cons ?_
  refine whil_of (fun n ρ => ∃ (j f : Nat) (toks : List (Int × Int × Int)) (s t : Slot), n = xs.length - j ∧ j ≤ xs.length ∧ xs.length - j ≤ f ∧ toks.length ≤ j ∧ toks ++ lzF xs window limit f j = res ∧
    ρ = [.frz (.lst (dInts xs)), .frz (.int window), .frz (.int limit), .own (.lst (dToks toks)), .frz (.int j), s, t]) (xs.length - 0) ⟨0, xs.length, [], _, _, rfl, by (first | lia | omega), by (first | lia | omega), by simp, hres, rfl⟩ ?_
  rintro m ρ' ⟨j, f, toks, s, t, rfl, hj, hf, htl, htk, rfl⟩
  simp only [zq_wpS_0, zq_wpS_1, zq_wpS_2, zq_wpS_3, zq_wpS_4, zq_wpS_5, zq_wpS_6, zq_wpS_7, zq_wpS_8, zq_wpS_9, zq_wpS_10, zq_wpS_11, zq_wpS_12, zq_wpS_13, zq_wpS_14, zq_wpS_15, zq_wpE_0, zq_wpE_1, zq_wpE_2, zq_wpE_3, zq_wpE_4, zq_wpE_5, zq_wpE_6, zq_wpE_7, zq_wpE_8, zq_wpE_9, zq_wpE_10, zq_wpE_11, zq_wpE_12, zq_wpE_13, zq_wpE_14, zq_wpE_15, zq_wpE_16, zq_wpE_17, zq_wpE_18, zq_wpE_19, zq_wpE_20, zq_wpE_21, zq_wpEs_0, zq_wpEs_1, zq_wpT_0, zq_wpT_1, zq_wpT_2, zq_wpT_3, zq_wpT_4, zq_wpT_5, zq_wpAll_0, zq_wpAll_1, zq_wpAnyT_0, zq_wpAnyT_1, zq_wpI_0, zq_wpI_1, zq_wpI_2, zq_wpI_3, bw_add, bw_sub, bw_mul, bw_div, bw_mod, bw_pow, bw_cat, bw_rep, cw_eq, cw_ne, cw_lt, cw_le, cw_gt, cw_ge, cw_is, cw_isn, cw_in, sw_dct, eqW_int, eqW_bool, iw_bool, iw_none, iw_typ, iw_tup, iw_lst, sw_lst, sw_tup, bc_len, bc_lent, bc_abs, bc_min, bc_list, bc_ty_i, bc_ty_l, bc_isb, rw_1, rw_2, rw_3, setAll, bindC, List.getElem?_cons_zero, List.getElem?_cons_succ, List.set_cons_zero, List.set_cons_succ, List.map_cons, List.map_nil, List.cons_append, List.nil_append, List.replicate_succ, List.replicate_zero, List.length_cons, List.length_nil, Nat.reduceAdd, Nat.zero_add, ne_eq, dInts_length]
  refine ⟨by (first | lia | omega), ?_⟩
  split
  · rename_i hlt
    simp only [decide_eq_true_eq] at hlt
    obtain ⟨f, rfl⟩ : ∃ f', f = f' + 1 := ⟨f - 1, by (first | lia | omega)⟩
    unfold lzF at htk
    rw [if_pos (by (first | lia | omega))] at htk
    refine st_cons ?_
    simp only [zq_wpS_0, zq_wpS_1, zq_wpS_2, zq_wpS_3, zq_wpS_4, zq_wpS_5, zq_wpS_6, zq_wpS_7, zq_wpS_8, zq_wpS_9, zq_wpS_10, zq_wpS_11, zq_wpS_12, zq_wpS_13, zq_wpS_14, zq_wpS_15, zq_wpE_0, zq_wpE_1, zq_wpE_2, zq_wpE_3, zq_wpE_4, zq_wpE_5, zq_wpE_6, zq_wpE_7, zq_wpE_8, zq_wpE_9, zq_wpE_10, zq_wpE_11, zq_wpE_12, zq_wpE_13, zq_wpE_14, zq_wpE_15, zq_wpE_16, zq_wpE_17, zq_wpE_18, zq_wpE_19, zq_wpE_20, zq_wpE_21, zq_wpEs_0, zq_wpEs_1, zq_wpT_0, zq_wpT_1, zq_wpT_2, zq_wpT_3, zq_wpT_4, zq_wpT_5, zq_wpAll_0, zq_wpAll_1, zq_wpAnyT_0, zq_wpAnyT_1, zq_wpI_0, zq_wpI_1, zq_wpI_2, zq_wpI_3, bw_add, bw_sub, bw_mul, bw_div, bw_mod, bw_pow, bw_cat, bw_rep, cw_eq, cw_ne, cw_lt, cw_le, cw_gt, cw_ge, cw_is, cw_isn, cw_in, sw_dct, eqW_int, eqW_bool, iw_bool, iw_none, iw_typ, iw_tup, iw_lst, sw_lst, sw_tup, bc_len, bc_lent, bc_abs, bc_min, bc_list, bc_ty_i, bc_ty_l, bc_isb, rw_1, rw_2, rw_3, setAll, bindC, List.getElem?_cons_zero, List.getElem?_cons_succ, List.set_cons_zero, List.set_cons_succ, List.map_cons, List.map_nil, List.cons_append, List.nil_append, List.replicate_succ, List.replicate_zero, List.length_cons, List.length_nil, Nat.reduceAdd, Nat.zero_add, ne_eq]
    have hlm := (lmS_lm xs j (min limit (xs.length - j)).toNat (min window j).toNat).1
    refine call_ok (longest_ok' h hm hm2 n hl (by (first | lia | omega)) (by (first | lia | omega)) hw h3) ?_
    rw [show (j : Int).toNat = j by (first | lia | omega)]
    generalize (lmS xs j (min limit (xs.length - j)).toNat (min window j).toNat).1 = d at hlm htk ⊢
    generalize (lmS xs j (min limit (xs.length - j)).toNat (min window j).toNat).2.1 = l at hlm htk ⊢
    have m1 := mlen_le xs (min limit (xs.length - j)).toNat (j - d) j
    simp only [zq_wpS_0, zq_wpS_1, zq_wpS_2, zq_wpS_3, zq_wpS_4, zq_wpS_5, zq_wpS_6, zq_wpS_7, zq_wpS_8, zq_wpS_9, zq_wpS_10, zq_wpS_11, zq_wpS_12, zq_wpS_13, zq_wpS_14, zq_wpS_15, zq_wpE_0, zq_wpE_1, zq_wpE_2, zq_wpE_3, zq_wpE_4, zq_wpE_5, zq_wpE_6, zq_wpE_7, zq_wpE_8, zq_wpE_9, zq_wpE_10, zq_wpE_11, zq_wpE_12, zq_wpE_13, zq_wpE_14, zq_wpE_15, zq_wpE_16, zq_wpE_17, zq_wpE_18, zq_wpE_19, zq_wpE_20, zq_wpE_21, zq_wpEs_0, zq_wpEs_1, zq_wpT_0, zq_wpT_1, zq_wpT_2, zq_wpT_3, zq_wpT_4, zq_wpT_5, zq_wpAll_0, zq_wpAll_1, zq_wpAnyT_0, zq_wpAnyT_1, zq_wpI_0, zq_wpI_1, zq_wpI_2, zq_wpI_3, bw_add, bw_sub, bw_mul, bw_div, bw_mod, bw_pow, bw_cat, bw_rep, cw_eq, cw_ne, cw_lt, cw_le, cw_gt, cw_ge, cw_is, cw_isn, cw_in, sw_dct, eqW_int, eqW_bool, iw_bool, iw_none, iw_typ, iw_tup, iw_lst, sw_lst, sw_tup, bc_len, bc_lent, bc_abs, bc_min, bc_list, bc_ty_i, bc_ty_l, bc_isb, rw_1, rw_2, rw_3, setAll, bindC, List.getElem?_cons_zero, List.getElem?_cons_succ, List.set_cons_zero, List.set_cons_succ, List.map_cons, List.map_nil, List.cons_append, List.nil_append, List.replicate_succ, List.replicate_zero, List.length_cons, List.length_nil, Nat.reduceAdd, Nat.zero_add, ne_eq]
    refine ⟨trivial, ?_⟩
    refine kn_cons ?_
    simp only [zq_wpS_0, zq_wpS_1, zq_wpS_2, zq_wpS_3, zq_wpS_4, zq_wpS_5, zq_wpS_6, zq_wpS_7, zq_wpS_8, zq_wpS_9, zq_wpS_10, zq_wpS_11, zq_wpS_12, zq_wpS_13, zq_wpS_14, zq_wpS_15, zq_wpE_0, zq_wpE_1, zq_wpE_2, zq_wpE_3, zq_wpE_4, zq_wpE_5, zq_wpE_6, zq_wpE_7, zq_wpE_8, zq_wpE_9, zq_wpE_10, zq_wpE_11, zq_wpE_12, zq_wpE_13, zq_wpE_14, zq_wpE_15, zq_wpE_16, zq_wpE_17, zq_wpE_18, zq_wpE_19, zq_wpE_20, zq_wpE_21, zq_wpEs_0, zq_wpEs_1, zq_wpT_0, zq_wpT_1, zq_wpT_2, zq_wpT_3, zq_wpT_4, zq_wpT_5, zq_wpAll_0, zq_wpAll_1, zq_wpAnyT_0, zq_wpAnyT_1, zq_wpI_0, zq_wpI_1, zq_wpI_2, zq_wpI_3, bw_add, bw_sub, bw_mul, bw_div, bw_mod, bw_pow, bw_cat, bw_rep, cw_eq, cw_ne, cw_lt, cw_le, cw_gt, cw_ge, cw_is, cw_isn, cw_in, sw_dct, eqW_int, eqW_bool, iw_bool, iw_none, iw_typ, iw_tup, iw_lst, sw_lst, sw_tup, bc_len, bc_lent, bc_abs, bc_min, bc_list, bc_ty_i, bc_ty_l, bc_isb, rw_1, rw_2, rw_3, setAll, bindC, List.getElem?_cons_zero, List.getElem?_cons_succ, List.set_cons_zero, List.set_cons_succ, List.map_cons, List.map_nil, List.cons_append, List.nil_append, List.replicate_succ, List.replicate_zero, List.length_cons, List.length_nil, Nat.reduceAdd, Nat.zero_add, ne_eq]
    split
    · rename_i hc
      simp only [decide_eq_true_eq] at hc
      rw [if_pos (by (first | lia | omega))] at htk
      have hb : 4 ≤ l ∧ j + l ≤ xs.length := by
        rcases hlm with ⟨a, b, c⟩ | ⟨a, b, c, e, _, _⟩ <;> (first | lia | omega)
      refine st_cons ?_
      simp only [zq_wpS_0, zq_wpS_1, zq_wpS_2, zq_wpS_3, zq_wpS_4, zq_wpS_5, zq_wpS_6, zq_wpS_7, zq_wpS_8, zq_wpS_9, zq_wpS_10, zq_wpS_11, zq_wpS_12, zq_wpS_13, zq_wpS_14, zq_wpS_15, zq_wpE_0, zq_wpE_1, zq_wpE_2, zq_wpE_3, zq_wpE_4, zq_wpE_5, zq_wpE_6, zq_wpE_7, zq_wpE_8, zq_wpE_9, zq_wpE_10, zq_wpE_11, zq_wpE_12, zq_wpE_13, zq_wpE_14, zq_wpE_15, zq_wpE_16, zq_wpE_17, zq_wpE_18, zq_wpE_19, zq_wpE_20, zq_wpE_21, zq_wpEs_0, zq_wpEs_1, zq_wpT_0, zq_wpT_1, zq_wpT_2, zq_wpT_3, zq_wpT_4, zq_wpT_5, zq_wpAll_0, zq_wpAll_1, zq_wpAnyT_0, zq_wpAnyT_1, zq_wpI_0, zq_wpI_1, zq_wpI_2, zq_wpI_3, bw_add, bw_sub, bw_mul, bw_div, bw_mod, bw_pow, bw_cat, bw_rep, cw_eq, cw_ne, cw_lt, cw_le, cw_gt, cw_ge, cw_is, cw_isn, cw_in, sw_dct, eqW_int, eqW_bool, iw_bool, iw_none, iw_typ, iw_tup, iw_lst, sw_lst, sw_tup, bc_len, bc_lent, bc_abs, bc_min, bc_list, bc_ty_i, bc_ty_l, bc_isb, rw_1, rw_2, rw_3, setAll, bindC, List.getElem?_cons_zero, List.getElem?_cons_succ, List.set_cons_zero, List.set_cons_succ, List.map_cons, List.map_nil, List.cons_append, List.nil_append, List.replicate_succ, List.replicate_zero, List.length_cons, List.length_nil, Nat.reduceAdd, Nat.zero_add, ne_eq]
      refine ⟨by (first | lia | omega), by rw [dToks_length]; (first | lia | omega), ?_⟩
      rw [show D.tup [D.int 1, D.int (d : Int), D.int (l : Int)] = dTok (1, (d : Int), (l : Int)) from rfl, dToks_snoc]
      refine kn_cons ?_
      simp only [zq_wpS_0, zq_wpS_1, zq_wpS_2, zq_wpS_3, zq_wpS_4, zq_wpS_5, zq_wpS_6, zq_wpS_7, zq_wpS_8, zq_wpS_9, zq_wpS_10, zq_wpS_11, zq_wpS_12, zq_wpS_13, zq_wpS_14, zq_wpS_15, zq_wpE_0, zq_wpE_1, zq_wpE_2, zq_wpE_3, zq_wpE_4, zq_wpE_5, zq_wpE_6, zq_wpE_7, zq_wpE_8, zq_wpE_9, zq_wpE_10, zq_wpE_11, zq_wpE_12, zq_wpE_13, zq_wpE_14, zq_wpE_15, zq_wpE_16, zq_wpE_17, zq_wpE_18, zq_wpE_19, zq_wpE_20, zq_wpE_21, zq_wpEs_0, zq_wpEs_1, zq_wpT_0, zq_wpT_1, zq_wpT_2, zq_wpT_3, zq_wpT_4, zq_wpT_5, zq_wpAll_0, zq_wpAll_1, zq_wpAnyT_0, zq_wpAnyT_1, zq_wpI_0, zq_wpI_1, zq_wpI_2, zq_wpI_3, bw_add, bw_sub, bw_mul, bw_div, bw_mod, bw_pow, bw_cat, bw_rep, cw_eq, cw_ne, cw_lt, cw_le, cw_gt, cw_ge, cw_is, cw_isn, cw_in, sw_dct, eqW_int, eqW_bool, iw_bool, iw_none, iw_typ, iw_tup, iw_lst, sw_lst, sw_tup, bc_len, bc_lent, bc_abs, bc_min, bc_list, bc_ty_i, bc_ty_l, bc_isb, rw_1, rw_2, rw_3, setAll, bindC, List.getElem?_cons_zero, List.getElem?_cons_succ, List.set_cons_zero, List.set_cons_succ, List.map_cons, List.map_nil, List.cons_append, List.nil_append, List.replicate_succ, List.replicate_zero, List.length_cons, List.length_nil, Nat.reduceAdd, Nat.zero_add, ne_eq]
      rw [show (j : Int) + l = ((j + l : Nat) : Int) by (first | lia | omega)]
      refine kn_nil (kn_nil (lw_next (xs.length - (j + l)) (by (first | lia | omega)) ⟨j + l, f, _, _, _, rfl, by (first | lia | omega), by (first | lia | omega), ?_, ?_, rfl⟩))
      · rw [List.length_append, List.length_singleton]; (first | lia | omega)
      · rw [List.append_assoc]; exact htk
    · rename_i hc
      simp only [decide_eq_true_eq] at hc
      rw [if_neg (by (first | lia | omega))] at htk
      refine st_cons ?_
      simp only [zq_wpS_0, zq_wpS_1, zq_wpS_2, zq_wpS_3, zq_wpS_4, zq_wpS_5, zq_wpS_6, zq_wpS_7, zq_wpS_8, zq_wpS_9, zq_wpS_10, zq_wpS_11, zq_wpS_12, zq_wpS_13, zq_wpS_14, zq_wpS_15, zq_wpE_0, zq_wpE_1, zq_wpE_2, zq_wpE_3, zq_wpE_4, zq_wpE_5, zq_wpE_6, zq_wpE_7, zq_wpE_8, zq_wpE_9, zq_wpE_10, zq_wpE_11, zq_wpE_12, zq_wpE_13, zq_wpE_14, zq_wpE_15, zq_wpE_16, zq_wpE_17, zq_wpE_18, zq_wpE_19, zq_wpE_20, zq_wpE_21, zq_wpEs_0, zq_wpEs_1, zq_wpT_0, zq_wpT_1, zq_wpT_2, zq_wpT_3, zq_wpT_4, zq_wpT_5, zq_wpAll_0, zq_wpAll_1, zq_wpAnyT_0, zq_wpAnyT_1, zq_wpI_0, zq_wpI_1, zq_wpI_2, zq_wpI_3, bw_add, bw_sub, bw_mul, bw_div, bw_mod, bw_pow, bw_cat, bw_rep, cw_eq, cw_ne, cw_lt, cw_le, cw_gt, cw_ge, cw_is, cw_isn, cw_in, sw_dct, eqW_int, eqW_bool, iw_bool, iw_none, iw_typ, iw_tup, iw_lst, sw_lst, sw_tup, bc_len, bc_lent, bc_abs, bc_min, bc_list, bc_ty_i, bc_ty_l, bc_isb, rw_1, rw_2, rw_3, setAll, bindC, List.getElem?_cons_zero, List.getElem?_cons_succ, List.set_cons_zero, List.set_cons_succ, List.map_cons, List.map_nil, List.cons_append, List.nil_append, List.replicate_succ, List.replicate_zero, List.length_cons, List.length_nil, Nat.reduceAdd, Nat.zero_add, ne_eq]
      refine item_ints (by (first | lia | omega)) (by (first | lia | omega)) (by (first | lia | omega)) ?_
      refine ⟨by (first | lia | omega), by rw [dToks_length]; (first | lia | omega), ?_⟩
      rw [show (j : Int).toNat = j by (first | lia | omega)]
      rw [show D.tup [D.int 0, D.int (xs.getD j 0), D.int 0] = dTok (0, xs.getD j 0, 0) from rfl, dToks_snoc]
      refine kn_cons ?_
      simp only [zq_wpS_0, zq_wpS_1, zq_wpS_2, zq_wpS_3, zq_wpS_4, zq_wpS_5, zq_wpS_6, zq_wpS_7, zq_wpS_8, zq_wpS_9, zq_wpS_10, zq_wpS_11, zq_wpS_12, zq_wpS_13, zq_wpS_14, zq_wpS_15, zq_wpE_0, zq_wpE_1, zq_wpE_2, zq_wpE_3, zq_wpE_4, zq_wpE_5, zq_wpE_6, zq_wpE_7, zq_wpE_8, zq_wpE_9, zq_wpE_10, zq_wpE_11, zq_wpE_12, zq_wpE_13, zq_wpE_14, zq_wpE_15, zq_wpE_16, zq_wpE_17, zq_wpE_18, zq_wpE_19, zq_wpE_20, zq_wpE_21, zq_wpEs_0, zq_wpEs_1, zq_wpT_0, zq_wpT_1, zq_wpT_2, zq_wpT_3, zq_wpT_4, zq_wpT_5, zq_wpAll_0, zq_wpAll_1, zq_wpAnyT_0, zq_wpAnyT_1, zq_wpI_0, zq_wpI_1, zq_wpI_2, zq_wpI_3, bw_add, bw_sub, bw_mul, bw_div, bw_mod, bw_pow, bw_cat, bw_rep, cw_eq, cw_ne, cw_lt, cw_le, cw_gt, cw_ge, cw_is, cw_isn, cw_in, sw_dct, eqW_int, eqW_bool, iw_bool, iw_none, iw_typ, iw_tup, iw_lst, sw_lst, sw_tup, bc_len, bc_lent, bc_abs, bc_min, bc_list, bc_ty_i, bc_ty_l, bc_isb, rw_1, rw_2, rw_3, setAll, bindC, List.getElem?_cons_zero, List.getElem?_cons_succ, List.set_cons_zero, List.set_cons_succ, List.map_cons, List.map_nil, List.cons_append, List.nil_append, List.replicate_succ, List.replicate_zero, List.length_cons, List.length_nil, Nat.reduceAdd, Nat.zero_add, ne_eq]
      rw [show (j : Int) + 1 = ((j + 1 : Nat) : Int) by (first | lia | omega)]
      refine kn_nil (kn_nil (lw_next (xs.length - (j + 1)) (by (first | lia | omega)) ⟨j + 1, f, _, _, _, rfl, by (first | lia | omega), by (first | lia | omega), ?_, ?_, rfl⟩))
      · rw [List.length_append, List.length_singleton]; (first | lia | omega)
      · rw [List.append_assoc]; exact htk
  · rename_i hlt
    simp only [decide_eq_true_eq] at hlt
    have e : lzF xs window limit f j = [] := by
      cases f with
      | zero => rfl
      | succ f => unfold lzF; rw [if_neg (by (first | lia | omega))]
    rw [e, List.append_nil] at htk
    subst htk
    refine kn_cons ?_
    simp only [zq_wpS_0, zq_wpS_1, zq_wpS_2, zq_wpS_3, zq_wpS_4, zq_wpS_5, zq_wpS_6, zq_wpS_7, zq_wpS_8, zq_wpS_9, zq_wpS_10, zq_wpS_11, zq_wpS_12, zq_wpS_13, zq_wpS_14, zq_wpS_15, zq_wpE_0, zq_wpE_1, zq_wpE_2, zq_wpE_3, zq_wpE_4, zq_wpE_5, zq_wpE_6, zq_wpE_7, zq_wpE_8, zq_wpE_9, zq_wpE_10, zq_wpE_11, zq_wpE_12, zq_wpE_13, zq_wpE_14, zq_wpE_15, zq_wpE_16, zq_wpE_17, zq_wpE_18, zq_wpE_19, zq_wpE_20, zq_wpE_21, zq_wpEs_0, zq_wpEs_1, zq_wpT_0, zq_wpT_1, zq_wpT_2, zq_wpT_3, zq_wpT_4, zq_wpT_5, zq_wpAll_0, zq_wpAll_1, zq_wpAnyT_0, zq_wpAnyT_1, zq_wpI_0, zq_wpI_1, zq_wpI_2, zq_wpI_3, bw_add, bw_sub, bw_mul, bw_div, bw_mod, bw_pow, bw_cat, bw_rep, cw_eq, cw_ne, cw_lt, cw_le, cw_gt, cw_ge, cw_is, cw_isn, cw_in, sw_dct, eqW_int, eqW_bool, iw_bool, iw_none, iw_typ, iw_tup, iw_lst, sw_lst, sw_tup, bc_len, bc_lent, bc_abs, bc_min, bc_list, bc_ty_i, bc_ty_l, bc_isb, rw_1, rw_2, rw_3, setAll, bindC, List.getElem?_cons_zero, List.getElem?_cons_succ, List.set_cons_zero, List.set_cons_succ, List.map_cons, List.map_nil, List.cons_append, List.nil_append, List.replicate_succ, List.replicate_zero, List.length_cons, List.length_nil, Nat.reduceAdd, Nat.zero_add, ne_eq]
    refine kn_cons ?_
    simp only [zq_wpS_0, zq_wpS_1, zq_wpS_2, zq_wpS_3, zq_wpS_4, zq_wpS_5, zq_wpS_6, zq_wpS_7, zq_wpS_8, zq_wpS_9, zq_wpS_10, zq_wpS_11, zq_wpS_12, zq_wpS_13, zq_wpS_14, zq_wpS_15, zq_wpE_0, zq_wpE_1, zq_wpE_2, zq_wpE_3, zq_wpE_4, zq_wpE_5, zq_wpE_6, zq_wpE_7, zq_wpE_8, zq_wpE_9, zq_wpE_10, zq_wpE_11, zq_wpE_12, zq_wpE_13, zq_wpE_14, zq_wpE_15, zq_wpE_16, zq_wpE_17, zq_wpE_18, zq_wpE_19, zq_wpE_20, zq_wpE_21, zq_wpEs_0, zq_wpEs_1, zq_wpT_0, zq_wpT_1, zq_wpT_2, zq_wpT_3, zq_wpT_4, zq_wpT_5, zq_wpAll_0, zq_wpAll_1, zq_wpAnyT_0, zq_wpAnyT_1, zq_wpI_0, zq_wpI_1, zq_wpI_2, zq_wpI_3, bw_add, bw_sub, bw_mul, bw_div, bw_mod, bw_pow, bw_cat, bw_rep, cw_eq, cw_ne, cw_lt, cw_le, cw_gt, cw_ge, cw_is, cw_isn, cw_in, sw_dct, eqW_int, eqW_bool, iw_bool, iw_none, iw_typ, iw_tup, iw_lst, sw_lst, sw_tup, bc_len, bc_lent, bc_abs, bc_min, bc_list, bc_ty_i, bc_ty_l, bc_isb, rw_1, rw_2, rw_3, setAll, bindC, List.getElem?_cons_zero, List.getElem?_cons_succ, List.set_cons_zero, List.set_cons_succ, List.map_cons, List.map_nil, List.cons_append, List.nil_append, List.replicate_succ, List.replicate_zero, List.length_cons, List.length_nil, Nat.reduceAdd, Nat.zero_add, ne_eq]
    exact kn_ret rfl

end Mine

namespace Mine
open PySem PySem.Calls PyProof.Rows

theorem or_fold {a b : Bool} {A B : Prop} : (if a = true then A else if b = true then A else B) = (if (a || b) = true then A else B) := by cases a <;> cases b <;> rfl
theorem and_fold {a b : Bool} {A B : Prop} : (if a = true then (if b = true then A else B) else B) = (if (a && b) = true then A else B) := by cases a <;> cases b <;> rfl

theorem drop_of_get {α : Type} {ts : List α} {k : Nat} {t : α} (h : ts[k]? = some t) : ts.drop k = t :: ts.drop (k + 1) := by
  have hk : k < ts.length := by
    rcases Nat.lt_or_ge k ts.length with h' | h'
    · exact h'
    · rw [List.getElem?_eq_none h'] at h; cases h
  rw [List.getElem?_eq_getElem hk] at h
  rw [List.drop_eq_getElem_cons hk]
  congr 1
  simpa using h

theorem take_snoc {xs : List Int} {j : Nat} (h : j < xs.length) : xs.take j ++ [xs.getD j 0] = xs.take (j + 1) := by
  rw [List.take_add_one, List.getElem?_eq_getElem h, getD_eq h]; rfl

end Mine

namespace Mine
open PySem PySem.Calls PyProof.Rows

-- tokens_ok: 0 tokens, 1 size, 2 kind, 3 value, 4 length
noncomputable def f_tokens_ok : FnRec := ⟨"tokens_ok", ["tokens"], ["size", "kind", "value", "length"],
  (.cons (.assign 1 (.int 0)) (.cons (.forT [2, 3, 4] (.var 0) (.cons (.ite (.cmp .Eq (.var 2) (.int 0)) (.cons (.ite (.or (.cons (.cmp .Lt (.var 3) (.int 0)) (.cons (.cmp .Gt (.var 3) (.int 255)) (.cons (.cmp .NotEq (.var 4) (.int 0)) .nil)))) (.cons (.ret (.bool false)) .nil) .nil) (.cons (.assign 1 (.bin .Add (.var 1) (.int 1))) .nil)) (.cons (.ite (.cmp .Eq (.var 2) (.int 1)) (.cons (.ite (.or (.cons (.cmp .Lt (.var 3) (.int 1)) (.cons (.cmp .Gt (.var 3) (.var 1)) (.cons (.cmp .Gt (.var 3) (.int 65535)) .nil)))) (.cons (.ret (.bool false)) .nil) .nil) (.cons (.ite (.or (.cons (.cmp .Lt (.var 4) (.int 4)) (.cons (.cmp .Gt (.var 4) (.int 255)) .nil))) (.cons (.ret (.bool false)) .nil) .nil) (.cons (.assign 1 (.bin .Add (.var 1) (.var 4))) .nil))) (.cons (.ret (.bool false)) .nil)) .nil)) .nil)) (.cons (.ret (.bool true)) .nil)))⟩

-- lz_expand: 0 tokens, 1 data, 2 kind, 3 value, 4 length, 5 _
noncomputable def f_lz_expand : FnRec := ⟨"lz_expand", ["tokens"], ["data", "kind", "value", "length", "_"],
  (.cons (.ite (.not (.val (.call "tokens_ok" (.cons (.var 0) .nil)))) (.cons .junk .nil) .nil) (.cons (.assignO 1 (.list .nil)) (.cons (.forT [2, 3, 4] (.var 0) (.cons (.ite (.cmp .Eq (.var 2) (.int 0)) (.cons (.append 1 (.var 3)) .nil) (.cons (.for1 5 (.range (.cons (.var 4) .nil)) (.cons (.append 1 (.subv 1 (.bin .Sub (.lenv 1) (.var 3)))) .nil)) .nil)) .nil)) (.cons (.freeze 1) (.cons (.ret (.var 1)) .nil)))))⟩

noncomputable def okF : Int → List (Int × Int × Int) → Bool
  | _, [] => true
  | s, (k, v, l) :: r => if k = 0 then (if v < 0 ∨ 255 < v ∨ l ≠ 0 then false else okF (s + 1) r)
      else if k = 1 then (if v < 1 ∨ s < v ∨ 65535 < v then false else if l < 4 ∨ 255 < l then false else okF (s + l) r) else false

noncomputable def isB (x : Int) : Prop := 0 ≤ x ∧ x ≤ 255

/-- the tokens are all right if and only if the list is one of bytes -/
theorem okF_bytes {xs : List Int} (hl : xs.length ≤ 255) : ∀ {ts j}, Tk xs j ts → (∀ m, m < j → isB (xs.getD m 0)) → (okF j ts = true ↔ ∀ m, m < xs.length → isB (xs.getD m 0)) := by
  intro ts j h
  induction h with
  | done => intro hb; simp [okF]; exact hb
  | @lit j r hj ht ih =>
    intro hb
    unfold okF
    rw [if_pos rfl]
    by_cases hc : xs.getD j 0 < 0 ∨ 255 < xs.getD j 0 ∨ (0 : Int) ≠ 0
    · rw [if_pos hc]
      constructor
      · intro e; cases e
      · intro e
        have := e j hj
        unfold isB at this
        (first | lia | omega)
    · rw [if_neg hc]
      have := ih (fun m hm => by
        by_cases e : m = j
        · subst e; unfold isB; (first | lia | omega)
        · exact hb m (by (first | lia | omega)))
      rw [show ((j + 1 : Nat) : Int) = (j : Int) + 1 by (first | lia | omega)] at this
      exact this
  | @cpy j r d l h1 h2 h3 h4 h5 ht ih =>
    intro hb
    unfold okF
    rw [if_neg (by (first | lia | omega)), if_pos rfl, if_neg (by (first | lia | omega)), if_neg (by (first | lia | omega))]
    have key : ∀ m, m < l → isB (xs.getD (j + m) 0) := by
      intro m
      induction m using Nat.strongRecOn with
      | _ m ihm =>
        intro hm
        rw [← h5 m hm]
        by_cases e : m < d
        · exact hb _ (by (first | lia | omega))
        · rw [show j - d + m = j + (m - d) by (first | lia | omega)]
          exact ihm _ (by (first | lia | omega)) (by (first | lia | omega))
    have := ih (fun m hm => by
      by_cases e : m < j
      · exact hb m e
      · have := key (m - j) (by (first | lia | omega))
        rw [show j + (m - j) = m by (first | lia | omega)] at this
        exact this)
    rw [show ((j + l : Nat) : Int) = (j : Int) + l by (first | lia | omega)] at this
    exact this

theorem tokens_ok_ok {g : GC} {fs : List FnRec} (h : GP g fs) (hm : f_tokens_ok ∈ fs) (n : Nat) (ts : List (Int × Int × Int)) :
    FnOk g (n + 1) "tokens_ok" [.lst (dToks ts)] (.ok (.bool (okF 0 ts))) := by
  refine h.fn (r := f_tokens_ok) hm rfl ?_
  generalize hres : okF 0 ts = res
  unfold f_tokens_ok
  refine st_cons ?_
  simp only [zq_wpS_0, zq_wpS_1, zq_wpS_2, zq_wpS_3, zq_wpS_4, zq_wpS_5, zq_wpS_6, zq_wpS_7, zq_wpS_8, zq_wpS_9, zq_wpS_10, zq_wpS_11, zq_wpS_12, zq_wpS_13, zq_wpS_14, zq_wpS_15, zq_wpE_0, zq_wpE_1, zq_wpE_2, zq_wpE_3, zq_wpE_4, zq_wpE_5, zq_wpE_6, zq_wpE_7, zq_wpE_8, zq_wpE_9, zq_wpE_10, zq_wpE_11, zq_wpE_12, zq_wpE_13, zq_wpE_14, zq_wpE_15, zq_wpE_16, zq_wpE_17, zq_wpE_18, zq_wpE_19, zq_wpE_20, zq_wpE_21, zq_wpEs_0, zq_wpEs_1, zq_wpT_0, zq_wpT_1, zq_wpT_2, zq_wpT_3, zq_wpT_4, zq_wpT_5, zq_wpAll_0, zq_wpAll_1, zq_wpAnyT_0, zq_wpAnyT_1, zq_wpI_0, zq_wpI_1, zq_wpI_2, zq_wpI_3, bw_add, bw_sub, bw_mul, bw_div, bw_mod, bw_pow, bw_cat, bw_rep, cw_eq, cw_ne, cw_lt, cw_le, cw_gt, cw_ge, cw_is, cw_isn, cw_in, sw_dct, eqW_int, eqW_bool, iw_bool, iw_none, iw_typ, iw_tup, iw_lst, sw_lst, sw_tup, bc_len, bc_lent, bc_abs, bc_min, bc_list, bc_ty_i, bc_ty_l, bc_isb, rw_1, rw_2, rw_3, setAll, bindC, List.getElem?_cons_zero, List.getElem?_cons_succ, List.set_cons_zero, List.set_cons_succ, List.map_cons, List.map_nil, List.cons_append, List.nil_append, List.replicate_succ, List.replicate_zero, List.length_cons, List.length_nil, Nat.reduceAdd, Nat.zero_add, ne_eq]
  refine kn_cons ?_
  simp only [zq_wpS_0, zq_wpS_1, zq_wpS_2, zq_wpS_3, zq_wpS_4, zq_wpS_5, zq_wpS_6, zq_wpS_7, zq_wpS_8, zq_wpS_9, zq_wpS_10, zq_wpS_11, zq_wpS_12, zq_wpS_13, zq_wpS_14, zq_wpS_15, zq_wpE_0, zq_wpE_1, zq_wpE_2, zq_wpE_3, zq_wpE_4, zq_wpE_5, zq_wpE_6, zq_wpE_7, zq_wpE_8, zq_wpE_9, zq_wpE_10, zq_wpE_11, zq_wpE_12, zq_wpE_13, zq_wpE_14, zq_wpE_15, zq_wpE_16, zq_wpE_17, zq_wpE_18, zq_wpE_19, zq_wpE_20, zq_wpE_21, zq_wpEs_0, zq_wpEs_1, zq_wpT_0, zq_wpT_1, zq_wpT_2, zq_wpT_3, zq_wpT_4, zq_wpT_5, zq_wpAll_0, zq_wpAll_1, zq_wpAnyT_0, zq_wpAnyT_1, zq_wpI_0, zq_wpI_1, zq_wpI_2, zq_wpI_3, bw_add, bw_sub, bw_mul, bw_div, bw_mod, bw_pow, bw_cat, bw_rep, cw_eq, cw_ne, cw_lt, cw_le, cw_gt, cw_ge, cw_is, cw_isn, cw_in, sw_dct, eqW_int, eqW_bool, iw_bool, iw_none, iw_typ, iw_tup, iw_lst, sw_lst, sw_tup, bc_len, bc_lent, bc_abs, bc_min, bc_list, bc_ty_i, bc_ty_l, bc_isb, rw_1, rw_2, rw_3, setAll, bindC, List.getElem?_cons_zero, List.getElem?_cons_succ, List.set_cons_zero, List.set_cons_succ, List.map_cons, List.map_nil, List.cons_append, List.nil_append, List.replicate_succ, List.replicate_zero, List.length_cons, List.length_nil, Nat.reduceAdd, Nat.zero_add, ne_eq]
  refine forT_ofL (fun k ρ => ∃ (z : Int) (s t u : Slot), okF z (ts.drop k) = res ∧ ρ = [.frz (.lst (dToks ts)), .frz (.int z), s, t, u]) ⟨_, _, _, _, hres, rfl⟩ ?_ ?_
  · rintro k ρ' d ⟨z, s, t, u, hz, rfl⟩ hd
    obtain ⟨⟨a, b, c⟩, hk, rfl⟩ := dToks_get hd
    refine ⟨_, rfl, rfl, ?_⟩
    rw [drop_of_get hk] at hz
    unfold okF at hz
    refine st_cons ?_
    simp only [zq_wpS_0, zq_wpS_1, zq_wpS_2, zq_wpS_3, zq_wpS_4, zq_wpS_5, zq_wpS_6, zq_wpS_7, zq_wpS_8, zq_wpS_9, zq_wpS_10, zq_wpS_11, zq_wpS_12, zq_wpS_13, zq_wpS_14, zq_wpS_15, zq_wpE_0, zq_wpE_1, zq_wpE_2, zq_wpE_3, zq_wpE_4, zq_wpE_5, zq_wpE_6, zq_wpE_7, zq_wpE_8, zq_wpE_9, zq_wpE_10, zq_wpE_11, zq_wpE_12, zq_wpE_13, zq_wpE_14, zq_wpE_15, zq_wpE_16, zq_wpE_17, zq_wpE_18, zq_wpE_19, zq_wpE_20, zq_wpE_21, zq_wpEs_0, zq_wpEs_1, zq_wpT_0, zq_wpT_1, zq_wpT_2, zq_wpT_3, zq_wpT_4, zq_wpT_5, zq_wpAll_0, zq_wpAll_1, zq_wpAnyT_0, zq_wpAnyT_1, zq_wpI_0, zq_wpI_1, zq_wpI_2, zq_wpI_3, bw_add, bw_sub, bw_mul, bw_div, bw_mod, bw_pow, bw_cat, bw_rep, cw_eq, cw_ne, cw_lt, cw_le, cw_gt, cw_ge, cw_is, cw_isn, cw_in, sw_dct, eqW_int, eqW_bool, iw_bool, iw_none, iw_typ, iw_tup, iw_lst, sw_lst, sw_tup, bc_len, bc_lent, bc_abs, bc_min, bc_list, bc_ty_i, bc_ty_l, bc_isb, rw_1, rw_2, rw_3, setAll, bindC, List.getElem?_cons_zero, List.getElem?_cons_succ, List.set_cons_zero, List.set_cons_succ, List.map_cons, List.map_nil, List.cons_append, List.nil_append, List.replicate_succ, List.replicate_zero, List.length_cons, List.length_nil, Nat.reduceAdd, Nat.zero_add, ne_eq]
    split
    · rename_i ha
      simp only [beq_iff_eq] at ha
      rw [if_pos ha] at hz
      refine st_cons ?_
      simp only [zq_wpS_0, zq_wpS_1, zq_wpS_2, zq_wpS_3, zq_wpS_4, zq_wpS_5, zq_wpS_6, zq_wpS_7, zq_wpS_8, zq_wpS_9, zq_wpS_10, zq_wpS_11, zq_wpS_12, zq_wpS_13, zq_wpS_14, zq_wpS_15, zq_wpE_0, zq_wpE_1, zq_wpE_2, zq_wpE_3, zq_wpE_4, zq_wpE_5, zq_wpE_6, zq_wpE_7, zq_wpE_8, zq_wpE_9, zq_wpE_10, zq_wpE_11, zq_wpE_12, zq_wpE_13, zq_wpE_14, zq_wpE_15, zq_wpE_16, zq_wpE_17, zq_wpE_18, zq_wpE_19, zq_wpE_20, zq_wpE_21, zq_wpEs_0, zq_wpEs_1, zq_wpT_0, zq_wpT_1, zq_wpT_2, zq_wpT_3, zq_wpT_4, zq_wpT_5, zq_wpAll_0, zq_wpAll_1, zq_wpAnyT_0, zq_wpAnyT_1, zq_wpI_0, zq_wpI_1, zq_wpI_2, zq_wpI_3, bw_add, bw_sub, bw_mul, bw_div, bw_mod, bw_pow, bw_cat, bw_rep, cw_eq, cw_ne, cw_lt, cw_le, cw_gt, cw_ge, cw_is, cw_isn, cw_in, sw_dct, eqW_int, eqW_bool, iw_bool, iw_none, iw_typ, iw_tup, iw_lst, sw_lst, sw_tup, bc_len, bc_lent, bc_abs, bc_min, bc_list, bc_ty_i, bc_ty_l, bc_isb, rw_1, rw_2, rw_3, setAll, bindC, List.getElem?_cons_zero, List.getElem?_cons_succ, List.set_cons_zero, List.set_cons_succ, List.map_cons, List.map_nil, List.cons_append, List.nil_append, List.replicate_succ, List.replicate_zero, List.length_cons, List.length_nil, Nat.reduceAdd, Nat.zero_add, ne_eq, or_fold, and_fold, Bool.false_eq_true, if_false, if_true]
      split
      · rename_i hc
        simp only [Bool.or_eq_true, decide_eq_true_eq, Bool.not_eq_true', beq_eq_false_iff_ne] at hc
        rw [if_pos (by (first | lia | omega))] at hz
        refine st_cons ?_
        simp only [zq_wpS_0, zq_wpS_1, zq_wpS_2, zq_wpS_3, zq_wpS_4, zq_wpS_5, zq_wpS_6, zq_wpS_7, zq_wpS_8, zq_wpS_9, zq_wpS_10, zq_wpS_11, zq_wpS_12, zq_wpS_13, zq_wpS_14, zq_wpS_15, zq_wpE_0, zq_wpE_1, zq_wpE_2, zq_wpE_3, zq_wpE_4, zq_wpE_5, zq_wpE_6, zq_wpE_7, zq_wpE_8, zq_wpE_9, zq_wpE_10, zq_wpE_11, zq_wpE_12, zq_wpE_13, zq_wpE_14, zq_wpE_15, zq_wpE_16, zq_wpE_17, zq_wpE_18, zq_wpE_19, zq_wpE_20, zq_wpE_21, zq_wpEs_0, zq_wpEs_1, zq_wpT_0, zq_wpT_1, zq_wpT_2, zq_wpT_3, zq_wpT_4, zq_wpT_5, zq_wpAll_0, zq_wpAll_1, zq_wpAnyT_0, zq_wpAnyT_1, zq_wpI_0, zq_wpI_1, zq_wpI_2, zq_wpI_3, bw_add, bw_sub, bw_mul, bw_div, bw_mod, bw_pow, bw_cat, bw_rep, cw_eq, cw_ne, cw_lt, cw_le, cw_gt, cw_ge, cw_is, cw_isn, cw_in, sw_dct, eqW_int, eqW_bool, iw_bool, iw_none, iw_typ, iw_tup, iw_lst, sw_lst, sw_tup, bc_len, bc_lent, bc_abs, bc_min, bc_list, bc_ty_i, bc_ty_l, bc_isb, rw_1, rw_2, rw_3, setAll, bindC, List.getElem?_cons_zero, List.getElem?_cons_succ, List.set_cons_zero, List.set_cons_succ, List.map_cons, List.map_nil, List.cons_append, List.nil_append, List.replicate_succ, List.replicate_zero, List.length_cons, List.length_nil, Nat.reduceAdd, Nat.zero_add, ne_eq]
        refine kn_ret (kn_ret (kn_ret (lp_ret (kn_ret ?_))))
        simp only [hz]
      · rename_i hc
        simp only [Bool.or_eq_true, decide_eq_true_eq, Bool.not_eq_true', beq_eq_false_iff_ne] at hc
        rw [if_neg (by (first | lia | omega))] at hz
        refine st_nil ?_
        refine kn_cons ?_
        simp only [zq_wpS_0, zq_wpS_1, zq_wpS_2, zq_wpS_3, zq_wpS_4, zq_wpS_5, zq_wpS_6, zq_wpS_7, zq_wpS_8, zq_wpS_9, zq_wpS_10, zq_wpS_11, zq_wpS_12, zq_wpS_13, zq_wpS_14, zq_wpS_15, zq_wpE_0, zq_wpE_1, zq_wpE_2, zq_wpE_3, zq_wpE_4, zq_wpE_5, zq_wpE_6, zq_wpE_7, zq_wpE_8, zq_wpE_9, zq_wpE_10, zq_wpE_11, zq_wpE_12, zq_wpE_13, zq_wpE_14, zq_wpE_15, zq_wpE_16, zq_wpE_17, zq_wpE_18, zq_wpE_19, zq_wpE_20, zq_wpE_21, zq_wpEs_0, zq_wpEs_1, zq_wpT_0, zq_wpT_1, zq_wpT_2, zq_wpT_3, zq_wpT_4, zq_wpT_5, zq_wpAll_0, zq_wpAll_1, zq_wpAnyT_0, zq_wpAnyT_1, zq_wpI_0, zq_wpI_1, zq_wpI_2, zq_wpI_3, bw_add, bw_sub, bw_mul, bw_div, bw_mod, bw_pow, bw_cat, bw_rep, cw_eq, cw_ne, cw_lt, cw_le, cw_gt, cw_ge, cw_is, cw_isn, cw_in, sw_dct, eqW_int, eqW_bool, iw_bool, iw_none, iw_typ, iw_tup, iw_lst, sw_lst, sw_tup, bc_len, bc_lent, bc_abs, bc_min, bc_list, bc_ty_i, bc_ty_l, bc_isb, rw_1, rw_2, rw_3, setAll, bindC, List.getElem?_cons_zero, List.getElem?_cons_succ, List.set_cons_zero, List.set_cons_succ, List.map_cons, List.map_nil, List.cons_append, List.nil_append, List.replicate_succ, List.replicate_zero, List.length_cons, List.length_nil, Nat.reduceAdd, Nat.zero_add, ne_eq]
        exact kn_nil (kn_nil (lp_next ⟨_, _, _, _, hz, rfl⟩))
    · rename_i ha
      simp only [beq_iff_eq] at ha
      rw [if_neg ha] at hz
      refine st_cons ?_
      simp only [zq_wpS_0, zq_wpS_1, zq_wpS_2, zq_wpS_3, zq_wpS_4, zq_wpS_5, zq_wpS_6, zq_wpS_7, zq_wpS_8, zq_wpS_9, zq_wpS_10, zq_wpS_11, zq_wpS_12, zq_wpS_13, zq_wpS_14, zq_wpS_15, zq_wpE_0, zq_wpE_1, zq_wpE_2, zq_wpE_3, zq_wpE_4, zq_wpE_5, zq_wpE_6, zq_wpE_7, zq_wpE_8, zq_wpE_9, zq_wpE_10, zq_wpE_11, zq_wpE_12, zq_wpE_13, zq_wpE_14, zq_wpE_15, zq_wpE_16, zq_wpE_17, zq_wpE_18, zq_wpE_19, zq_wpE_20, zq_wpE_21, zq_wpEs_0, zq_wpEs_1, zq_wpT_0, zq_wpT_1, zq_wpT_2, zq_wpT_3, zq_wpT_4, zq_wpT_5, zq_wpAll_0, zq_wpAll_1, zq_wpAnyT_0, zq_wpAnyT_1, zq_wpI_0, zq_wpI_1, zq_wpI_2, zq_wpI_3, bw_add, bw_sub, bw_mul, bw_div, bw_mod, bw_pow, bw_cat, bw_rep, cw_eq, cw_ne, cw_lt, cw_le, cw_gt, cw_ge, cw_is, cw_isn, cw_in, sw_dct, eqW_int, eqW_bool, iw_bool, iw_none, iw_typ, iw_tup, iw_lst, sw_lst, sw_tup, bc_len, bc_lent, bc_abs, bc_min, bc_list, bc_ty_i, bc_ty_l, bc_isb, rw_1, rw_2, rw_3, setAll, bindC, List.getElem?_cons_zero, List.getElem?_cons_succ, List.set_cons_zero, List.set_cons_succ, List.map_cons, List.map_nil, List.cons_append, List.nil_append, List.replicate_succ, List.replicate_zero, List.length_cons, List.length_nil, Nat.reduceAdd, Nat.zero_add, ne_eq]
      split
      · rename_i ha1
        simp only [beq_iff_eq] at ha1
        rw [if_pos ha1] at hz
        refine st_cons ?_
        simp only [zq_wpS_0, zq_wpS_1, zq_wpS_2, zq_wpS_3, zq_wpS_4, zq_wpS_5, zq_wpS_6, zq_wpS_7, zq_wpS_8, zq_wpS_9, zq_wpS_10, zq_wpS_11, zq_wpS_12, zq_wpS_13, zq_wpS_14, zq_wpS_15, zq_wpE_0, zq_wpE_1, zq_wpE_2, zq_wpE_3, zq_wpE_4, zq_wpE_5, zq_wpE_6, zq_wpE_7, zq_wpE_8, zq_wpE_9, zq_wpE_10, zq_wpE_11, zq_wpE_12, zq_wpE_13, zq_wpE_14, zq_wpE_15, zq_wpE_16, zq_wpE_17, zq_wpE_18, zq_wpE_19, zq_wpE_20, zq_wpE_21, zq_wpEs_0, zq_wpEs_1, zq_wpT_0, zq_wpT_1, zq_wpT_2, zq_wpT_3, zq_wpT_4, zq_wpT_5, zq_wpAll_0, zq_wpAll_1, zq_wpAnyT_0, zq_wpAnyT_1, zq_wpI_0, zq_wpI_1, zq_wpI_2, zq_wpI_3, bw_add, bw_sub, bw_mul, bw_div, bw_mod, bw_pow, bw_cat, bw_rep, cw_eq, cw_ne, cw_lt, cw_le, cw_gt, cw_ge, cw_is, cw_isn, cw_in, sw_dct, eqW_int, eqW_bool, iw_bool, iw_none, iw_typ, iw_tup, iw_lst, sw_lst, sw_tup, bc_len, bc_lent, bc_abs, bc_min, bc_list, bc_ty_i, bc_ty_l, bc_isb, rw_1, rw_2, rw_3, setAll, bindC, List.getElem?_cons_zero, List.getElem?_cons_succ, List.set_cons_zero, List.set_cons_succ, List.map_cons, List.map_nil, List.cons_append, List.nil_append, List.replicate_succ, List.replicate_zero, List.length_cons, List.length_nil, Nat.reduceAdd, Nat.zero_add, ne_eq, or_fold, and_fold, Bool.false_eq_true, if_false, if_true]
        split
        · rename_i hc
          simp only [Bool.or_eq_true, decide_eq_true_eq] at hc
          rw [if_pos (by (first | lia | omega))] at hz
          refine st_cons ?_
          simp only [zq_wpS_0, zq_wpS_1, zq_wpS_2, zq_wpS_3, zq_wpS_4, zq_wpS_5, zq_wpS_6, zq_wpS_7, zq_wpS_8, zq_wpS_9, zq_wpS_10, zq_wpS_11, zq_wpS_12, zq_wpS_13, zq_wpS_14, zq_wpS_15, zq_wpE_0, zq_wpE_1, zq_wpE_2, zq_wpE_3, zq_wpE_4, zq_wpE_5, zq_wpE_6, zq_wpE_7, zq_wpE_8, zq_wpE_9, zq_wpE_10, zq_wpE_11, zq_wpE_12, zq_wpE_13, zq_wpE_14, zq_wpE_15, zq_wpE_16, zq_wpE_17, zq_wpE_18, zq_wpE_19, zq_wpE_20, zq_wpE_21, zq_wpEs_0, zq_wpEs_1, zq_wpT_0, zq_wpT_1, zq_wpT_2, zq_wpT_3, zq_wpT_4, zq_wpT_5, zq_wpAll_0, zq_wpAll_1, zq_wpAnyT_0, zq_wpAnyT_1, zq_wpI_0, zq_wpI_1, zq_wpI_2, zq_wpI_3, bw_add, bw_sub, bw_mul, bw_div, bw_mod, bw_pow, bw_cat, bw_rep, cw_eq, cw_ne, cw_lt, cw_le, cw_gt, cw_ge, cw_is, cw_isn, cw_in, sw_dct, eqW_int, eqW_bool, iw_bool, iw_none, iw_typ, iw_tup, iw_lst, sw_lst, sw_tup, bc_len, bc_lent, bc_abs, bc_min, bc_list, bc_ty_i, bc_ty_l, bc_isb, rw_1, rw_2, rw_3, setAll, bindC, List.getElem?_cons_zero, List.getElem?_cons_succ, List.set_cons_zero, List.set_cons_succ, List.map_cons, List.map_nil, List.cons_append, List.nil_append, List.replicate_succ, List.replicate_zero, List.length_cons, List.length_nil, Nat.reduceAdd, Nat.zero_add, ne_eq]
          refine kn_ret (kn_ret (kn_ret (kn_ret (lp_ret (kn_ret ?_)))))
          simp only [hz]
        · rename_i hc
          simp only [Bool.or_eq_true, decide_eq_true_eq] at hc
          rw [if_neg (by (first | lia | omega))] at hz
          refine st_nil ?_
          refine kn_cons ?_
          simp only [zq_wpS_0, zq_wpS_1, zq_wpS_2, zq_wpS_3, zq_wpS_4, zq_wpS_5, zq_wpS_6, zq_wpS_7, zq_wpS_8, zq_wpS_9, zq_wpS_10, zq_wpS_11, zq_wpS_12, zq_wpS_13, zq_wpS_14, zq_wpS_15, zq_wpE_0, zq_wpE_1, zq_wpE_2, zq_wpE_3, zq_wpE_4, zq_wpE_5, zq_wpE_6, zq_wpE_7, zq_wpE_8, zq_wpE_9, zq_wpE_10, zq_wpE_11, zq_wpE_12, zq_wpE_13, zq_wpE_14, zq_wpE_15, zq_wpE_16, zq_wpE_17, zq_wpE_18, zq_wpE_19, zq_wpE_20, zq_wpE_21, zq_wpEs_0, zq_wpEs_1, zq_wpT_0, zq_wpT_1, zq_wpT_2, zq_wpT_3, zq_wpT_4, zq_wpT_5, zq_wpAll_0, zq_wpAll_1, zq_wpAnyT_0, zq_wpAnyT_1, zq_wpI_0, zq_wpI_1, zq_wpI_2, zq_wpI_3, bw_add, bw_sub, bw_mul, bw_div, bw_mod, bw_pow, bw_cat, bw_rep, cw_eq, cw_ne, cw_lt, cw_le, cw_gt, cw_ge, cw_is, cw_isn, cw_in, sw_dct, eqW_int, eqW_bool, iw_bool, iw_none, iw_typ, iw_tup, iw_lst, sw_lst, sw_tup, bc_len, bc_lent, bc_abs, bc_min, bc_list, bc_ty_i, bc_ty_l, bc_isb, rw_1, rw_2, rw_3, setAll, bindC, List.getElem?_cons_zero, List.getElem?_cons_succ, List.set_cons_zero, List.set_cons_succ, List.map_cons, List.map_nil, List.cons_append, List.nil_append, List.replicate_succ, List.replicate_zero, List.length_cons, List.length_nil, Nat.reduceAdd, Nat.zero_add, ne_eq, or_fold, and_fold, Bool.false_eq_true, if_false, if_true]
          split
          · rename_i hc
            simp only [Bool.or_eq_true, decide_eq_true_eq] at hc
            rw [if_pos (by (first | lia | omega))] at hz
            refine st_cons ?_
            simp only [zq_wpS_0, zq_wpS_1, zq_wpS_2, zq_wpS_3, zq_wpS_4, zq_wpS_5, zq_wpS_6, zq_wpS_7, zq_wpS_8, zq_wpS_9, zq_wpS_10, zq_wpS_11, zq_wpS_12, zq_wpS_13, zq_wpS_14, zq_wpS_15, zq_wpE_0, zq_wpE_1, zq_wpE_2, zq_wpE_3, zq_wpE_4, zq_wpE_5, zq_wpE_6, zq_wpE_7, zq_wpE_8, zq_wpE_9, zq_wpE_10, zq_wpE_11, zq_wpE_12, zq_wpE_13, zq_wpE_14, zq_wpE_15, zq_wpE_16, zq_wpE_17, zq_wpE_18, zq_wpE_19, zq_wpE_20, zq_wpE_21, zq_wpEs_0, zq_wpEs_1, zq_wpT_0, zq_wpT_1, zq_wpT_2, zq_wpT_3, zq_wpT_4, zq_wpT_5, zq_wpAll_0, zq_wpAll_1, zq_wpAnyT_0, zq_wpAnyT_1, zq_wpI_0, zq_wpI_1, zq_wpI_2, zq_wpI_3, bw_add, bw_sub, bw_mul, bw_div, bw_mod, bw_pow, bw_cat, bw_rep, cw_eq, cw_ne, cw_lt, cw_le, cw_gt, cw_ge, cw_is, cw_isn, cw_in, sw_dct, eqW_int, eqW_bool, iw_bool, iw_none, iw_typ, iw_tup, iw_lst, sw_lst, sw_tup, bc_len, bc_lent, bc_abs, bc_min, bc_list, bc_ty_i, bc_ty_l, bc_isb, rw_1, rw_2, rw_3, setAll, bindC, List.getElem?_cons_zero, List.getElem?_cons_succ, List.set_cons_zero, List.set_cons_succ, List.map_cons, List.map_nil, List.cons_append, List.nil_append, List.replicate_succ, List.replicate_zero, List.length_cons, List.length_nil, Nat.reduceAdd, Nat.zero_add, ne_eq]
            refine kn_ret (kn_ret (kn_ret (kn_ret (lp_ret (kn_ret ?_)))))
            simp only [hz]
          · rename_i hc
            simp only [Bool.or_eq_true, decide_eq_true_eq] at hc
            rw [if_neg (by (first | lia | omega))] at hz
            refine st_nil ?_
            refine kn_cons ?_
            simp only [zq_wpS_0, zq_wpS_1, zq_wpS_2, zq_wpS_3, zq_wpS_4, zq_wpS_5, zq_wpS_6, zq_wpS_7, zq_wpS_8, zq_wpS_9, zq_wpS_10, zq_wpS_11, zq_wpS_12, zq_wpS_13, zq_wpS_14, zq_wpS_15, zq_wpE_0, zq_wpE_1, zq_wpE_2, zq_wpE_3, zq_wpE_4, zq_wpE_5, zq_wpE_6, zq_wpE_7, zq_wpE_8, zq_wpE_9, zq_wpE_10, zq_wpE_11, zq_wpE_12, zq_wpE_13, zq_wpE_14, zq_wpE_15, zq_wpE_16, zq_wpE_17, zq_wpE_18, zq_wpE_19, zq_wpE_20, zq_wpE_21, zq_wpEs_0, zq_wpEs_1, zq_wpT_0, zq_wpT_1, zq_wpT_2, zq_wpT_3, zq_wpT_4, zq_wpT_5, zq_wpAll_0, zq_wpAll_1, zq_wpAnyT_0, zq_wpAnyT_1, zq_wpI_0, zq_wpI_1, zq_wpI_2, zq_wpI_3, bw_add, bw_sub, bw_mul, bw_div, bw_mod, bw_pow, bw_cat, bw_rep, cw_eq, cw_ne, cw_lt, cw_le, cw_gt, cw_ge, cw_is, cw_isn, cw_in, sw_dct, eqW_int, eqW_bool, iw_bool, iw_none, iw_typ, iw_tup, iw_lst, sw_lst, sw_tup, bc_len, bc_lent, bc_abs, bc_min, bc_list, bc_ty_i, bc_ty_l, bc_isb, rw_1, rw_2, rw_3, setAll, bindC, List.getElem?_cons_zero, List.getElem?_cons_succ, List.set_cons_zero, List.set_cons_succ, List.map_cons, List.map_nil, List.cons_append, List.nil_append, List.replicate_succ, List.replicate_zero, List.length_cons, List.length_nil, Nat.reduceAdd, Nat.zero_add, ne_eq]
            exact kn_nil (kn_nil (kn_nil (lp_next ⟨_, _, _, _, hz, rfl⟩)))
      · rename_i ha1
        simp only [beq_iff_eq] at ha1
        rw [if_neg ha1] at hz
        refine st_cons ?_
        simp only [zq_wpS_0, zq_wpS_1, zq_wpS_2, zq_wpS_3, zq_wpS_4, zq_wpS_5, zq_wpS_6, zq_wpS_7, zq_wpS_8, zq_wpS_9, zq_wpS_10, zq_wpS_11, zq_wpS_12, zq_wpS_13, zq_wpS_14, zq_wpS_15, zq_wpE_0, zq_wpE_1, zq_wpE_2, zq_wpE_3, zq_wpE_4, zq_wpE_5, zq_wpE_6, zq_wpE_7, zq_wpE_8, zq_wpE_9, zq_wpE_10, zq_wpE_11, zq_wpE_12, zq_wpE_13, zq_wpE_14, zq_wpE_15, zq_wpE_16, zq_wpE_17, zq_wpE_18, zq_wpE_19, zq_wpE_20, zq_wpE_21, zq_wpEs_0, zq_wpEs_1, zq_wpT_0, zq_wpT_1, zq_wpT_2, zq_wpT_3, zq_wpT_4, zq_wpT_5, zq_wpAll_0, zq_wpAll_1, zq_wpAnyT_0, zq_wpAnyT_1, zq_wpI_0, zq_wpI_1, zq_wpI_2, zq_wpI_3, bw_add, bw_sub, bw_mul, bw_div, bw_mod, bw_pow, bw_cat, bw_rep, cw_eq, cw_ne, cw_lt, cw_le, cw_gt, cw_ge, cw_is, cw_isn, cw_in, sw_dct, eqW_int, eqW_bool, iw_bool, iw_none, iw_typ, iw_tup, iw_lst, sw_lst, sw_tup, bc_len, bc_lent, bc_abs, bc_min, bc_list, bc_ty_i, bc_ty_l, bc_isb, rw_1, rw_2, rw_3, setAll, bindC, List.getElem?_cons_zero, List.getElem?_cons_succ, List.set_cons_zero, List.set_cons_succ, List.map_cons, List.map_nil, List.cons_append, List.nil_append, List.replicate_succ, List.replicate_zero, List.length_cons, List.length_nil, Nat.reduceAdd, Nat.zero_add, ne_eq]
        refine kn_ret (kn_ret (kn_ret (lp_ret (kn_ret ?_))))
        simp only [hz]
  · rintro ρ' ⟨z, s, t, u, hz, rfl⟩
    rw [dToks_length, List.drop_length] at hz
    refine kn_cons ?_
    simp only [zq_wpS_0, zq_wpS_1, zq_wpS_2, zq_wpS_3, zq_wpS_4, zq_wpS_5, zq_wpS_6, zq_wpS_7, zq_wpS_8, zq_wpS_9, zq_wpS_10, zq_wpS_11, zq_wpS_12, zq_wpS_13, zq_wpS_14, zq_wpS_15, zq_wpE_0, zq_wpE_1, zq_wpE_2, zq_wpE_3, zq_wpE_4, zq_wpE_5, zq_wpE_6, zq_wpE_7, zq_wpE_8, zq_wpE_9, zq_wpE_10, zq_wpE_11, zq_wpE_12, zq_wpE_13, zq_wpE_14, zq_wpE_15, zq_wpE_16, zq_wpE_17, zq_wpE_18, zq_wpE_19, zq_wpE_20, zq_wpE_21, zq_wpEs_0, zq_wpEs_1, zq_wpT_0, zq_wpT_1, zq_wpT_2, zq_wpT_3, zq_wpT_4, zq_wpT_5, zq_wpAll_0, zq_wpAll_1, zq_wpAnyT_0, zq_wpAnyT_1, zq_wpI_0, zq_wpI_1, zq_wpI_2, zq_wpI_3, bw_add, bw_sub, bw_mul, bw_div, bw_mod, bw_pow, bw_cat, bw_rep, cw_eq, cw_ne, cw_lt, cw_le, cw_gt, cw_ge, cw_is, cw_isn, cw_in, sw_dct, eqW_int, eqW_bool, iw_bool, iw_none, iw_typ, iw_tup, iw_lst, sw_lst, sw_tup, bc_len, bc_lent, bc_abs, bc_min, bc_list, bc_ty_i, bc_ty_l, bc_isb, rw_1, rw_2, rw_3, setAll, bindC, List.getElem?_cons_zero, List.getElem?_cons_succ, List.set_cons_zero, List.set_cons_succ, List.map_cons, List.map_nil, List.cons_append, List.nil_append, List.replicate_succ, List.replicate_zero, List.length_cons, List.length_nil, Nat.reduceAdd, Nat.zero_add, ne_eq]
    refine kn_ret ?_
    rw [← hz]; rfl


theorem lz_expand_ok {g : GC} {fs : List FnRec} (h : GP g fs) (hm : f_tokens_ok ∈ fs) (hm2 : f_lz_expand ∈ fs) (n : Nat) {xs : List Int} (hl : xs.length ≤ 1000) {ts : List (Int × Int × Int)} (hts : Tk xs 0 ts) (hok : okF 0 ts = true) :
    FnOk g (n + 1 + 1) "lz_expand" [.lst (dToks ts)] (.ok (.lst (dInts xs))) := by
  refine h.fn (r := f_lz_expand) hm2 rfl ?_
  unfold f_lz_expand
  refine st_cons ?_
  simp only [zq_wpS_0, zq_wpS_1, zq_wpS_2, zq_wpS_3, zq_wpS_4, zq_wpS_5, zq_wpS_6, zq_wpS_7, zq_wpS_8, zq_wpS_9, zq_wpS_10, zq_wpS_11, zq_wpS_12, zq_wpS_13, zq_wpS_14, zq_wpS_15, zq_wpE_0, zq_wpE_1, zq_wpE_2, zq_wpE_3, zq_wpE_4, zq_wpE_5, zq_wpE_6, zq_wpE_7, zq_wpE_8, zq_wpE_9, zq_wpE_10, zq_wpE_11, zq_wpE_12, zq_wpE_13, zq_wpE_14, zq_wpE_15, zq_wpE_16, zq_wpE_17, zq_wpE_18, zq_wpE_19, zq_wpE_20, zq_wpE_21, zq_wpEs_0, zq_wpEs_1, zq_wpT_0, zq_wpT_1, zq_wpT_2, zq_wpT_3, zq_wpT_4, zq_wpT_5, zq_wpAll_0, zq_wpAll_1, zq_wpAnyT_0, zq_wpAnyT_1, zq_wpI_0, zq_wpI_1, zq_wpI_2, zq_wpI_3, bw_add, bw_sub, bw_mul, bw_div, bw_mod, bw_pow, bw_cat, bw_rep, cw_eq, cw_ne, cw_lt, cw_le, cw_gt, cw_ge, cw_is, cw_isn, cw_in, sw_dct, eqW_int, eqW_bool, iw_bool, iw_none, iw_typ, iw_tup, iw_lst, sw_lst, sw_tup, bc_len, bc_lent, bc_abs, bc_min, bc_list, bc_ty_i, bc_ty_l, bc_isb, rw_1, rw_2, rw_3, setAll, bindC, List.getElem?_cons_zero, List.getElem?_cons_succ, List.set_cons_zero, List.set_cons_succ, List.map_cons, List.map_nil, List.cons_append, List.nil_append, List.replicate_succ, List.replicate_zero, List.length_cons, List.length_nil, Nat.reduceAdd, Nat.zero_add, ne_eq]
  refine call_ok (tokens_ok_ok h hm n ts) ?_
  rw [hok]
  simp only [zq_wpS_0, zq_wpS_1, zq_wpS_2, zq_wpS_3, zq_wpS_4, zq_wpS_5, zq_wpS_6, zq_wpS_7, zq_wpS_8, zq_wpS_9, zq_wpS_10, zq_wpS_11, zq_wpS_12, zq_wpS_13, zq_wpS_14, zq_wpS_15, zq_wpE_0, zq_wpE_1, zq_wpE_2, zq_wpE_3, zq_wpE_4, zq_wpE_5, zq_wpE_6, zq_wpE_7, zq_wpE_8, zq_wpE_9, zq_wpE_10, zq_wpE_11, zq_wpE_12, zq_wpE_13, zq_wpE_14, zq_wpE_15, zq_wpE_16, zq_wpE_17, zq_wpE_18, zq_wpE_19, zq_wpE_20, zq_wpE_21, zq_wpEs_0, zq_wpEs_1, zq_wpT_0, zq_wpT_1, zq_wpT_2, zq_wpT_3, zq_wpT_4, zq_wpT_5, zq_wpAll_0, zq_wpAll_1, zq_wpAnyT_0, zq_wpAnyT_1, zq_wpI_0, zq_wpI_1, zq_wpI_2, zq_wpI_3, bw_add, bw_sub, bw_mul, bw_div, bw_mod, bw_pow, bw_cat, bw_rep, cw_eq, cw_ne, cw_lt, cw_le, cw_gt, cw_ge, cw_is, cw_isn, cw_in, sw_dct, eqW_int, eqW_bool, iw_bool, iw_none, iw_typ, iw_tup, iw_lst, sw_lst, sw_tup, bc_len, bc_lent, bc_abs, bc_min, bc_list, bc_ty_i, bc_ty_l, bc_isb, rw_1, rw_2, rw_3, setAll, bindC, List.getElem?_cons_zero, List.getElem?_cons_succ, List.set_cons_zero, List.set_cons_succ, List.map_cons, List.map_nil, List.cons_append, List.nil_append, List.replicate_succ, List.replicate_zero, List.length_cons, List.length_nil, Nat.reduceAdd, Nat.zero_add, ne_eq]
  rw [if_neg (by decide)]
  refine st_nil ?_
  refine kn_cons ?_
  simp only [zq_wpS_0, zq_wpS_1, zq_wpS_2, zq_wpS_3, zq_wpS_4, zq_wpS_5, zq_wpS_6, zq_wpS_7, zq_wpS_8, zq_wpS_9, zq_wpS_10, zq_wpS_11, zq_wpS_12, zq_wpS_13, zq_wpS_14, zq_wpS_15, zq_wpE_0, zq_wpE_1, zq_wpE_2, zq_wpE_3, zq_wpE_4, zq_wpE_5, zq_wpE_6, zq_wpE_7, zq_wpE_8, zq_wpE_9, zq_wpE_10, zq_wpE_11, zq_wpE_12, zq_wpE_13, zq_wpE_14, zq_wpE_15, zq_wpE_16, zq_wpE_17, zq_wpE_18, zq_wpE_19, zq_wpE_20, zq_wpE_21, zq_wpEs_0, zq_wpEs_1, zq_wpT_0, zq_wpT_1, zq_wpT_2, zq_wpT_3, zq_wpT_4, zq_wpT_5, zq_wpAll_0, zq_wpAll_1, zq_wpAnyT_0, zq_wpAnyT_1, zq_wpI_0, zq_wpI_1, zq_wpI_2, zq_wpI_3, bw_add, bw_sub, bw_mul, bw_div, bw_mod, bw_pow, bw_cat, bw_rep, cw_eq, cw_ne, cw_lt, cw_le, cw_gt, cw_ge, cw_is, cw_isn, cw_in, sw_dct, eqW_int, eqW_bool, iw_bool, iw_none, iw_typ, iw_tup, iw_lst, sw_lst, sw_tup, bc_len, bc_lent, bc_abs, bc_min, bc_list, bc_ty_i, bc_ty_l, bc_isb, rw_1, rw_2, rw_3, setAll, bindC, List.getElem?_cons_zero, List.getElem?_cons_succ, List.set_cons_zero, List.set_cons_succ, List.map_cons, List.map_nil, List.cons_append, List.nil_append, List.replicate_succ, List.replicate_zero, List.length_cons, List.length_nil, Nat.reduceAdd, Nat.zero_add, ne_eq]
  refine ⟨by (first | lia | omega), ?_⟩
  refine kn_cons ?_
  simp only [zq_wpS_0, zq_wpS_1, zq_wpS_2, zq_wpS_3, zq_wpS_4, zq_wpS_5, zq_wpS_6, zq_wpS_7, zq_wpS_8, zq_wpS_9, zq_wpS_10, zq_wpS_11, zq_wpS_12, zq_wpS_13, zq_wpS_14, zq_wpS_15, zq_wpE_0, zq_wpE_1, zq_wpE_2, zq_wpE_3, zq_wpE_4, zq_wpE_5, zq_wpE_6, zq_wpE_7, zq_wpE_8, zq_wpE_9, zq_wpE_10, zq_wpE_11, zq_wpE_12, zq_wpE_13, zq_wpE_14, zq_wpE_15, zq_wpE_16, zq_wpE_17, zq_wpE_18, zq_wpE_19, zq_wpE_20, zq_wpE_21, zq_wpEs_0, zq_wpEs_1, zq_wpT_0, zq_wpT_1, zq_wpT_2, zq_wpT_3, zq_wpT_4, zq_wpT_5, zq_wpAll_0, zq_wpAll_1, zq_wpAnyT_0, zq_wpAnyT_1, zq_wpI_0, zq_wpI_1, zq_wpI_2, zq_wpI_3, bw_add, bw_sub, bw_mul, bw_div, bw_mod, bw_pow, bw_cat, bw_rep, cw_eq, cw_ne, cw_lt, cw_le, cw_gt, cw_ge, cw_is, cw_isn, cw_in, sw_dct, eqW_int, eqW_bool, iw_bool, iw_none, iw_typ, iw_tup, iw_lst, sw_lst, sw_tup, bc_len, bc_lent, bc_abs, bc_min, bc_list, bc_ty_i, bc_ty_l, bc_isb, rw_1, rw_2, rw_3, setAll, bindC, List.getElem?_cons_zero, List.getElem?_cons_succ, List.set_cons_zero, List.set_cons_succ, List.map_cons, List.map_nil, List.cons_append, List.nil_append, List.replicate_succ, List.replicate_zero, List.length_cons, List.length_nil, Nat.reduceAdd, Nat.zero_add, ne_eq]
  refine forT_ofL (fun k ρ => ∃ (j : Nat) (s t u v : Slot), Tk xs j (ts.drop k) ∧ ρ = [.frz (.lst (dToks ts)), .own (.lst (dInts (xs.take j))), s, t, u, v]) ⟨0, _, _, _, _, hts, rfl⟩ ?_ ?_
  · rintro k ρ' d ⟨j, s, t, u, v, hz, rfl⟩ hd
    obtain ⟨⟨a, b, c⟩, hk, rfl⟩ := dToks_get hd
    refine ⟨_, rfl, rfl, ?_⟩
    rw [drop_of_get hk] at hz
    refine st_cons ?_
    simp only [zq_wpS_0, zq_wpS_1, zq_wpS_2, zq_wpS_3, zq_wpS_4, zq_wpS_5, zq_wpS_6, zq_wpS_7, zq_wpS_8, zq_wpS_9, zq_wpS_10, zq_wpS_11, zq_wpS_12, zq_wpS_13, zq_wpS_14, zq_wpS_15, zq_wpE_0, zq_wpE_1, zq_wpE_2, zq_wpE_3, zq_wpE_4, zq_wpE_5, zq_wpE_6, zq_wpE_7, zq_wpE_8, zq_wpE_9, zq_wpE_10, zq_wpE_11, zq_wpE_12, zq_wpE_13, zq_wpE_14, zq_wpE_15, zq_wpE_16, zq_wpE_17, zq_wpE_18, zq_wpE_19, zq_wpE_20, zq_wpE_21, zq_wpEs_0, zq_wpEs_1, zq_wpT_0, zq_wpT_1, zq_wpT_2, zq_wpT_3, zq_wpT_4, zq_wpT_5, zq_wpAll_0, zq_wpAll_1, zq_wpAnyT_0, zq_wpAnyT_1, zq_wpI_0, zq_wpI_1, zq_wpI_2, zq_wpI_3, bw_add, bw_sub, bw_mul, bw_div, bw_mod, bw_pow, bw_cat, bw_rep, cw_eq, cw_ne, cw_lt, cw_le, cw_gt, cw_ge, cw_is, cw_isn, cw_in, sw_dct, eqW_int, eqW_bool, iw_bool, iw_none, iw_typ, iw_tup, iw_lst, sw_lst, sw_tup, bc_len, bc_lent, bc_abs, bc_min, bc_list, bc_ty_i, bc_ty_l, bc_isb, rw_1, rw_2, rw_3, setAll, bindC, List.getElem?_cons_zero, List.getElem?_cons_succ, List.set_cons_zero, List.set_cons_succ, List.map_cons, List.map_nil, List.cons_append, List.nil_append, List.replicate_succ, List.replicate_zero, List.length_cons, List.length_nil, Nat.reduceAdd, Nat.zero_add, ne_eq]
    cases hz with
    | lit hj ht =>
      rw [if_pos (by decide)]
      refine st_cons ?_
      simp only [zq_wpS_0, zq_wpS_1, zq_wpS_2, zq_wpS_3, zq_wpS_4, zq_wpS_5, zq_wpS_6, zq_wpS_7, zq_wpS_8, zq_wpS_9, zq_wpS_10, zq_wpS_11, zq_wpS_12, zq_wpS_13, zq_wpS_14, zq_wpS_15, zq_wpE_0, zq_wpE_1, zq_wpE_2, zq_wpE_3, zq_wpE_4, zq_wpE_5, zq_wpE_6, zq_wpE_7, zq_wpE_8, zq_wpE_9, zq_wpE_10, zq_wpE_11, zq_wpE_12, zq_wpE_13, zq_wpE_14, zq_wpE_15, zq_wpE_16, zq_wpE_17, zq_wpE_18, zq_wpE_19, zq_wpE_20, zq_wpE_21, zq_wpEs_0, zq_wpEs_1, zq_wpT_0, zq_wpT_1, zq_wpT_2, zq_wpT_3, zq_wpT_4, zq_wpT_5, zq_wpAll_0, zq_wpAll_1, zq_wpAnyT_0, zq_wpAnyT_1, zq_wpI_0, zq_wpI_1, zq_wpI_2, zq_wpI_3, bw_add, bw_sub, bw_mul, bw_div, bw_mod, bw_pow, bw_cat, bw_rep, cw_eq, cw_ne, cw_lt, cw_le, cw_gt, cw_ge, cw_is, cw_isn, cw_in, sw_dct, eqW_int, eqW_bool, iw_bool, iw_none, iw_typ, iw_tup, iw_lst, sw_lst, sw_tup, bc_len, bc_lent, bc_abs, bc_min, bc_list, bc_ty_i, bc_ty_l, bc_isb, rw_1, rw_2, rw_3, setAll, bindC, List.getElem?_cons_zero, List.getElem?_cons_succ, List.set_cons_zero, List.set_cons_succ, List.map_cons, List.map_nil, List.cons_append, List.nil_append, List.replicate_succ, List.replicate_zero, List.length_cons, List.length_nil, Nat.reduceAdd, Nat.zero_add, ne_eq]
      refine ⟨by rw [dInts_length, List.length_take]; (first | lia | omega), ?_⟩
      rw [dInts_snoc, take_snoc hj]
      exact kn_nil (kn_nil (lp_next ⟨_, _, _, _, _, ht, rfl⟩))
    | @cpy _ _ d l h1 h2 h3 h4 h5 ht =>
      rw [if_neg (by decide)]
      refine st_cons ?_
      simp only [zq_wpS_0, zq_wpS_1, zq_wpS_2, zq_wpS_3, zq_wpS_4, zq_wpS_5, zq_wpS_6, zq_wpS_7, zq_wpS_8, zq_wpS_9, zq_wpS_10, zq_wpS_11, zq_wpS_12, zq_wpS_13, zq_wpS_14, zq_wpS_15, zq_wpE_0, zq_wpE_1, zq_wpE_2, zq_wpE_3, zq_wpE_4, zq_wpE_5, zq_wpE_6, zq_wpE_7, zq_wpE_8, zq_wpE_9, zq_wpE_10, zq_wpE_11, zq_wpE_12, zq_wpE_13, zq_wpE_14, zq_wpE_15, zq_wpE_16, zq_wpE_17, zq_wpE_18, zq_wpE_19, zq_wpE_20, zq_wpE_21, zq_wpEs_0, zq_wpEs_1, zq_wpT_0, zq_wpT_1, zq_wpT_2, zq_wpT_3, zq_wpT_4, zq_wpT_5, zq_wpAll_0, zq_wpAll_1, zq_wpAnyT_0, zq_wpAnyT_1, zq_wpI_0, zq_wpI_1, zq_wpI_2, zq_wpI_3, bw_add, bw_sub, bw_mul, bw_div, bw_mod, bw_pow, bw_cat, bw_rep, cw_eq, cw_ne, cw_lt, cw_le, cw_gt, cw_ge, cw_is, cw_isn, cw_in, sw_dct, eqW_int, eqW_bool, iw_bool, iw_none, iw_typ, iw_tup, iw_lst, sw_lst, sw_tup, bc_len, bc_lent, bc_abs, bc_min, bc_list, bc_ty_i, bc_ty_l, bc_isb, rw_1, rw_2, rw_3, setAll, bindC, List.getElem?_cons_zero, List.getElem?_cons_succ, List.set_cons_zero, List.set_cons_succ, List.map_cons, List.map_nil, List.cons_append, List.nil_append, List.replicate_succ, List.replicate_zero, List.length_cons, List.length_nil, Nat.reduceAdd, Nat.zero_add, ne_eq]
      refine ⟨⟨by (first | lia | omega), by (first | lia | omega)⟩, ?_⟩
      refine for1_ofL (fun m ρ => ∃ (v : Slot), ρ = [.frz (.lst (dToks ts)), .own (.lst (dInts (xs.take (j + m)))), .frz (.int 1), .frz (.int d), .frz (.int l), v]) ⟨_, rfl⟩ ?_ ?_
      · rintro m ρ' e ⟨v, rfl⟩ hd
        obtain ⟨hm, rfl⟩ := rgL_get_some hd
        refine st_cons ?_
        simp only [zq_wpS_0, zq_wpS_1, zq_wpS_2, zq_wpS_3, zq_wpS_4, zq_wpS_5, zq_wpS_6, zq_wpS_7, zq_wpS_8, zq_wpS_9, zq_wpS_10, zq_wpS_11, zq_wpS_12, zq_wpS_13, zq_wpS_14, zq_wpS_15, zq_wpE_0, zq_wpE_1, zq_wpE_2, zq_wpE_3, zq_wpE_4, zq_wpE_5, zq_wpE_6, zq_wpE_7, zq_wpE_8, zq_wpE_9, zq_wpE_10, zq_wpE_11, zq_wpE_12, zq_wpE_13, zq_wpE_14, zq_wpE_15, zq_wpE_16, zq_wpE_17, zq_wpE_18, zq_wpE_19, zq_wpE_20, zq_wpE_21, zq_wpEs_0, zq_wpEs_1, zq_wpT_0, zq_wpT_1, zq_wpT_2, zq_wpT_3, zq_wpT_4, zq_wpT_5, zq_wpAll_0, zq_wpAll_1, zq_wpAnyT_0, zq_wpAnyT_1, zq_wpI_0, zq_wpI_1, zq_wpI_2, zq_wpI_3, bw_add, bw_sub, bw_mul, bw_div, bw_mod, bw_pow, bw_cat, bw_rep, cw_eq, cw_ne, cw_lt, cw_le, cw_gt, cw_ge, cw_is, cw_isn, cw_in, sw_dct, eqW_int, eqW_bool, iw_bool, iw_none, iw_typ, iw_tup, iw_lst, sw_lst, sw_tup, bc_len, bc_lent, bc_abs, bc_min, bc_list, bc_ty_i, bc_ty_l, bc_isb, rw_1, rw_2, rw_3, setAll, bindC, List.getElem?_cons_zero, List.getElem?_cons_succ, List.set_cons_zero, List.set_cons_succ, List.map_cons, List.map_nil, List.cons_append, List.nil_append, List.replicate_succ, List.replicate_zero, List.length_cons, List.length_nil, Nat.reduceAdd, Nat.zero_add, ne_eq, dInts_length]
        have el : (xs.take (j + m)).length = j + m := by rw [List.length_take]; (first | lia | omega)
        refine ⟨by (first | lia | omega), ?_⟩
        refine item_ints (by (first | lia | omega)) (by (first | lia | omega)) (by (first | lia | omega)) ?_
        refine ⟨by (first | lia | omega), ?_⟩
        rw [el, show (((j + m : Nat) : Int) - d).toNat = j - d + m by (first | lia | omega)]
        have e2 : (xs.take (j + m)).getD (j - d + m) 0 = xs.getD (j + m) 0 := by
          rw [← h5 m (by (first | lia | omega)), List.getD_eq_getElem?_getD, List.getD_eq_getElem?_getD, List.getElem?_take, if_pos (by (first | lia | omega))]
        rw [e2, dInts_snoc, take_snoc (by (first | lia | omega))]
        exact kn_nil (lp_next ⟨_, rfl⟩)
      · rintro ρ' ⟨v, rfl⟩
        simp only [List.length_map, rgL_length, show (l : Int).toNat = l by (first | lia | omega)]
        exact kn_nil (kn_nil (lp_next ⟨_, _, _, _, _, ht, rfl⟩))
  · rintro ρ' ⟨j, s, t, u, v, hz, rfl⟩
    rw [dToks_length, List.drop_length] at hz
    cases hz
    rw [List.take_length]
    refine kn_cons ?_
    simp only [zq_wpS_0, zq_wpS_1, zq_wpS_2, zq_wpS_3, zq_wpS_4, zq_wpS_5, zq_wpS_6, zq_wpS_7, zq_wpS_8, zq_wpS_9, zq_wpS_10, zq_wpS_11, zq_wpS_12, zq_wpS_13, zq_wpS_14, zq_wpS_15, zq_wpE_0, zq_wpE_1, zq_wpE_2, zq_wpE_3, zq_wpE_4, zq_wpE_5, zq_wpE_6, zq_wpE_7, zq_wpE_8, zq_wpE_9, zq_wpE_10, zq_wpE_11, zq_wpE_12, zq_wpE_13, zq_wpE_14, zq_wpE_15, zq_wpE_16, zq_wpE_17, zq_wpE_18, zq_wpE_19, zq_wpE_20, zq_wpE_21, zq_wpEs_0, zq_wpEs_1, zq_wpT_0, zq_wpT_1, zq_wpT_2, zq_wpT_3, zq_wpT_4, zq_wpT_5, zq_wpAll_0, zq_wpAll_1, zq_wpAnyT_0, zq_wpAnyT_1, zq_wpI_0, zq_wpI_1, zq_wpI_2, zq_wpI_3, bw_add, bw_sub, bw_mul, bw_div, bw_mod, bw_pow, bw_cat, bw_rep, cw_eq, cw_ne, cw_lt, cw_le, cw_gt, cw_ge, cw_is, cw_isn, cw_in, sw_dct, eqW_int, eqW_bool, iw_bool, iw_none, iw_typ, iw_tup, iw_lst, sw_lst, sw_tup, bc_len, bc_lent, bc_abs, bc_min, bc_list, bc_ty_i, bc_ty_l, bc_isb, rw_1, rw_2, rw_3, setAll, bindC, List.getElem?_cons_zero, List.getElem?_cons_succ, List.set_cons_zero, List.set_cons_succ, List.map_cons, List.map_nil, List.cons_append, List.nil_append, List.replicate_succ, List.replicate_zero, List.length_cons, List.length_nil, Nat.reduceAdd, Nat.zero_add, ne_eq]
    refine kn_cons ?_
    simp only [zq_wpS_0, zq_wpS_1, zq_wpS_2, zq_wpS_3, zq_wpS_4, zq_wpS_5, zq_wpS_6, zq_wpS_7, zq_wpS_8, zq_wpS_9, zq_wpS_10, zq_wpS_11, zq_wpS_12, zq_wpS_13, zq_wpS_14, zq_wpS_15, zq_wpE_0, zq_wpE_1, zq_wpE_2, zq_wpE_3, zq_wpE_4, zq_wpE_5, zq_wpE_6, zq_wpE_7, zq_wpE_8, zq_wpE_9, zq_wpE_10, zq_wpE_11, zq_wpE_12, zq_wpE_13, zq_wpE_14, zq_wpE_15, zq_wpE_16, zq_wpE_17, zq_wpE_18, zq_wpE_19, zq_wpE_20, zq_wpE_21, zq_wpEs_0, zq_wpEs_1, zq_wpT_0, zq_wpT_1, zq_wpT_2, zq_wpT_3, zq_wpT_4, zq_wpT_5, zq_wpAll_0, zq_wpAll_1, zq_wpAnyT_0, zq_wpAnyT_1, zq_wpI_0, zq_wpI_1, zq_wpI_2, zq_wpI_3, bw_add, bw_sub, bw_mul, bw_div, bw_mod, bw_pow, bw_cat, bw_rep, cw_eq, cw_ne, cw_lt, cw_le, cw_gt, cw_ge, cw_is, cw_isn, cw_in, sw_dct, eqW_int, eqW_bool, iw_bool, iw_none, iw_typ, iw_tup, iw_lst, sw_lst, sw_tup, bc_len, bc_lent, bc_abs, bc_min, bc_list, bc_ty_i, bc_ty_l, bc_isb, rw_1, rw_2, rw_3, setAll, bindC, List.getElem?_cons_zero, List.getElem?_cons_succ, List.set_cons_zero, List.set_cons_succ, List.map_cons, List.map_nil, List.cons_append, List.nil_append, List.replicate_succ, List.replicate_zero, List.length_cons, List.length_nil, Nat.reduceAdd, Nat.zero_add, ne_eq]
    exact kn_ret rfl

end Mine

namespace Mine
open PySem PySem.Calls PyProof.Rows

-- law_lz_round_trip: 0 data, 1 window, 2 limit, 3 tokens
noncomputable def f_law_lz_round_trip : FnRec := ⟨"law_lz_round_trip", ["data", "window", "limit"], ["tokens"],
  (.cons (.assign 3 (.call "lz_tokens" (.cons (.var 0) (.cons (.var 1) (.cons (.var 2) .nil))))) (.cons (.ret (.and2 (.call "tokens_ok" (.cons (.var 3) .nil)) (.cmp .Eq (.call "lz_expand" (.cons (.var 3) .nil)) (.var 0)))) .nil))⟩

-- _law_cell: 0 script, 1 i
noncomputable def f_law_cell : FnRec := ⟨"_law_cell", ["script", "i"], [],
  (.cons (.ite (.cmp .Lt (.var 1) (.bcall .len (.cons (.var 0) .nil))) (.cons (.ret (.sub (.var 0) (.var 1))) .nil) .nil) (.cons (.ret (.int 0)) .nil))⟩

-- law: 0 script, 1 c, 2 odd, 3 letters, 4 base, 5 tail, 6 data, 7 w, 8 window, 9 m, 10 limit, 11 lawful, 12 b, 13 kept, 14 got
noncomputable def f_law : FnRec := ⟨"law", ["script"], ["c", "odd", "letters", "base", "tail", "data", "w", "window", "m", "limit", "lawful", "b", "kept", "got"],
  (.cons (.assign 1 (.call "_law_cell" (.cons (.var 0) (.cons (.int 3) .nil)))) (.cons (.assign 2 (.sub (.list (.cons (.bin .Mod (.var 1) (.int 256)) (.cons (.var 1) (.cons (.bin .Add (.int 256) (.bcall .abs (.cons (.var 1) .nil))) (.cons (.bin .Sub (.neg (.int 1)) (.bcall .abs (.cons (.var 1) .nil))) .nil))))) (.bin .Mod (.call "_law_cell" (.cons (.var 0) (.cons (.int 2) .nil))) (.int 4)))) (.cons (.assign 3 (.list (.cons (.var 2) (.cons (.int 0) (.cons (.int 255) (.cons (.int 7) .nil)))))) (.cons (.assign 4 (.comp (.sub (.var 3) (.bin .Mod (.call "_law_cell" (.cons (.var 0) (.cons (.bin .Add (.int 4) (.cvar 0)) .nil))) (.int 4))) ["k"] (.range (.cons (.bin .Mod (.call "_law_cell" (.cons (.var 0) (.cons (.int 0) .nil))) (.int 4)) .nil)) .tt)) (.cons (.assign 5 (.comp (.sub (.var 3) (.bin .Mod (.call "_law_cell" (.cons (.var 0) (.cons (.bin .Add (.int 10) (.cvar 0)) .nil))) (.int 4))) ["k"] (.range (.cons (.bin .Mod (.call "_law_cell" (.cons (.var 0) (.cons (.int 7) .nil))) (.int 3)) .nil)) .tt)) (.cons (.assign 6 (.bin .Add (.bin .Mult (.var 4) (.bin .Add (.int 1) (.bin .Mod (.call "_law_cell" (.cons (.var 0) (.cons (.int 1) .nil))) (.int 4)))) (.var 5))) (.cons (.assign 7 (.call "_law_cell" (.cons (.var 0) (.cons (.int 8) .nil)))) (.cons (.assign 8 (.bin .Add (.int 1) (.bcall .abs (.cons (.var 7) .nil)))) (.cons (.ite (.cmp .Eq (.bin .Mod (.var 7) (.int 2)) (.int 0)) (.cons (.assign 8 (.bin .Add (.int 1) (.bin .Mod (.bin .FloorDiv (.var 7) (.int 2)) (.int 8)))) .nil) .nil) (.cons (.assign 9 (.call "_law_cell" (.cons (.var 0) (.cons (.int 9) .nil)))) (.cons (.assign 10 (.bin .Add (.int 4) (.bcall .abs (.cons (.var 9) .nil)))) (.cons (.ite (.cmp .Eq (.bin .Mod (.var 9) (.int 2)) (.int 0)) (.cons (.assign 10 (.bin .Add (.int 4) (.bin .Mod (.bin .FloorDiv (.var 9) (.int 2)) (.int 8)))) .nil) .nil) (.cons (.assign 11 (.bool true)) (.cons (.for1 12 (.var 6) (.cons (.ite (.or (.cons (.cmp .Lt (.var 12) (.int 0)) (.cons (.cmp .Gt (.var 12) (.int 255)) .nil))) (.cons (.assign 11 (.bool false)) .nil) .nil) .nil)) (.cons (.assign 13 (.bin .Add (.var 6) (.list .nil))) (.cons (.assign 14 (.call "law_lz_round_trip" (.cons (.var 6) (.cons (.var 8) (.cons (.var 10) .nil))))) (.cons (.ite (.and (.cons (.val (.var 11)) (.cons (.cmp .IsNot (.var 14) (.bool true)) .nil))) (.cons (.ret (.bool false)) .nil) .nil) (.cons (.ite (.and (.cons (.not (.val (.var 11))) (.cons (.cmp .IsNot (.var 14) (.bool false)) .nil))) (.cons (.ret (.bool false)) .nil) .nil) (.cons (.ite (.cmp .NotEq (.var 6) (.var 13)) (.cons (.ret (.bool false)) .nil) .nil) (.cons (.ret (.bool true)) .nil))))))))))))))))))))⟩

noncomputable def fns : List FnRec := [f_match_length, f_longest_match, f_lz_tokens, f_tokens_ok, f_lz_expand, f_law_lz_round_trip, f_law_cell, f_law]
-- tabs: []


theorem cell_ok {g : GC} (h : GP g fns) (n : Nat) {ns : List Int} (hl : ns.length ≤ 63) {k : Int} (h0 : 0 ≤ k) (h1 : k < 1000) : FnOk g (n + 1) "_law_cell" [.lst (dInts ns), .int k] (.ok (.int (cell ns k.toNat (0)))) := by
  refine h.fn (r := f_law_cell) (by simp [fns]) rfl ?_
  unfold f_law_cell
  refine st_cons ?_
  simp only [zq_wpS_0, zq_wpS_1, zq_wpS_2, zq_wpS_3, zq_wpS_4, zq_wpS_5, zq_wpS_6, zq_wpS_7, zq_wpS_8, zq_wpS_9, zq_wpS_10, zq_wpS_11, zq_wpS_12, zq_wpS_13, zq_wpS_14, zq_wpS_15, zq_wpE_0, zq_wpE_1, zq_wpE_2, zq_wpE_3, zq_wpE_4, zq_wpE_5, zq_wpE_6, zq_wpE_7, zq_wpE_8, zq_wpE_9, zq_wpE_10, zq_wpE_11, zq_wpE_12, zq_wpE_13, zq_wpE_14, zq_wpE_15, zq_wpE_16, zq_wpE_17, zq_wpE_18, zq_wpE_19, zq_wpE_20, zq_wpE_21, zq_wpEs_0, zq_wpEs_1, zq_wpT_0, zq_wpT_1, zq_wpT_2, zq_wpT_3, zq_wpT_4, zq_wpT_5, zq_wpAll_0, zq_wpAll_1, zq_wpAnyT_0, zq_wpAnyT_1, zq_wpI_0, zq_wpI_1, zq_wpI_2, zq_wpI_3, bw_add, bw_sub, bw_mul, bw_div, bw_mod, bw_pow, bw_cat, bw_rep, cw_eq, cw_ne, cw_lt, cw_le, cw_gt, cw_ge, cw_is, cw_isn, cw_in, sw_dct, eqW_int, eqW_bool, iw_bool, iw_none, iw_typ, iw_tup, iw_lst, sw_lst, sw_tup, bc_len, bc_lent, bc_abs, bc_min, bc_list, bc_ty_i, bc_ty_l, bc_isb, rw_1, rw_2, rw_3, setAll, bindC, List.getElem?_cons_zero, List.getElem?_cons_succ, List.set_cons_zero, List.set_cons_succ, List.map_cons, List.map_nil, List.cons_append, List.nil_append, List.replicate_succ, List.replicate_zero, List.length_cons, List.length_nil, Nat.reduceAdd, Nat.zero_add, ne_eq, dInts_length]
  refine ⟨by (first | lia | omega), ?_⟩
  split
  · rename_i hk
    simp only [decide_eq_true_eq] at hk
    refine st_cons ?_
    simp only [zq_wpS_0, zq_wpS_1, zq_wpS_2, zq_wpS_3, zq_wpS_4, zq_wpS_5, zq_wpS_6, zq_wpS_7, zq_wpS_8, zq_wpS_9, zq_wpS_10, zq_wpS_11, zq_wpS_12, zq_wpS_13, zq_wpS_14, zq_wpS_15, zq_wpE_0, zq_wpE_1, zq_wpE_2, zq_wpE_3, zq_wpE_4, zq_wpE_5, zq_wpE_6, zq_wpE_7, zq_wpE_8, zq_wpE_9, zq_wpE_10, zq_wpE_11, zq_wpE_12, zq_wpE_13, zq_wpE_14, zq_wpE_15, zq_wpE_16, zq_wpE_17, zq_wpE_18, zq_wpE_19, zq_wpE_20, zq_wpE_21, zq_wpEs_0, zq_wpEs_1, zq_wpT_0, zq_wpT_1, zq_wpT_2, zq_wpT_3, zq_wpT_4, zq_wpT_5, zq_wpAll_0, zq_wpAll_1, zq_wpAnyT_0, zq_wpAnyT_1, zq_wpI_0, zq_wpI_1, zq_wpI_2, zq_wpI_3, bw_add, bw_sub, bw_mul, bw_div, bw_mod, bw_pow, bw_cat, bw_rep, cw_eq, cw_ne, cw_lt, cw_le, cw_gt, cw_ge, cw_is, cw_isn, cw_in, sw_dct, eqW_int, eqW_bool, iw_bool, iw_none, iw_typ, iw_tup, iw_lst, sw_lst, sw_tup, bc_len, bc_lent, bc_abs, bc_min, bc_list, bc_ty_i, bc_ty_l, bc_isb, rw_1, rw_2, rw_3, setAll, bindC, List.getElem?_cons_zero, List.getElem?_cons_succ, List.set_cons_zero, List.set_cons_succ, List.map_cons, List.map_nil, List.cons_append, List.nil_append, List.replicate_succ, List.replicate_zero, List.length_cons, List.length_nil, Nat.reduceAdd, Nat.zero_add, ne_eq]
    refine item_ints (by (first | lia | omega)) (by (first | lia | omega)) (by (first | lia | omega)) ?_
    refine kn_ret ?_
    refine kn_ret ?_
    simp only [cell, List.getD_eq_getElem?_getD]
    all_goals rw [List.getElem?_eq_getElem (by (first | lia | omega))]
    all_goals rfl
  · rename_i hk
    simp only [decide_eq_true_eq] at hk
    refine st_nil ?_
    refine kn_cons ?_
    simp only [zq_wpS_0, zq_wpS_1, zq_wpS_2, zq_wpS_3, zq_wpS_4, zq_wpS_5, zq_wpS_6, zq_wpS_7, zq_wpS_8, zq_wpS_9, zq_wpS_10, zq_wpS_11, zq_wpS_12, zq_wpS_13, zq_wpS_14, zq_wpS_15, zq_wpE_0, zq_wpE_1, zq_wpE_2, zq_wpE_3, zq_wpE_4, zq_wpE_5, zq_wpE_6, zq_wpE_7, zq_wpE_8, zq_wpE_9, zq_wpE_10, zq_wpE_11, zq_wpE_12, zq_wpE_13, zq_wpE_14, zq_wpE_15, zq_wpE_16, zq_wpE_17, zq_wpE_18, zq_wpE_19, zq_wpE_20, zq_wpE_21, zq_wpEs_0, zq_wpEs_1, zq_wpT_0, zq_wpT_1, zq_wpT_2, zq_wpT_3, zq_wpT_4, zq_wpT_5, zq_wpAll_0, zq_wpAll_1, zq_wpAnyT_0, zq_wpAnyT_1, zq_wpI_0, zq_wpI_1, zq_wpI_2, zq_wpI_3, bw_add, bw_sub, bw_mul, bw_div, bw_mod, bw_pow, bw_cat, bw_rep, cw_eq, cw_ne, cw_lt, cw_le, cw_gt, cw_ge, cw_is, cw_isn, cw_in, sw_dct, eqW_int, eqW_bool, iw_bool, iw_none, iw_typ, iw_tup, iw_lst, sw_lst, sw_tup, bc_len, bc_lent, bc_abs, bc_min, bc_list, bc_ty_i, bc_ty_l, bc_isb, rw_1, rw_2, rw_3, setAll, bindC, List.getElem?_cons_zero, List.getElem?_cons_succ, List.set_cons_zero, List.set_cons_succ, List.map_cons, List.map_nil, List.cons_append, List.nil_append, List.replicate_succ, List.replicate_zero, List.length_cons, List.length_nil, Nat.reduceAdd, Nat.zero_add, ne_eq]
    refine kn_ret ?_
    simp only [cell, List.getD_eq_getElem?_getD]
    rw [List.getElem?_eq_none (by (first | lia | omega))]; rfl

theorem cell_ex {g : GC} (h : GP g fns) (n : Nat) {ns : List Int} (hl : ns.length ≤ 63) (k : Int) (h0 : 0 ≤ k) (h1 : k < 1000) : ∃ c, FnOk g (n + 1) "_law_cell" [.lst (dInts ns), .int k] (.ok (.int c)) := ⟨_, cell_ok h n hl h0 h1⟩


theorem rep_ints (xs : List Int) : ∀ n, (List.replicate n (dInts xs)).flatten = dInts (List.replicate n xs).flatten
  | 0 => rfl
  | n + 1 => by rw [List.replicate_succ, List.flatten_cons, rep_ints xs n, List.replicate_succ, List.flatten_cons, dInts_append]
theorem rep_length {α : Type} (xs : List α) : ∀ n, (List.replicate n xs).flatten.length = n * xs.length
  | 0 => by simp
  | n + 1 => by rw [List.replicate_succ, List.flatten_cons, List.length_append, rep_length xs n, Nat.succ_mul]; (first | lia | omega)

theorem trip_ok {g : GC} (h : GP g fns) (n : Nat) {xs : List Int} (hl : xs.length ≤ 255) {window limit : Int} (hw : 1 ≤ window) (h3 : 0 ≤ limit) :
    FnOk g (n + 1 + 1 + 1 + 1) "law_lz_round_trip" [.lst (dInts xs), .int window, .int limit] (.ok (.bool (okF 0 (lzF xs window limit xs.length 0)))) := by
  refine h.fn (r := f_law_lz_round_trip) (by simp [fns]) rfl ?_
  have htk := lzF_tk xs window limit xs.length 0 (by (first | lia | omega)) (by (first | lia | omega))
  unfold f_law_lz_round_trip
  refine st_cons ?_
  simp only [zq_wpS_0, zq_wpS_1, zq_wpS_2, zq_wpS_3, zq_wpS_4, zq_wpS_5, zq_wpS_6, zq_wpS_7, zq_wpS_8, zq_wpS_9, zq_wpS_10, zq_wpS_11, zq_wpS_12, zq_wpS_13, zq_wpS_14, zq_wpS_15, zq_wpE_0, zq_wpE_1, zq_wpE_2, zq_wpE_3, zq_wpE_4, zq_wpE_5, zq_wpE_6, zq_wpE_7, zq_wpE_8, zq_wpE_9, zq_wpE_10, zq_wpE_11, zq_wpE_12, zq_wpE_13, zq_wpE_14, zq_wpE_15, zq_wpE_16, zq_wpE_17, zq_wpE_18, zq_wpE_19, zq_wpE_20, zq_wpE_21, zq_wpEs_0, zq_wpEs_1, zq_wpT_0, zq_wpT_1, zq_wpT_2, zq_wpT_3, zq_wpT_4, zq_wpT_5, zq_wpAll_0, zq_wpAll_1, zq_wpAnyT_0, zq_wpAnyT_1, zq_wpI_0, zq_wpI_1, zq_wpI_2, zq_wpI_3, bw_add, bw_sub, bw_mul, bw_div, bw_mod, bw_pow, bw_cat, bw_rep, cw_eq, cw_ne, cw_lt, cw_le, cw_gt, cw_ge, cw_is, cw_isn, cw_in, sw_dct, eqW_int, eqW_bool, iw_bool, iw_none, iw_typ, iw_tup, iw_lst, sw_lst, sw_tup, bc_len, bc_lent, bc_abs, bc_min, bc_list, bc_ty_i, bc_ty_l, bc_isb, rw_1, rw_2, rw_3, setAll, bindC, List.getElem?_cons_zero, List.getElem?_cons_succ, List.set_cons_zero, List.set_cons_succ, List.map_cons, List.map_nil, List.cons_append, List.nil_append, List.replicate_succ, List.replicate_zero, List.length_cons, List.length_nil, Nat.reduceAdd, Nat.zero_add, ne_eq]
  refine call_ok (lz_tokens_ok h (by simp [fns]) (by simp [fns]) (by simp [fns]) n (by (first | lia | omega)) hw h3) ?_
  generalize lzF xs window limit xs.length 0 = ts at htk ⊢
  refine kn_cons ?_
  simp only [zq_wpS_0, zq_wpS_1, zq_wpS_2, zq_wpS_3, zq_wpS_4, zq_wpS_5, zq_wpS_6, zq_wpS_7, zq_wpS_8, zq_wpS_9, zq_wpS_10, zq_wpS_11, zq_wpS_12, zq_wpS_13, zq_wpS_14, zq_wpS_15, zq_wpE_0, zq_wpE_1, zq_wpE_2, zq_wpE_3, zq_wpE_4, zq_wpE_5, zq_wpE_6, zq_wpE_7, zq_wpE_8, zq_wpE_9, zq_wpE_10, zq_wpE_11, zq_wpE_12, zq_wpE_13, zq_wpE_14, zq_wpE_15, zq_wpE_16, zq_wpE_17, zq_wpE_18, zq_wpE_19, zq_wpE_20, zq_wpE_21, zq_wpEs_0, zq_wpEs_1, zq_wpT_0, zq_wpT_1, zq_wpT_2, zq_wpT_3, zq_wpT_4, zq_wpT_5, zq_wpAll_0, zq_wpAll_1, zq_wpAnyT_0, zq_wpAnyT_1, zq_wpI_0, zq_wpI_1, zq_wpI_2, zq_wpI_3, bw_add, bw_sub, bw_mul, bw_div, bw_mod, bw_pow, bw_cat, bw_rep, cw_eq, cw_ne, cw_lt, cw_le, cw_gt, cw_ge, cw_is, cw_isn, cw_in, sw_dct, eqW_int, eqW_bool, iw_bool, iw_none, iw_typ, iw_tup, iw_lst, sw_lst, sw_tup, bc_len, bc_lent, bc_abs, bc_min, bc_list, bc_ty_i, bc_ty_l, bc_isb, rw_1, rw_2, rw_3, setAll, bindC, List.getElem?_cons_zero, List.getElem?_cons_succ, List.set_cons_zero, List.set_cons_succ, List.map_cons, List.map_nil, List.cons_append, List.nil_append, List.replicate_succ, List.replicate_zero, List.length_cons, List.length_nil, Nat.reduceAdd, Nat.zero_add, ne_eq]
  refine call_ok (tokens_ok_ok h (by simp [fns]) (n + 1 + 1) ts) ?_
  cases hok : okF 0 ts with
  | false => exact kn_ret rfl
  | true =>
    simp only []
    refine call_ok (lz_expand_ok h (by simp [fns]) (by simp [fns]) (n + 1) (by (first | lia | omega)) htk hok) ?_
    refine eqW_ints ?_
    refine kn_ret ?_
    simp

theorem law_ok {g : GC} (h : GP g fns) (n : Nat) {ns : List Int} (hl : ns.length ≤ 63) : FnOk g (n + 1 + 1 + 1 + 1 + 1) "law" [.lst (dInts ns)] (.ok (.bool true)) := by
  refine h.fn (r := f_law) (by simp [fns]) rfl ?_
  have hcell := @cell_ex g h (n + 1 + 1 + 1) ns hl
  unfold f_law
  refine st_cons ?_
  simp only [zq_wpS_0, zq_wpS_1, zq_wpS_2, zq_wpS_3, zq_wpS_4, zq_wpS_5, zq_wpS_6, zq_wpS_7, zq_wpS_8, zq_wpS_9, zq_wpS_10, zq_wpS_11, zq_wpS_12, zq_wpS_13, zq_wpS_14, zq_wpS_15, zq_wpE_0, zq_wpE_1, zq_wpE_2, zq_wpE_3, zq_wpE_4, zq_wpE_5, zq_wpE_6, zq_wpE_7, zq_wpE_8, zq_wpE_9, zq_wpE_10, zq_wpE_11, zq_wpE_12, zq_wpE_13, zq_wpE_14, zq_wpE_15, zq_wpE_16, zq_wpE_17, zq_wpE_18, zq_wpE_19, zq_wpE_20, zq_wpE_21, zq_wpEs_0, zq_wpEs_1, zq_wpT_0, zq_wpT_1, zq_wpT_2, zq_wpT_3, zq_wpT_4, zq_wpT_5, zq_wpAll_0, zq_wpAll_1, zq_wpAnyT_0, zq_wpAnyT_1, zq_wpI_0, zq_wpI_1, zq_wpI_2, zq_wpI_3, bw_add, bw_sub, bw_mul, bw_div, bw_mod, bw_pow, bw_cat, bw_rep, cw_eq, cw_ne, cw_lt, cw_le, cw_gt, cw_ge, cw_is, cw_isn, cw_in, sw_dct, eqW_int, eqW_bool, iw_bool, iw_none, iw_typ, iw_tup, iw_lst, sw_lst, sw_tup, bc_len, bc_lent, bc_abs, bc_min, bc_list, bc_ty_i, bc_ty_l, bc_isb, rw_1, rw_2, rw_3, setAll, bindC, List.getElem?_cons_zero, List.getElem?_cons_succ, List.set_cons_zero, List.set_cons_succ, List.map_cons, List.map_nil, List.cons_append, List.nil_append, List.replicate_succ, List.replicate_zero, List.length_cons, List.length_nil, Nat.reduceAdd, Nat.zero_add, ne_eq]
  obtain ⟨c, e⟩ := hcell 3 (by (first | lia | omega)) (by (first | lia | omega))
  refine call_ok e ?_
  refine kn_cons ?_
  simp only [zq_wpS_0, zq_wpS_1, zq_wpS_2, zq_wpS_3, zq_wpS_4, zq_wpS_5, zq_wpS_6, zq_wpS_7, zq_wpS_8, zq_wpS_9, zq_wpS_10, zq_wpS_11, zq_wpS_12, zq_wpS_13, zq_wpS_14, zq_wpS_15, zq_wpE_0, zq_wpE_1, zq_wpE_2, zq_wpE_3, zq_wpE_4, zq_wpE_5, zq_wpE_6, zq_wpE_7, zq_wpE_8, zq_wpE_9, zq_wpE_10, zq_wpE_11, zq_wpE_12, zq_wpE_13, zq_wpE_14, zq_wpE_15, zq_wpE_16, zq_wpE_17, zq_wpE_18, zq_wpE_19, zq_wpE_20, zq_wpE_21, zq_wpEs_0, zq_wpEs_1, zq_wpT_0, zq_wpT_1, zq_wpT_2, zq_wpT_3, zq_wpT_4, zq_wpT_5, zq_wpAll_0, zq_wpAll_1, zq_wpAnyT_0, zq_wpAnyT_1, zq_wpI_0, zq_wpI_1, zq_wpI_2, zq_wpI_3, bw_add, bw_sub, bw_mul, bw_div, bw_mod, bw_pow, bw_cat, bw_rep, cw_eq, cw_ne, cw_lt, cw_le, cw_gt, cw_ge, cw_is, cw_isn, cw_in, sw_dct, eqW_int, eqW_bool, iw_bool, iw_none, iw_typ, iw_tup, iw_lst, sw_lst, sw_tup, bc_len, bc_lent, bc_abs, bc_min, bc_list, bc_ty_i, bc_ty_l, bc_isb, rw_1, rw_2, rw_3, setAll, bindC, List.getElem?_cons_zero, List.getElem?_cons_succ, List.set_cons_zero, List.set_cons_succ, List.map_cons, List.map_nil, List.cons_append, List.nil_append, List.replicate_succ, List.replicate_zero, List.length_cons, List.length_nil, Nat.reduceAdd, Nat.zero_add, ne_eq]
  refine ⟨by (first | lia | omega), by (first | lia | omega), ?_⟩
  obtain ⟨c2, e2⟩ := hcell 2 (by (first | lia | omega)) (by (first | lia | omega))
  refine call_ok e2 ?_
  simp only [zq_wpS_0, zq_wpS_1, zq_wpS_2, zq_wpS_3, zq_wpS_4, zq_wpS_5, zq_wpS_6, zq_wpS_7, zq_wpS_8, zq_wpS_9, zq_wpS_10, zq_wpS_11, zq_wpS_12, zq_wpS_13, zq_wpS_14, zq_wpS_15, zq_wpE_0, zq_wpE_1, zq_wpE_2, zq_wpE_3, zq_wpE_4, zq_wpE_5, zq_wpE_6, zq_wpE_7, zq_wpE_8, zq_wpE_9, zq_wpE_10, zq_wpE_11, zq_wpE_12, zq_wpE_13, zq_wpE_14, zq_wpE_15, zq_wpE_16, zq_wpE_17, zq_wpE_18, zq_wpE_19, zq_wpE_20, zq_wpE_21, zq_wpEs_0, zq_wpEs_1, zq_wpT_0, zq_wpT_1, zq_wpT_2, zq_wpT_3, zq_wpT_4, zq_wpT_5, zq_wpAll_0, zq_wpAll_1, zq_wpAnyT_0, zq_wpAnyT_1, zq_wpI_0, zq_wpI_1, zq_wpI_2, zq_wpI_3, bw_add, bw_sub, bw_mul, bw_div, bw_mod, bw_pow, bw_cat, bw_rep, cw_eq, cw_ne, cw_lt, cw_le, cw_gt, cw_ge, cw_is, cw_isn, cw_in, sw_dct, eqW_int, eqW_bool, iw_bool, iw_none, iw_typ, iw_tup, iw_lst, sw_lst, sw_tup, bc_len, bc_lent, bc_abs, bc_min, bc_list, bc_ty_i, bc_ty_l, bc_isb, rw_1, rw_2, rw_3, setAll, bindC, List.getElem?_cons_zero, List.getElem?_cons_succ, List.set_cons_zero, List.set_cons_succ, List.map_cons, List.map_nil, List.cons_append, List.nil_append, List.replicate_succ, List.replicate_zero, List.length_cons, List.length_nil, Nat.reduceAdd, Nat.zero_add, ne_eq]
  refine ⟨by (first | lia | omega), ?_⟩
  have h2 := fmod_bd c2 (b := 4) (by (first | lia | omega))
  refine item_ints (ns := [c.fmod 256, c, 256 + (if c < 0 then -c else c), -1 - (if c < 0 then -c else c)]) (by (first | lia | omega)) (by simp only [List.length_cons, List.length_nil]; (first | lia | omega)) (by simp) ?_
  generalize List.getD [c.fmod 256, c, 256 + (if c < 0 then -c else c), -1 - (if c < 0 then -c else c)] (c2.fmod 4).toNat 0 = odd
  refine kn_cons ?_
  simp only [zq_wpS_0, zq_wpS_1, zq_wpS_2, zq_wpS_3, zq_wpS_4, zq_wpS_5, zq_wpS_6, zq_wpS_7, zq_wpS_8, zq_wpS_9, zq_wpS_10, zq_wpS_11, zq_wpS_12, zq_wpS_13, zq_wpS_14, zq_wpS_15, zq_wpE_0, zq_wpE_1, zq_wpE_2, zq_wpE_3, zq_wpE_4, zq_wpE_5, zq_wpE_6, zq_wpE_7, zq_wpE_8, zq_wpE_9, zq_wpE_10, zq_wpE_11, zq_wpE_12, zq_wpE_13, zq_wpE_14, zq_wpE_15, zq_wpE_16, zq_wpE_17, zq_wpE_18, zq_wpE_19, zq_wpE_20, zq_wpE_21, zq_wpEs_0, zq_wpEs_1, zq_wpT_0, zq_wpT_1, zq_wpT_2, zq_wpT_3, zq_wpT_4, zq_wpT_5, zq_wpAll_0, zq_wpAll_1, zq_wpAnyT_0, zq_wpAnyT_1, zq_wpI_0, zq_wpI_1, zq_wpI_2, zq_wpI_3, bw_add, bw_sub, bw_mul, bw_div, bw_mod, bw_pow, bw_cat, bw_rep, cw_eq, cw_ne, cw_lt, cw_le, cw_gt, cw_ge, cw_is, cw_isn, cw_in, sw_dct, eqW_int, eqW_bool, iw_bool, iw_none, iw_typ, iw_tup, iw_lst, sw_lst, sw_tup, bc_len, bc_lent, bc_abs, bc_min, bc_list, bc_ty_i, bc_ty_l, bc_isb, rw_1, rw_2, rw_3, setAll, bindC, List.getElem?_cons_zero, List.getElem?_cons_succ, List.set_cons_zero, List.set_cons_succ, List.map_cons, List.map_nil, List.cons_append, List.nil_append, List.replicate_succ, List.replicate_zero, List.length_cons, List.length_nil, Nat.reduceAdd, Nat.zero_add, ne_eq]
  refine ⟨by (first | lia | omega), ?_⟩
  refine kn_cons ?_
  simp only [zq_wpS_0, zq_wpS_1, zq_wpS_2, zq_wpS_3, zq_wpS_4, zq_wpS_5, zq_wpS_6, zq_wpS_7, zq_wpS_8, zq_wpS_9, zq_wpS_10, zq_wpS_11, zq_wpS_12, zq_wpS_13, zq_wpS_14, zq_wpS_15, zq_wpE_0, zq_wpE_1, zq_wpE_2, zq_wpE_3, zq_wpE_4, zq_wpE_5, zq_wpE_6, zq_wpE_7, zq_wpE_8, zq_wpE_9, zq_wpE_10, zq_wpE_11, zq_wpE_12, zq_wpE_13, zq_wpE_14, zq_wpE_15, zq_wpE_16, zq_wpE_17, zq_wpE_18, zq_wpE_19, zq_wpE_20, zq_wpE_21, zq_wpEs_0, zq_wpEs_1, zq_wpT_0, zq_wpT_1, zq_wpT_2, zq_wpT_3, zq_wpT_4, zq_wpT_5, zq_wpAll_0, zq_wpAll_1, zq_wpAnyT_0, zq_wpAnyT_1, zq_wpI_0, zq_wpI_1, zq_wpI_2, zq_wpI_3, bw_add, bw_sub, bw_mul, bw_div, bw_mod, bw_pow, bw_cat, bw_rep, cw_eq, cw_ne, cw_lt, cw_le, cw_gt, cw_ge, cw_is, cw_isn, cw_in, sw_dct, eqW_int, eqW_bool, iw_bool, iw_none, iw_typ, iw_tup, iw_lst, sw_lst, sw_tup, bc_len, bc_lent, bc_abs, bc_min, bc_list, bc_ty_i, bc_ty_l, bc_isb, rw_1, rw_2, rw_3, setAll, bindC, List.getElem?_cons_zero, List.getElem?_cons_succ, List.set_cons_zero, List.set_cons_succ, List.map_cons, List.map_nil, List.cons_append, List.nil_append, List.replicate_succ, List.replicate_zero, List.length_cons, List.length_nil, Nat.reduceAdd, Nat.zero_add, ne_eq]
  obtain ⟨c0, e0⟩ := hcell 0 (by (first | lia | omega)) (by (first | lia | omega))
  refine call_ok e0 ?_
  simp only [zq_wpS_0, zq_wpS_1, zq_wpS_2, zq_wpS_3, zq_wpS_4, zq_wpS_5, zq_wpS_6, zq_wpS_7, zq_wpS_8, zq_wpS_9, zq_wpS_10, zq_wpS_11, zq_wpS_12, zq_wpS_13, zq_wpS_14, zq_wpS_15, zq_wpE_0, zq_wpE_1, zq_wpE_2, zq_wpE_3, zq_wpE_4, zq_wpE_5, zq_wpE_6, zq_wpE_7, zq_wpE_8, zq_wpE_9, zq_wpE_10, zq_wpE_11, zq_wpE_12, zq_wpE_13, zq_wpE_14, zq_wpE_15, zq_wpE_16, zq_wpE_17, zq_wpE_18, zq_wpE_19, zq_wpE_20, zq_wpE_21, zq_wpEs_0, zq_wpEs_1, zq_wpT_0, zq_wpT_1, zq_wpT_2, zq_wpT_3, zq_wpT_4, zq_wpT_5, zq_wpAll_0, zq_wpAll_1, zq_wpAnyT_0, zq_wpAnyT_1, zq_wpI_0, zq_wpI_1, zq_wpI_2, zq_wpI_3, bw_add, bw_sub, bw_mul, bw_div, bw_mod, bw_pow, bw_cat, bw_rep, cw_eq, cw_ne, cw_lt, cw_le, cw_gt, cw_ge, cw_is, cw_isn, cw_in, sw_dct, eqW_int, eqW_bool, iw_bool, iw_none, iw_typ, iw_tup, iw_lst, sw_lst, sw_tup, bc_len, bc_lent, bc_abs, bc_min, bc_list, bc_ty_i, bc_ty_l, bc_isb, rw_1, rw_2, rw_3, setAll, bindC, List.getElem?_cons_zero, List.getElem?_cons_succ, List.set_cons_zero, List.set_cons_succ, List.map_cons, List.map_nil, List.cons_append, List.nil_append, List.replicate_succ, List.replicate_zero, List.length_cons, List.length_nil, Nat.reduceAdd, Nat.zero_add, ne_eq]
  have hn := fmod_bd c0 (b := 4) (by (first | lia | omega))
  refine ⟨by (first | lia | omega), ⟨by (first | lia | omega), by (first | lia | omega)⟩, ?_⟩
  have hcomp : ∀ (i : Int) (m : Nat), 0 ≤ i → i < 50 → m < 50 → FnOk g (n + 1 + 1 + 1 + 1) "_law_cell" [.lst (dInts ns), .int (i + (0 + (m : Int) * 1))] (.ok (.int (cell ns (i + (0 + (m : Int) * 1)).toNat 0))) := fun i m a b c => cell_ok h (n + 1 + 1 + 1) hl (by (first | lia | omega)) (by (first | lia | omega))
  refine comp_ints_all (rangeL 0 1 (c0.fmod 4).toNat) (fun k => List.getD [odd, 0, 255, 7] ((cell ns (4 + k).toNat 0).fmod 4).toNat 0) rfl (by rw [rgL_length]; (first | lia | omega)) (fun _ => rfl) ?_ ?_
  · intro k hk
    obtain ⟨m, hm, rfl⟩ := rgL_mem hk
    simp only [zq_wpS_0, zq_wpS_1, zq_wpS_2, zq_wpS_3, zq_wpS_4, zq_wpS_5, zq_wpS_6, zq_wpS_7, zq_wpS_8, zq_wpS_9, zq_wpS_10, zq_wpS_11, zq_wpS_12, zq_wpS_13, zq_wpS_14, zq_wpS_15, zq_wpE_0, zq_wpE_1, zq_wpE_2, zq_wpE_3, zq_wpE_4, zq_wpE_5, zq_wpE_6, zq_wpE_7, zq_wpE_8, zq_wpE_9, zq_wpE_10, zq_wpE_11, zq_wpE_12, zq_wpE_13, zq_wpE_14, zq_wpE_15, zq_wpE_16, zq_wpE_17, zq_wpE_18, zq_wpE_19, zq_wpE_20, zq_wpE_21, zq_wpEs_0, zq_wpEs_1, zq_wpT_0, zq_wpT_1, zq_wpT_2, zq_wpT_3, zq_wpT_4, zq_wpT_5, zq_wpAll_0, zq_wpAll_1, zq_wpAnyT_0, zq_wpAnyT_1, zq_wpI_0, zq_wpI_1, zq_wpI_2, zq_wpI_3, bw_add, bw_sub, bw_mul, bw_div, bw_mod, bw_pow, bw_cat, bw_rep, cw_eq, cw_ne, cw_lt, cw_le, cw_gt, cw_ge, cw_is, cw_isn, cw_in, sw_dct, eqW_int, eqW_bool, iw_bool, iw_none, iw_typ, iw_tup, iw_lst, sw_lst, sw_tup, bc_len, bc_lent, bc_abs, bc_min, bc_list, bc_ty_i, bc_ty_l, bc_isb, rw_1, rw_2, rw_3, setAll, bindC, List.getElem?_cons_zero, List.getElem?_cons_succ, List.set_cons_zero, List.set_cons_succ, List.map_cons, List.map_nil, List.cons_append, List.nil_append, List.replicate_succ, List.replicate_zero, List.length_cons, List.length_nil, Nat.reduceAdd, Nat.zero_add, ne_eq]
    refine call_ok (hcomp 4 m (by (first | lia | omega)) (by (first | lia | omega)) (by (first | lia | omega))) ?_
    simp only [zq_wpS_0, zq_wpS_1, zq_wpS_2, zq_wpS_3, zq_wpS_4, zq_wpS_5, zq_wpS_6, zq_wpS_7, zq_wpS_8, zq_wpS_9, zq_wpS_10, zq_wpS_11, zq_wpS_12, zq_wpS_13, zq_wpS_14, zq_wpS_15, zq_wpE_0, zq_wpE_1, zq_wpE_2, zq_wpE_3, zq_wpE_4, zq_wpE_5, zq_wpE_6, zq_wpE_7, zq_wpE_8, zq_wpE_9, zq_wpE_10, zq_wpE_11, zq_wpE_12, zq_wpE_13, zq_wpE_14, zq_wpE_15, zq_wpE_16, zq_wpE_17, zq_wpE_18, zq_wpE_19, zq_wpE_20, zq_wpE_21, zq_wpEs_0, zq_wpEs_1, zq_wpT_0, zq_wpT_1, zq_wpT_2, zq_wpT_3, zq_wpT_4, zq_wpT_5, zq_wpAll_0, zq_wpAll_1, zq_wpAnyT_0, zq_wpAnyT_1, zq_wpI_0, zq_wpI_1, zq_wpI_2, zq_wpI_3, bw_add, bw_sub, bw_mul, bw_div, bw_mod, bw_pow, bw_cat, bw_rep, cw_eq, cw_ne, cw_lt, cw_le, cw_gt, cw_ge, cw_is, cw_isn, cw_in, sw_dct, eqW_int, eqW_bool, iw_bool, iw_none, iw_typ, iw_tup, iw_lst, sw_lst, sw_tup, bc_len, bc_lent, bc_abs, bc_min, bc_list, bc_ty_i, bc_ty_l, bc_isb, rw_1, rw_2, rw_3, setAll, bindC, List.getElem?_cons_zero, List.getElem?_cons_succ, List.set_cons_zero, List.set_cons_succ, List.map_cons, List.map_nil, List.cons_append, List.nil_append, List.replicate_succ, List.replicate_zero, List.length_cons, List.length_nil, Nat.reduceAdd, Nat.zero_add, ne_eq]
    have := fmod_bd (cell ns (4 + (0 + (m : Int) * 1)).toNat 0) (b := 4) (by (first | lia | omega))
    refine ⟨by (first | lia | omega), ?_⟩
    exact item_ints (ns := [odd, 0, 255, 7]) (by (first | lia | omega)) (by simp only [List.length_cons, List.length_nil]; (first | lia | omega)) (by simp) rfl
  have hbl : (List.map (fun k => List.getD [odd, 0, 255, 7] ((cell ns (4 + k).toNat 0).fmod 4).toNat 0) (rangeL 0 1 (c0.fmod 4).toNat)).length ≤ 3 := by
    rw [List.length_map, rgL_length]; (first | lia | omega)
  generalize List.map (fun k => List.getD [odd, 0, 255, 7] ((cell ns (4 + k).toNat 0).fmod 4).toNat 0) (rangeL 0 1 (c0.fmod 4).toNat) = base at hbl ⊢
  refine kn_cons ?_
  simp only [zq_wpS_0, zq_wpS_1, zq_wpS_2, zq_wpS_3, zq_wpS_4, zq_wpS_5, zq_wpS_6, zq_wpS_7, zq_wpS_8, zq_wpS_9, zq_wpS_10, zq_wpS_11, zq_wpS_12, zq_wpS_13, zq_wpS_14, zq_wpS_15, zq_wpE_0, zq_wpE_1, zq_wpE_2, zq_wpE_3, zq_wpE_4, zq_wpE_5, zq_wpE_6, zq_wpE_7, zq_wpE_8, zq_wpE_9, zq_wpE_10, zq_wpE_11, zq_wpE_12, zq_wpE_13, zq_wpE_14, zq_wpE_15, zq_wpE_16, zq_wpE_17, zq_wpE_18, zq_wpE_19, zq_wpE_20, zq_wpE_21, zq_wpEs_0, zq_wpEs_1, zq_wpT_0, zq_wpT_1, zq_wpT_2, zq_wpT_3, zq_wpT_4, zq_wpT_5, zq_wpAll_0, zq_wpAll_1, zq_wpAnyT_0, zq_wpAnyT_1, zq_wpI_0, zq_wpI_1, zq_wpI_2, zq_wpI_3, bw_add, bw_sub, bw_mul, bw_div, bw_mod, bw_pow, bw_cat, bw_rep, cw_eq, cw_ne, cw_lt, cw_le, cw_gt, cw_ge, cw_is, cw_isn, cw_in, sw_dct, eqW_int, eqW_bool, iw_bool, iw_none, iw_typ, iw_tup, iw_lst, sw_lst, sw_tup, bc_len, bc_lent, bc_abs, bc_min, bc_list, bc_ty_i, bc_ty_l, bc_isb, rw_1, rw_2, rw_3, setAll, bindC, List.getElem?_cons_zero, List.getElem?_cons_succ, List.set_cons_zero, List.set_cons_succ, List.map_cons, List.map_nil, List.cons_append, List.nil_append, List.replicate_succ, List.replicate_zero, List.length_cons, List.length_nil, Nat.reduceAdd, Nat.zero_add, ne_eq]
  obtain ⟨c7, e7⟩ := hcell 7 (by (first | lia | omega)) (by (first | lia | omega))
  refine call_ok e7 ?_
  simp only [zq_wpS_0, zq_wpS_1, zq_wpS_2, zq_wpS_3, zq_wpS_4, zq_wpS_5, zq_wpS_6, zq_wpS_7, zq_wpS_8, zq_wpS_9, zq_wpS_10, zq_wpS_11, zq_wpS_12, zq_wpS_13, zq_wpS_14, zq_wpS_15, zq_wpE_0, zq_wpE_1, zq_wpE_2, zq_wpE_3, zq_wpE_4, zq_wpE_5, zq_wpE_6, zq_wpE_7, zq_wpE_8, zq_wpE_9, zq_wpE_10, zq_wpE_11, zq_wpE_12, zq_wpE_13, zq_wpE_14, zq_wpE_15, zq_wpE_16, zq_wpE_17, zq_wpE_18, zq_wpE_19, zq_wpE_20, zq_wpE_21, zq_wpEs_0, zq_wpEs_1, zq_wpT_0, zq_wpT_1, zq_wpT_2, zq_wpT_3, zq_wpT_4, zq_wpT_5, zq_wpAll_0, zq_wpAll_1, zq_wpAnyT_0, zq_wpAnyT_1, zq_wpI_0, zq_wpI_1, zq_wpI_2, zq_wpI_3, bw_add, bw_sub, bw_mul, bw_div, bw_mod, bw_pow, bw_cat, bw_rep, cw_eq, cw_ne, cw_lt, cw_le, cw_gt, cw_ge, cw_is, cw_isn, cw_in, sw_dct, eqW_int, eqW_bool, iw_bool, iw_none, iw_typ, iw_tup, iw_lst, sw_lst, sw_tup, bc_len, bc_lent, bc_abs, bc_min, bc_list, bc_ty_i, bc_ty_l, bc_isb, rw_1, rw_2, rw_3, setAll, bindC, List.getElem?_cons_zero, List.getElem?_cons_succ, List.set_cons_zero, List.set_cons_succ, List.map_cons, List.map_nil, List.cons_append, List.nil_append, List.replicate_succ, List.replicate_zero, List.length_cons, List.length_nil, Nat.reduceAdd, Nat.zero_add, ne_eq]
  have hn := fmod_bd c7 (b := 3) (by (first | lia | omega))
  refine ⟨by (first | lia | omega), ⟨by (first | lia | omega), by (first | lia | omega)⟩, ?_⟩
  refine comp_ints_all (rangeL 0 1 (c7.fmod 3).toNat) (fun k => List.getD [odd, 0, 255, 7] ((cell ns (10 + k).toNat 0).fmod 4).toNat 0) rfl (by rw [rgL_length]; (first | lia | omega)) (fun _ => rfl) ?_ ?_
  · intro k hk
    obtain ⟨m, hm, rfl⟩ := rgL_mem hk
    simp only [zq_wpS_0, zq_wpS_1, zq_wpS_2, zq_wpS_3, zq_wpS_4, zq_wpS_5, zq_wpS_6, zq_wpS_7, zq_wpS_8, zq_wpS_9, zq_wpS_10, zq_wpS_11, zq_wpS_12, zq_wpS_13, zq_wpS_14, zq_wpS_15, zq_wpE_0, zq_wpE_1, zq_wpE_2, zq_wpE_3, zq_wpE_4, zq_wpE_5, zq_wpE_6, zq_wpE_7, zq_wpE_8, zq_wpE_9, zq_wpE_10, zq_wpE_11, zq_wpE_12, zq_wpE_13, zq_wpE_14, zq_wpE_15, zq_wpE_16, zq_wpE_17, zq_wpE_18, zq_wpE_19, zq_wpE_20, zq_wpE_21, zq_wpEs_0, zq_wpEs_1, zq_wpT_0, zq_wpT_1, zq_wpT_2, zq_wpT_3, zq_wpT_4, zq_wpT_5, zq_wpAll_0, zq_wpAll_1, zq_wpAnyT_0, zq_wpAnyT_1, zq_wpI_0, zq_wpI_1, zq_wpI_2, zq_wpI_3, bw_add, bw_sub, bw_mul, bw_div, bw_mod, bw_pow, bw_cat, bw_rep, cw_eq, cw_ne, cw_lt, cw_le, cw_gt, cw_ge, cw_is, cw_isn, cw_in, sw_dct, eqW_int, eqW_bool, iw_bool, iw_none, iw_typ, iw_tup, iw_lst, sw_lst, sw_tup, bc_len, bc_lent, bc_abs, bc_min, bc_list, bc_ty_i, bc_ty_l, bc_isb, rw_1, rw_2, rw_3, setAll, bindC, List.getElem?_cons_zero, List.getElem?_cons_succ, List.set_cons_zero, List.set_cons_succ, List.map_cons, List.map_nil, List.cons_append, List.nil_append, List.replicate_succ, List.replicate_zero, List.length_cons, List.length_nil, Nat.reduceAdd, Nat.zero_add, ne_eq]
    refine call_ok (hcomp 10 m (by (first | lia | omega)) (by (first | lia | omega)) (by (first | lia | omega))) ?_
    simp only [zq_wpS_0, zq_wpS_1, zq_wpS_2, zq_wpS_3, zq_wpS_4, zq_wpS_5, zq_wpS_6, zq_wpS_7, zq_wpS_8, zq_wpS_9, zq_wpS_10, zq_wpS_11, zq_wpS_12, zq_wpS_13, zq_wpS_14, zq_wpS_15, zq_wpE_0, zq_wpE_1, zq_wpE_2, zq_wpE_3, zq_wpE_4, zq_wpE_5, zq_wpE_6, zq_wpE_7, zq_wpE_8, zq_wpE_9, zq_wpE_10, zq_wpE_11, zq_wpE_12, zq_wpE_13, zq_wpE_14, zq_wpE_15, zq_wpE_16, zq_wpE_17, zq_wpE_18, zq_wpE_19, zq_wpE_20, zq_wpE_21, zq_wpEs_0, zq_wpEs_1, zq_wpT_0, zq_wpT_1, zq_wpT_2, zq_wpT_3, zq_wpT_4, zq_wpT_5, zq_wpAll_0, zq_wpAll_1, zq_wpAnyT_0, zq_wpAnyT_1, zq_wpI_0, zq_wpI_1, zq_wpI_2, zq_wpI_3, bw_add, bw_sub, bw_mul, bw_div, bw_mod, bw_pow, bw_cat, bw_rep, cw_eq, cw_ne, cw_lt, cw_le, cw_gt, cw_ge, cw_is, cw_isn, cw_in, sw_dct, eqW_int, eqW_bool, iw_bool, iw_none, iw_typ, iw_tup, iw_lst, sw_lst, sw_tup, bc_len, bc_lent, bc_abs, bc_min, bc_list, bc_ty_i, bc_ty_l, bc_isb, rw_1, rw_2, rw_3, setAll, bindC, List.getElem?_cons_zero, List.getElem?_cons_succ, List.set_cons_zero, List.set_cons_succ, List.map_cons, List.map_nil, List.cons_append, List.nil_append, List.replicate_succ, List.replicate_zero, List.length_cons, List.length_nil, Nat.reduceAdd, Nat.zero_add, ne_eq]
    have := fmod_bd (cell ns (10 + (0 + (m : Int) * 1)).toNat 0) (b := 4) (by (first | lia | omega))
    refine ⟨by (first | lia | omega), ?_⟩
    exact item_ints (ns := [odd, 0, 255, 7]) (by (first | lia | omega)) (by simp only [List.length_cons, List.length_nil]; (first | lia | omega)) (by simp) rfl
  have htl : (List.map (fun k => List.getD [odd, 0, 255, 7] ((cell ns (10 + k).toNat 0).fmod 4).toNat 0) (rangeL 0 1 (c7.fmod 3).toNat)).length ≤ 3 := by
    rw [List.length_map, rgL_length]; (first | lia | omega)
  generalize List.map (fun k => List.getD [odd, 0, 255, 7] ((cell ns (10 + k).toNat 0).fmod 4).toNat 0) (rangeL 0 1 (c7.fmod 3).toNat) = tail at htl ⊢
  refine kn_cons ?_
  simp only [zq_wpS_0, zq_wpS_1, zq_wpS_2, zq_wpS_3, zq_wpS_4, zq_wpS_5, zq_wpS_6, zq_wpS_7, zq_wpS_8, zq_wpS_9, zq_wpS_10, zq_wpS_11, zq_wpS_12, zq_wpS_13, zq_wpS_14, zq_wpS_15, zq_wpE_0, zq_wpE_1, zq_wpE_2, zq_wpE_3, zq_wpE_4, zq_wpE_5, zq_wpE_6, zq_wpE_7, zq_wpE_8, zq_wpE_9, zq_wpE_10, zq_wpE_11, zq_wpE_12, zq_wpE_13, zq_wpE_14, zq_wpE_15, zq_wpE_16, zq_wpE_17, zq_wpE_18, zq_wpE_19, zq_wpE_20, zq_wpE_21, zq_wpEs_0, zq_wpEs_1, zq_wpT_0, zq_wpT_1, zq_wpT_2, zq_wpT_3, zq_wpT_4, zq_wpT_5, zq_wpAll_0, zq_wpAll_1, zq_wpAnyT_0, zq_wpAnyT_1, zq_wpI_0, zq_wpI_1, zq_wpI_2, zq_wpI_3, bw_add, bw_sub, bw_mul, bw_div, bw_mod, bw_pow, bw_cat, bw_rep, cw_eq, cw_ne, cw_lt, cw_le, cw_gt, cw_ge, cw_is, cw_isn, cw_in, sw_dct, eqW_int, eqW_bool, iw_bool, iw_none, iw_typ, iw_tup, iw_lst, sw_lst, sw_tup, bc_len, bc_lent, bc_abs, bc_min, bc_list, bc_ty_i, bc_ty_l, bc_isb, rw_1, rw_2, rw_3, setAll, bindC, List.getElem?_cons_zero, List.getElem?_cons_succ, List.set_cons_zero, List.set_cons_succ, List.map_cons, List.map_nil, List.cons_append, List.nil_append, List.replicate_succ, List.replicate_zero, List.length_cons, List.length_nil, Nat.reduceAdd, Nat.zero_add, ne_eq]
  obtain ⟨c1, e1⟩ := hcell 1 (by (first | lia | omega)) (by (first | lia | omega))
  refine call_ok e1 ?_
  simp only [zq_wpS_0, zq_wpS_1, zq_wpS_2, zq_wpS_3, zq_wpS_4, zq_wpS_5, zq_wpS_6, zq_wpS_7, zq_wpS_8, zq_wpS_9, zq_wpS_10, zq_wpS_11, zq_wpS_12, zq_wpS_13, zq_wpS_14, zq_wpS_15, zq_wpE_0, zq_wpE_1, zq_wpE_2, zq_wpE_3, zq_wpE_4, zq_wpE_5, zq_wpE_6, zq_wpE_7, zq_wpE_8, zq_wpE_9, zq_wpE_10, zq_wpE_11, zq_wpE_12, zq_wpE_13, zq_wpE_14, zq_wpE_15, zq_wpE_16, zq_wpE_17, zq_wpE_18, zq_wpE_19, zq_wpE_20, zq_wpE_21, zq_wpEs_0, zq_wpEs_1, zq_wpT_0, zq_wpT_1, zq_wpT_2, zq_wpT_3, zq_wpT_4, zq_wpT_5, zq_wpAll_0, zq_wpAll_1, zq_wpAnyT_0, zq_wpAnyT_1, zq_wpI_0, zq_wpI_1, zq_wpI_2, zq_wpI_3, bw_add, bw_sub, bw_mul, bw_div, bw_mod, bw_pow, bw_cat, bw_rep, cw_eq, cw_ne, cw_lt, cw_le, cw_gt, cw_ge, cw_is, cw_isn, cw_in, sw_dct, eqW_int, eqW_bool, iw_bool, iw_none, iw_typ, iw_tup, iw_lst, sw_lst, sw_tup, bc_len, bc_lent, bc_abs, bc_min, bc_list, bc_ty_i, bc_ty_l, bc_isb, rw_1, rw_2, rw_3, setAll, bindC, List.getElem?_cons_zero, List.getElem?_cons_succ, List.set_cons_zero, List.set_cons_succ, List.map_cons, List.map_nil, List.cons_append, List.nil_append, List.replicate_succ, List.replicate_zero, List.length_cons, List.length_nil, Nat.reduceAdd, Nat.zero_add, ne_eq, dInts_length]
  have hn := fmod_bd c1 (b := 4) (by (first | lia | omega))
  generalize hr : (1 + c1.fmod 4).toNat = r
  have hr2 : r ≤ 4 := by (first | lia | omega)
  have hbr : r * base.length ≤ 12 := Nat.le_trans (Nat.mul_le_mul hr2 hbl) (by (first | lia | omega))
  refine ⟨by (first | lia | omega), ⟨by (first | lia | omega), by (first | lia | omega)⟩, by rw [Nat.mul_comm]; (first | lia | omega), ?_⟩
  rw [rep_ints, dInts_append, dInts_length, rep_length]
  refine ⟨by (first | lia | omega), ?_⟩
  have hdl : ((List.replicate r base).flatten ++ tail).length ≤ 15 := by rw [List.length_append, rep_length]; (first | lia | omega)
  generalize (List.replicate r base).flatten ++ tail = data at hdl ⊢
  refine kn_cons ?_
  simp only [zq_wpS_0, zq_wpS_1, zq_wpS_2, zq_wpS_3, zq_wpS_4, zq_wpS_5, zq_wpS_6, zq_wpS_7, zq_wpS_8, zq_wpS_9, zq_wpS_10, zq_wpS_11, zq_wpS_12, zq_wpS_13, zq_wpS_14, zq_wpS_15, zq_wpE_0, zq_wpE_1, zq_wpE_2, zq_wpE_3, zq_wpE_4, zq_wpE_5, zq_wpE_6, zq_wpE_7, zq_wpE_8, zq_wpE_9, zq_wpE_10, zq_wpE_11, zq_wpE_12, zq_wpE_13, zq_wpE_14, zq_wpE_15, zq_wpE_16, zq_wpE_17, zq_wpE_18, zq_wpE_19, zq_wpE_20, zq_wpE_21, zq_wpEs_0, zq_wpEs_1, zq_wpT_0, zq_wpT_1, zq_wpT_2, zq_wpT_3, zq_wpT_4, zq_wpT_5, zq_wpAll_0, zq_wpAll_1, zq_wpAnyT_0, zq_wpAnyT_1, zq_wpI_0, zq_wpI_1, zq_wpI_2, zq_wpI_3, bw_add, bw_sub, bw_mul, bw_div, bw_mod, bw_pow, bw_cat, bw_rep, cw_eq, cw_ne, cw_lt, cw_le, cw_gt, cw_ge, cw_is, cw_isn, cw_in, sw_dct, eqW_int, eqW_bool, iw_bool, iw_none, iw_typ, iw_tup, iw_lst, sw_lst, sw_tup, bc_len, bc_lent, bc_abs, bc_min, bc_list, bc_ty_i, bc_ty_l, bc_isb, rw_1, rw_2, rw_3, setAll, bindC, List.getElem?_cons_zero, List.getElem?_cons_succ, List.set_cons_zero, List.set_cons_succ, List.map_cons, List.map_nil, List.cons_append, List.nil_append, List.replicate_succ, List.replicate_zero, List.length_cons, List.length_nil, Nat.reduceAdd, Nat.zero_add, ne_eq]
  obtain ⟨w, e8⟩ := hcell 8 (by (first | lia | omega)) (by (first | lia | omega))
  refine call_ok e8 ?_
  refine kn_cons ?_
  simp only [zq_wpS_0, zq_wpS_1, zq_wpS_2, zq_wpS_3, zq_wpS_4, zq_wpS_5, zq_wpS_6, zq_wpS_7, zq_wpS_8, zq_wpS_9, zq_wpS_10, zq_wpS_11, zq_wpS_12, zq_wpS_13, zq_wpS_14, zq_wpS_15, zq_wpE_0, zq_wpE_1, zq_wpE_2, zq_wpE_3, zq_wpE_4, zq_wpE_5, zq_wpE_6, zq_wpE_7, zq_wpE_8, zq_wpE_9, zq_wpE_10, zq_wpE_11, zq_wpE_12, zq_wpE_13, zq_wpE_14, zq_wpE_15, zq_wpE_16, zq_wpE_17, zq_wpE_18, zq_wpE_19, zq_wpE_20, zq_wpE_21, zq_wpEs_0, zq_wpEs_1, zq_wpT_0, zq_wpT_1, zq_wpT_2, zq_wpT_3, zq_wpT_4, zq_wpT_5, zq_wpAll_0, zq_wpAll_1, zq_wpAnyT_0, zq_wpAnyT_1, zq_wpI_0, zq_wpI_1, zq_wpI_2, zq_wpI_3, bw_add, bw_sub, bw_mul, bw_div, bw_mod, bw_pow, bw_cat, bw_rep, cw_eq, cw_ne, cw_lt, cw_le, cw_gt, cw_ge, cw_is, cw_isn, cw_in, sw_dct, eqW_int, eqW_bool, iw_bool, iw_none, iw_typ, iw_tup, iw_lst, sw_lst, sw_tup, bc_len, bc_lent, bc_abs, bc_min, bc_list, bc_ty_i, bc_ty_l, bc_isb, rw_1, rw_2, rw_3, setAll, bindC, List.getElem?_cons_zero, List.getElem?_cons_succ, List.set_cons_zero, List.set_cons_succ, List.map_cons, List.map_nil, List.cons_append, List.nil_append, List.replicate_succ, List.replicate_zero, List.length_cons, List.length_nil, Nat.reduceAdd, Nat.zero_add, ne_eq]
  refine kn_cons ?_
  simp only [zq_wpS_0, zq_wpS_1, zq_wpS_2, zq_wpS_3, zq_wpS_4, zq_wpS_5, zq_wpS_6, zq_wpS_7, zq_wpS_8, zq_wpS_9, zq_wpS_10, zq_wpS_11, zq_wpS_12, zq_wpS_13, zq_wpS_14, zq_wpS_15, zq_wpE_0, zq_wpE_1, zq_wpE_2, zq_wpE_3, zq_wpE_4, zq_wpE_5, zq_wpE_6, zq_wpE_7, zq_wpE_8, zq_wpE_9, zq_wpE_10, zq_wpE_11, zq_wpE_12, zq_wpE_13, zq_wpE_14, zq_wpE_15, zq_wpE_16, zq_wpE_17, zq_wpE_18, zq_wpE_19, zq_wpE_20, zq_wpE_21, zq_wpEs_0, zq_wpEs_1, zq_wpT_0, zq_wpT_1, zq_wpT_2, zq_wpT_3, zq_wpT_4, zq_wpT_5, zq_wpAll_0, zq_wpAll_1, zq_wpAnyT_0, zq_wpAnyT_1, zq_wpI_0, zq_wpI_1, zq_wpI_2, zq_wpI_3, bw_add, bw_sub, bw_mul, bw_div, bw_mod, bw_pow, bw_cat, bw_rep, cw_eq, cw_ne, cw_lt, cw_le, cw_gt, cw_ge, cw_is, cw_isn, cw_in, sw_dct, eqW_int, eqW_bool, iw_bool, iw_none, iw_typ, iw_tup, iw_lst, sw_lst, sw_tup, bc_len, bc_lent, bc_abs, bc_min, bc_list, bc_ty_i, bc_ty_l, bc_isb, rw_1, rw_2, rw_3, setAll, bindC, List.getElem?_cons_zero, List.getElem?_cons_succ, List.set_cons_zero, List.set_cons_succ, List.map_cons, List.map_nil, List.cons_append, List.nil_append, List.replicate_succ, List.replicate_zero, List.length_cons, List.length_nil, Nat.reduceAdd, Nat.zero_add, ne_eq]
  refine ⟨by (first | lia | omega), ?_⟩
  refine ite_join (fun ρ => ∃ window : Int, 1 ≤ window ∧ ρ = [.frz (.lst (dInts ns)), .frz (.int c), .frz (.int odd), .frz (.lst [.int odd, .int 0, .int 255, .int 7]), .frz (.lst (dInts base)), .frz (.lst (dInts tail)), .frz (.lst (dInts data)), .frz (.int w), .frz (.int window), .unb, .unb, .unb, .unb, .unb, .unb]) (fun _ key => ?_) (fun _ key => st_nil (key _ ⟨_, ?_, rfl⟩)) ?_
  · refine st_cons ?_
    simp only [zq_wpS_0, zq_wpS_1, zq_wpS_2, zq_wpS_3, zq_wpS_4, zq_wpS_5, zq_wpS_6, zq_wpS_7, zq_wpS_8, zq_wpS_9, zq_wpS_10, zq_wpS_11, zq_wpS_12, zq_wpS_13, zq_wpS_14, zq_wpS_15, zq_wpE_0, zq_wpE_1, zq_wpE_2, zq_wpE_3, zq_wpE_4, zq_wpE_5, zq_wpE_6, zq_wpE_7, zq_wpE_8, zq_wpE_9, zq_wpE_10, zq_wpE_11, zq_wpE_12, zq_wpE_13, zq_wpE_14, zq_wpE_15, zq_wpE_16, zq_wpE_17, zq_wpE_18, zq_wpE_19, zq_wpE_20, zq_wpE_21, zq_wpEs_0, zq_wpEs_1, zq_wpT_0, zq_wpT_1, zq_wpT_2, zq_wpT_3, zq_wpT_4, zq_wpT_5, zq_wpAll_0, zq_wpAll_1, zq_wpAnyT_0, zq_wpAnyT_1, zq_wpI_0, zq_wpI_1, zq_wpI_2, zq_wpI_3, bw_add, bw_sub, bw_mul, bw_div, bw_mod, bw_pow, bw_cat, bw_rep, cw_eq, cw_ne, cw_lt, cw_le, cw_gt, cw_ge, cw_is, cw_isn, cw_in, sw_dct, eqW_int, eqW_bool, iw_bool, iw_none, iw_typ, iw_tup, iw_lst, sw_lst, sw_tup, bc_len, bc_lent, bc_abs, bc_min, bc_list, bc_ty_i, bc_ty_l, bc_isb, rw_1, rw_2, rw_3, setAll, bindC, List.getElem?_cons_zero, List.getElem?_cons_succ, List.set_cons_zero, List.set_cons_succ, List.map_cons, List.map_nil, List.cons_append, List.nil_append, List.replicate_succ, List.replicate_zero, List.length_cons, List.length_nil, Nat.reduceAdd, Nat.zero_add, ne_eq]
    have := fmod_bd (w.fdiv 2) (b := 8) (by (first | lia | omega))
    refine ⟨by (first | lia | omega), ⟨by (first | lia | omega), by (first | lia | omega)⟩, by (first | lia | omega), ?_⟩
    exact kn_nil (key _ ⟨_, by (first | lia | omega), rfl⟩)
  · split <;> (first | lia | omega)
  rintro ρ' ⟨window, hw, rfl⟩
  refine kn_cons ?_
  simp only [zq_wpS_0, zq_wpS_1, zq_wpS_2, zq_wpS_3, zq_wpS_4, zq_wpS_5, zq_wpS_6, zq_wpS_7, zq_wpS_8, zq_wpS_9, zq_wpS_10, zq_wpS_11, zq_wpS_12, zq_wpS_13, zq_wpS_14, zq_wpS_15, zq_wpE_0, zq_wpE_1, zq_wpE_2, zq_wpE_3, zq_wpE_4, zq_wpE_5, zq_wpE_6, zq_wpE_7, zq_wpE_8, zq_wpE_9, zq_wpE_10, zq_wpE_11, zq_wpE_12, zq_wpE_13, zq_wpE_14, zq_wpE_15, zq_wpE_16, zq_wpE_17, zq_wpE_18, zq_wpE_19, zq_wpE_20, zq_wpE_21, zq_wpEs_0, zq_wpEs_1, zq_wpT_0, zq_wpT_1, zq_wpT_2, zq_wpT_3, zq_wpT_4, zq_wpT_5, zq_wpAll_0, zq_wpAll_1, zq_wpAnyT_0, zq_wpAnyT_1, zq_wpI_0, zq_wpI_1, zq_wpI_2, zq_wpI_3, bw_add, bw_sub, bw_mul, bw_div, bw_mod, bw_pow, bw_cat, bw_rep, cw_eq, cw_ne, cw_lt, cw_le, cw_gt, cw_ge, cw_is, cw_isn, cw_in, sw_dct, eqW_int, eqW_bool, iw_bool, iw_none, iw_typ, iw_tup, iw_lst, sw_lst, sw_tup, bc_len, bc_lent, bc_abs, bc_min, bc_list, bc_ty_i, bc_ty_l, bc_isb, rw_1, rw_2, rw_3, setAll, bindC, List.getElem?_cons_zero, List.getElem?_cons_succ, List.set_cons_zero, List.set_cons_succ, List.map_cons, List.map_nil, List.cons_append, List.nil_append, List.replicate_succ, List.replicate_zero, List.length_cons, List.length_nil, Nat.reduceAdd, Nat.zero_add, ne_eq]
  obtain ⟨m, e9⟩ := hcell 9 (by (first | lia | omega)) (by (first | lia | omega))
  refine call_ok e9 ?_
  refine kn_cons ?_
  simp only [zq_wpS_0, zq_wpS_1, zq_wpS_2, zq_wpS_3, zq_wpS_4, zq_wpS_5, zq_wpS_6, zq_wpS_7, zq_wpS_8, zq_wpS_9, zq_wpS_10, zq_wpS_11, zq_wpS_12, zq_wpS_13, zq_wpS_14, zq_wpS_15, zq_wpE_0, zq_wpE_1, zq_wpE_2, zq_wpE_3, zq_wpE_4, zq_wpE_5, zq_wpE_6, zq_wpE_7, zq_wpE_8, zq_wpE_9, zq_wpE_10, zq_wpE_11, zq_wpE_12, zq_wpE_13, zq_wpE_14, zq_wpE_15, zq_wpE_16, zq_wpE_17, zq_wpE_18, zq_wpE_19, zq_wpE_20, zq_wpE_21, zq_wpEs_0, zq_wpEs_1, zq_wpT_0, zq_wpT_1, zq_wpT_2, zq_wpT_3, zq_wpT_4, zq_wpT_5, zq_wpAll_0, zq_wpAll_1, zq_wpAnyT_0, zq_wpAnyT_1, zq_wpI_0, zq_wpI_1, zq_wpI_2, zq_wpI_3, bw_add, bw_sub, bw_mul, bw_div, bw_mod, bw_pow, bw_cat, bw_rep, cw_eq, cw_ne, cw_lt, cw_le, cw_gt, cw_ge, cw_is, cw_isn, cw_in, sw_dct, eqW_int, eqW_bool, iw_bool, iw_none, iw_typ, iw_tup, iw_lst, sw_lst, sw_tup, bc_len, bc_lent, bc_abs, bc_min, bc_list, bc_ty_i, bc_ty_l, bc_isb, rw_1, rw_2, rw_3, setAll, bindC, List.getElem?_cons_zero, List.getElem?_cons_succ, List.set_cons_zero, List.set_cons_succ, List.map_cons, List.map_nil, List.cons_append, List.nil_append, List.replicate_succ, List.replicate_zero, List.length_cons, List.length_nil, Nat.reduceAdd, Nat.zero_add, ne_eq]
  refine kn_cons ?_
  simp only [zq_wpS_0, zq_wpS_1, zq_wpS_2, zq_wpS_3, zq_wpS_4, zq_wpS_5, zq_wpS_6, zq_wpS_7, zq_wpS_8, zq_wpS_9, zq_wpS_10, zq_wpS_11, zq_wpS_12, zq_wpS_13, zq_wpS_14, zq_wpS_15, zq_wpE_0, zq_wpE_1, zq_wpE_2, zq_wpE_3, zq_wpE_4, zq_wpE_5, zq_wpE_6, zq_wpE_7, zq_wpE_8, zq_wpE_9, zq_wpE_10, zq_wpE_11, zq_wpE_12, zq_wpE_13, zq_wpE_14, zq_wpE_15, zq_wpE_16, zq_wpE_17, zq_wpE_18, zq_wpE_19, zq_wpE_20, zq_wpE_21, zq_wpEs_0, zq_wpEs_1, zq_wpT_0, zq_wpT_1, zq_wpT_2, zq_wpT_3, zq_wpT_4, zq_wpT_5, zq_wpAll_0, zq_wpAll_1, zq_wpAnyT_0, zq_wpAnyT_1, zq_wpI_0, zq_wpI_1, zq_wpI_2, zq_wpI_3, bw_add, bw_sub, bw_mul, bw_div, bw_mod, bw_pow, bw_cat, bw_rep, cw_eq, cw_ne, cw_lt, cw_le, cw_gt, cw_ge, cw_is, cw_isn, cw_in, sw_dct, eqW_int, eqW_bool, iw_bool, iw_none, iw_typ, iw_tup, iw_lst, sw_lst, sw_tup, bc_len, bc_lent, bc_abs, bc_min, bc_list, bc_ty_i, bc_ty_l, bc_isb, rw_1, rw_2, rw_3, setAll, bindC, List.getElem?_cons_zero, List.getElem?_cons_succ, List.set_cons_zero, List.set_cons_succ, List.map_cons, List.map_nil, List.cons_append, List.nil_append, List.replicate_succ, List.replicate_zero, List.length_cons, List.length_nil, Nat.reduceAdd, Nat.zero_add, ne_eq]
  refine ⟨by (first | lia | omega), ?_⟩
  refine ite_join (fun ρ => ∃ limit : Int, 0 ≤ limit ∧ ρ = [.frz (.lst (dInts ns)), .frz (.int c), .frz (.int odd), .frz (.lst [.int odd, .int 0, .int 255, .int 7]), .frz (.lst (dInts base)), .frz (.lst (dInts tail)), .frz (.lst (dInts data)), .frz (.int w), .frz (.int window), .frz (.int m), .frz (.int limit), .unb, .unb, .unb, .unb]) (fun _ key => ?_) (fun _ key => st_nil (key _ ⟨_, ?_, rfl⟩)) ?_
  · refine st_cons ?_
    simp only [zq_wpS_0, zq_wpS_1, zq_wpS_2, zq_wpS_3, zq_wpS_4, zq_wpS_5, zq_wpS_6, zq_wpS_7, zq_wpS_8, zq_wpS_9, zq_wpS_10, zq_wpS_11, zq_wpS_12, zq_wpS_13, zq_wpS_14, zq_wpS_15, zq_wpE_0, zq_wpE_1, zq_wpE_2, zq_wpE_3, zq_wpE_4, zq_wpE_5, zq_wpE_6, zq_wpE_7, zq_wpE_8, zq_wpE_9, zq_wpE_10, zq_wpE_11, zq_wpE_12, zq_wpE_13, zq_wpE_14, zq_wpE_15, zq_wpE_16, zq_wpE_17, zq_wpE_18, zq_wpE_19, zq_wpE_20, zq_wpE_21, zq_wpEs_0, zq_wpEs_1, zq_wpT_0, zq_wpT_1, zq_wpT_2, zq_wpT_3, zq_wpT_4, zq_wpT_5, zq_wpAll_0, zq_wpAll_1, zq_wpAnyT_0, zq_wpAnyT_1, zq_wpI_0, zq_wpI_1, zq_wpI_2, zq_wpI_3, bw_add, bw_sub, bw_mul, bw_div, bw_mod, bw_pow, bw_cat, bw_rep, cw_eq, cw_ne, cw_lt, cw_le, cw_gt, cw_ge, cw_is, cw_isn, cw_in, sw_dct, eqW_int, eqW_bool, iw_bool, iw_none, iw_typ, iw_tup, iw_lst, sw_lst, sw_tup, bc_len, bc_lent, bc_abs, bc_min, bc_list, bc_ty_i, bc_ty_l, bc_isb, rw_1, rw_2, rw_3, setAll, bindC, List.getElem?_cons_zero, List.getElem?_cons_succ, List.set_cons_zero, List.set_cons_succ, List.map_cons, List.map_nil, List.cons_append, List.nil_append, List.replicate_succ, List.replicate_zero, List.length_cons, List.length_nil, Nat.reduceAdd, Nat.zero_add, ne_eq]
    have := fmod_bd (m.fdiv 2) (b := 8) (by (first | lia | omega))
    refine ⟨by (first | lia | omega), ⟨by (first | lia | omega), by (first | lia | omega)⟩, by (first | lia | omega), ?_⟩
    exact kn_nil (key _ ⟨_, by (first | lia | omega), rfl⟩)
  · split <;> (first | lia | omega)
  rintro ρ' ⟨limit, hlim, rfl⟩
  refine kn_cons ?_
  simp only [zq_wpS_0, zq_wpS_1, zq_wpS_2, zq_wpS_3, zq_wpS_4, zq_wpS_5, zq_wpS_6, zq_wpS_7, zq_wpS_8, zq_wpS_9, zq_wpS_10, zq_wpS_11, zq_wpS_12, zq_wpS_13, zq_wpS_14, zq_wpS_15, zq_wpE_0, zq_wpE_1, zq_wpE_2, zq_wpE_3, zq_wpE_4, zq_wpE_5, zq_wpE_6, zq_wpE_7, zq_wpE_8, zq_wpE_9, zq_wpE_10, zq_wpE_11, zq_wpE_12, zq_wpE_13, zq_wpE_14, zq_wpE_15, zq_wpE_16, zq_wpE_17, zq_wpE_18, zq_wpE_19, zq_wpE_20, zq_wpE_21, zq_wpEs_0, zq_wpEs_1, zq_wpT_0, zq_wpT_1, zq_wpT_2, zq_wpT_3, zq_wpT_4, zq_wpT_5, zq_wpAll_0, zq_wpAll_1, zq_wpAnyT_0, zq_wpAnyT_1, zq_wpI_0, zq_wpI_1, zq_wpI_2, zq_wpI_3, bw_add, bw_sub, bw_mul, bw_div, bw_mod, bw_pow, bw_cat, bw_rep, cw_eq, cw_ne, cw_lt, cw_le, cw_gt, cw_ge, cw_is, cw_isn, cw_in, sw_dct, eqW_int, eqW_bool, iw_bool, iw_none, iw_typ, iw_tup, iw_lst, sw_lst, sw_tup, bc_len, bc_lent, bc_abs, bc_min, bc_list, bc_ty_i, bc_ty_l, bc_isb, rw_1, rw_2, rw_3, setAll, bindC, List.getElem?_cons_zero, List.getElem?_cons_succ, List.set_cons_zero, List.set_cons_succ, List.map_cons, List.map_nil, List.cons_append, List.nil_append, List.replicate_succ, List.replicate_zero, List.length_cons, List.length_nil, Nat.reduceAdd, Nat.zero_add, ne_eq]
  refine kn_cons ?_
  simp only [zq_wpS_0, zq_wpS_1, zq_wpS_2, zq_wpS_3, zq_wpS_4, zq_wpS_5, zq_wpS_6, zq_wpS_7, zq_wpS_8, zq_wpS_9, zq_wpS_10, zq_wpS_11, zq_wpS_12, zq_wpS_13, zq_wpS_14, zq_wpS_15, zq_wpE_0, zq_wpE_1, zq_wpE_2, zq_wpE_3, zq_wpE_4, zq_wpE_5, zq_wpE_6, zq_wpE_7, zq_wpE_8, zq_wpE_9, zq_wpE_10, zq_wpE_11, zq_wpE_12, zq_wpE_13, zq_wpE_14, zq_wpE_15, zq_wpE_16, zq_wpE_17, zq_wpE_18, zq_wpE_19, zq_wpE_20, zq_wpE_21, zq_wpEs_0, zq_wpEs_1, zq_wpT_0, zq_wpT_1, zq_wpT_2, zq_wpT_3, zq_wpT_4, zq_wpT_5, zq_wpAll_0, zq_wpAll_1, zq_wpAnyT_0, zq_wpAnyT_1, zq_wpI_0, zq_wpI_1, zq_wpI_2, zq_wpI_3, bw_add, bw_sub, bw_mul, bw_div, bw_mod, bw_pow, bw_cat, bw_rep, cw_eq, cw_ne, cw_lt, cw_le, cw_gt, cw_ge, cw_is, cw_isn, cw_in, sw_dct, eqW_int, eqW_bool, iw_bool, iw_none, iw_typ, iw_tup, iw_lst, sw_lst, sw_tup, bc_len, bc_lent, bc_abs, bc_min, bc_list, bc_ty_i, bc_ty_l, bc_isb, rw_1, rw_2, rw_3, setAll, bindC, List.getElem?_cons_zero, List.getElem?_cons_succ, List.set_cons_zero, List.set_cons_succ, List.map_cons, List.map_nil, List.cons_append, List.nil_append, List.replicate_succ, List.replicate_zero, List.length_cons, List.length_nil, Nat.reduceAdd, Nat.zero_add, ne_eq]
  refine for1_ofL (fun k ρ => ∃ (b : Bool) (s : Slot), (b = true ↔ ∀ i, i < k → isB (data.getD i 0)) ∧ ρ = [.frz (.lst (dInts ns)), .frz (.int c), .frz (.int odd), .frz (.lst [.int odd, .int 0, .int 255, .int 7]), .frz (.lst (dInts base)), .frz (.lst (dInts tail)), .frz (.lst (dInts data)), .frz (.int w), .frz (.int window), .frz (.int m), .frz (.int limit), .frz (.bool b), s, .unb, .unb]) ⟨true, _, by simp, rfl⟩ ?_ ?_
  · rintro k ρ' d ⟨b, s, hb, rfl⟩ hd
    rw [dInts_get] at hd
    obtain ⟨x, hx, rfl⟩ := Option.map_eq_some_iff.mp hd
    have ex : data.getD k 0 = x := by rw [List.getD_eq_getElem?_getD, hx]; rfl
    refine st_cons ?_
    simp only [zq_wpS_0, zq_wpS_1, zq_wpS_2, zq_wpS_3, zq_wpS_4, zq_wpS_5, zq_wpS_6, zq_wpS_7, zq_wpS_8, zq_wpS_9, zq_wpS_10, zq_wpS_11, zq_wpS_12, zq_wpS_13, zq_wpS_14, zq_wpS_15, zq_wpE_0, zq_wpE_1, zq_wpE_2, zq_wpE_3, zq_wpE_4, zq_wpE_5, zq_wpE_6, zq_wpE_7, zq_wpE_8, zq_wpE_9, zq_wpE_10, zq_wpE_11, zq_wpE_12, zq_wpE_13, zq_wpE_14, zq_wpE_15, zq_wpE_16, zq_wpE_17, zq_wpE_18, zq_wpE_19, zq_wpE_20, zq_wpE_21, zq_wpEs_0, zq_wpEs_1, zq_wpT_0, zq_wpT_1, zq_wpT_2, zq_wpT_3, zq_wpT_4, zq_wpT_5, zq_wpAll_0, zq_wpAll_1, zq_wpAnyT_0, zq_wpAnyT_1, zq_wpI_0, zq_wpI_1, zq_wpI_2, zq_wpI_3, bw_add, bw_sub, bw_mul, bw_div, bw_mod, bw_pow, bw_cat, bw_rep, cw_eq, cw_ne, cw_lt, cw_le, cw_gt, cw_ge, cw_is, cw_isn, cw_in, sw_dct, eqW_int, eqW_bool, iw_bool, iw_none, iw_typ, iw_tup, iw_lst, sw_lst, sw_tup, bc_len, bc_lent, bc_abs, bc_min, bc_list, bc_ty_i, bc_ty_l, bc_isb, rw_1, rw_2, rw_3, setAll, bindC, List.getElem?_cons_zero, List.getElem?_cons_succ, List.set_cons_zero, List.set_cons_succ, List.map_cons, List.map_nil, List.cons_append, List.nil_append, List.replicate_succ, List.replicate_zero, List.length_cons, List.length_nil, Nat.reduceAdd, Nat.zero_add, ne_eq, or_fold, and_fold, Bool.false_eq_true, if_false, if_true]
    split
    · rename_i hc
      simp only [Bool.or_eq_true, decide_eq_true_eq] at hc
      refine st_cons ?_
      simp only [zq_wpS_0, zq_wpS_1, zq_wpS_2, zq_wpS_3, zq_wpS_4, zq_wpS_5, zq_wpS_6, zq_wpS_7, zq_wpS_8, zq_wpS_9, zq_wpS_10, zq_wpS_11, zq_wpS_12, zq_wpS_13, zq_wpS_14, zq_wpS_15, zq_wpE_0, zq_wpE_1, zq_wpE_2, zq_wpE_3, zq_wpE_4, zq_wpE_5, zq_wpE_6, zq_wpE_7, zq_wpE_8, zq_wpE_9, zq_wpE_10, zq_wpE_11, zq_wpE_12, zq_wpE_13, zq_wpE_14, zq_wpE_15, zq_wpE_16, zq_wpE_17, zq_wpE_18, zq_wpE_19, zq_wpE_20, zq_wpE_21, zq_wpEs_0, zq_wpEs_1, zq_wpT_0, zq_wpT_1, zq_wpT_2, zq_wpT_3, zq_wpT_4, zq_wpT_5, zq_wpAll_0, zq_wpAll_1, zq_wpAnyT_0, zq_wpAnyT_1, zq_wpI_0, zq_wpI_1, zq_wpI_2, zq_wpI_3, bw_add, bw_sub, bw_mul, bw_div, bw_mod, bw_pow, bw_cat, bw_rep, cw_eq, cw_ne, cw_lt, cw_le, cw_gt, cw_ge, cw_is, cw_isn, cw_in, sw_dct, eqW_int, eqW_bool, iw_bool, iw_none, iw_typ, iw_tup, iw_lst, sw_lst, sw_tup, bc_len, bc_lent, bc_abs, bc_min, bc_list, bc_ty_i, bc_ty_l, bc_isb, rw_1, rw_2, rw_3, setAll, bindC, List.getElem?_cons_zero, List.getElem?_cons_succ, List.set_cons_zero, List.set_cons_succ, List.map_cons, List.map_nil, List.cons_append, List.nil_append, List.replicate_succ, List.replicate_zero, List.length_cons, List.length_nil, Nat.reduceAdd, Nat.zero_add, ne_eq]
      refine kn_nil (kn_nil (lp_next ⟨false, _, ?_, rfl⟩))
      constructor
      · intro e; cases e
      · intro e
        have := e k (by (first | lia | omega))
        rw [ex] at this
        unfold isB at this
        (first | lia | omega)
    · rename_i hc
      simp only [Bool.or_eq_true, decide_eq_true_eq] at hc
      refine st_nil (kn_nil (lp_next ⟨b, _, ?_, rfl⟩))
      rw [hb]
      constructor
      · intro e i hi
        by_cases ei : i = k
        · subst ei; rw [ex]; unfold isB; (first | lia | omega)
        · exact e i (by (first | lia | omega))
      · intro e i hi
        exact e i (by (first | lia | omega))
  · rintro ρ' ⟨b, s, hb, rfl⟩
    rw [dInts_length] at hb
    refine kn_cons ?_
    simp only [zq_wpS_0, zq_wpS_1, zq_wpS_2, zq_wpS_3, zq_wpS_4, zq_wpS_5, zq_wpS_6, zq_wpS_7, zq_wpS_8, zq_wpS_9, zq_wpS_10, zq_wpS_11, zq_wpS_12, zq_wpS_13, zq_wpS_14, zq_wpS_15, zq_wpE_0, zq_wpE_1, zq_wpE_2, zq_wpE_3, zq_wpE_4, zq_wpE_5, zq_wpE_6, zq_wpE_7, zq_wpE_8, zq_wpE_9, zq_wpE_10, zq_wpE_11, zq_wpE_12, zq_wpE_13, zq_wpE_14, zq_wpE_15, zq_wpE_16, zq_wpE_17, zq_wpE_18, zq_wpE_19, zq_wpE_20, zq_wpE_21, zq_wpEs_0, zq_wpEs_1, zq_wpT_0, zq_wpT_1, zq_wpT_2, zq_wpT_3, zq_wpT_4, zq_wpT_5, zq_wpAll_0, zq_wpAll_1, zq_wpAnyT_0, zq_wpAnyT_1, zq_wpI_0, zq_wpI_1, zq_wpI_2, zq_wpI_3, bw_add, bw_sub, bw_mul, bw_div, bw_mod, bw_pow, bw_cat, bw_rep, cw_eq, cw_ne, cw_lt, cw_le, cw_gt, cw_ge, cw_is, cw_isn, cw_in, sw_dct, eqW_int, eqW_bool, iw_bool, iw_none, iw_typ, iw_tup, iw_lst, sw_lst, sw_tup, bc_len, bc_lent, bc_abs, bc_min, bc_list, bc_ty_i, bc_ty_l, bc_isb, rw_1, rw_2, rw_3, setAll, bindC, List.getElem?_cons_zero, List.getElem?_cons_succ, List.set_cons_zero, List.set_cons_succ, List.map_cons, List.map_nil, List.cons_append, List.nil_append, List.replicate_succ, List.replicate_zero, List.length_cons, List.length_nil, Nat.reduceAdd, Nat.zero_add, ne_eq]
    refine ⟨by (first | lia | omega), by rw [dInts_length]; (first | lia | omega), ?_⟩
    rw [List.append_nil]
    refine kn_cons ?_
    simp only [zq_wpS_0, zq_wpS_1, zq_wpS_2, zq_wpS_3, zq_wpS_4, zq_wpS_5, zq_wpS_6, zq_wpS_7, zq_wpS_8, zq_wpS_9, zq_wpS_10, zq_wpS_11, zq_wpS_12, zq_wpS_13, zq_wpS_14, zq_wpS_15, zq_wpE_0, zq_wpE_1, zq_wpE_2, zq_wpE_3, zq_wpE_4, zq_wpE_5, zq_wpE_6, zq_wpE_7, zq_wpE_8, zq_wpE_9, zq_wpE_10, zq_wpE_11, zq_wpE_12, zq_wpE_13, zq_wpE_14, zq_wpE_15, zq_wpE_16, zq_wpE_17, zq_wpE_18, zq_wpE_19, zq_wpE_20, zq_wpE_21, zq_wpEs_0, zq_wpEs_1, zq_wpT_0, zq_wpT_1, zq_wpT_2, zq_wpT_3, zq_wpT_4, zq_wpT_5, zq_wpAll_0, zq_wpAll_1, zq_wpAnyT_0, zq_wpAnyT_1, zq_wpI_0, zq_wpI_1, zq_wpI_2, zq_wpI_3, bw_add, bw_sub, bw_mul, bw_div, bw_mod, bw_pow, bw_cat, bw_rep, cw_eq, cw_ne, cw_lt, cw_le, cw_gt, cw_ge, cw_is, cw_isn, cw_in, sw_dct, eqW_int, eqW_bool, iw_bool, iw_none, iw_typ, iw_tup, iw_lst, sw_lst, sw_tup, bc_len, bc_lent, bc_abs, bc_min, bc_list, bc_ty_i, bc_ty_l, bc_isb, rw_1, rw_2, rw_3, setAll, bindC, List.getElem?_cons_zero, List.getElem?_cons_succ, List.set_cons_zero, List.set_cons_succ, List.map_cons, List.map_nil, List.cons_append, List.nil_append, List.replicate_succ, List.replicate_zero, List.length_cons, List.length_nil, Nat.reduceAdd, Nat.zero_add, ne_eq]
    refine call_ok (trip_ok h n (by (first | lia | omega)) hw hlim) ?_
    have hgb := okF_bytes (by (first | lia | omega)) (lzF_tk data window limit data.length 0 (by (first | lia | omega)) (by (first | lia | omega))) (fun m hm => by (first | lia | omega))
    have hg : okF 0 (lzF data window limit data.length 0) = b := by
      rw [← hb] at hgb
      rw [show ((0 : Nat) : Int) = 0 from rfl] at hgb
      cases b <;> cases hh : okF 0 (lzF data window limit data.length 0) <;> simp_all
    rw [hg]
    refine kn_cons ?_
    simp only [zq_wpS_0, zq_wpS_1, zq_wpS_2, zq_wpS_3, zq_wpS_4, zq_wpS_5, zq_wpS_6, zq_wpS_7, zq_wpS_8, zq_wpS_9, zq_wpS_10, zq_wpS_11, zq_wpS_12, zq_wpS_13, zq_wpS_14, zq_wpS_15, zq_wpE_0, zq_wpE_1, zq_wpE_2, zq_wpE_3, zq_wpE_4, zq_wpE_5, zq_wpE_6, zq_wpE_7, zq_wpE_8, zq_wpE_9, zq_wpE_10, zq_wpE_11, zq_wpE_12, zq_wpE_13, zq_wpE_14, zq_wpE_15, zq_wpE_16, zq_wpE_17, zq_wpE_18, zq_wpE_19, zq_wpE_20, zq_wpE_21, zq_wpEs_0, zq_wpEs_1, zq_wpT_0, zq_wpT_1, zq_wpT_2, zq_wpT_3, zq_wpT_4, zq_wpT_5, zq_wpAll_0, zq_wpAll_1, zq_wpAnyT_0, zq_wpAnyT_1, zq_wpI_0, zq_wpI_1, zq_wpI_2, zq_wpI_3, bw_add, bw_sub, bw_mul, bw_div, bw_mod, bw_pow, bw_cat, bw_rep, cw_eq, cw_ne, cw_lt, cw_le, cw_gt, cw_ge, cw_is, cw_isn, cw_in, sw_dct, eqW_int, eqW_bool, iw_bool, iw_none, iw_typ, iw_tup, iw_lst, sw_lst, sw_tup, bc_len, bc_lent, bc_abs, bc_min, bc_list, bc_ty_i, bc_ty_l, bc_isb, rw_1, rw_2, rw_3, setAll, bindC, List.getElem?_cons_zero, List.getElem?_cons_succ, List.set_cons_zero, List.set_cons_succ, List.map_cons, List.map_nil, List.cons_append, List.nil_append, List.replicate_succ, List.replicate_zero, List.length_cons, List.length_nil, Nat.reduceAdd, Nat.zero_add, ne_eq, or_fold, and_fold, Bool.false_eq_true, if_false, if_true]
    rw [if_neg (by cases b <;> simp)]
    refine st_nil ?_
    refine kn_cons ?_
    simp only [zq_wpS_0, zq_wpS_1, zq_wpS_2, zq_wpS_3, zq_wpS_4, zq_wpS_5, zq_wpS_6, zq_wpS_7, zq_wpS_8, zq_wpS_9, zq_wpS_10, zq_wpS_11, zq_wpS_12, zq_wpS_13, zq_wpS_14, zq_wpS_15, zq_wpE_0, zq_wpE_1, zq_wpE_2, zq_wpE_3, zq_wpE_4, zq_wpE_5, zq_wpE_6, zq_wpE_7, zq_wpE_8, zq_wpE_9, zq_wpE_10, zq_wpE_11, zq_wpE_12, zq_wpE_13, zq_wpE_14, zq_wpE_15, zq_wpE_16, zq_wpE_17, zq_wpE_18, zq_wpE_19, zq_wpE_20, zq_wpE_21, zq_wpEs_0, zq_wpEs_1, zq_wpT_0, zq_wpT_1, zq_wpT_2, zq_wpT_3, zq_wpT_4, zq_wpT_5, zq_wpAll_0, zq_wpAll_1, zq_wpAnyT_0, zq_wpAnyT_1, zq_wpI_0, zq_wpI_1, zq_wpI_2, zq_wpI_3, bw_add, bw_sub, bw_mul, bw_div, bw_mod, bw_pow, bw_cat, bw_rep, cw_eq, cw_ne, cw_lt, cw_le, cw_gt, cw_ge, cw_is, cw_isn, cw_in, sw_dct, eqW_int, eqW_bool, iw_bool, iw_none, iw_typ, iw_tup, iw_lst, sw_lst, sw_tup, bc_len, bc_lent, bc_abs, bc_min, bc_list, bc_ty_i, bc_ty_l, bc_isb, rw_1, rw_2, rw_3, setAll, bindC, List.getElem?_cons_zero, List.getElem?_cons_succ, List.set_cons_zero, List.set_cons_succ, List.map_cons, List.map_nil, List.cons_append, List.nil_append, List.replicate_succ, List.replicate_zero, List.length_cons, List.length_nil, Nat.reduceAdd, Nat.zero_add, ne_eq, or_fold, and_fold, Bool.false_eq_true, if_false, if_true]
    rw [if_neg (by cases b <;> simp)]
    refine st_nil ?_
    refine kn_cons ?_
    simp only [zq_wpS_0, zq_wpS_1, zq_wpS_2, zq_wpS_3, zq_wpS_4, zq_wpS_5, zq_wpS_6, zq_wpS_7, zq_wpS_8, zq_wpS_9, zq_wpS_10, zq_wpS_11, zq_wpS_12, zq_wpS_13, zq_wpS_14, zq_wpS_15, zq_wpE_0, zq_wpE_1, zq_wpE_2, zq_wpE_3, zq_wpE_4, zq_wpE_5, zq_wpE_6, zq_wpE_7, zq_wpE_8, zq_wpE_9, zq_wpE_10, zq_wpE_11, zq_wpE_12, zq_wpE_13, zq_wpE_14, zq_wpE_15, zq_wpE_16, zq_wpE_17, zq_wpE_18, zq_wpE_19, zq_wpE_20, zq_wpE_21, zq_wpEs_0, zq_wpEs_1, zq_wpT_0, zq_wpT_1, zq_wpT_2, zq_wpT_3, zq_wpT_4, zq_wpT_5, zq_wpAll_0, zq_wpAll_1, zq_wpAnyT_0, zq_wpAnyT_1, zq_wpI_0, zq_wpI_1, zq_wpI_2, zq_wpI_3, bw_add, bw_sub, bw_mul, bw_div, bw_mod, bw_pow, bw_cat, bw_rep, cw_eq, cw_ne, cw_lt, cw_le, cw_gt, cw_ge, cw_is, cw_isn, cw_in, sw_dct, eqW_int, eqW_bool, iw_bool, iw_none, iw_typ, iw_tup, iw_lst, sw_lst, sw_tup, bc_len, bc_lent, bc_abs, bc_min, bc_list, bc_ty_i, bc_ty_l, bc_isb, rw_1, rw_2, rw_3, setAll, bindC, List.getElem?_cons_zero, List.getElem?_cons_succ, List.set_cons_zero, List.set_cons_succ, List.map_cons, List.map_nil, List.cons_append, List.nil_append, List.replicate_succ, List.replicate_zero, List.length_cons, List.length_nil, Nat.reduceAdd, Nat.zero_add, ne_eq]
    refine eqW_ints ?_
    rw [if_neg (by simp)]
    refine st_nil ?_
    refine kn_cons ?_
    simp only [zq_wpS_0, zq_wpS_1, zq_wpS_2, zq_wpS_3, zq_wpS_4, zq_wpS_5, zq_wpS_6, zq_wpS_7, zq_wpS_8, zq_wpS_9, zq_wpS_10, zq_wpS_11, zq_wpS_12, zq_wpS_13, zq_wpS_14, zq_wpS_15, zq_wpE_0, zq_wpE_1, zq_wpE_2, zq_wpE_3, zq_wpE_4, zq_wpE_5, zq_wpE_6, zq_wpE_7, zq_wpE_8, zq_wpE_9, zq_wpE_10, zq_wpE_11, zq_wpE_12, zq_wpE_13, zq_wpE_14, zq_wpE_15, zq_wpE_16, zq_wpE_17, zq_wpE_18, zq_wpE_19, zq_wpE_20, zq_wpE_21, zq_wpEs_0, zq_wpEs_1, zq_wpT_0, zq_wpT_1, zq_wpT_2, zq_wpT_3, zq_wpT_4, zq_wpT_5, zq_wpAll_0, zq_wpAll_1, zq_wpAnyT_0, zq_wpAnyT_1, zq_wpI_0, zq_wpI_1, zq_wpI_2, zq_wpI_3, bw_add, bw_sub, bw_mul, bw_div, bw_mod, bw_pow, bw_cat, bw_rep, cw_eq, cw_ne, cw_lt, cw_le, cw_gt, cw_ge, cw_is, cw_isn, cw_in, sw_dct, eqW_int, eqW_bool, iw_bool, iw_none, iw_typ, iw_tup, iw_lst, sw_lst, sw_tup, bc_len, bc_lent, bc_abs, bc_min, bc_list, bc_ty_i, bc_ty_l, bc_isb, rw_1, rw_2, rw_3, setAll, bindC, List.getElem?_cons_zero, List.getElem?_cons_succ, List.set_cons_zero, List.set_cons_succ, List.map_cons, List.map_nil, List.cons_append, List.nil_append, List.replicate_succ, List.replicate_zero, List.length_cons, List.length_nil, Nat.reduceAdd, Nat.zero_add, ne_eq]
    exact kn_ret rfl

end Mine

namespace Mine
open PySem PySem.Calls PyProof.Rows

theorem well_ints {P : Params} {h : Heap} : ∀ {vs : List Value} {ns : List Int} (K : KM), W.WellAll P h vs (W.ofPys (ns.map PyData.int)) → VRs K (dInts ns) vs
  | [], [], _, _ => .nil
  | [], _ :: _, _, w => by cases w
  | _ :: _, [], _, w => by cases w
  | v :: vs, n :: ns, K, w => by
    cases w with
    | cons a r =>
      cases a
      exact .cons (.int _ _) (well_ints K r)

theorem law_good {l : W.OpenLaw} {cl : Str → Option Addr} {mean : ExcName → Option Value} {args : List W.WData} {s₁ s' : Shared} (hk : Keeps s₁ s') (hg : s₁.gens = #[]) : W.GoodW l.row.claim cl mean args s₁ (.ok (.ret (.bool true))) s' := by
  obtain ⟨h', tk, e, hkk⟩ := hk
  refine ⟨.inl ⟨.bool true, .bool true, [], rfl, fun cls => rfl, .bool true, ?_, fun _ => ⟨.nil, fun _ h => nomatch h⟩⟩, by rw [e]; exact hkk, by rw [e], by rw [e]; exact hg⟩
  exact W.postW_of (r := l.row.toRowW) rfl (W.w_eq_bool (W.w_res rfl) W.w_lit) rfl

theorem law_start {l : W.OpenLaw} {w : World} {tp : Program} {loose : List Str} {mean : ExcName → Option Value} {mg mb : Str → Option Value} {s₁ : Shared} {fa a : Addr} {ns : List Int} {R : Result → Shared → Prop} (fs : List FnRec) (tabs : List (Str × D)) (K₀ : KM)
    (T : Top tp loose mean mg mb s₁.heap) (hmg : mg l.name = some (.ref fa)) (hW : W.Well w.params s₁.heap (.ref a) (W.ofPy (PyData.list (ns.map PyData.int)))) (hb : bOk tp loose = true) (hf : fnsOk tp (tabs.map (·.1)) fs = true) (he : fnsEq tp (tabs.map (·.1)) fs)
    (hK : KIn K₀ s₁.heap) (hKa : K₀ a = none) (htab : ∀ p ∈ tabs, ∃ v, mg p.1 = some v ∧ VR K₀ p.2 v)
    (hlaw : ∀ (g : GC) (K : KM), g.prog = l.row.prog → g.w = w → g.tp = tp → g.tabs = tabs → GP g fs → GOk g s₁.heap → GlOk g K → KIn K s₁.heap → VRs K [.lst (dInts ns)] [.ref a] → g.mg l.name = some (.ref fa) →
      codeAny (model g.prog g.w) callerA (.call (.ref fa) ⟨[.ref a], []⟩) R s₁) :
    codeAny (model l.row.prog w) callerA (.call (.ref fa) ⟨[.ref a], []⟩) R s₁ := by
  let g : GC := ⟨l.row.prog, tp, w, loose, mean, mg, mb, tabs⟩
  have gok : GOk g s₁.heap := by
    refine ⟨T, fun x hx => ?_⟩
    have := List.all_eq_true.mp hb x hx
    simp only [Bool.and_eq_true, Bool.not_eq_true'] at this
    obtain ⟨⟨⟨⟨h1, h2⟩, h3⟩, h4⟩, h5⟩ := this
    exact T.free x (fun h => by rw [List.contains_iff_mem.mpr h] at h1; cases h1) (fun h => by rw [List.contains_iff_mem.mpr h] at h2; cases h2) (fun h => by rw [List.contains_iff_mem.mpr h] at h3; cases h3)
      (fun h => by rw [List.contains_iff_mem.mpr h] at h4; cases h4) (fun h => by rw [List.contains_iff_mem.mpr h] at h5; cases h5)
  cases hW with
  | list hget hall =>
    rename_i vs
    have hKn : K₀.le (K₀.add a (listObj vs 0)) := KM.le_add hKa
    have kin : KIn (K₀.add a (listObj vs 0)) s₁.heap := fun b o e => by
      unfold KM.add at e
      by_cases hb : b = a
      · subst hb; simp at e; subst e; exact hget
      · rw [if_neg hb] at e; exact hK b o e
    exact hlaw g (K₀.add a (listObj vs 0)) rfl rfl rfl rfl ⟨hf, he⟩ gok (fun p hp => let ⟨v, h1, h2⟩ := htab p hp; ⟨v, h1, h2.mono hKn⟩) kin (.cons (.lst (KM.add_self _ _ _) (well_ints _ hall)) .nil) hmg

theorem room_caller {n : Nat} (hn : n ≤ 50) : Room callerA n := ⟨rfl, by unfold callerA claimMargin; simp; (first | lia | omega), by unfold callerA; simp; (first | lia | omega)⟩

theorem law_done {l : W.OpenLaw} {w : World} {tp : Program} {loose : List Str} {mean : ExcName → Option Value} {cl : Str → Option Addr} {mg mb : Str → Option Value} {s₁ : Shared} {fa a : Addr} {ns : List Int} {args : List W.WData} (fs : List FnRec) (tabs : List (Str × D)) (K₀ : KM) (n : Nat)
    (T : Top tp loose mean mg mb s₁.heap) (hmg : mg l.name = some (.ref fa)) (hg : s₁.gens = #[]) (hW : W.Well w.params s₁.heap (.ref a) (W.ofPy (PyData.list (ns.map PyData.int)))) (hb : bOk tp loose = true) (hf : fnsOk tp (tabs.map (·.1)) fs = true) (he : fnsEq tp (tabs.map (·.1)) fs)
    (hK : KIn K₀ s₁.heap) (hKa : K₀ a = none) (htab : ∀ p ∈ tabs, ∃ v, mg p.1 = some v ∧ VR K₀ p.2 v) (hn : n ≤ 50)
    (hlaw : ∀ g : GC, g.tabs = tabs → GP g fs → FnTop g n l.name [.lst (dInts ns)] (.ok (.bool true))) :
    codeAny (model l.row.prog w) callerA (.call (.ref fa) ⟨[.ref a], []⟩) (W.GoodW l.row.claim cl mean args s₁) s₁ := by
  refine law_start fs tabs K₀ T hmg hW hb hf he hK hKa htab fun g K hp hw htp ht gp gok gl kin hvs hm => ?_
  refine codeAny_mono (hlaw g ht gp callerA s₁.heap s₁ K [.ref a] fa (room_caller hn) (below_caller _) gok gl kin hvs hm) fun res s' hr => ?_
  obtain ⟨v, K', rfl, p, hv⟩ := hr
  cases hv
  exact law_good p.keeps hg

end Mine

open PySem PySem.W PyProof.Rows

set_option maxRecDepth 100000 in
set_option maxHeartbeats 8000000 in
theorem PySem.Challenge.cw_k10_0032_holds : PySem.Challenge.rw_k10_0032.Holds := by
  w_on
  o_law
  k_head
  (case hw => w_witness2)
  k_fill
  intro w s₀ s₁ mg mb G Y fa o pm cd doc dV kV ho hd hcd hD hmg hg args vals as hpre hlay hrd hwl hlo
  refine Ground.open G ?_
  intro T B D TE TW
  wrow_args hpre hlay hrd hwl hlo
  first | refine callC_kw (enter_call ?_) | refine enter_call ?_
  w_top on
  try refine codeAny_mono ?_ (fun _ _ g => GoodW.toG g)
  have hl := ‹¬ (_ < _)›
  refine Mine.law_done Mine.fns [] (fun _ => none) 5 T hmg hg ‹Well _ _ _ _› (by decide +kernel) (by decide +kernel) (by unfold Mine.fnsEq; kernel_rfl) (fun _ _ e => nomatch e) rfl (fun _ h => nomatch h) (by decide) (fun g _ h => (Mine.law_ok h 0 ?_).top)
  simp only [Int.not_lt] at hl
  omega
