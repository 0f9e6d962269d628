import PyProof.Rows.All
import Wide.All
import Open.Line
import Wide.FinOn
import PyProof.Claim2
import PyProof.P3Statements
import PyProof.StrBlock
import PyProof.ListOps
import PyProof.TupleOps
import PyProof.DictList
import PyProof.DictKinds
import PyProof.Rows.IntRules
import PyProof.Rows.RuleB_sub
import PyProof.Rows.RuleB_mul
import PyProof.Rows.RuleB_floordiv
import PyProof.Rows.RuleB_mod
import PyProof.Rows.RuleC_int
import PyProof.Rows.RuleC_bool
import PyProof.Rows.StrRules
import PyProof.Rows.StrTemp
import PyProof.P3In
import PyProof.NeData
import PyProof.Rows.RuleIs
import PyProof.Rows.RuleIs2
import PyProof.StrLawsIn
import PyProof.DictRoads
import PyProof.DictStraight
import PyProof.SliceMore
import PyProof.SliceStr2
import PyProof.Rows.TupMore
import PyProof.ListIndexNeg
import PyProof.Conv_int_bool
import PyProof.CallStr
import PyProof.ListCopy
import PyProof.TupleOfSeq
import PyProof.WalkInts
import PyProof.Rows.RuleN_abs
import PyProof.Rows.SumAny
import PyProof.IsiPairs
import PyProof.IsiHeapPairs
import PyProof.StrCalls
import PyProof.Rows.StrJoin2
import KE.KDictOf
import PyProof.DefCall
import PyProof.Rows.Exc
import PyProof.Rows.Globals
import PyProof.Rules2
import PyProof.Rules3
import PyProof.Rows.RuleU_int
import PyProof.Dict
import PyProof.SliceSyntax
import PyProof.Rows.Tup
import PyProof.TupleIter
import PyProof.StrLoop
import PyProof.RangeFor
import PyProof.Rows.ListAppend
import PyProof.CompMap
import PyProof.WalksMore
import PyProof.MinMaxWalk
import PyProof.Rows.CallKwBuiltin
import PyProof.Rows.ReprOcc
import PyProof.P3Eq
import PySem.Challenge.RW_uf040022_02
set_option Elab.async false
-- MCore
set_option autoImplicit false
set_option genSizeOf false
namespace Mine
open PySem

noncomputable abbrev D := PyData
inductive EC where
  | unset (w : Str)
  | nought
  | great
  | bad
inductive R (α : Type) where
  | ok (a : α)
  | exc (c : EC)
  | stuck
noncomputable def R.bind {α β : Type} : R α → (α → R β) → R β
  | .ok a, f => f a
  | .exc c, _ => .exc c
  | .stuck, _ => .stuck
@[simp] theorem R.bind_ok {α β : Type} (a : α) (f : α → R β) : (R.ok a).bind f = f a := rfl
@[simp] theorem R.bind_exc {α β : Type} (c : EC) (f : α → R β) : (R.exc c).bind f = .exc c := rfl
@[simp] theorem R.bind_stuck {α β : Type} (f : α → R β) : (R.stuck : R α).bind f = .stuck := rfl
inductive Slot where
  | unset
  | fr (d : D)
  | own (d : D)
  | ex (c : EC)
noncomputable abbrev Env := List Slot
inductive B1 where
  | len | int | str | abs | list | tuple | dict | sum
inductive B2 where
  | min | max
inductive Ty where
  | int | bool | str | tuple | list
  | unset | nought | great | bad | valueError
set_option genInjectivity false
mutual
inductive ME where
  | var (i : Nat)
  | own (i : Nat)
  | glob (g : Nat)
  | cint (i : Int)
  | cstr (s : Str)
  | cbool (b : Bool)
  | bin (op : Operator) (a b : ME)
  | neg (a : ME)
  | nt (a : ME)
  | and (a b : ME)
  | or (a b : ME)
  | cmp (op : CmpOp) (a b : ME)
  | call (f : Nat) (as : MEs)
  | bi1 (b : B1) (a : ME)
  | bi2 (b : B2) (a c : ME)
  | maxd (a : ME)
  | isi (a : ME) (t : Ty)
  | find (a b : ME)
  | idx (a i : ME)
  | slice (a : ME) (lo hi : MO)
  | tupD (as : MEs)
  | lstD (as : MEs)
  | comp (f : Nat) (a : ME)
inductive MEs where
  | nil
  | cons (a : ME) (as : MEs)
inductive MO where
  | none
  | some (a : ME)
end

mutual
inductive MS where
  | skip
  | seq (a b : MS)
  | asg (i : Nat) (e : ME)
  | asgOwn (i : Nat) (e : ME)
  | asgFresh (i f : Nat) (as : MEs)
  | append (i : Nat) (e : ME)
  | callRef (f : Nat) (as : MEs) (i : Nat)
  | ite (c : ME) (a b : MS)
  | forL (i : Nat) (e : ME) (b : MS)
  | forR (i : Nat) (lo hi : ME) (b : MS)
  | forO (j i : Nat) (t : ME) (b : Bool)
  | loop (c : ME) (b : MS)
  | ret (e : ME)
end

set_option genInjectivity true
mutual
noncomputable def within (L K : Bool) : D → Bool
  | .tuple xs => withins L K xs
  | .list xs => L && withins L K xs
  | .dict _ => K
  | _ => true
noncomputable def withins (L K : Bool) : List D → Bool
  | [] => true
  | x :: xs => within L K x && withins L K xs
end
noncomputable def flat (d : D) : Bool := within false false d
noncomputable def nodict (d : D) : Bool := within true false d
noncomputable def notList : D → Bool
  | .list _ => false
  | _ => true
noncomputable def aliasOk (esc : Bool) (xs : List D) (r : D) : Bool := !esc || flat r || (nodict r && xs.all notList)
noncomputable def big : Nat := 1048576
noncomputable def smallInt (i : Int) : Bool := decide (i.natAbs < 1267650600228229401496703205376)
noncomputable def idxInt (i : Int) : Bool := decide (-1073741824 < i) && decide (i < 1073741824)
noncomputable def slen (s : Str) : Nat := s.cps.size
noncomputable def sapp (a b : Str) : Str := ⟨a.cps ++ b.cps⟩
noncomputable def smk (l : List Nat) : Str := ⟨l.toArray⟩
noncomputable def sone (c : Nat) : Str := ⟨#[c]⟩
noncomputable def binD : Operator → D → D → R D
  | .Add, .int a, .int b => .ok (.int (a + b))
  | .Sub, .int a, .int b => .ok (.int (a - b))
  | .Mult, .int a, .int b => if smallInt a && smallInt b then .ok (.int (a * b)) else .stuck
  | .FloorDiv, .int a, .int b => if smallInt a && smallInt b && !(b == 0) then .ok (.int (a.fdiv b)) else .stuck
  | .Mod, .int a, .int b => if b == 0 then .stuck else .ok (.int (a.fmod b))
  | .Add, .str a, .str b => if slen a + slen b ≤ big then .ok (.str (sapp a b)) else .stuck
  | .Add, .list a, .list b => if a.length + b.length ≤ big then .ok (.list (a ++ b)) else .stuck
  | _, _, _ => .stuck
noncomputable def eqOk (d : D) : Bool := d.canLay0 && decide (d.depth ≤ 64)
noncomputable def hasSign (a : Str) (c : Nat) : Bool := a.cps.toList.contains c
noncomputable def dget (k : Str) : List (D × D) → Option D
  | [] => none
  | (.str x, v) :: r => if x == k then some v else dget k r
  | _ :: r => dget k r
noncomputable def R.yes : R Bool → R D
  | .ok b => .ok (.bool b)
  | .exc c => .exc c
  | .stuck => .stuck
noncomputable def R.no : R Bool → R D
  | .ok b => .ok (.bool (!b))
  | .exc c => .exc c
  | .stuck => .stuck
noncomputable def asStr : D → Option Str
  | .str x => some x
  | _ => none
noncomputable def asInt : D → Option Int
  | .int x => some x
  | _ => none
noncomputable def dictEq (_ _ : D) : R Bool := .stuck
noncomputable def eqD (a b : D) : R Bool := match asStr a, asStr b with
  | some x, some y => .ok (x == y)
  | _, _ => if eqOk a && eqOk b then .ok (PyData.eqv a b) else dictEq a b
noncomputable def ordD (f : Int → Int → Bool) (a b : D) : R D := match asInt a, asInt b with
  | some x, some y => .ok (.bool (f x y))
  | _, _ => .stuck
noncomputable def signD (c : Option Str) (s : Str) : R Bool := match c with
  | some c => (match c.cps.toList with | [k] => .ok (hasSign s k) | _ => .stuck)
  | none => .stuck
noncomputable def keyD (c : Option Str) (d : List (D × D)) : R Bool := match c with
  | some k => .ok (dget k d).isSome
  | none => .stuck
noncomputable def inD (x : D) : D → R Bool
  | .list l => if eqOk x && eqOk (.list l) then .ok (l.any fun y => PyData.eqv y x) else .stuck
  | .tuple l => if eqOk x && eqOk (.tuple l) then .ok (l.any fun y => PyData.eqv y x) else .stuck
  | .str s => signD (asStr x) s
  | .dict d => keyD (asStr x) d
  | _ => .stuck
noncomputable def noneD : D → R Bool
  | .none => .ok true
  | .tuple _ => .ok false
  | .int _ => .ok false
  | _ => .stuck
noncomputable def isD (x : D) : D → R Bool
  | .none => noneD x
  | _ => .stuck
noncomputable def cmpD (op : CmpOp) (x y : D) : R D := match op with
  | .Eq => (eqD x y).yes
  | .NotEq => (eqD x y).no
  | .Lt => ordD (fun a b => decide (a < b)) x y
  | .LtE => ordD (fun a b => decide (a ≤ b)) x y
  | .Gt => ordD (fun a b => decide (b < a)) x y
  | .GtE => ordD (fun a b => decide (b ≤ a)) x y
  | .In => (inD x y).yes
  | .NotIn => (inD x y).no
  | .Is => (isD x y).yes
  | .IsNot => (isD x y).no
noncomputable def place (i : Int) (n : Nat) : Option Nat :=
  if 0 ≤ i then (if i < n then some i.toNat else none) else (if -(n : Int) ≤ i then some (i + n).toNat else none)
noncomputable def idxD : D → D → R D
  | .list l, .int i => if idxInt i then (match place i l.length with | some k => (match l[k]? with | some d => .ok d | none => .stuck) | none => .stuck) else .stuck
  | .tuple l, .int i => if idxInt i then (match place i l.length with | some k => (match l[k]? with | some d => .ok d | none => .stuck) | none => .stuck) else .stuck
  | .str s, .int i => if idxInt i then (match place i (slen s) with | some k => (match s.cps[k]? with | some c => .ok (.str (sone c)) | none => .stuck) | none => .stuck) else .stuck
  | .dict d, .str k => (match dget k d with | some v => .ok v | none => .stuck)
  | _, _ => .stuck
noncomputable def clip (n : Nat) (i : Int) : Nat := (max 0 (min (if i < 0 then i + n else i) n)).toNat
noncomputable def cut {α : Type} (l : List α) (lo hi : Option Int) : List α :=
  (l.drop (lo.elim 0 (clip l.length))).take (hi.elim l.length (clip l.length) - lo.elim 0 (clip l.length))
noncomputable def partOk : Option Int → Bool
  | none => true
  | some i => idxInt i
noncomputable def sliceD (d : D) (lo hi : Option Int) : R D :=
  if partOk lo && partOk hi then
    match d with
    | .list l => if l.length ≤ big then .ok (.list (cut l lo hi)) else .stuck
    | .tuple l => (match lo, hi with
      | some a, none => if decide (1 ≤ a) && decide (a ≤ l.length) && decide (l.length ≤ big) then .ok (.tuple (l.drop a.toNat)) else .stuck
      | _, _ => .stuck)
    | .str s => if slen s ≤ big then .ok (.str (smk (cut s.cps.toList lo hi))) else .stuck
    | _ => .stuck
  else .stuck
noncomputable def intOf (_ : Str) : Option Int := none
noncomputable def strOfInt (i : Int) : Str := Str.ofString (toString i)
noncomputable def sumD : List D → Option Int
  | [] => some 0
  | .int i :: r => (sumD r).map (i + ·)
  | _ :: _ => none
noncomputable def maxFrom (m : Int) : List D → Option Int
  | [] => some m
  | .int i :: r => maxFrom (max m i) r
  | _ :: _ => none
noncomputable def strsD : List D → Option (List Str)
  | [] => some []
  | .str s :: r => (strsD r).map (s :: ·)
  | _ :: _ => none
noncomputable def itemsD : D → Option (List D)
  | .list l => some l
  | .tuple l => some l
  | .str s => some (s.cps.toList.map fun c => .str (sone c))
  | _ => none
noncomputable def b1D : B1 → D → R D
  | .len, .list l => if l.length ≤ big then .ok (.int l.length) else .stuck
  | .len, .tuple l => if l.length ≤ big then .ok (.int l.length) else .stuck
  | .len, .str s => if slen s ≤ big then .ok (.int (slen s)) else .stuck
  | .int, .bool b => .ok (.int (if b then 1 else 0))
  | .int, .str s => (match intOf s with | some i => .ok (.int i) | none => .stuck)
  | .str, .int i => if smallInt i then .ok (.str (strOfInt i)) else .stuck
  | .abs, .int i => .ok (.int (if i < 0 then -i else i))
  | .list, .list l => if l.length ≤ big then .ok (.list l) else .stuck
  | .list, .tuple l => if l.length ≤ big then .ok (.list l) else .stuck
  | .tuple, .list l => if l.length ≤ big then .ok (.tuple l) else .stuck
  | .dict, .dict d => if d.length ≤ big then .ok (.dict d) else .stuck
  | .sum, .list l => (match sumD l with | some i => .ok (.int i) | none => .stuck)
  | _, _ => .stuck
noncomputable def b2D : B2 → D → D → R D
  | .min, .int a, .int b => .ok (.int (if b < a then b else a))
  | .max, .int a, .int b => .ok (.int (if a < b then b else a))
  | _, _, _ => .stuck
noncomputable def maxdD : D → R D
  | .list [] => .ok (.int 0)
  | .list (.int i :: r) => (match maxFrom i r with | some m => .ok (.int m) | none => .stuck)
  | _ => .stuck
noncomputable def isiD : D → Ty → R D
  | .int _, .int => .ok (.bool true)
  | .int _, .bool => .ok (.bool false)
  | .int _, .str => .ok (.bool false)
  | .int _, .tuple => .ok (.bool false)
  | .bool _, .int => .ok (.bool true)
  | .bool _, .bool => .ok (.bool true)
  | .str _, .str => .ok (.bool true)
  | .str _, .tuple => .ok (.bool false)
  | .tuple _, .tuple => .ok (.bool true)
  | .tuple _, .str => .ok (.bool false)
  | .list _, .list => .ok (.bool true)
  | _, _ => .stuck
noncomputable def findD : D → D → R D
  | .str s, .str c => .ok (.int (Txt.find s c))
  | _, _ => .stuck
mutual
noncomputable def ME.esc : ME → Bool
  | .own _ => true
  | .and a b => a.esc || b.esc
  | .or a b => a.esc || b.esc
  | _ => false
noncomputable def MEs.esc : MEs → Bool
  | .nil => false
  | .cons a as => a.esc || as.esc
end

structure Orc where
  fn : Nat → List D → R (D × Bool)
  rf : Nat → List D → D → R D
noncomputable def optInt : D → R (Option Int)
  | .int i => .ok (some i)
  | _ => .stuck
noncomputable def atomD : D → Bool
  | .int _ => true
  | .str _ => true
  | .bool _ => true
  | .none => true
  | _ => false
noncomputable def seqD : D → Option (List D)
  | .list l => some l
  | .tuple l => some l
  | _ => none
noncomputable def mapCall (O : Orc) (f : Nat) : List D → R (List D)
  | [] => .ok []
  | x :: xs => (O.fn f [x]).bind fun r => if atomD r.1 then (mapCall O f xs).bind fun rs => .ok (r.1 :: rs) else .stuck
mutual
noncomputable def ev (O : Orc) (G : List D) (ρ : Env) : ME → R D
  | .var i => (match ρ[i]? with | some (.fr d) => .ok d | _ => .stuck)
  | .own i => (match ρ[i]? with | some (.own d) => .ok d | _ => .stuck)
  | .glob g => (match G[g]? with | some d => .ok d | none => .stuck)
  | .cint i => .ok (.int i)
  | .cstr s => .ok (.str s)
  | .cbool b => .ok (.bool b)
  | .bin op a b => (ev O G ρ a).bind fun x => (ev O G ρ b).bind fun y => binD op x y
  | .neg a => (ev O G ρ a).bind fun x => (match x with | .int i => .ok (.int (-i)) | _ => .stuck)
  | .nt a => (ev O G ρ a).bind fun x => (match x with | .bool b => .ok (.bool (!b)) | _ => .stuck)
  | .and a b => (ev O G ρ a).bind fun x => (match x with | .bool true => ev O G ρ b | .bool false => .ok (.bool false) | _ => .stuck)
  | .or a b => (ev O G ρ a).bind fun x => (match x with | .bool true => .ok (.bool true) | .bool false => ev O G ρ b | _ => .stuck)
  | .cmp op a b => (ev O G ρ a).bind fun x => (ev O G ρ b).bind fun y => cmpD op x y
  | .call f as => (evs O G ρ as).bind fun xs => (O.fn f xs).bind fun r => if aliasOk as.esc xs r.1 then .ok r.1 else .stuck
  | .bi1 b a => (ev O G ρ a).bind fun x => b1D b x
  | .bi2 b a c => (ev O G ρ a).bind fun x => (ev O G ρ c).bind fun y => b2D b x y
  | .maxd a => (ev O G ρ a).bind fun x => maxdD x
  | .isi a t => (ev O G ρ a).bind fun x => isiD x t
  | .find a b => (ev O G ρ a).bind fun x => (ev O G ρ b).bind fun y => findD x y
  | .idx a i => (ev O G ρ a).bind fun x => (ev O G ρ i).bind fun y => idxD x y
  | .slice a lo hi => (ev O G ρ a).bind fun x => (evo O G ρ lo).bind fun l => (evo O G ρ hi).bind fun h => sliceD x l h
  | .tupD as => if as.esc then .stuck else (evs O G ρ as).bind fun xs => if xs.length ≤ big then .ok (.tuple xs) else .stuck
  | .lstD as => if as.esc then .stuck else (evs O G ρ as).bind fun xs => if xs.length ≤ big then .ok (.list xs) else .stuck
  | .comp f a => if a.esc then .stuck else (ev O G ρ a).bind fun x => (match seqD x with
      | some l => if l.length ≤ big then (mapCall O f l).bind fun r => .ok (.list r) else .stuck
      | none => .stuck)
noncomputable def evs (O : Orc) (G : List D) (ρ : Env) : MEs → R (List D)
  | .nil => .ok []
  | .cons a as => (ev O G ρ a).bind fun x => (evs O G ρ as).bind fun xs => .ok (x :: xs)
noncomputable def evo (O : Orc) (G : List D) (ρ : Env) : MO → R (Option Int)
  | .none => .ok none
  | .some a => (ev O G ρ a).bind optInt
end

inductive SR where
  | next (ρ : Env)
  | ret (d : D) (fresh : Bool) (ρ : Env)
  | exc (c : EC) (ρ : Env)
  | stuck
noncomputable def SR.of {α : Type} (r : R α) (ρ : Env) (f : α → SR) : SR := match r with
  | .ok a => f a
  | .exc c => .exc c ρ
  | .stuck => .stuck
@[simp] theorem SR.of_ok {α : Type} (a : α) (ρ : Env) (f : α → SR) : SR.of (.ok a) ρ f = f a := rfl
@[simp] theorem SR.of_exc {α : Type} (c : EC) (ρ : Env) (f : α → SR) : SR.of (.exc c) ρ f = .exc c ρ := rfl
@[simp] theorem SR.of_stuck {α : Type} (ρ : Env) (f : α → SR) : SR.of (.stuck) ρ f = .stuck := rfl
noncomputable def SR.then (r : SR) (f : Env → SR) : SR := match r with
  | .next ρ => f ρ
  | r => r
@[simp] theorem SR.then_next (ρ : Env) (f : Env → SR) : (SR.next ρ).then f = f ρ := rfl
@[simp] theorem SR.then_ret (d : D) (b : Bool) (ρ : Env) (f : Env → SR) : (SR.ret d b ρ).then f = .ret d b ρ := rfl
@[simp] theorem SR.then_exc (c : EC) (ρ : Env) (f : Env → SR) : (SR.exc c ρ).then f = .exc c ρ := rfl
@[simp] theorem SR.then_stuck (f : Env → SR) : SR.stuck.then f = .stuck := rfl
noncomputable def forLoop (body : D → Env → SR) : List D → Env → SR
  | [], ρ => .next ρ
  | x :: xs, ρ => (body x ρ).then fun ρ' => forLoop body xs ρ'
noncomputable def whileLoop (test : Env → R D) (body : Env → SR) : Nat → Env → SR
  | 0, _ => .stuck
  | n + 1, ρ => SR.of (test ρ) ρ fun d => (match d with
      | .bool true => (body ρ).then fun ρ' => whileLoop test body n ρ'
      | .bool false => .next ρ
      | _ => .stuck)
noncomputable def whileFuel : Nat := 1000000
noncomputable def rangeD (lo hi : Int) : List D := (List.range (hi - lo).toNat).map fun (k : Nat) => .int (lo + (k : Int))
noncomputable def foS (O : Orc) (G : List D) (j : Nat) (t : ME) (b : Bool) (x : D) (ρ : Env) : SR := SR.of (ev O G (ρ.set j (.fr x)) t) (ρ.set j (.fr x)) fun d => (match d with
  | .bool true => .ret (.bool b) false (ρ.set j (.fr x))
  | .bool false => .next (ρ.set j (.fr x))
  | _ => .stuck)
noncomputable def freshOk : D → Bool
  | .dict _ => true
  | .list l => (strsD l).isSome
  | _ => false
noncomputable def isOwn : ME → Bool
  | .own _ => true
  | _ => false
mutual
noncomputable def ex (O : Orc) (G : List D) : MS → Env → SR
  | .skip, ρ => .next ρ
  | .seq a b, ρ => (ex O G a ρ).then fun ρ' => ex O G b ρ'
  | .asg i e, ρ => if e.esc then .stuck else SR.of (ev O G ρ e) ρ fun d => .next (ρ.set i (.fr d))
  | .asgOwn i e, ρ => if e.esc then .stuck else (match e with
      | .lstD _ | .bi1 .dict _ => SR.of (ev O G ρ e) ρ fun d => .next (ρ.set i (.own d))
      | _ => .stuck)
  | .asgFresh i f as, ρ => if as.esc then .stuck else SR.of (evs O G ρ as) ρ fun xs => SR.of (O.fn f xs) ρ fun r => if r.2 && freshOk r.1 then .next (ρ.set i (.own r.1)) else .stuck
  | .append i e, ρ => if e.esc then .stuck else (match ρ[i]? with
      | some (.own (.list l)) => SR.of (ev O G ρ e) ρ fun d => if l.length < big then .next (ρ.set i (.own (.list (l ++ [d])))) else .stuck
      | _ => .stuck)
  | .callRef f as i, ρ => if as.esc then .stuck else (match ρ[i]? with
      | some (.own d) => SR.of (evs O G ρ as) ρ fun xs => SR.of (O.rf f xs d) ρ fun d' => .next (ρ.set i (.own d'))
      | _ => .stuck)
  | .ite c a b, ρ => SR.of (ev O G ρ c) ρ fun d => (match d with
      | .bool true => ex O G a ρ
      | .bool false => ex O G b ρ
      | _ => .stuck)
  | .forL i e b, ρ => if e.esc then .stuck else SR.of (ev O G ρ e) ρ fun d => (match itemsD d with
      | some l => if l.length ≤ big then forLoop (fun x ρ' => ex O G b (ρ'.set i (.fr x))) l ρ else .stuck
      | none => .stuck)
  | .forR i lo hi b, ρ => SR.of (ev O G ρ lo) ρ fun x => SR.of (ev O G ρ hi) ρ fun y => (match x, y with
      | .int u, .int v => if idxInt u && idxInt v then forLoop (fun x ρ' => ex O G b (ρ'.set i (.fr x))) (rangeD u v) ρ else .stuck
      | _, _ => .stuck)
  | .forO j i t b, ρ => (match ρ[i]? with
      | some (.own (.list l)) => if l.length ≤ big ∧ i ≠ j then forLoop (foS O G j t b) l ρ else .stuck
      | _ => .stuck)
  | .loop c b, ρ => whileLoop (fun ρ' => ev O G ρ' c) (fun ρ' => ex O G b ρ') whileFuel ρ
  | .ret e, ρ => SR.of (ev O G ρ e) ρ fun d => .ret d (isOwn e) ρ
end

structure MFn where
  name : Str
  slots : List Str
  args : Nat
  body : MS
  ref : Bool := false
noncomputable def pinOf (F : MFn) : Option Nat := if F.ref then some (F.args - 1) else none
noncomputable def initEnv (F : MFn) (ds : List D) : Env := ds.map Slot.fr ++ List.replicate (F.slots.length - ds.length) Slot.unset
noncomputable def runF (O : Orc) (G : List D) (F : MFn) (ds : List D) : R (D × Bool) :=
  if ds.length = F.args then
    match ex O G F.body (initEnv F ds) with
    | .next _ => .ok (.none, false)
    | .ret d b _ => .ok (d, b)
    | .exc c _ => .exc c
    | .stuck => .stuck
  else .stuck
noncomputable def runRef (O : Orc) (G : List D) (F : MFn) (ds : List D) (d : D) : R D :=
  if F.ref = true ∧ ds.length + 1 = F.args then
    match ex O G F.body (ds.map Slot.fr ++ Slot.own d :: List.replicate (F.slots.length - (ds.length + 1)) Slot.unset) with
    | .next ρ => (match ρ[ds.length]? with | some (.own d') => .ok d' | _ => .stuck)
    | _ => .stuck
  else .stuck
noncomputable def orc (fns : List MFn) (G : List D) : Nat → Orc
  | 0 => ⟨fun _ _ => .stuck, fun _ _ _ => .stuck⟩
  | n + 1 => ⟨fun f ds => (match fns[f]? with
      | some F => runF (orc fns G n) G F ds
      | none => .stuck), fun f ds d => (match fns[f]? with
      | some F => runRef (orc fns G n) G F ds d
      | none => .stuck)⟩
noncomputable abbrev callF (fns : List MFn) (G : List D) (n : Nat) : Nat → List D → R (D × Bool) := (orc fns G n).fn
end Mine
-- MRep
set_option autoImplicit false
namespace Mine
open PySem

noncomputable def Ext (h h' : Heap) : Prop := ∀ b o, h.get? b = some o → h'.get? b = some o
theorem Ext.refl (h : Heap) : Ext h h := fun _ _ e => e
theorem Ext.trans {h h' h'' : Heap} (x : Ext h h') (y : Ext h' h'') : Ext h h'' := fun b o e => y b o (x b o e)
theorem Ext.push (h : Heap) (o : Obj) : Ext h (h.push o) := fun _ _ e => Heap.get?_push_of_some o e
noncomputable def Keep (W : Addr → Prop) (h h' : Heap) : Prop := ∀ b o, h.get? b = some o → ¬ W b → h'.get? b = some o
theorem Ext.keep {h h' : Heap} (x : Ext h h') (W : Addr → Prop) : Keep W h h' := fun b o e _ => x b o e
theorem Keep.refl (W : Addr → Prop) (h : Heap) : Keep W h h := fun _ _ e _ => e
theorem Keep.trans {W : Addr → Prop} {h h' h'' : Heap} (x : Keep W h h') (y : Keep W h' h'') : Keep W h h'' := fun b o e n => y b o (x b o e n) n
theorem Keep.mono {W W' : Addr → Prop} {h h' : Heap} (x : Keep W h h') (k : ∀ a, W a → W' a) : Keep W' h h' := fun b o e n => x b o e fun q => n (k b q)
theorem Keep.ext {h h' : Heap} (x : Keep (fun _ => False) h h') : Ext h h' := fun b o e => x b o e id
noncomputable def XOk (X : Addr → Prop) (h : Heap) : Prop := ∀ a, X a → ∃ o, h.get? a = some o
theorem XOk.ext {X : Addr → Prop} {h h' : Heap} (x : XOk X h) (k : Ext h h') : XOk X h' := fun a q => let ⟨o, e⟩ := x a q; ⟨o, k a o e⟩
theorem XOk.new {X : Addr → Prop} {h : Heap} (x : XOk X h) : ¬ X h.objs.size := fun q => by
  obtain ⟨o, e⟩ := x _ q
  exact absurd (Heap.lt_size e) (Nat.lt_irrefl _)
noncomputable abbrev tupO (vs : List Value) (n : Nat) : Obj := { cls := .type "tuple", data := .seq vs.toArray n }
noncomputable abbrev lstO (vs : List Value) (n : Nat) : Obj := { cls := .type "list", data := .seq vs.toArray n }
inductive PairsAre : List (Str × Value) → List (D × D) → Prop where
  | nil : PairsAre [] []
  | cons {k : Str} {v : Int} {u : Tok} {es : List (Str × Value)} {kv : List (D × D)} : PairsAre es kv → PairsAre ((k, .int v u) :: es) ((.str k, .int v) :: kv)
theorem PairsAre.length {es : List (Str × Value)} {kv : List (D × D)} : PairsAre es kv → es.length = kv.length
  | .nil => rfl
  | .cons r => by rw [List.length_cons, List.length_cons, r.length]
theorem dictOf_keep {prog : Program} {w : World} {h h' : Heap} {a : Addr} {es : List (Str × Value)} (x : h.DictOf (strKind prog w) a es) (k : ∀ o, h.get? a = some o → h'.get? a = some o) : h'.DictOf (strKind prog w) a es :=
  let ⟨o, e, n, ho, r⟩ := x; ⟨o, e, n, k o ho, r⟩
theorem dictOf_get {prog : Program} {w : World} {h : Heap} {a : Addr} {es : List (Str × Value)} (x : h.DictOf (strKind prog w) a es) : ∃ o, h.get? a = some o ∧ o.cls = .type "dict" :=
  let ⟨o, _, _, ho, c, _⟩ := x; ⟨o, ho, c.1⟩
mutual
inductive Rep (prog : Program) (w : World) (X : Addr → Prop) (h : Heap) : Value → D → Prop where
  | none : Rep prog w X h .none .none
  | bool (b : Bool) : Rep prog w X h (.bool b) (.bool b)
  | int (i : Int) (t : Tok) : Rep prog w X h (.int i t) (.int i)
  | str (x : Str) (t : Tok) : Rep prog w X h (.str x t) (.str x)
  | tuple {a : Addr} {vs : List Value} {n : Nat} {xs : List D} : ¬ X a → h.get? a = some (tupO vs n) → RepAll prog w X h vs xs → Rep prog w X h (.ref a) (.tuple xs)
  | list {a : Addr} {vs : List Value} {n : Nat} {xs : List D} : ¬ X a → h.get? a = some (lstO vs n) → RepAll prog w X h vs xs → Rep prog w X h (.ref a) (.list xs)
  | dict {a : Addr} {es : List (Str × Value)} {kv : List (D × D)} : ¬ X a → h.DictOf (strKind prog w) a es → PairsAre es kv → Rep prog w X h (.ref a) (.dict kv)
inductive RepAll (prog : Program) (w : World) (X : Addr → Prop) (h : Heap) : List Value → List D → Prop where
  | nil : RepAll prog w X h [] []
  | cons {v : Value} {vs : List Value} {d : D} {ds : List D} : Rep prog w X h v d → RepAll prog w X h vs ds → RepAll prog w X h (v :: vs) (d :: ds)
end

section
variable {prog : Program} {w : World} {X X' : Addr → Prop} {h h' : Heap}
structure Go (L K : Bool) (X X' : Addr → Prop) (h h' : Heap) : Prop where
  t : ∀ a vs n, h.get? a = some (tupO vs n) → ¬ X a → h'.get? a = some (tupO vs n) ∧ ¬ X' a
  l : L = true → ∀ a vs n, h.get? a = some (lstO vs n) → ¬ X a → h'.get? a = some (lstO vs n) ∧ ¬ X' a
  d : K = true → ∀ a ob es n, h.get? a = some ob → ob.data = .dict es n → ¬ X a → h'.get? a = some ob ∧ ¬ X' a
mutual
theorem Rep.go {L K : Bool} {v : Value} {d : D} (g : Go L K X X' h h') : Rep prog w X h v d → within L K d = true → Rep prog w X' h' v d
  | .none, _ => .none
  | .bool b, _ => .bool b
  | .int i t, _ => .int i t
  | .str x t, _ => .str x t
  | .tuple n e r, q => .tuple (g.t _ _ _ e n).2 (g.t _ _ _ e n).1 (RepAll.go g r q)
  | .list n e r, q => have q := Bool.and_eq_true_iff.mp q; .list (g.l q.1 _ _ _ e n).2 (g.l q.1 _ _ _ e n).1 (RepAll.go g r q.2)
  | .dict n e r, q => by
    obtain ⟨o, es, m, e, c, f, z⟩ := e
    exact .dict (g.d q _ _ _ _ e f n).2 ⟨o, es, m, (g.d q _ _ _ _ e f n).1, c, f, z⟩ r
theorem RepAll.go {L K : Bool} {vs : List Value} {ds : List D} (g : Go L K X X' h h') : RepAll prog w X h vs ds → withins L K ds = true → RepAll prog w X' h' vs ds
  | .nil, _ => .nil
  | .cons r rs, q => have q := Bool.and_eq_true_iff.mp q; .cons (Rep.go g r q.1) (RepAll.go g rs q.2)
end
mutual
theorem within_all : ∀ d : D, within true true d = true
  | .tuple xs => withins_all xs
  | .list xs => Bool.and_eq_true_iff.mpr ⟨rfl, withins_all xs⟩
  | .dict _ => rfl
  | .none => rfl
  | .bool _ => rfl
  | .int _ => rfl
  | .str _ => rfl
theorem withins_all : ∀ l : List D, withins true true l = true
  | [] => rfl
  | x :: xs => Bool.and_eq_true_iff.mpr ⟨within_all x, withins_all xs⟩
end
theorem Keep.go (k : Keep X h h') : Go true true X X h h' := ⟨fun _ _ _ e n => ⟨k _ _ e n, n⟩, fun _ _ _ _ e n => ⟨k _ _ e n, n⟩, fun _ _ _ _ _ e _ n => ⟨k _ _ e n, n⟩⟩
theorem Rep.mono {v : Value} {d : D} (k : Keep X h h') (r : Rep prog w X h v d) : Rep prog w X h' v d := r.go k.go (within_all d)
theorem RepAll.mono {vs : List Value} {ds : List D} (k : Keep X h h') (r : RepAll prog w X h vs ds) : RepAll prog w X h' vs ds := r.go k.go (withins_all ds)
theorem Rep.ext {v : Value} {d : D} (r : Rep prog w X h v d) (k : Ext h h') : Rep prog w X h' v d := r.mono (k.keep _)
theorem RepAll.ext {vs : List Value} {ds : List D} (r : RepAll prog w X h vs ds) (k : Ext h h') : RepAll prog w X h' vs ds := r.mono (k.keep _)
theorem goAvoid (k : ∀ a o, h.get? a = some o → ¬ X a → ¬ X' a) : Go true true X X' h h := ⟨fun _ _ _ e n => ⟨e, k _ _ e n⟩, fun _ _ _ _ e n => ⟨e, k _ _ e n⟩, fun _ _ _ _ _ e _ n => ⟨e, k _ _ e n⟩⟩
theorem Rep.avoid {v : Value} {d : D} (k : ∀ a o, h.get? a = some o → ¬ X a → ¬ X' a) (r : Rep prog w X h v d) : Rep prog w X' h v d := r.go (goAvoid k) (within_all d)
theorem RepAll.avoid {vs : List Value} {ds : List D} (k : ∀ a o, h.get? a = some o → ¬ X a → ¬ X' a) (r : RepAll prog w X h vs ds) : RepAll prog w X' h vs ds := r.go (goAvoid k) (withins_all ds)
theorem Rep.less {v : Value} {d : D} (k : ∀ a, X' a → X a) (r : Rep prog w X h v d) : Rep prog w X' h v d := r.avoid fun a _ _ n q => n (k a q)
theorem RepAll.less {vs : List Value} {ds : List D} (k : ∀ a, X' a → X a) (r : RepAll prog w X h vs ds) : RepAll prog w X' h vs ds := r.avoid fun a _ _ n q => n (k a q)
theorem Rep.int_inv {v : Value} {i : Int} : Rep prog w X h v (.int i) → ∃ t, v = .int i t
  | .int _ t => ⟨t, rfl⟩
theorem Rep.str_inv {v : Value} {i : Str} : Rep prog w X h v (.str i) → ∃ t, v = .str i t
  | .str _ t => ⟨t, rfl⟩
theorem Rep.bool_inv {v : Value} {i : Bool} : Rep prog w X h v (.bool i) → v = .bool i
  | .bool _ => rfl
theorem Rep.tuple_inv {v : Value} {l : List D} : Rep prog w X h v (.tuple l) → ∃ c vs n, v = .ref c ∧ ¬ X c ∧ h.get? c = some (tupO vs n) ∧ RepAll prog w X h vs l
  | .tuple a b c => ⟨_, _, _, rfl, a, b, c⟩
theorem Rep.list_inv {v : Value} {l : List D} : Rep prog w X h v (.list l) → ∃ c vs n, v = .ref c ∧ ¬ X c ∧ h.get? c = some (lstO vs n) ∧ RepAll prog w X h vs l
  | .list a b c => ⟨_, _, _, rfl, a, b, c⟩
theorem Rep.dict_inv {v : Value} {l : List (D × D)} : Rep prog w X h v (.dict l) → ∃ c es, v = .ref c ∧ ¬ X c ∧ h.DictOf (strKind prog w) c es ∧ PairsAre es l
  | .dict a b c => ⟨_, _, rfl, a, b, c⟩
theorem RepAll.length {vs : List Value} {ds : List D} (r : RepAll prog w X h vs ds) : vs.length = ds.length := by
  induction ds generalizing vs with
  | nil => cases r; rfl
  | cons d ds ih => cases r with | cons a b => exact congrArg Nat.succ (ih b)
theorem RepAll.get {vs : List Value} {ds : List D} (r : RepAll prog w X h vs ds) {i : Nat} {d : D} (e : ds[i]? = some d) : ∃ v, vs[i]? = some v ∧ Rep prog w X h v d := by
  induction ds generalizing vs i with
  | nil => cases e
  | cons x ds ih =>
    cases r with
    | cons a b =>
      cases i with
      | zero => cases e; exact ⟨_, rfl, a⟩
      | succ i => exact ih b e
theorem RepAll.append {vs ws : List Value} {ds es : List D} (r : RepAll prog w X h vs ds) (q : RepAll prog w X h ws es) : RepAll prog w X h (vs ++ ws) (ds ++ es) := by
  induction ds generalizing vs with
  | nil => cases r; exact q
  | cons d ds ih => cases r with | cons a b => exact .cons a (ih b)
theorem RepAll.drop (k : Nat) {vs : List Value} {ds : List D} (r : RepAll prog w X h vs ds) : RepAll prog w X h (vs.drop k) (ds.drop k) := by
  induction k generalizing vs ds with
  | zero => exact r
  | succ k ih => cases r with
    | nil => exact .nil
    | cons a b => exact ih b
theorem RepAll.take (k : Nat) {vs : List Value} {ds : List D} (r : RepAll prog w X h vs ds) : RepAll prog w X h (vs.take k) (ds.take k) := by
  induction k generalizing vs ds with
  | zero => exact .nil
  | succ k ih => cases r with
    | nil => exact .nil
    | cons a b => exact .cons a (ih b)
mutual
theorem Rep.reads {v : Value} {d : D} : Rep prog w X h v d → d.canLay0 = true → ∃ as, Reads h v d as
  | .none, _ => ⟨_, .none⟩
  | .bool b, _ => ⟨_, .bool b⟩
  | .int i t, _ => ⟨_, .int i t⟩
  | .str x t, _ => ⟨_, .str x t⟩
  | .tuple _ e r, c => let ⟨as, q⟩ := RepAll.reads r (by simpa [PyData.canLay0] using c); ⟨_, .tuple e rfl rfl (by simpa using q)⟩
  | .list _ e r, c => let ⟨as, q⟩ := RepAll.reads r (by simpa [PyData.canLay0] using c); ⟨_, .list e rfl rfl (by simpa using q)⟩
  | .dict _ _ _, c => by simp [PyData.canLay0] at c
theorem RepAll.reads {vs : List Value} {ds : List D} : RepAll prog w X h vs ds → PyData.canLayAll0 ds = true → ∃ as, ReadsAll h vs ds as
  | .nil, _ => ⟨_, .nil⟩
  | .cons r rs, c => by
    have c' := c
    simp only [PyData.canLayAll0, Bool.and_eq_true] at c'
    obtain ⟨as, q⟩ := Rep.reads r c'.1
    obtain ⟨bs, q'⟩ := RepAll.reads rs c'.2
    exact ⟨_, .cons q q'⟩
end

noncomputable def RepO (prog : Program) (w : World) (X : Addr → Prop) (h : Heap) (v : Value) (d : D) : Prop := match d with
  | .list l => ∃ c vs n, v = .ref c ∧ h.get? c = some (lstO vs n) ∧ RepAll prog w X h vs l
  | .dict kv => ∃ c es, v = .ref c ∧ (c == sysModules) = false ∧ h.DictOf (strKind prog w) c es ∧ PairsAre es kv
  | d => Rep prog w X h v d
theorem Rep.o {v : Value} {d : D} (hs : X sysModules) (r : Rep prog w X h v d) : RepO prog w X h v d := by
  cases d with
  | list l => obtain ⟨c, vs, n, e, _, hg, rl⟩ := r.list_inv; exact ⟨c, vs, n, e, hg, rl⟩
  | dict kv =>
    obtain ⟨c, es, e, nx, hg, rl⟩ := r.dict_inv
    exact ⟨c, es, e, by rw [beq_eq_false_iff_ne]; intro q; exact nx (q ▸ hs), hg, rl⟩
  | _ => exact r
theorem RepO.int_inv {v : Value} {i : Int} (r : RepO prog w X h v (.int i)) : ∃ t, v = .int i t := Rep.int_inv (X := X) (h := h) (prog := prog) (w := w) r
theorem RepO.str_inv {v : Value} {i : Str} (r : RepO prog w X h v (.str i)) : ∃ t, v = .str i t := Rep.str_inv (X := X) (h := h) (prog := prog) (w := w) r
theorem RepO.bool_inv {v : Value} {i : Bool} (r : RepO prog w X h v (.bool i)) : v = .bool i := Rep.bool_inv (X := X) (h := h) (prog := prog) (w := w) r
theorem RepO.none_inv {v : Value} (r : RepO prog w X h v .none) : v = .none := by
  have r' : Rep prog w X h v .none := r
  cases r'; rfl
theorem RepO.tuple_inv {v : Value} {l : List D} (r : RepO prog w X h v (.tuple l)) : ∃ c vs n, v = .ref c ∧ ¬ X c ∧ h.get? c = some (tupO vs n) ∧ RepAll prog w X h vs l := Rep.tuple_inv (X := X) (h := h) (prog := prog) (w := w) r
theorem RepO.list_inv {v : Value} {l : List D} (r : RepO prog w X h v (.list l)) : ∃ c vs n, v = .ref c ∧ h.get? c = some (lstO vs n) ∧ RepAll prog w X h vs l := r
theorem RepO.dict_inv {v : Value} {l : List (D × D)} (r : RepO prog w X h v (.dict l)) : ∃ c es, v = .ref c ∧ (c == sysModules) = false ∧ h.DictOf (strKind prog w) c es ∧ PairsAre es l := r
theorem RepO.ext {v : Value} {d : D} (r : RepO prog w X h v d) (k : Ext h h') : RepO prog w X h' v d := by
  cases d with
  | list l => obtain ⟨c, vs, n, e, hg, rl⟩ := r.list_inv; exact ⟨c, vs, n, e, k _ _ hg, rl.ext k⟩
  | dict kv => obtain ⟨c, es, e, nx, hg, rl⟩ := r.dict_inv; exact ⟨c, es, e, nx, dictOf_keep hg fun o q => k _ o q, rl⟩
  | _ => exact Rep.ext (X := X) (prog := prog) (w := w) r k
theorem RepO.reads {v : Value} {d : D} (r : RepO prog w X h v d) (c : d.canLay0 = true) : ∃ as, Reads h v d as := by
  cases d with
  | list l =>
    obtain ⟨a, vs, n, rfl, hg, rl⟩ := r.list_inv
    obtain ⟨as, q⟩ := RepAll.reads rl (by simpa [PyData.canLay0] using c)
    exact ⟨_, .list hg rfl rfl (by simpa using q)⟩
  | dict kv => simp [PyData.canLay0] at c
  | _ => exact Rep.reads (X := X) (prog := prog) (w := w) r c
end
end Mine
-- MMatch
set_option autoImplicit false
set_option linter.all false
namespace Mine
open PySem

structure MC where
  slots : List Str
  fnames : List Str
  gnames : List Str
  scope : Scope
  pin : Option Nat := none
noncomputable def dbg : Str := "__debug__"
noncomputable def isLoc (C : MC) (i : Nat) (x : Str) : Bool := C.slots[i]? == some x && (C.scope.names.lookup x == some .local) && !(x == dbg)
noncomputable def isSt (C : MC) (i : Nat) (x : Str) : Bool := isLoc C i x && !(C.pin == some i)
noncomputable def isGl (C : MC) (x : Str) : Bool := (C.scope.names.lookup x == some .globalImplicit) && !(x == dbg)
noncomputable def b1Name : B1 → Str
  | .len => "len" | .int => "int" | .str => "str" | .abs => "abs" | .list => "list" | .tuple => "tuple" | .dict => "dict" | .sum => "sum"
noncomputable def b2Name : B2 → Str
  | .min => "min" | .max => "max"
noncomputable def tyName : Ty → Str
  | .int => "int" | .bool => "bool" | .str => "str" | .tuple => "tuple" | .list => "list"
  | .unset => "Unset" | .nought => "ByNought" | .great => "TooGreat" | .bad => "BadText" | .valueError => "ValueError"
noncomputable def plainTy : Ty → Bool
  | .int | .bool | .str | .tuple | .list => true
  | _ => false
noncomputable def compScope (s : Scope) (v f : Str) : Bool :=
  s.kind == .function && !s.isGenerator && !s.isCoroutine && !(v == dbg) && !(f == dbg) &&
  (s.names.lookup v == some .local) && (s.names.lookup f == some .globalImplicit) &&
  s.names.all (fun p => !(p.2 == .cell) && !(p.2 == .free) && (!(p.2 == .local) || s.names.lookup p.1 == some .local)) && s.more.isEmpty
noncomputable def wName (E0 : PySem.Expr) (K0 : Str → Pos → Bool) : Bool := match E0 with | .Name x p => K0 x p | _ => false
theorem wName_inv {E0 : PySem.Expr} {K0 : Str → Pos → Bool} (h : wName E0 K0 = true) : ∃ x p, E0 = .Name x p ∧ K0 x p = true := by
  cases E0 <;> first | exact ⟨_, _, rfl, h⟩ | exact Bool.noConfusion h
noncomputable def wConst (E0 : PySem.Expr) (K0 : Const → Nat → Pos → Bool) : Bool := match E0 with | .Constant c n p => K0 c n p | _ => false
theorem wConst_inv {E0 : PySem.Expr} {K0 : Const → Nat → Pos → Bool} (h : wConst E0 K0 = true) : ∃ c n p, E0 = .Constant c n p ∧ K0 c n p = true := by
  cases E0 <;> first | exact ⟨_, _, _, rfl, h⟩ | exact Bool.noConfusion h
noncomputable def wBin (E0 : PySem.Expr) (K0 : Expr → Operator → Expr → Pos → Bool) : Bool := match E0 with | .BinOp l o r p => K0 l o r p | _ => false
theorem wBin_inv {E0 : PySem.Expr} {K0 : Expr → Operator → Expr → Pos → Bool} (h : wBin E0 K0 = true) : ∃ l o r p, E0 = .BinOp l o r p ∧ K0 l o r p = true := by
  cases E0 <;> first | exact ⟨_, _, _, _, rfl, h⟩ | exact Bool.noConfusion h
noncomputable def wUn (E0 : PySem.Expr) (K0 : UnaryOp → Expr → Pos → Bool) : Bool := match E0 with | .UnaryOp o x p => K0 o x p | _ => false
theorem wUn_inv {E0 : PySem.Expr} {K0 : UnaryOp → Expr → Pos → Bool} (h : wUn E0 K0 = true) : ∃ o x p, E0 = .UnaryOp o x p ∧ K0 o x p = true := by
  cases E0 <;> first | exact ⟨_, _, _, rfl, h⟩ | exact Bool.noConfusion h
noncomputable def wBool (E0 : PySem.Expr) (K0 : BoolOp → List Expr → Pos → Bool) : Bool := match E0 with | .BoolOp o l p => K0 o l p | _ => false
theorem wBool_inv {E0 : PySem.Expr} {K0 : BoolOp → List Expr → Pos → Bool} (h : wBool E0 K0 = true) : ∃ o l p, E0 = .BoolOp o l p ∧ K0 o l p = true := by
  cases E0 <;> first | exact ⟨_, _, _, rfl, h⟩ | exact Bool.noConfusion h
noncomputable def wCmp (E0 : PySem.Expr) (K0 : Expr → List CmpOp → List Expr → Pos → Bool) : Bool := match E0 with | .Compare l os rs p => K0 l os rs p | _ => false
theorem wCmp_inv {E0 : PySem.Expr} {K0 : Expr → List CmpOp → List Expr → Pos → Bool} (h : wCmp E0 K0 = true) : ∃ l os rs p, E0 = .Compare l os rs p ∧ K0 l os rs p = true := by
  cases E0 <;> first | exact ⟨_, _, _, _, rfl, h⟩ | exact Bool.noConfusion h
noncomputable def wCall (E0 : PySem.Expr) (K0 : Expr → List Expr → List Keyword → Pos → Bool) : Bool := match E0 with | .Call f as ks p => K0 f as ks p | _ => false
theorem wCall_inv {E0 : PySem.Expr} {K0 : Expr → List Expr → List Keyword → Pos → Bool} (h : wCall E0 K0 = true) : ∃ f as ks p, E0 = .Call f as ks p ∧ K0 f as ks p = true := by
  cases E0 <;> first | exact ⟨_, _, _, _, rfl, h⟩ | exact Bool.noConfusion h
noncomputable def wAttr (E0 : PySem.Expr) (K0 : Expr → Str → Pos → Bool) : Bool := match E0 with | .Attribute v n p => K0 v n p | _ => false
theorem wAttr_inv {E0 : PySem.Expr} {K0 : Expr → Str → Pos → Bool} (h : wAttr E0 K0 = true) : ∃ v n p, E0 = .Attribute v n p ∧ K0 v n p = true := by
  cases E0 <;> first | exact ⟨_, _, _, rfl, h⟩ | exact Bool.noConfusion h
noncomputable def wSub (E0 : PySem.Expr) (K0 : Expr → Expr → Pos → Bool) : Bool := match E0 with | .Subscript v s p => K0 v s p | _ => false
theorem wSub_inv {E0 : PySem.Expr} {K0 : Expr → Expr → Pos → Bool} (h : wSub E0 K0 = true) : ∃ v s p, E0 = .Subscript v s p ∧ K0 v s p = true := by
  cases E0 <;> first | exact ⟨_, _, _, rfl, h⟩ | exact Bool.noConfusion h
noncomputable def wSlice (E0 : PySem.Expr) (K0 : Option Expr → Option Expr → Option Expr → Pos → Bool) : Bool := match E0 with | .Slice l u s p => K0 l u s p | _ => false
theorem wSlice_inv {E0 : PySem.Expr} {K0 : Option Expr → Option Expr → Option Expr → Pos → Bool} (h : wSlice E0 K0 = true) : ∃ l u s p, E0 = .Slice l u s p ∧ K0 l u s p = true := by
  cases E0 <;> first | exact ⟨_, _, _, _, rfl, h⟩ | exact Bool.noConfusion h
noncomputable def wTuple (E0 : PySem.Expr) (K0 : List Expr → Nat → Pos → Bool) : Bool := match E0 with | .Tuple es k p => K0 es k p | _ => false
theorem wTuple_inv {E0 : PySem.Expr} {K0 : List Expr → Nat → Pos → Bool} (h : wTuple E0 K0 = true) : ∃ es k p, E0 = .Tuple es k p ∧ K0 es k p = true := by
  cases E0 <;> first | exact ⟨_, _, _, rfl, h⟩ | exact Bool.noConfusion h
noncomputable def wList (E0 : PySem.Expr) (K0 : List Expr → Pos → Bool) : Bool := match E0 with | .List es p => K0 es p | _ => false
theorem wList_inv {E0 : PySem.Expr} {K0 : List Expr → Pos → Bool} (h : wList E0 K0 = true) : ∃ es p, E0 = .List es p ∧ K0 es p = true := by
  cases E0 <;> first | exact ⟨_, _, rfl, h⟩ | exact Bool.noConfusion h
noncomputable def wComp (E0 : PySem.Expr) (K0 : Expr → List Comprehension → Scope → Pos → Bool) : Bool := match E0 with | .ListComp e gs sc p => K0 e gs sc p | _ => false
theorem wComp_inv {E0 : PySem.Expr} {K0 : Expr → List Comprehension → Scope → Pos → Bool} (h : wComp E0 K0 = true) : ∃ e gs sc p, E0 = .ListComp e gs sc p ∧ K0 e gs sc p = true := by
  cases E0 <;> first | exact ⟨_, _, _, _, rfl, h⟩ | exact Bool.noConfusion h
noncomputable def sAssign (E0 : Stmt) (K0 : List Expr → Expr → Pos → Bool) : Bool := match E0 with | .Assign ts v p => K0 ts v p | _ => false
theorem sAssign_inv {E0 : Stmt} {K0 : List Expr → Expr → Pos → Bool} (h : sAssign E0 K0 = true) : ∃ ts v p, E0 = .Assign ts v p ∧ K0 ts v p = true := by
  cases E0 <;> first | exact ⟨_, _, _, rfl, h⟩ | exact Bool.noConfusion h
noncomputable def sExpr (E0 : Stmt) (K0 : Expr → Pos → Bool) : Bool := match E0 with | .Expr v p => K0 v p | _ => false
theorem sExpr_inv {E0 : Stmt} {K0 : Expr → Pos → Bool} (h : sExpr E0 K0 = true) : ∃ v p, E0 = .Expr v p ∧ K0 v p = true := by
  cases E0 <;> first | exact ⟨_, _, rfl, h⟩ | exact Bool.noConfusion h
noncomputable def sIf (E0 : Stmt) (K0 : Expr → List Stmt → List Stmt → Pos → Bool) : Bool := match E0 with | .If t b e p => K0 t b e p | _ => false
theorem sIf_inv {E0 : Stmt} {K0 : Expr → List Stmt → List Stmt → Pos → Bool} (h : sIf E0 K0 = true) : ∃ t b e p, E0 = .If t b e p ∧ K0 t b e p = true := by
  cases E0 <;> first | exact ⟨_, _, _, _, rfl, h⟩ | exact Bool.noConfusion h
noncomputable def sFor (E0 : Stmt) (K0 : Expr → Expr → List Stmt → List Stmt → Pos → Bool) : Bool := match E0 with | .For t i b e p => K0 t i b e p | _ => false
theorem sFor_inv {E0 : Stmt} {K0 : Expr → Expr → List Stmt → List Stmt → Pos → Bool} (h : sFor E0 K0 = true) : ∃ t i b e p, E0 = .For t i b e p ∧ K0 t i b e p = true := by
  cases E0 <;> first | exact ⟨_, _, _, _, _, rfl, h⟩ | exact Bool.noConfusion h
noncomputable def sWhile (E0 : Stmt) (K0 : Expr → List Stmt → List Stmt → Pos → Bool) : Bool := match E0 with | .While t b e p => K0 t b e p | _ => false
theorem sWhile_inv {E0 : Stmt} {K0 : Expr → List Stmt → List Stmt → Pos → Bool} (h : sWhile E0 K0 = true) : ∃ t b e p, E0 = .While t b e p ∧ K0 t b e p = true := by
  cases E0 <;> first | exact ⟨_, _, _, _, rfl, h⟩ | exact Bool.noConfusion h
noncomputable def sReturn (E0 : Stmt) (K0 : Option Expr → Pos → Bool) : Bool := match E0 with | .Return v p => K0 v p | _ => false
theorem sReturn_inv {E0 : Stmt} {K0 : Option Expr → Pos → Bool} (h : sReturn E0 K0 = true) : ∃ v p, E0 = .Return v p ∧ K0 v p = true := by
  cases E0 <;> first | exact ⟨_, _, rfl, h⟩ | exact Bool.noConfusion h
noncomputable def l0 {α : Type} (l : List α) (k : Bool) : Bool := match l with | [] => k | _ :: _ => false
theorem l0_inv {α : Type} {l : List α} {k : Bool} (h : l0 l k = true) : l = [] ∧ k = true := by
  cases l <;> first | exact ⟨rfl, h⟩ | exact Bool.noConfusion h
noncomputable def lc {α : Type} (l : List α) (k : α → List α → Bool) : Bool := match l with | [] => false | x :: xs => k x xs
theorem lc_inv {α : Type} {l : List α} {k : α → List α → Bool} (h : lc l k = true) : ∃ x xs, l = x :: xs ∧ k x xs = true := by
  cases l <;> first | exact ⟨_, _, rfl, h⟩ | exact Bool.noConfusion h
noncomputable def l1 {α : Type} (l : List α) (k : α → Bool) : Bool := lc l fun x r => l0 r (k x)
theorem l1_inv {α : Type} {l : List α} {k : α → Bool} (h : l1 l k = true) : ∃ x, l = [x] ∧ k x = true := by
  obtain ⟨x, xs, rfl, h⟩ := lc_inv h
  obtain ⟨rfl, h⟩ := l0_inv h
  exact ⟨x, rfl, h⟩
noncomputable def l2 {α : Type} (l : List α) (k : α → α → Bool) : Bool := lc l fun x r => l1 r (k x)
theorem l2_inv {α : Type} {l : List α} {k : α → α → Bool} (h : l2 l k = true) : ∃ x y, l = [x, y] ∧ k x y = true := by
  obtain ⟨x, xs, rfl, h⟩ := lc_inv h
  obtain ⟨y, rfl, h⟩ := l1_inv h
  exact ⟨x, y, rfl, h⟩
noncomputable def o1 {α : Type} (l : Option α) (k : α → Bool) : Bool := match l with | some x => k x | none => false
theorem o1_inv {α : Type} {l : Option α} {k : α → Bool} (h : o1 l k = true) : ∃ x, l = some x ∧ k x = true := by
  cases l <;> first | exact ⟨_, rfl, h⟩ | exact Bool.noConfusion h
noncomputable def o0 {α : Type} (l : Option α) (k : Bool) : Bool := match l with | some _ => false | none => k
theorem o0_inv {α : Type} {l : Option α} {k : Bool} (h : o0 l k = true) : l = none ∧ k = true := by
  cases l <;> first | exact ⟨rfl, h⟩ | exact Bool.noConfusion h
noncomputable def cInt (c : Const) (k : Int → Bool) : Bool := match c with | .int j => k j | _ => false
theorem cInt_inv {c : Const} {k : Int → Bool} (h : cInt c k = true) : ∃ j, c = .int j ∧ k j = true := by
  cases c <;> first | exact ⟨_, rfl, h⟩ | exact Bool.noConfusion h
noncomputable def cStr (c : Const) (k : Str → Bool) : Bool := match c with | .str j => k j | _ => false
theorem cStr_inv {c : Const} {k : Str → Bool} (h : cStr c k = true) : ∃ j, c = .str j ∧ k j = true := by
  cases c <;> first | exact ⟨_, rfl, h⟩ | exact Bool.noConfusion h
noncomputable def cBool (c : Const) (k : Bool → Bool) : Bool := match c with | .bool j => k j | _ => false
theorem cBool_inv {c : Const} {k : Bool → Bool} (h : cBool c k = true) : ∃ j, c = .bool j ∧ k j = true := by
  cases c <;> first | exact ⟨_, rfl, h⟩ | exact Bool.noConfusion h
noncomputable def uSub (c : UnaryOp) (k : Bool) : Bool := match c with | .USub => k | _ => false
theorem uSub_inv {c : UnaryOp} {k : Bool} (h : uSub c k = true) : c = .USub ∧ k = true := by
  cases c <;> first | exact ⟨rfl, h⟩ | exact Bool.noConfusion h
noncomputable def uNot (c : UnaryOp) (k : Bool) : Bool := match c with | .Not => k | _ => false
theorem uNot_inv {c : UnaryOp} {k : Bool} (h : uNot c k = true) : c = .Not ∧ k = true := by
  cases c <;> first | exact ⟨rfl, h⟩ | exact Bool.noConfusion h
noncomputable def bAnd (c : BoolOp) (k : Bool) : Bool := match c with | .And => k | _ => false
theorem bAnd_inv {c : BoolOp} {k : Bool} (h : bAnd c k = true) : c = .And ∧ k = true := by
  cases c <;> first | exact ⟨rfl, h⟩ | exact Bool.noConfusion h
noncomputable def bOr (c : BoolOp) (k : Bool) : Bool := match c with | .Or => k | _ => false
theorem bOr_inv {c : BoolOp} {k : Bool} (h : bOr c k = true) : c = .Or ∧ k = true := by
  cases c <;> first | exact ⟨rfl, h⟩ | exact Bool.noConfusion h
noncomputable def tailB (o : BoolOp) (y : PySem.Expr) (zs : List PySem.Expr) (p : Pos) : PySem.Expr := match zs with | [] => y | z :: r => .BoolOp o (y :: z :: r) p
mutual
noncomputable def matchE (C : MC) : ME → PySem.Expr → Bool
  | .var i, e => (wName e fun x p => isLoc C i x)
  | .own i, e => (wName e fun x p => isLoc C i x)
  | .glob g, e => (wName e fun x p => C.gnames[g]? == some x && isGl C x)
  | .cint i, e => (wConst e fun c n p => cInt c fun j => i == j)
  | .cstr i, e => (wConst e fun c n p => cStr c fun j => i == j)
  | .cbool i, e => (wConst e fun c n p => cBool c fun j => i == j)
  | .bin op a b, e => (wBin e fun l o r p => op == o && matchE C a l && matchE C b r)
  | .neg a, e => (wUn e fun o x p => uSub o <| matchE C a x)
  | .nt a, e => (wUn e fun o x p => uNot o <| matchE C a x)
  | .and a b, e => (wBool e fun o l p => bAnd o <| lc l fun x r => lc r fun y zs => matchE C a x && matchE C b (tailB .And y zs p))
  | .or a b, e => (wBool e fun o l p => bOr o <| lc l fun x r => lc r fun y zs => matchE C a x && matchE C b (tailB .Or y zs p))
  | .cmp op a b, e => (wCmp e fun l os rs p => l1 os fun o => l1 rs fun r => op == o && matchE C a l && matchE C b r)
  | .call f as, e => (wCall e fun fn l ks p => l0 ks <| wName fn fun x px => lc l fun a args => C.fnames[f]? == some x && isGl C x && matchEs C as (a :: args) && decide (args.length < 20))
  | .bi1 b a, e => (wCall e fun fn l ks p => l0 ks <| wName fn fun x px => l1 l fun y => x == b1Name b && isGl C x && matchE C a y)
  | .bi2 b a c, e => (wCall e fun fn l ks p => l0 ks <| wName fn fun x px => l2 l fun y z => x == b2Name b && isGl C x && matchE C a y && matchE C c z)
  | .maxd a, e => (wCall e fun fn l ks p => l1 ks fun kw => wName fn fun x px => l1 l fun y => o1 kw.arg fun k => wConst kw.value fun c n p2 => cInt c fun j => j == 0 && x == ("max" : Str) && isGl C x && k == ("default" : Str) && matchE C a y)
  | .isi a t, e => (wCall e fun fn l ks p => l0 ks <| wName fn fun x px => l2 l fun y zz => wName zz fun z pz => x == ("isinstance" : Str) && isGl C x && matchE C a y && plainTy t && z == tyName t && isGl C z)
  | .find a b, e => (wCall e fun fn l ks cp => l0 ks <| wAttr fn fun o n ap => l1 l fun y => (ap.endLine == cp.line) && n == ("find" : Str) && matchE C a o && matchE C b y)
  | .idx a i, e => (wSub e fun v s p => matchE C a v && matchE C i s)
  | .slice a lo hi, e => (wSub e fun v sl p => wSlice sl fun l u st ps => o0 st <| matchE C a v && matchO C lo l && matchO C hi u)
  | .tupD as, e => (wTuple e fun es k p => matchEs C as es)
  | .lstD as, e => (wList e fun es p => matchEs C as es)
  | .comp f a, e => (wComp e fun el gs sc p => wCall el fun fn l ks pc => l0 ks <| wName fn fun x px => l1 l fun yy => wName yy fun y py => l1 gs fun g => wName g.target fun z pz => l0 g.ifs <| g.is_async == 0 && C.fnames[f]? == some x && y == z && compScope sc y x && matchE C a g.iter)
noncomputable def matchEs (C : MC) : MEs → List PySem.Expr → Bool
  | .nil, l => l.isEmpty
  | .cons a as, l => lc l fun e es => matchE C a e && matchEs C as es
noncomputable def matchO (C : MC) : MO → Option PySem.Expr → Bool
  | .none, e => e.isNone
  | .some a, e => o1 e fun x => matchE C a x
end

noncomputable def notComp : ME → Bool
  | .comp _ _ => false
  | _ => true
noncomputable def isZero : ME → Bool
  | .cint i => i == 0
  | _ => false
theorem inv_var {C : MC} {i : Nat} {E0 : PySem.Expr} (h : matchE C (.var i) E0 = true) : ∃ x p, E0 = .Name x p ∧ (isLoc C i x) = true := by
  obtain ⟨x, p, e1, h1⟩ := wName_inv h
  exact ⟨x, p, by rw [e1], h1⟩
theorem inv_own {C : MC} {i : Nat} {E0 : PySem.Expr} (h : matchE C (.own i) E0 = true) : ∃ x p, E0 = .Name x p ∧ (isLoc C i x) = true := by
  obtain ⟨x, p, e1, h1⟩ := wName_inv h
  exact ⟨x, p, by rw [e1], h1⟩
theorem inv_glob {C : MC} {g : Nat} {E0 : PySem.Expr} (h : matchE C (.glob g) E0 = true) : ∃ x p, E0 = .Name x p ∧ (C.gnames[g]? == some x && isGl C x) = true := by
  obtain ⟨x, p, e1, h1⟩ := wName_inv h
  exact ⟨x, p, by rw [e1], h1⟩
theorem inv_cint {C : MC} {i : Int} {E0 : PySem.Expr} (h : matchE C (.cint i) E0 = true) : ∃ j n p, E0 = .Constant (.int j) n p ∧ (i == j) = true := by
  obtain ⟨c, n, p, e1, h1⟩ := wConst_inv h
  obtain ⟨j, e2, h2⟩ := cInt_inv h1
  exact ⟨j, n, p, by rw [e1, e2], h2⟩
theorem inv_cstr {C : MC} {i : Str} {E0 : PySem.Expr} (h : matchE C (.cstr i) E0 = true) : ∃ j n p, E0 = .Constant (.str j) n p ∧ (i == j) = true := by
  obtain ⟨c, n, p, e1, h1⟩ := wConst_inv h
  obtain ⟨j, e2, h2⟩ := cStr_inv h1
  exact ⟨j, n, p, by rw [e1, e2], h2⟩
theorem inv_cbool {C : MC} {i : Bool} {E0 : PySem.Expr} (h : matchE C (.cbool i) E0 = true) : ∃ j n p, E0 = .Constant (.bool j) n p ∧ (i == j) = true := by
  obtain ⟨c, n, p, e1, h1⟩ := wConst_inv h
  obtain ⟨j, e2, h2⟩ := cBool_inv h1
  exact ⟨j, n, p, by rw [e1, e2], h2⟩
theorem inv_bin {C : MC} {op : Operator} {a b : ME} {E0 : PySem.Expr} (h : matchE C (.bin op a b) E0 = true) : ∃ l o r p, E0 = .BinOp l o r p ∧ (op == o && matchE C a l && matchE C b r) = true := by
  obtain ⟨l, o, r, p, e1, h1⟩ := wBin_inv h
  exact ⟨l, o, r, p, by rw [e1], h1⟩
theorem inv_neg {C : MC} {a : ME} {E0 : PySem.Expr} (h : matchE C (.neg a) E0 = true) : ∃ x p, E0 = .UnaryOp .USub x p ∧ (matchE C a x) = true := by
  obtain ⟨o, x, p, e1, h1⟩ := wUn_inv h
  obtain ⟨e2, h2⟩ := uSub_inv h1
  exact ⟨x, p, by rw [e1, e2], h2⟩
theorem inv_nt {C : MC} {a : ME} {E0 : PySem.Expr} (h : matchE C (.nt a) E0 = true) : ∃ x p, E0 = .UnaryOp .Not x p ∧ (matchE C a x) = true := by
  obtain ⟨o, x, p, e1, h1⟩ := wUn_inv h
  obtain ⟨e2, h2⟩ := uNot_inv h1
  exact ⟨x, p, by rw [e1, e2], h2⟩
theorem inv_and {C : MC} {a b : ME} {E0 : PySem.Expr} (h : matchE C (.and a b) E0 = true) : ∃ x y zs p, E0 = .BoolOp .And (x :: y :: zs) p ∧ (matchE C a x && matchE C b (tailB .And y zs p)) = true := by
  obtain ⟨o, l, p, e1, h1⟩ := wBool_inv h
  obtain ⟨e2, h2⟩ := bAnd_inv h1
  obtain ⟨x, r, e3, h3⟩ := lc_inv h2
  obtain ⟨y, zs, e4, h4⟩ := lc_inv h3
  exact ⟨x, y, zs, p, by rw [e1, e2, e3, e4], h4⟩
theorem inv_or {C : MC} {a b : ME} {E0 : PySem.Expr} (h : matchE C (.or a b) E0 = true) : ∃ x y zs p, E0 = .BoolOp .Or (x :: y :: zs) p ∧ (matchE C a x && matchE C b (tailB .Or y zs p)) = true := by
  obtain ⟨o, l, p, e1, h1⟩ := wBool_inv h
  obtain ⟨e2, h2⟩ := bOr_inv h1
  obtain ⟨x, r, e3, h3⟩ := lc_inv h2
  obtain ⟨y, zs, e4, h4⟩ := lc_inv h3
  exact ⟨x, y, zs, p, by rw [e1, e2, e3, e4], h4⟩
theorem inv_cmp {C : MC} {op : CmpOp} {a b : ME} {E0 : PySem.Expr} (h : matchE C (.cmp op a b) E0 = true) : ∃ l o r p, E0 = .Compare l [o] [r] p ∧ (op == o && matchE C a l && matchE C b r) = true := by
  obtain ⟨l, os, rs, p, e1, h1⟩ := wCmp_inv h
  obtain ⟨o, e2, h2⟩ := l1_inv h1
  obtain ⟨r, e3, h3⟩ := l1_inv h2
  exact ⟨l, o, r, p, by rw [e1, e2, e3], h3⟩
theorem inv_call {C : MC} {f : Nat} {as : MEs} {E0 : PySem.Expr} (h : matchE C (.call f as) E0 = true) : ∃ x px a args p, E0 = .Call (.Name x px) (a :: args) [] p ∧ (C.fnames[f]? == some x && isGl C x && matchEs C as (a :: args) && decide (args.length < 20)) = true := by
  obtain ⟨fn, l, ks, p, e1, h1⟩ := wCall_inv h
  obtain ⟨e2, h2⟩ := l0_inv h1
  obtain ⟨x, px, e3, h3⟩ := wName_inv h2
  obtain ⟨a, args, e4, h4⟩ := lc_inv h3
  exact ⟨x, px, a, args, p, by rw [e1, e2, e3, e4], h4⟩
theorem inv_bi1 {C : MC} {b : B1} {a : ME} {E0 : PySem.Expr} (h : matchE C (.bi1 b a) E0 = true) : ∃ x px y p, E0 = .Call (.Name x px) [y] [] p ∧ (x == b1Name b && isGl C x && matchE C a y) = true := by
  obtain ⟨fn, l, ks, p, e1, h1⟩ := wCall_inv h
  obtain ⟨e2, h2⟩ := l0_inv h1
  obtain ⟨x, px, e3, h3⟩ := wName_inv h2
  obtain ⟨y, e4, h4⟩ := l1_inv h3
  exact ⟨x, px, y, p, by rw [e1, e2, e3, e4], h4⟩
theorem inv_bi2 {C : MC} {b : B2} {a c : ME} {E0 : PySem.Expr} (h : matchE C (.bi2 b a c) E0 = true) : ∃ x px y z p, E0 = .Call (.Name x px) [y, z] [] p ∧ (x == b2Name b && isGl C x && matchE C a y && matchE C c z) = true := by
  obtain ⟨fn, l, ks, p, e1, h1⟩ := wCall_inv h
  obtain ⟨e2, h2⟩ := l0_inv h1
  obtain ⟨x, px, e3, h3⟩ := wName_inv h2
  obtain ⟨y, z, e4, h4⟩ := l2_inv h3
  exact ⟨x, px, y, z, p, by rw [e1, e2, e3, e4], h4⟩
theorem inv_isi {C : MC} {a : ME} {t : Ty} {E0 : PySem.Expr} (h : matchE C (.isi a t) E0 = true) : ∃ x px y z pz p, E0 = .Call (.Name x px) [y, .Name z pz] [] p ∧ (x == ("isinstance" : Str) && isGl C x && matchE C a y && plainTy t && z == tyName t && isGl C z) = true := by
  obtain ⟨fn, l, ks, p, e1, h1⟩ := wCall_inv h
  obtain ⟨e2, h2⟩ := l0_inv h1
  obtain ⟨x, px, e3, h3⟩ := wName_inv h2
  obtain ⟨y, zz, e4, h4⟩ := l2_inv h3
  obtain ⟨z, pz, e5, h5⟩ := wName_inv h4
  exact ⟨x, px, y, z, pz, p, by rw [e1, e2, e3, e4, e5], h5⟩
theorem inv_find {C : MC} {a b : ME} {E0 : PySem.Expr} (h : matchE C (.find a b) E0 = true) : ∃ o n ap y cp, E0 = .Call (.Attribute o n ap) [y] [] cp ∧ ((ap.endLine == cp.line) && n == ("find" : Str) && matchE C a o && matchE C b y) = true := by
  obtain ⟨fn, l, ks, cp, e1, h1⟩ := wCall_inv h
  obtain ⟨e2, h2⟩ := l0_inv h1
  obtain ⟨o, n, ap, e3, h3⟩ := wAttr_inv h2
  obtain ⟨y, e4, h4⟩ := l1_inv h3
  exact ⟨o, n, ap, y, cp, by rw [e1, e2, e3, e4], h4⟩
theorem inv_idx {C : MC} {a i : ME} {E0 : PySem.Expr} (h : matchE C (.idx a i) E0 = true) : ∃ v s p, E0 = .Subscript v s p ∧ (matchE C a v && matchE C i s) = true := by
  obtain ⟨v, s, p, e1, h1⟩ := wSub_inv h
  exact ⟨v, s, p, by rw [e1], h1⟩
theorem inv_slice {C : MC} {a : ME} {lo hi : MO} {E0 : PySem.Expr} (h : matchE C (.slice a lo hi) E0 = true) : ∃ v l u ps p, E0 = .Subscript v (.Slice l u none ps) p ∧ (matchE C a v && matchO C lo l && matchO C hi u) = true := by
  obtain ⟨v, sl, p, e1, h1⟩ := wSub_inv h
  obtain ⟨l, u, st, ps, e2, h2⟩ := wSlice_inv h1
  obtain ⟨e3, h3⟩ := o0_inv h2
  exact ⟨v, l, u, ps, p, by rw [e1, e2, e3], h3⟩
theorem inv_tupD {C : MC} {as : MEs} {E0 : PySem.Expr} (h : matchE C (.tupD as) E0 = true) : ∃ es k p, E0 = .Tuple es k p ∧ (matchEs C as es) = true := by
  obtain ⟨es, k, p, e1, h1⟩ := wTuple_inv h
  exact ⟨es, k, p, by rw [e1], h1⟩
theorem inv_lstD {C : MC} {as : MEs} {E0 : PySem.Expr} (h : matchE C (.lstD as) E0 = true) : ∃ es p, E0 = .List es p ∧ (matchEs C as es) = true := by
  obtain ⟨es, p, e1, h1⟩ := wList_inv h
  exact ⟨es, p, by rw [e1], h1⟩
theorem inv_maxd {C : MC} {a : ME} {e : PySem.Expr} (h : matchE C (.maxd a) e = true) : ∃ x px y kw p n p2, e = .Call (.Name x px) [y] [kw] p ∧ kw.arg = some ("default" : Str) ∧ kw.value = .Constant (.int 0) n p2 ∧ (x == ("max" : Str) && isGl C x && matchE C a y) = true := by
  obtain ⟨fn, l, ks, p, e1, h⟩ := wCall_inv h
  obtain ⟨kw, e2, h⟩ := l1_inv h
  obtain ⟨x, px, e3, h⟩ := wName_inv h
  obtain ⟨y, e4, h⟩ := l1_inv h
  obtain ⟨k, e5, h⟩ := o1_inv h
  obtain ⟨c, n, p2, e6, h⟩ := wConst_inv h
  obtain ⟨j, e7, h⟩ := cInt_inv h
  have h : (j == 0 && x == ("max" : Str) && isGl C x && k == ("default" : Str) && matchE C a y) = true := h
  obtain ⟨h, h3⟩ := Bool.and_eq_true_iff.mp h
  obtain ⟨h, h4⟩ := Bool.and_eq_true_iff.mp h
  obtain ⟨h, h2⟩ := Bool.and_eq_true_iff.mp h
  obtain ⟨h0, h1⟩ := Bool.and_eq_true_iff.mp h
  exact ⟨x, px, y, kw, p, n, p2, by rw [e1, e2, e3, e4], by rw [e5, beq_iff_eq.mp h4], by rw [e6, e7, beq_iff_eq.mp h0], Bool.and_eq_true_iff.mpr ⟨Bool.and_eq_true_iff.mpr ⟨h1, h2⟩, h3⟩⟩
theorem inv_comp {C : MC} {f : Nat} {a : ME} {e : PySem.Expr} (h : matchE C (.comp f a) e = true) : ∃ x px y py pc iter pz sc p, e = .ListComp (.Call (.Name x px) [.Name y py] [] pc) [⟨.Name y pz, iter, [], 0⟩] sc p ∧ (C.fnames[f]? == some x && compScope sc y x && matchE C a iter) = true := by
  obtain ⟨el, gs, sc, p, e1, h⟩ := wComp_inv h
  obtain ⟨fn, l, ks, pc, e2, h⟩ := wCall_inv h
  obtain ⟨e3, h⟩ := l0_inv h
  obtain ⟨x, px, e4, h⟩ := wName_inv h
  obtain ⟨yy, e5, h⟩ := l1_inv h
  obtain ⟨y, py, e6, h⟩ := wName_inv h
  obtain ⟨⟨gt, gi, gf, ga⟩, e7, h⟩ := l1_inv h
  obtain ⟨z, pz, e8, h⟩ := wName_inv h
  obtain ⟨e9, h⟩ := l0_inv h
  obtain ⟨h, h5⟩ := Bool.and_eq_true_iff.mp h
  obtain ⟨h, h4⟩ := Bool.and_eq_true_iff.mp h
  obtain ⟨h, h3⟩ := Bool.and_eq_true_iff.mp h
  obtain ⟨h1, h2⟩ := Bool.and_eq_true_iff.mp h
  have e8 : gt = .Name y pz := by rw [beq_iff_eq.mp h3]; exact e8
  have e9 : gf = [] := e9
  have h1 : ga = 0 := beq_iff_eq.mp h1
  exact ⟨x, px, y, py, pc, gi, pz, sc, p, by rw [e1, e2, e3, e4, e5, e6, e7, e8, e9, h1], Bool.and_eq_true_iff.mpr ⟨Bool.and_eq_true_iff.mpr ⟨h2, h4⟩, h5⟩⟩
mutual
noncomputable def matchS (C : MC) : MS → Stmt → Bool
  | .skip, _ => false
  | .seq _ _, _ => false
  | .asg i e, st => (sAssign st fun ts v p => l1 ts fun t => wName t fun x px => isSt C i x && matchE C e v && notComp e)
  | .asgOwn i e, st => (sAssign st fun ts v p => l1 ts fun t => wName t fun x px => isSt C i x && matchE C e v && notComp e)
  | .asgFresh i f as, st => (sAssign st fun ts v p => l1 ts fun t => wName t fun x px => isSt C i x && matchE C (.call f as) v)
  | .append i e, st => (sExpr st fun c pos => wCall c fun fn l ks cp => l0 ks <| wAttr fn fun ob n ap => wName ob fun x px => l1 l fun y => (ap.endLine == cp.line) && isLoc C i x && n == ("append" : Str) && matchE C e y)
  | .callRef f as i, st => (sExpr st fun c pos => wCall c fun fn l ks cp => l0 ks <| wName fn fun x px => C.fnames[f]? == some x && isGl C x && matchEs C as l.dropLast && (o1 l.getLast? fun z => wName z fun y _ => isLoc C i y) && decide (l.length < 20) && decide (1 < l.length))
  | .ite c a b, st => (sIf st fun t x y p => matchE C c t && matchB C a x && matchB C b y)
  | .forL i e b, st => (sFor st fun t it body els p => l0 els <| wName t fun x px => isSt C i x && matchE C e it && matchB C b body)
  | .forR i lo hi b, st => (sFor st fun t it body els p => l0 els <| wName t fun x px => wCall it fun fn l ks pc => l0 ks <| wName fn fun r pr => lc l fun u us => isSt C i x && r == ("range" : Str) && isGl C r && matchB C b body && (l0 us (isZero lo && matchE C hi u) || l1 us fun v => matchE C lo u && matchE C hi v))
  | .forO j i t b, st => (sFor st fun tg it body els p => l0 els <| wName tg fun x px => wName it fun y py => l1 body fun bs => sIf bs fun te yes no pi => l0 no <| l1 yes fun rt => sReturn rt fun rv pr => o1 rv fun rw => wConst rw fun rc rn rp => cBool rc fun r => isSt C j x && isLoc C i y && matchE C t te && b == r)
  | .loop c b, st => (sWhile st fun t body els p => l0 els <| matchE C c t && matchB C b body)
  | .ret e, st => (sReturn st fun v p => o1 v fun w => matchE C e w)
noncomputable def matchB (C : MC) : MS → List Stmt → Bool
  | .skip, l => l.isEmpty
  | .seq a b, l => lc l fun st rest => matchS C a st && matchB C b rest
  | _, _ => false
end
theorem inv_asg {C : MC} {i : Nat} {e : ME} {E0 : Stmt} (h : matchS C (.asg i e) E0 = true) : ∃ x px v p, E0 = .Assign [.Name x px] v p ∧ (isSt C i x && matchE C e v && notComp e) = true := by
  obtain ⟨ts, v, p, e1, h1⟩ := sAssign_inv h
  obtain ⟨t, e2, h2⟩ := l1_inv h1
  obtain ⟨x, px, e3, h3⟩ := wName_inv h2
  exact ⟨x, px, v, p, by rw [e1, e2, e3], h3⟩
theorem inv_asgOwn {C : MC} {i : Nat} {e : ME} {E0 : Stmt} (h : matchS C (.asgOwn i e) E0 = true) : ∃ x px v p, E0 = .Assign [.Name x px] v p ∧ (isSt C i x && matchE C e v && notComp e) = true := by
  obtain ⟨ts, v, p, e1, h1⟩ := sAssign_inv h
  obtain ⟨t, e2, h2⟩ := l1_inv h1
  obtain ⟨x, px, e3, h3⟩ := wName_inv h2
  exact ⟨x, px, v, p, by rw [e1, e2, e3], h3⟩
theorem inv_asgFresh {C : MC} {i f : Nat} {as : MEs} {E0 : Stmt} (h : matchS C (.asgFresh i f as) E0 = true) : ∃ x px v p, E0 = .Assign [.Name x px] v p ∧ (isSt C i x && matchE C (.call f as) v) = true := by
  obtain ⟨ts, v, p, e1, h1⟩ := sAssign_inv h
  obtain ⟨t, e2, h2⟩ := l1_inv h1
  obtain ⟨x, px, e3, h3⟩ := wName_inv h2
  exact ⟨x, px, v, p, by rw [e1, e2, e3], h3⟩
theorem inv_append {C : MC} {i : Nat} {e : ME} {E0 : Stmt} (h : matchS C (.append i e) E0 = true) : ∃ x px n ap y cp pos, E0 = .Expr (.Call (.Attribute (.Name x px) n ap) [y] [] cp) pos ∧ ((ap.endLine == cp.line) && isLoc C i x && n == ("append" : Str) && matchE C e y) = true := by
  obtain ⟨c, pos, e1, h1⟩ := sExpr_inv h
  obtain ⟨fn, l, ks, cp, e2, h2⟩ := wCall_inv h1
  obtain ⟨e3, h3⟩ := l0_inv h2
  obtain ⟨ob, n, ap, e4, h4⟩ := wAttr_inv h3
  obtain ⟨x, px, e5, h5⟩ := wName_inv h4
  obtain ⟨y, e6, h6⟩ := l1_inv h5
  exact ⟨x, px, n, ap, y, cp, pos, by rw [e1, e2, e3, e4, e5, e6], h6⟩
theorem inv_callRef {C : MC} {f : Nat} {as : MEs} {i : Nat} {E0 : Stmt} (h : matchS C (.callRef f as i) E0 = true) : ∃ x px l cp pos, E0 = .Expr (.Call (.Name x px) l [] cp) pos ∧ (C.fnames[f]? == some x && isGl C x && matchEs C as l.dropLast && (o1 l.getLast? fun z => wName z fun y _ => isLoc C i y) && decide (l.length < 20) && decide (1 < l.length)) = true := by
  obtain ⟨c, pos, e1, h1⟩ := sExpr_inv h
  obtain ⟨fn, l, ks, cp, e2, h2⟩ := wCall_inv h1
  obtain ⟨e3, h3⟩ := l0_inv h2
  obtain ⟨x, px, e4, h4⟩ := wName_inv h3
  exact ⟨x, px, l, cp, pos, by rw [e1, e2, e3, e4], h4⟩
theorem inv_ite {C : MC} {c : ME} {a b : MS} {E0 : Stmt} (h : matchS C (.ite c a b) E0 = true) : ∃ t x y p, E0 = .If t x y p ∧ (matchE C c t && matchB C a x && matchB C b y) = true := by
  obtain ⟨t, x, y, p, e1, h1⟩ := sIf_inv h
  exact ⟨t, x, y, p, by rw [e1], h1⟩
theorem inv_forL {C : MC} {i : Nat} {e : ME} {b : MS} {E0 : Stmt} (h : matchS C (.forL i e b) E0 = true) : ∃ x px it body p, E0 = .For (.Name x px) it body [] p ∧ (isSt C i x && matchE C e it && matchB C b body) = true := by
  obtain ⟨t, it, body, els, p, e1, h1⟩ := sFor_inv h
  obtain ⟨e2, h2⟩ := l0_inv h1
  obtain ⟨x, px, e3, h3⟩ := wName_inv h2
  exact ⟨x, px, it, body, p, by rw [e1, e2, e3], h3⟩
theorem inv_forR {C : MC} {i : Nat} {lo hi : ME} {b : MS} {E0 : Stmt} (h : matchS C (.forR i lo hi b) E0 = true) : ∃ x px r pr u us pc body p, E0 = .For (.Name x px) (.Call (.Name r pr) (u :: us) [] pc) body [] p ∧ (isSt C i x && r == ("range" : Str) && isGl C r && matchB C b body && (l0 us (isZero lo && matchE C hi u) || l1 us fun v => matchE C lo u && matchE C hi v)) = true := by
  obtain ⟨t, it, body, els, p, e1, h1⟩ := sFor_inv h
  obtain ⟨e2, h2⟩ := l0_inv h1
  obtain ⟨x, px, e3, h3⟩ := wName_inv h2
  obtain ⟨fn, l, ks, pc, e4, h4⟩ := wCall_inv h3
  obtain ⟨e5, h5⟩ := l0_inv h4
  obtain ⟨r, pr, e6, h6⟩ := wName_inv h5
  obtain ⟨u, us, e7, h7⟩ := lc_inv h6
  exact ⟨x, px, r, pr, u, us, pc, body, p, by rw [e1, e2, e3, e4, e5, e6, e7], h7⟩
theorem inv_forO {C : MC} {j i : Nat} {t : ME} {b : Bool} {E0 : Stmt} (h : matchS C (.forO j i t b) E0 = true) : ∃ x px y py te r rn rp pr pi p, E0 = .For (.Name x px) (.Name y py) [.If te [.Return (some (.Constant (.bool r) rn rp)) pr] [] pi] [] p ∧ (isSt C j x && isLoc C i y && matchE C t te && b == r) = true := by
  obtain ⟨tg, it, body, els, p, e1, h1⟩ := sFor_inv h
  obtain ⟨e2, h2⟩ := l0_inv h1
  obtain ⟨x, px, e3, h3⟩ := wName_inv h2
  obtain ⟨y, py, e4, h4⟩ := wName_inv h3
  obtain ⟨bs, e5, h5⟩ := l1_inv h4
  obtain ⟨te, yes, no, pi, e6, h6⟩ := sIf_inv h5
  obtain ⟨e7, h7⟩ := l0_inv h6
  obtain ⟨rt, e8, h8⟩ := l1_inv h7
  obtain ⟨rv, pr, e9, h9⟩ := sReturn_inv h8
  obtain ⟨rw, e10, h10⟩ := o1_inv h9
  obtain ⟨rc, rn, rp, e11, h11⟩ := wConst_inv h10
  obtain ⟨r, e12, h12⟩ := cBool_inv h11
  exact ⟨x, px, y, py, te, r, rn, rp, pr, pi, p, by rw [e1, e2, e3, e4, e5, e6, e7, e8, e9, e10, e11, e12], h12⟩
theorem inv_loop {C : MC} {c : ME} {b : MS} {E0 : Stmt} (h : matchS C (.loop c b) E0 = true) : ∃ t body p, E0 = .While t body [] p ∧ (matchE C c t && matchB C b body) = true := by
  obtain ⟨t, body, els, p, e1, h1⟩ := sWhile_inv h
  obtain ⟨e2, h2⟩ := l0_inv h1
  exact ⟨t, body, p, by rw [e1, e2], h2⟩
theorem inv_ret {C : MC} {e : ME} {E0 : Stmt} (h : matchS C (.ret e) E0 = true) : ∃ w p, E0 = .Return (some w) p ∧ (matchE C e w) = true := by
  obtain ⟨v, p, e1, h1⟩ := sReturn_inv h
  obtain ⟨w, e2, h2⟩ := o1_inv h1
  exact ⟨w, p, by rw [e1, e2], h2⟩
end Mine
-- MOps
set_option autoImplicit false
set_option linter.all false
namespace Mine
open PySem PyProof.Rows

noncomputable abbrev Cont (prog : Program) (w : World) (X : Addr → Prop) (s : Shared) (d : D) (Q : Value → Shared → Prop) : Prop :=
  ∀ v h' tk, Ext s.heap h' → Rep prog w X h' v d → Q v { s with heap := h', toks := tk }
section
variable {prog : Program} {w : World} {A : Around} {E : Value → Shared → Prop} {s : Shared} {X : Addr → Prop} {Q : Value → Shared → Prop} {x y d : D} {a b : Value}

theorem Cont.here (k : Cont prog w X s d Q) {v : Value} (r : Rep prog w X s.heap v d) (tk : Nat) : Q v { s with toks := tk } := k v s.heap tk (.refl _) r
theorem Cont.same (k : Cont prog w X s d Q) {v : Value} (r : Rep prog w X s.heap v d) : Q v s := k v s.heap s.toks (.refl _) r
theorem small64 {i : Int} (h : smallInt i = true) : i.natAbs < 1267650600228229401496703205376 := of_decide_eq_true h
theorem mulOk {i j : Int} (h : smallInt i = true) (h' : smallInt j = true) : IntMulOk i j := by
  have q : ∀ {i : Int}, smallInt i = true → Builtin.Int.intBits i ≤ 100 := fun {i} h => by
    have hn := small64 h
    unfold Builtin.Int.intBits
    split
    · exact Nat.zero_le _
    · rcases Nat.eq_zero_or_pos i.natAbs with h0 | hp
      · rw [h0]; decide
      · have : i.natAbs.log2 < 100 := (Nat.log2_lt (Nat.ne_of_gt hp)).mpr hn
        omega
  have q1 := q h
  have q2 := q h'
  unfold IntMulOk
  have : Builtin.Int.intTooBig (Builtin.Int.intBits i + Builtin.Int.intBits j) = false := by
    unfold Builtin.Int.intTooBig
    simp only [decide_eq_false_iff_not]
    first | (simp only [bitsLine]; omega) | omega
  rw [this]; simp
theorem bin_sound {op : Operator} (hX : XOk X s.heap) (ra : RepO prog w X s.heap a x) (rb : RepO prog w X s.heap b y) (e : binD op x y = .ok d) (k : Cont prog w X s d Q) : wpAny (model prog w) A (binaryOp op a b) Q E s := by
  unfold binD at e
  split at e
  · obtain ⟨_, rfl⟩ := ra.int_inv; obtain ⟨_, rfl⟩ := rb.int_inv
    cases e; exact add_int (k.here (.int _ _) _)
  · obtain ⟨_, rfl⟩ := ra.int_inv; obtain ⟨_, rfl⟩ := rb.int_inv
    cases e; exact sub_int (k.here (.int _ _) _)
  · obtain ⟨_, rfl⟩ := ra.int_inv; obtain ⟨_, rfl⟩ := rb.int_inv
    split at e
    · rename_i hs
      simp only [Bool.and_eq_true] at hs
      cases e; exact mul_int (k.here (.int _ _) _) (mulOk hs.1 hs.2)
    · cases e
  · rename_i i j
    obtain ⟨_, rfl⟩ := ra.int_inv; obtain ⟨_, rfl⟩ := rb.int_inv
    split at e
    · rename_i hs
      simp only [Bool.and_eq_true, Bool.not_eq_true', beq_eq_false_iff_ne] at hs
      cases e
      refine floordiv_int hs.2 (k.here (.int _ _) _) (Or.inl (PyProof.noPylong_of_log2 ?_))
      have hn := small64 hs.1.2
      rcases Nat.eq_zero_or_pos j.natAbs with h0 | hp
      · rw [h0]; decide +kernel
      · have : j.natAbs.log2 < 100 := (Nat.log2_lt (Nat.ne_of_gt hp)).mpr hn
        omega
    · cases e
  · obtain ⟨_, rfl⟩ := ra.int_inv; obtain ⟨_, rfl⟩ := rb.int_inv
    split at e
    · cases e
    · rename_i hs
      cases e
      exact mod_int' (by simpa using hs) (k.here (.int _ _) _)
  · obtain ⟨_, rfl⟩ := ra.str_inv; obtain ⟨_, rfl⟩ := rb.str_inv
    split at e
    · rename_i hs
      cases e
      exact add_str (fun t' tk => k.here (.str _ _) tk) (by
        simp only [slen, big] at hs
        rw [sizeLine_eq]
        show Array.size _ + Array.size _ ≤ _
        omega)
    · cases e
  · obtain ⟨c, vs, n, rfl, hg, r1⟩ := ra.list_inv
    obtain ⟨c', vs', n', rfl, hg', r2⟩ := rb.list_inv
    split at e
    · rename_i hs
      cases e
      refine PySem.P.add_list (n := n) (n2 := n') hg hg' ?_ (by
        have := r1.length; have := r2.length
        simp only [List.size_toArray, big] at *
        rw [sizeLine_eq]; omega)
      refine k _ _ _ (Ext.push _ _) ?_
      refine .list (n := 0) hX.new (by simpa using Heap.get?_push_size _ rfl) ((r1.ext (Ext.push _ _)).append (r2.ext (Ext.push _ _)))
    · cases e
  · cases e
end
end Mine
-- MOps2
set_option autoImplicit false
set_option linter.all false
namespace Mine
open PySem PyProof.Rows

section
variable {prog : Program} {w : World} {A : Around} {E : Value → Shared → Prop} {s : Shared} {X : Addr → Prop} {Q : Value → Shared → Prop} {x y d : D} {a b : Value}

noncomputable abbrev Roomy (A : Around) : Prop := A.units + 80 < cLine
theorem eqOk_lay {d : D} (h : eqOk d = true) : d.canLay0 = true := (Bool.and_eq_true_iff.mp h).1
theorem eqOk_depth {d : D} (h : eqOk d = true) : d.depth ≤ 64 := of_decide_eq_true (Bool.and_eq_true_iff.mp h).2
theorem roomMin {A : Around} {x y : D} (hu : Roomy A) (h : eqOk x = true) : A.units + min x.depth y.depth < cLine := by
  have h1 := eqOk_depth h
  have h2 : min x.depth y.depth ≤ x.depth := Nat.min_le_left _ _
  have : A.units + 80 < cLine := hu
  omega
theorem eq_sound (hu : Roomy A) (ra : RepO prog w X s.heap a x) (rb : RepO prog w X s.heap b y) (hx : eqOk x = true) (hy : eqOk y = true) (k : Q (.bool (PyData.eqv x y)) s) :
    wpAny (model prog w) A (compareOp .Eq a b) Q E s := by
  obtain ⟨as, r1⟩ := ra.reads (eqOk_lay hx)
  obtain ⟨bs, r2⟩ := rb.reads (eqOk_lay hy)
  exact SeqAt.compareEq_reads r1 r2 (eqOk_lay hx) (eqOk_lay hy) (roomMin hu hx) k
theorem ne_sound (hu : Roomy A) (ra : RepO prog w X s.heap a x) (rb : RepO prog w X s.heap b y) (hx : eqOk x = true) (hy : eqOk y = true) (k : Q (.bool (!PyData.eqv x y)) s) :
    wpAny (model prog w) A (compareOp .NotEq a b) Q E s := by
  obtain ⟨as, r1⟩ := ra.reads (eqOk_lay hx)
  obtain ⟨bs, r2⟩ := rb.reads (eqOk_lay hy)
  exact SeqAt.compareNe_reads r1 r2 (eqOk_lay hx) (eqOk_lay hy) (roomMin hu hx) k
theorem roomIn {A : Around} {xs : List D} {d : D} (hu : Roomy A) (hd : eqOk d = true) : A.units + 1 + min (PyData.depthAll xs) d.depth < cLine := by
  have h1 := eqOk_depth hd
  have h2 : min (PyData.depthAll xs) d.depth ≤ d.depth := Nat.min_le_right _ _
  have : A.units + 80 < cLine := hu
  omega
theorem layAll_list {l : List D} (h : eqOk (.list l) = true) : PyData.canLayAll0 l = true := by simpa [PyData.canLay0] using eqOk_lay h
theorem layAll_tuple {l : List D} (h : eqOk (.tuple l) = true) : PyData.canLayAll0 l = true := by simpa [PyData.canLay0] using eqOk_lay h
theorem one_of {c : Str} {k : Nat} (h : c.cps.toList = [k]) : c = ⟨#[k]⟩ := by
  obtain ⟨⟨l⟩⟩ := c
  cases h; rfl
theorem hasSign_eq (t : Str) (k : Nat) : hasSign t k = decide (k ∈ t.cps.toList) := by
  unfold hasSign
  rw [Bool.eq_iff_iff]; simp
theorem valueAt_dget {es : List (Str × Value)} {kv : List (D × D)} (r : PairsAre es kv) (k : Str) : (match dget k kv with | some d => ∃ v t, d = .int v ∧ valueAt es k = some (.int v t) | none => valueAt es k = none) := by
  induction r with
  | nil => simp [dget, valueAt]
  | @cons c v u es kv _ ih =>
    simp only [dget]
    by_cases h : c = k
    · subst h; simp [valueAt]
    · have hb : (c == k) = false := by simpa using h
      simp only [hb]
      have e : valueAt ((c, Value.int v u) :: es) k = valueAt es k := by simp [valueAt, h]
      rw [e]; exact ih
theorem yes_inv {r : R Bool} {d : D} (h : r.yes = .ok d) : ∃ b, r = .ok b ∧ d = .bool b := by
  cases r <;> first | exact ⟨_, rfl, (R.ok.inj h).symm⟩ | (cases h; done)
theorem no_inv {r : R Bool} {d : D} (h : r.no = .ok d) : ∃ b, r = .ok b ∧ d = .bool (!b) := by
  cases r <;> first | exact ⟨_, rfl, (R.ok.inj h).symm⟩ | (cases h; done)
theorem asStr_inv {x : D} {t : Str} (h : asStr x = some t) : x = .str t := by
  cases x <;> first | exact congrArg _ (Option.some.inj h) | (cases h; done)
theorem asInt_inv {x : D} {t : Int} (h : asInt x = some t) : x = .int t := by
  cases x <;> first | exact congrArg _ (Option.some.inj h) | (cases h; done)
theorem eqD_inv {x y : D} {b : Bool} (h : eqD x y = .ok b) : (∃ t u, x = .str t ∧ y = .str u ∧ b = (t == u)) ∨ (eqOk x = true ∧ eqOk y = true ∧ b = PyData.eqv x y) ∨ dictEq x y = .ok b := by
  unfold eqD at h
  split at h
  · rename_i t u h1 h2
    exact .inl ⟨t, u, asStr_inv h1, asStr_inv h2, (R.ok.inj h).symm⟩
  · split at h
    · rename_i hq
      rw [Bool.and_eq_true] at hq
      exact .inr (.inl ⟨hq.1, hq.2, (R.ok.inj h).symm⟩)
    · exact .inr (.inr h)
theorem ordD_inv {f : Int → Int → Bool} {x y d : D} (h : ordD f x y = .ok d) : ∃ i j, x = .int i ∧ y = .int j ∧ d = .bool (f i j) := by
  unfold ordD at h
  split at h
  · rename_i t u h1 h2
    exact ⟨t, u, asInt_inv h1, asInt_inv h2, (R.ok.inj h).symm⟩
  · cases h
theorem isD_inv {x y : D} {b : Bool} (h : isD x y = .ok b) : y = .none ∧ ((x = .none ∧ b = true) ∨ ((∃ l, x = .tuple l) ∧ b = false) ∨ ((∃ i, x = .int i) ∧ b = false)) := by
  cases y <;> first | (cases h; done) | skip
  refine ⟨rfl, ?_⟩
  cases x <;> first | (cases h; done) | exact .inl ⟨rfl, (R.ok.inj h).symm⟩ | exact .inr (.inl ⟨⟨_, rfl⟩, (R.ok.inj h).symm⟩) | exact .inr (.inr ⟨⟨_, rfl⟩, (R.ok.inj h).symm⟩)
theorem inD_inv {x y : D} {b : Bool} (h : inD x y = .ok b) : (∃ l, y = .list l ∧ eqOk x = true ∧ eqOk (.list l) = true ∧ b = l.any fun z => PyData.eqv z x) ∨ (∃ l, y = .tuple l ∧ eqOk x = true ∧ eqOk (.tuple l) = true ∧ b = l.any fun z => PyData.eqv z x) ∨
    (∃ k s, x = .str ⟨#[k]⟩ ∧ y = .str s ∧ b = hasSign s k) ∨ (∃ k d, x = .str k ∧ y = .dict d ∧ b = (dget k d).isSome) := by
  cases y with
  | list l =>
    simp only [inD] at h
    split at h
    · rename_i hq; rw [Bool.and_eq_true] at hq; exact .inl ⟨l, rfl, hq.1, hq.2, (R.ok.inj h).symm⟩
    · cases h
  | tuple l =>
    simp only [inD] at h
    split at h
    · rename_i hq; rw [Bool.and_eq_true] at hq; exact .inr (.inl ⟨l, rfl, hq.1, hq.2, (R.ok.inj h).symm⟩)
    · cases h
  | str s =>
    simp only [inD, signD] at h
    split at h
    · rename_i c hc
      split at h
      · rename_i k hk
        exact .inr (.inr (.inl ⟨k, s, by rw [asStr_inv hc, one_of hk], rfl, (R.ok.inj h).symm⟩))
      · cases h
    · cases h
  | dict d =>
    simp only [inD, keyD] at h
    split at h
    · rename_i c hc
      exact .inr (.inr (.inr ⟨c, d, asStr_inv hc, rfl, (R.ok.inj h).symm⟩))
    · cases h
  | _ => (cases h; done)
theorem in_sound {x y : D} {r : Bool} (hu : Roomy A) (ra : RepO prog w X s.heap a x) (rb : RepO prog w X s.heap b y) (e : inD x y = .ok r) : (Cont prog w X s (.bool r) Q → wpAny (model prog w) A (compareOp .In a b) Q E s) ∧ (Cont prog w X s (.bool (!r)) Q → wpAny (model prog w) A (compareOp .NotIn a b) Q E s) := by
  rcases inD_inv e with ⟨l, rfl, h1, h2, rfl⟩ | ⟨l, rfl, h1, h2, rfl⟩ | ⟨kk, t, rfl, rfl, rfl⟩ | ⟨kk, kv, rfl, rfl, rfl⟩
  · obtain ⟨as, r1⟩ := rb.reads (eqOk_lay h2)
    obtain ⟨bs, r2⟩ := ra.reads (eqOk_lay h1)
    exact ⟨fun k => SeqAt.in_list_reads r1 r2 (layAll_list h2) (eqOk_lay h1) (roomIn hu h1) (k.same (.bool _)), fun k => SeqAt.notIn_list_reads r1 r2 (layAll_list h2) (eqOk_lay h1) (roomIn hu h1) (k.same (.bool _))⟩
  · obtain ⟨as, r1⟩ := rb.reads (eqOk_lay h2)
    obtain ⟨bs, r2⟩ := ra.reads (eqOk_lay h1)
    exact ⟨fun k => SeqAt.in_tuple_reads r1 r2 (layAll_tuple h2) (eqOk_lay h1) (roomIn hu h1) (k.same (.bool _)), fun k => SeqAt.notIn_tuple_reads r1 r2 (layAll_tuple h2) (eqOk_lay h1) (roomIn hu h1) (k.same (.bool _))⟩
  · obtain ⟨_, rfl⟩ := ra.str_inv; obtain ⟨_, rfl⟩ := rb.str_inv
    refine ⟨fun k => in_str ?_, fun k => notIn_str ?_⟩
    · rw [StrLaws.found_one, ← hasSign_eq]; exact k.same (.bool _)
    · rw [StrLaws.found_one, ← hasSign_eq]; exact k.same (.bool _)
  · obtain ⟨_, rfl⟩ := ra.str_inv; obtain ⟨c, es, rfl, nx, dc, pr⟩ := rb.dict_inv
    have := valueAt_dget pr kk
    refine ⟨fun k => wpAny_in_of (strKind_is prog w kk _) nx dc.mapOf ?_, fun k => wpAny_notIn_of (strKind_is prog w kk _) nx dc.mapOf ?_⟩
    · cases hq : dget kk kv with
      | none => rw [hq] at this; rw [this]; exact k.here (by rw [hq]; exact .bool _) _
      | some d => rw [hq] at this; obtain ⟨v, t, _, e2⟩ := this; rw [e2]; exact k.here (by rw [hq]; exact .bool _) _
    · cases hq : dget kk kv with
      | none => rw [hq] at this; rw [this]; exact k.here (by rw [hq]; exact .bool _) _
      | some d => rw [hq] at this; obtain ⟨v, t, _, e2⟩ := this; rw [e2]; exact k.here (by rw [hq]; exact .bool _) _
theorem is_sound {x y : D} {r : Bool} (ra : RepO prog w X s.heap a x) (rb : RepO prog w X s.heap b y) (e : isD x y = .ok r) : (Cont prog w X s (.bool r) Q → wpAny (model prog w) A (compareOp .Is a b) Q E s) ∧ (Cont prog w X s (.bool (!r)) Q → wpAny (model prog w) A (compareOp .IsNot a b) Q E s) := by
  obtain ⟨rfl, e2⟩ := isD_inv e
  obtain rfl := rb.none_inv
  rcases e2 with ⟨rfl, rfl⟩ | ⟨⟨l, rfl⟩, rfl⟩ | ⟨⟨i, rfl⟩, rfl⟩
  · obtain rfl := ra.none_inv
    exact ⟨fun k => is_none_none (k.same (.bool _)), fun k => isnot_none_none (k.same (.bool _))⟩
  · obtain ⟨_, _, _, rfl, _⟩ := ra.tuple_inv
    exact ⟨fun k => is_ref_none (k.same (.bool _)), fun k => isnot_ref_none (k.same (.bool _))⟩
  · obtain ⟨_, rfl⟩ := ra.int_inv
    exact ⟨fun k => is_int_none (k.same (.bool _)), fun k => isnot_int_none (k.same (.bool _))⟩
end
end Mine
-- MOps3
set_option autoImplicit false
set_option linter.all false
namespace Mine
open PySem PyProof.Rows

section
variable {prog : Program} {w : World} {A : Around} {E : Value → Shared → Prop} {s : Shared} {X : Addr → Prop} {Q : Value → Shared → Prop} {x y d : D} {a b : Value}

theorem place_seqIndex {i : Int} {n k : Nat} (h : place i n = some k) : seqIndex? i n = some k ∧ k < n := by
  unfold place at h
  unfold seqIndex?
  split at h
  · rename_i h0
    split at h
    · rename_i h1
      cases h
      have hn : ¬ i < 0 := by omega
      simp only [hn, if_false]
      refine ⟨by simp [h0, h1], by omega⟩
    · cases h
  · rename_i h0
    split at h
    · rename_i h1
      cases h
      have hn : i < 0 := by omega
      simp only [hn, if_true]
      refine ⟨by simp; omega, by omega⟩
    · cases h
theorem idx_lo {i : Int} (h : idxInt i = true) : -(2 ^ 63) ≤ i ∧ i < 2 ^ 63 := by
  simp only [idxInt, Bool.and_eq_true, decide_eq_true_eq] at h
  omega
noncomputable def noSlice : Expr → Bool
  | .Slice _ _ _ _ => false
  | _ => true
theorem sub_plain {slice : Expr} (h : noSlice slice = true) (o i : Value) : subscripted slice false o i = operate [o, i] (getItem o i) := by
  cases slice <;> first | (cases h; done) | rfl
theorem isTup {h : Heap} {c : Addr} {vs : List Value} {n : Nat} (e : h.get? c = some (tupO vs n)) : IsTup h c vs.toArray := ⟨_, e, rfl, n, rfl⟩
theorem isLst {h : Heap} {c : Addr} {vs : List Value} {n : Nat} (e : h.get? c = some (lstO vs n)) : h.IsList c vs.toArray := ⟨_, e, rfl, n, rfl⟩
theorem idxL_inv {l : List D} {i : Int} {d : D} (e : (if idxInt i then (match place i l.length with | some k => (match l[k]? with | some d => R.ok d | none => .stuck) | none => .stuck) else .stuck) = R.ok d) :
    idxInt i = true ∧ ∃ j c, place i l.length = some j ∧ l[j]? = some c ∧ R.ok c = .ok d := by
  by_cases hi : idxInt i = true
  · rw [if_pos hi] at e
    cases hp : place i l.length with
    | none => rw [hp] at e; cases e
    | some j =>
      rw [hp] at e; dsimp only at e
      cases hd : l[j]? with
      | none => rw [hd] at e; cases e
      | some c => rw [hd] at e; exact ⟨hi, j, c, rfl, hd, e⟩
  · rw [if_neg hi] at e; cases e
theorem idx_list {value slice : Expr} {l : List D} {i : Int} (hn : noSlice slice = true) (ra : RepO prog w X s.heap a (.list l)) (rb : RepO prog w X s.heap b (.int i)) (e : idxD (.list l) (.int i) = .ok d) (k : Cont prog w X s d Q) :
    wpAny (model prog w) A (subscriptTail value slice a b) Q E s := by
  obtain ⟨hi, j, d', hp, hd, e'⟩ := idxL_inv (l := l) (i := i) e
  cases e'
  obtain ⟨c, vs, n, rfl, hg, rl⟩ := ra.list_inv
  obtain ⟨t, rfl⟩ := rb.int_inv
  obtain ⟨v, hv, rv⟩ := rl.get hd
  have hl := isLst hg
  have hsz : vs.toArray.size = l.length := by rw [List.size_toArray, rl.length]
  refine tail_any hl.typeIs slot_list_getitem.lookup ?_ (sub_plain hn _ _)
  by_cases h0 : 0 ≤ i
  · have hj : j = i.toNat := by
      unfold place at hp; rw [if_pos h0] at hp; split at hp <;> cases hp; rfl
    exact wpAny_getItem_list hl h0 (idx_lo hi).2 (by rw [← hj]; simpa using hv) (k.same rv)
  · have hq : -(l.length : Int) ≤ i ∧ j = (i + l.length).toNat := by
      unfold place at hp; rw [if_neg h0] at hp; split at hp <;> cases hp; exact ⟨by assumption, rfl⟩
    refine wpAny_getItem_list_neg hl (by omega) (by rw [hsz]; exact hq.1) (idx_lo hi).1 ?_ (k.same rv)
    rw [hsz, ← hq.2]; simpa using hv
theorem idx_tuple {value slice : Expr} {l : List D} {i : Int} (hn : noSlice slice = true) (ra : RepO prog w X s.heap a (.tuple l)) (rb : RepO prog w X s.heap b (.int i)) (e : idxD (.tuple l) (.int i) = .ok d) (k : Cont prog w X s d Q) :
    wpAny (model prog w) A (subscriptTail value slice a b) Q E s := by
  obtain ⟨hi, j, d', hp, hd, e'⟩ := idxL_inv (l := l) (i := i) e
  cases e'
  obtain ⟨c, vs, n, rfl, nx, hg, rl⟩ := ra.tuple_inv
  obtain ⟨t, rfl⟩ := rb.int_inv
  obtain ⟨v, hv, rv⟩ := rl.get hd
  obtain ⟨h1, h2⟩ := place_seqIndex hp
  have hl := isTup hg
  refine tail_any hl.typeIs slot_tuple_getitem.lookup ?_ (sub_plain hn _ _)
  exact PyProof.Rows.getItem_tuple hl (idx_lo hi).1 (idx_lo hi).2 (by rw [List.size_toArray, rl.length]; exact h1) (by simpa using hv) (k.same rv)
theorem idx_str {value slice : Expr} {t : Str} {i : Int} (hn : noSlice slice = true) (ra : RepO prog w X s.heap a (.str t)) (rb : RepO prog w X s.heap b (.int i)) (e : idxD (.str t) (.int i) = .ok d) (k : Cont prog w X s d Q) :
    wpAny (model prog w) A (subscriptTail value slice a b) Q E s := by
  have hi : idxInt i = true := by
    by_cases hi : idxInt i = true
    · exact hi
    · simp only [idxD] at e; rw [if_neg hi] at e; cases e
  simp only [idxD] at e
  rw [if_pos hi] at e
  cases hp : place i (slen t) with
  | none => rw [hp] at e; cases e
  | some j =>
    rw [hp] at e; dsimp only at e
    cases hd : t.cps[j]? with
    | none => rw [hd] at e; cases e
    | some c =>
      rw [hd] at e; cases e
      obtain ⟨_, rfl⟩ := ra.str_inv
      obtain ⟨_, rfl⟩ := rb.int_inv
      obtain ⟨h1, h2⟩ := place_seqIndex hp
      refine tail_any (typeIs_str s _ _) slot_str_getitem.lookup ?_ (sub_plain hn _ _)
      refine getItem_str ?_ ?_ (k.here (.str _ _) _)
      · have := idx_lo hi
        simp only [Bool.or_eq_false_iff, decide_eq_false_iff_not]; omega
      · show Option.bind (seqIndex? _ (slen _)) _ = _
        rw [h1]; exact hd
theorem idx_dict {value slice : Expr} {kv : List (D × D)} {kk : Str} (hn : noSlice slice = true) (ra : RepO prog w X s.heap a (.dict kv)) (rb : RepO prog w X s.heap b (.str kk)) (e : idxD (.dict kv) (.str kk) = .ok d) (k : Cont prog w X s d Q) :
    wpAny (model prog w) A (subscriptTail value slice a b) Q E s := by
  simp only [idxD] at e
  cases hv : dget kk kv with
  | none => rw [hv] at e; cases e
  | some v =>
    rw [hv] at e; cases e
    obtain ⟨c, es, rfl, nx, dc, pr⟩ := ra.dict_inv
    obtain ⟨t, rfl⟩ := rb.str_inv
    have := valueAt_dget pr kk
    rw [hv] at this
    obtain ⟨i, u, rfl, e2⟩ := this
    exact tail_any dc.typeIs slot_dict_getitem.lookup (wpAny_getItem_of (strKind_is prog w kk _) dc.mapOf e2 (k.here (.int _ _) _)) (sub_plain hn _ _)
theorem idx_sound {value slice : Expr} (hn : noSlice slice = true) (ra : RepO prog w X s.heap a x) (rb : RepO prog w X s.heap b y) (e : idxD x y = .ok d) (k : Cont prog w X s d Q) :
    wpAny (model prog w) A (subscriptTail value slice a b) Q E s := by
  cases x with
  | list l => cases y with
    | int i => exact idx_list hn ra rb e k
    | _ => cases e
  | tuple l => cases y with
    | int i => exact idx_tuple hn ra rb e k
    | _ => cases e
  | str l => cases y with
    | int i => exact idx_str hn ra rb e k
    | _ => cases e
  | dict l => cases y with
    | str i => exact idx_dict hn ra rb e k
    | _ => cases e
  | _ => cases e
theorem cut_pick (items : List Value) (lo hi : Option Int) : slicePick items.toArray lo hi none = (cut items lo hi).toArray := by
  rw [slicePick_plain]; rfl
theorem strIdx (lo hi : Option Int) (n : Nat) : Builtin.Str.strSliceIndices lo hi 1 n = sliceRange ((lo.elim 0 (clipAt n) : Nat) : Int) ((hi.elim n (clipAt n) : Nat) : Int) 1 := by
  cases lo <;> cases hi <;> simp [Builtin.Str.strSliceIndices, clipAt_cast]
theorem strPick (t : Str) (lo hi : Option Int) : ((Builtin.Str.strSliceIndices lo hi 1 t.length).filterMap (t.cps[·]?)) = cut t.cps.toList lo hi := by
  rw [strIdx, sliceRange_one, pick_run]
  rfl
theorem cut_full {l : List Nat} {lo hi : Option Int} (h : (cut l lo hi).length = l.length) : cut l lo hi = l := by
  unfold cut at *
  rw [List.length_take, List.length_drop] at h
  have h1 : (l.drop (lo.elim 0 (clip l.length))).length = l.length := by rw [List.length_drop]; omega
  have h2 : l.drop (lo.elim 0 (clip l.length)) = l := by
    have := List.take_append_drop (lo.elim 0 (clip l.length)) l
    cases hl : l with
    | nil => simp
    | cons a r =>
      have : lo.elim 0 (clip l.length) = 0 := by
        rw [List.length_drop] at h1
        have : 0 < l.length := by rw [hl]; simp
        omega
      rw [← hl, this]; rfl
  rw [h2, List.take_of_length_le (by omega)]
theorem strPick_len (t : Str) (lo hi : Option Int) : (Builtin.Str.strSliceIndices lo hi 1 t.length).length = (cut t.cps.toList lo hi).length := by
  rw [strIdx, sliceRange_one, List.length_map, List.length_range]
  unfold cut
  have h1 : hi.elim t.length (clipAt t.length) ≤ t.length := by
    cases hi with
    | none => exact Nat.le_refl _
    | some i => simp only [Option.elim, clipAt]; omega
  have e : t.cps.toList.length = t.length := by simp [Str.length]
  rw [List.length_take, List.length_drop, e]
  simp only [show clip = clipAt from rfl]
  omega
noncomputable def PartIs (v : Value) (o : Option Int) : Prop := match o with
  | none => v = .none
  | some i => ∃ t, v = .int i t
theorem PartIs.isPart {v : Value} {o : Option Int} (h : PartIs v o) : IsPart v o := by
  cases o with
  | none => rw [show v = .none from h]; exact .none
  | some i => obtain ⟨t, rfl⟩ := h; exact .int _ _
theorem PartIs.partValue {v : Value} {o : Option Int} (h : PartIs v o) : ∃ p : Option (Int × Tok), v = PySem.partValue p ∧ p.map (·.1) = o := by
  cases o with
  | none => exact ⟨none, h, rfl⟩
  | some i => obtain ⟨t, rfl⟩ := h; exact ⟨some (i, t), rfl, rfl⟩
theorem sub_slice (l u : Option Expr) (p : Pos) (o i : Value) : subscripted (.Slice l u none p) false o i = operate [i, o] (getItem o i) := rfl
theorem slice_list {value : Expr} {l u : Option Expr} {p : Pos} {lo hi : Option Int} {vl vu : Value} {sl : Addr} {xs : List D} (hX : XOk X s.heap) (ra : RepO prog w X s.heap a (.list xs)) (hl : PartIs vl lo) (hh : PartIs vu hi) (hsl : s.heap.IsSliceOf sl vl vu .none)
    (hb : xs.length ≤ big) (k : Cont prog w X s (.list (cut xs lo hi)) Q) : wpAny (model prog w) A (subscriptTail value (.Slice l u none p) a (.ref sl)) Q E s := by
  obtain ⟨c, vs, n, rfl, hg, rl⟩ := ra.list_inv
  have hL := isLst hg
  refine tail_any hL.typeIs slot_list_getitem.lookup ?_ (sub_slice _ _ _ _ _)
  refine wpAny_getItem_list_slice hL hsl hl.isPart hh.isPart .none (by simp) ?_ (by rw [List.size_toArray, rl.length, sizeLine_eq]; simp only [big] at hb; omega)
  refine k _ _ _ (Ext.push _ _) ?_
  refine .list (n := 0) (vs := cut vs lo hi) hX.new (by rw [cut_pick]; exact Heap.get?_push_size _ rfl) ?_
  have rl' := rl.ext (Ext.push s.heap { cls := .type "list", data := .seq (slicePick vs.toArray lo hi none) })
  have := rl.length
  unfold cut
  rw [this]
  exact (rl'.drop _).take _
theorem slice_tuple {value : Expr} {l u : Option Expr} {p : Pos} {i : Int} {vl vu : Value} {sl : Addr} {xs : List D} (hX : XOk X s.heap) (ra : RepO prog w X s.heap a (.tuple xs)) (hl : PartIs vl (some i)) (hh : PartIs vu none) (hsl : s.heap.IsSliceOf sl vl vu .none)
    (h1 : 1 ≤ i) (h2 : i ≤ xs.length) (hb : xs.length ≤ big) (k : Cont prog w X s (.tuple (xs.drop i.toNat)) Q) : wpAny (model prog w) A (subscriptTail value (.Slice l u none p) a (.ref sl)) Q E s := by
  obtain ⟨c, vs, n, rfl, nx, hg, rl⟩ := ra.tuple_inv
  have hT := isTup hg
  obtain ⟨t, rfl⟩ := hl
  obtain rfl : vu = .none := hh
  have hi' : ((i.toNat : Nat) : Int) = i := by omega
  have hlen := rl.length
  refine tail_any hT.typeIs slot_tuple_getitem.lookup ?_ (sub_slice _ _ _ _ _)
  refine getItem_tuple_from (a := i.toNat) (u := t) hT (by rw [hi']; exact hsl) (by omega) (by rw [List.size_toArray]; omega) ?_ (by rw [List.size_toArray, hlen, sizeLine_eq]; simp only [big] at hb; omega)
  refine k _ _ _ (Ext.push _ _) ?_
  exact .tuple (n := 0) (vs := vs.drop i.toNat) hX.new (by simpa using Heap.get?_push_size _ rfl) ((rl.ext (Ext.push _ _)).drop _)
theorem slice_str {value : Expr} {l u : Option Expr} {p : Pos} {lo hi : Option Int} {vl vu : Value} {sl : Addr} {t : Str} (ra : RepO prog w X s.heap a (.str t)) (hl : PartIs vl lo) (hh : PartIs vu hi) (hsl : s.heap.IsSliceOf sl vl vu .none)
    (hb : slen t ≤ big) (k : Cont prog w X s (.str (smk (cut t.cps.toList lo hi))) Q) : wpAny (model prog w) A (subscriptTail value (.Slice l u none p) a (.ref sl)) Q E s := by
  obtain ⟨tk, rfl⟩ := ra.str_inv
  obtain ⟨p1, rfl, e1⟩ := hl.partValue
  obtain ⟨p2, rfl, e2⟩ := hh.partValue
  refine tail_any (typeIs_str s _ _) slot_str_getitem.lookup ?_ (sub_slice _ _ _ _ _)
  refine wpAny_getItem_str_slice (l := p1) (u := p2) (st := none) hsl rfl ?_
  unfold sliceMade slicePicked
  simp only [Option.map_none, Option.getD_none, e1, e2]
  rw [strPick_len, strPick]
  split
  · rename_i hq
    simp only [Bool.and_eq_true, beq_iff_eq] at hq
    have hq2 : (cut t.cps.toList lo hi).length = t.cps.toList.length := by rw [hq.2]; simp [Str.length]
    have e3 := cut_full hq2
    rw [e3] at k
    exact k.same (v := .str t tk) (by rw [show smk t.cps.toList = t by simp [smk]]; exact .str _ _)
  · refine ⟨?_, k.here (.str _ _) _⟩
    show (cut t.cps.toList lo hi).toArray.size ≤ sizeLine
    have : (cut t.cps.toList lo hi).length ≤ t.cps.toList.length := by
      unfold cut; rw [List.length_take, List.length_drop]; omega
    have e3 : t.cps.toList.length = slen t := by simp [slen]
    rw [List.size_toArray, sizeLine_eq]
    simp only [big] at hb
    omega
theorem slice_sound {value : Expr} {l u : Option Expr} {p : Pos} {lo hi : Option Int} {vl vu : Value} {sl : Addr} (hX : XOk X s.heap) (ra : RepO prog w X s.heap a x) (hl : PartIs vl lo) (hh : PartIs vu hi) (hsl : s.heap.IsSliceOf sl vl vu .none)
    (e : sliceD x lo hi = .ok d) (k : Cont prog w X s d Q) :
    wpAny (model prog w) A (subscriptTail value (.Slice l u none p) a (.ref sl)) Q E s := by
  have hp : (partOk lo && partOk hi) = true := by
    cases hq : (partOk lo && partOk hi) with
    | true => rfl
    | false => unfold sliceD at e; rw [hq] at e; cases e
  cases x with
  | list xs =>
    simp only [sliceD, hp, if_true] at e
    split at e
    · rename_i hb; cases e; exact slice_list hX ra hl hh hsl hb k
    · cases e
  | tuple xs =>
    simp only [sliceD, hp, if_true] at e
    cases lo with
    | none => cases e
    | some i =>
      cases hi with
      | some j => cases e
      | none =>
        dsimp only at e
        split at e
        · rename_i hb
          simp only [Bool.and_eq_true, decide_eq_true_eq] at hb
          cases e; exact slice_tuple hX ra hl hh hsl hb.1.1 hb.1.2 hb.2 k
        · cases e
  | str t =>
    simp only [sliceD, hp, if_true] at e
    split at e
    · rename_i hb; cases e; exact slice_str ra hl hh hsl hb k
    · cases e
  | _ => simp [sliceD, hp] at e
end
end Mine
-- MOps4
set_option autoImplicit false
set_option linter.all false
namespace Mine
open PySem PyProof.Rows

noncomputable def b1Val : B1 → Value
  | .len => .builtin "len" | .int => .type "int" | .str => .type "str" | .abs => .builtin "abs" | .list => .type "list" | .tuple => .type "tuple" | .dict => .type "dict" | .sum => .builtin "sum"
noncomputable def b2Val : B2 → Value
  | .min => .builtin "min" | .max => .builtin "max"
section
variable {prog : Program} {w : World} {A : Around} {E : Value → Shared → Prop} {s : Shared} {X : Addr → Prop} {Q : Value → Shared → Prop} {x y d : D} {a b : Value}

theorem bigFit {n : Nat} (h : n ≤ big) : ((n : Nat) : Int) < 2 ^ 63 := by simp only [big] at h; omega
theorem sumD_items {h : Heap} : ∀ {l : List D} {vs : List Value} {i : Int}, RepAll prog w X h vs l → sumD l = some i → ∃ xs : Array (Int × Tok), vs.toArray = intItems xs ∧ preSum (numAt xs) xs.size = i := by
  intro l vs i r e
  have key : ∀ {l : List D} {vs : List Value} {i : Int}, RepAll prog w X h vs l → sumD l = some i → ∃ ps : List (Int × Tok), vs = ps.map (fun p => Value.int p.1 p.2) ∧ (ps.map (·.1)).sum = i := by
    intro l
    induction l with
    | nil => intro vs i r e; cases r; cases e; exact ⟨[], rfl, rfl⟩
    | cons d l ih =>
      intro vs i r e
      cases r with
      | cons r rs =>
        cases d with
        | int j =>
          obtain ⟨t, rfl⟩ := r.int_inv
          simp only [sumD] at e
          cases hq : sumD l with
          | none => rw [hq] at e; cases e
          | some m =>
            rw [hq] at e; cases e
            obtain ⟨ps, e1, e2⟩ := ih rs hq
            exact ⟨(j, t) :: ps, by rw [e1]; rfl, by simp [e2]⟩
        | _ => simp [sumD] at e
  obtain ⟨ps, e1, e2⟩ := key r e
  refine ⟨ps.toArray, by rw [e1]; simp [intItems], ?_⟩
  rw [← e2]
  have q : ∀ (n : Nat), n ≤ ps.length → preSum (numAt ps.toArray) n = ((ps.take n).map (·.1)).sum := by
    intro n
    induction n with
    | zero => intro _; simp [preSum]
    | succ n ih =>
      intro hn
      have : preSum (numAt ps.toArray) (n + 1) = preSum (numAt ps.toArray) n + numAt ps.toArray n := by first | rfl | simp [preSum]
      rw [this, ih (by omega), List.take_add_one, List.map_append, List.sum_append]
      have hlt : n < ps.length := by omega
      simp [numAt, hlt]
  have := q ps.length (Nat.le_refl _)
  simpa using this
theorem b1_sound {bi : B1} (hh : A.handled = none) (hX : XOk X s.heap) (ra : RepO prog w X s.heap a x) (e : b1D bi x = .ok d) (k : Cont prog w X s d Q) (hni : ∀ t, x = .str t → bi ≠ .int) : wpAny (model prog w) A (call (b1Val bi) [a]) Q E s := by
  unfold b1D at e
  split at e
  · split at e
    · rename_i hb
      cases e
      obtain ⟨c, vs, n, rfl, hg, rl⟩ := ra.list_inv
      refine Calls.call_len_list (isLst hg) (by rw [List.size_toArray, rl.length]; exact bigFit hb) ?_
      rw [List.size_toArray, rl.length]
      exact k.here (.int _ _) _
    · cases e
  · split at e
    · rename_i hb
      cases e
      obtain ⟨c, vs, n, rfl, _, hg, rl⟩ := ra.tuple_inv
      refine PyProof.Rows.len_tuple (isTup hg) (by rw [List.size_toArray, rl.length]; exact bigFit hb) ?_
      rw [List.size_toArray, rl.length]
      exact k.here (.int _ _) _
    · cases e
  · split at e
    · rename_i hb
      cases e
      obtain ⟨t, rfl⟩ := ra.str_inv
      refine len_str (by have := bigFit hb; show ¬ ((slen _ : Nat) : Int) ≥ 2 ^ 63; omega) ?_
      exact k.here (.int _ _) _
    · cases e
  · cases e
    obtain rfl := ra.bool_inv
    exact call_int_bool (k.here (.int _ _) _)
  · exact absurd rfl (hni _ rfl)
  · split at e
    · rename_i hb
      cases e
      rename_i i
      obtain ⟨t, rfl⟩ := ra.int_inv
      refine PySem.P.str_of_int ?_ (k.here (.str _ _) _)
      have hn := small64 hb
      rcases Nat.eq_zero_or_pos i.natAbs with h0 | hp
      · rw [h0]; decide +kernel
      · have : i.natAbs.log2 < 100 := (Nat.log2_lt (Nat.ne_of_gt hp)).mpr hn
        omega
    · cases e
  · cases e
    rename_i i
    obtain ⟨t, rfl⟩ := ra.int_inv
    exact call_abs_int fun t' tk => k.here (by exact .int _ _) _
  · split at e
    · rename_i hb
      cases e
      obtain ⟨c, vs, n, rfl, hg, rl⟩ := ra.list_inv
      refine call_list_seq c (T := "list") (.inl rfl) hg rfl rfl (fun h' c' x1 hq => ?_) (by rw [List.size_toArray, rl.length, sizeLine_eq]; simp only [big] at hb; omega)
      exact k _ h' _ x1 (.list hX.new hq (rl.ext x1))
    · cases e
  · split at e
    · rename_i hb
      cases e
      obtain ⟨c, vs, n, rfl, _, hg, rl⟩ := ra.tuple_inv
      refine call_list_seq c (T := "tuple") (.inr rfl) hg rfl rfl (fun h' c' x1 hq => ?_) (by rw [List.size_toArray, rl.length, sizeLine_eq]; simp only [big] at hb; omega)
      exact k _ h' _ x1 (.list hX.new hq (rl.ext x1))
    · cases e
  · split at e
    · rename_i hb
      cases e
      obtain ⟨c, vs, n, rfl, hg, rl⟩ := ra.list_inv
      refine call_tuple_list (isLst hg) (fun h' x1 => ?_) (by rw [List.size_toArray, rl.length, sizeLine_eq]; simp only [big] at hb; omega)
      have x1' : Ext s.heap h' := x1
      exact k _ _ _ (x1'.trans (Ext.push _ _)) (.tuple (n := 0) (hX.ext x1').new (Heap.get?_push_size _ rfl) ((rl.ext x1').ext (Ext.push _ _)))
    · cases e
  · split at e
    · rename_i hb
      cases e
      obtain ⟨c, es, rfl, nx, dc, pr⟩ := ra.dict_inv
      refine kt_call_dict nx dc (by rw [pr.length, sizeLine_eq]; simp only [big] at hb; omega) fun h' dn sb => ?_
      have x1 : Ext s.heap h' := fun b o q => (sb.2 b (Nat.ne_of_lt (Heap.lt_size q))).trans (Heap.get?_push_of_some _ q)
      exact k _ h' _ x1 (.dict hX.new dn pr)
    · cases e
  · split at e
    · rename_i i hi
      cases e
      obtain ⟨c, vs, n, rfl, hg, rl⟩ := ra.list_inv
      obtain ⟨xs, e1, e2⟩ := sumD_items rl hi
      refine sum_intListG (xs := xs) hh (e1 ▸ isLst hg) fun h' tk t' x1 => ?_
      rw [e2]
      exact k _ h' tk x1 (.int _ _)
    · cases e
  · cases e
theorem b2_sound {bi : B2} (hh : A.handled = none) (ra : RepO prog w X s.heap a x) (rb : RepO prog w X s.heap b y) (e : b2D bi x y = .ok d) (k : Cont prog w X s d Q) : wpAny (model prog w) A (call (b2Val bi) [a, b]) Q E s := by
  unfold b2D at e
  split at e
  · cases e
    rename_i i j
    obtain ⟨t, rfl⟩ := ra.int_inv; obtain ⟨u, rfl⟩ := rb.int_inv
    refine min_two_ints hh fun h' tk x1 => ?_
    by_cases hc : j < i
    · rw [if_pos hc]; exact k _ h' tk x1 (by rw [if_pos hc]; exact .int _ _)
    · rw [if_neg hc]; exact k _ h' tk x1 (by rw [if_neg hc]; exact .int _ _)
  · cases e
    rename_i i j
    obtain ⟨t, rfl⟩ := ra.int_inv; obtain ⟨u, rfl⟩ := rb.int_inv
    refine max_two_ints hh fun h' tk x1 => ?_
    by_cases hc : j > i
    · rw [if_pos hc]; exact k _ h' tk x1 (by rw [if_pos hc]; exact .int _ _)
    · rw [if_neg hc]; exact k _ h' tk x1 (by rw [if_neg hc]; exact .int _ _)
  · cases e
noncomputable def tyVal : Ty → Value
  | .int => .type "int" | .bool => .type "bool" | .str => .type "str" | .tuple => .type "tuple" | .list => .type "list" | _ => .type "ValueError"
theorem isi_sound {t : Ty} (ra : RepO prog w X s.heap a x) (e : isiD x t = .ok d) (k : Cont prog w X s d Q) : wpAny (model prog w) A (call (.builtin "isinstance") [a, tyVal t]) Q E s := by
  unfold isiD at e
  split at e
  · cases e; obtain ⟨t, rfl⟩ := ra.int_inv; exact IsiPair.int_int (k.same (.bool _))
  · cases e; obtain ⟨t, rfl⟩ := ra.int_inv; exact IsiPair.int_bool (k.here (.bool _) _)
  · cases e; obtain ⟨t, rfl⟩ := ra.int_inv; exact IsiPair.int_str (k.here (.bool _) _)
  · cases e; obtain ⟨t, rfl⟩ := ra.int_inv; exact IsiPair.int_tuple (k.here (.bool _) _)
  · cases e; obtain rfl := ra.bool_inv; exact IsiPair.bool_int (k.same (.bool _))
  · cases e; obtain rfl := ra.bool_inv; exact IsiPair.bool_bool (k.same (.bool _))
  · cases e; obtain ⟨t, rfl⟩ := ra.str_inv; exact IsiPair.str_str (k.same (.bool _))
  · cases e; obtain ⟨t, rfl⟩ := ra.str_inv; exact IsiPair.str_tuple (k.here (.bool _) _)
  · cases e; obtain ⟨c, vs, n, rfl, _, hg, rl⟩ := ra.tuple_inv; exact IsiPair.tuple_tuple hg rfl (k.same (.bool _))
  · cases e; obtain ⟨c, vs, n, rfl, _, hg, rl⟩ := ra.tuple_inv; exact IsiPair.tuple_str hg rfl (k.here (.bool _) _)
  · cases e; obtain ⟨c, vs, n, rfl, hg, rl⟩ := ra.list_inv; exact IsiPair.list_list hg rfl (k.same (.bool _))
  · cases e
theorem find_sound (ra : RepO prog w X s.heap a x) (rb : RepO prog w X s.heap b y) (e : findD x y = .ok d) (k : Cont prog w X s d Q) : ∃ t tk, a = .str t tk ∧ wpAny (model prog w) A (call (.builtin "str.find") [a, b]) Q E s := by
  unfold findD at e
  split at e
  · cases e
    obtain ⟨t, rfl⟩ := ra.str_inv; obtain ⟨u, rfl⟩ := rb.str_inv
    exact ⟨_, _, rfl, SC.find (k.here (.int _ _) _)⟩
  · cases e
theorem dict_cmp {A : Around} {E : Value → Shared → Prop} {s : Shared} {X : Addr → Prop} {Q : Value → Shared → Prop} {x y : D} {a b : Value} {r : Bool} (h : dictEq x y = .ok r) (hu : Roomy A) (ra : RepO prog w X s.heap a x) (rb : RepO prog w X s.heap b y) :
    (Cont prog w X s (.bool r) Q → wpAny (model prog w) A (compareOp .Eq a b) Q E s) ∧ (Cont prog w X s (.bool (!r)) Q → wpAny (model prog w) A (compareOp .NotEq a b) Q E s) := by cases h
theorem cmp_full : ∀ (A : Around) (E : Value → Shared → Prop) (s : Shared) (X : Addr → Prop) (Q : Value → Shared → Prop) (op : CmpOp) (x y d : D) (a b : Value),
    Roomy A → RepO prog w X s.heap a x → RepO prog w X s.heap b y → cmpD op x y = .ok d → Cont prog w X s d Q → wpAny (model prog w) A (compareOp op a b) Q E s := by
  intro A E s X Q op x y d a b hu ra rb e k
  cases op with
  | Eq =>
    obtain ⟨r, e2, rfl⟩ := yes_inv e
    rcases eqD_inv e2 with ⟨t, u, rfl, rfl, rfl⟩ | ⟨h1, h2, rfl⟩ | h
    · obtain ⟨_, rfl⟩ := ra.str_inv; obtain ⟨_, rfl⟩ := rb.str_inv; exact eq_str (k.same (.bool _))
    · exact eq_sound hu ra rb h1 h2 (k.same (.bool _))
    · exact (dict_cmp h hu ra rb).1 k
  | NotEq =>
    obtain ⟨r, e2, rfl⟩ := no_inv e
    rcases eqD_inv e2 with ⟨t, u, rfl, rfl, rfl⟩ | ⟨h1, h2, rfl⟩ | h
    · obtain ⟨_, rfl⟩ := ra.str_inv; obtain ⟨_, rfl⟩ := rb.str_inv; exact ne_str (k.same (.bool _))
    · exact ne_sound hu ra rb h1 h2 (k.same (.bool _))
    · exact (dict_cmp h hu ra rb).2 k
  | Lt => obtain ⟨i, j, rfl, rfl, rfl⟩ := ordD_inv e; obtain ⟨_, rfl⟩ := ra.int_inv; obtain ⟨_, rfl⟩ := rb.int_inv; exact lt_int (k.same (.bool _))
  | LtE => obtain ⟨i, j, rfl, rfl, rfl⟩ := ordD_inv e; obtain ⟨_, rfl⟩ := ra.int_inv; obtain ⟨_, rfl⟩ := rb.int_inv; exact le_int (k.same (.bool _))
  | Gt => obtain ⟨i, j, rfl, rfl, rfl⟩ := ordD_inv e; obtain ⟨_, rfl⟩ := ra.int_inv; obtain ⟨_, rfl⟩ := rb.int_inv; exact gt_int (k.same (.bool _))
  | GtE => obtain ⟨i, j, rfl, rfl, rfl⟩ := ordD_inv e; obtain ⟨_, rfl⟩ := ra.int_inv; obtain ⟨_, rfl⟩ := rb.int_inv; exact ge_int (k.same (.bool _))
  | In => obtain ⟨r, e2, rfl⟩ := yes_inv e; exact (in_sound hu ra rb e2).1 k
  | NotIn => obtain ⟨r, e2, rfl⟩ := no_inv e; exact (in_sound hu ra rb e2).2 k
  | Is => obtain ⟨r, e2, rfl⟩ := yes_inv e; exact (is_sound ra rb e2).1 k
  | IsNot => obtain ⟨r, e2, rfl⟩ := no_inv e; exact (is_sound ra rb e2).2 k
end
end Mine
-- MSt
set_option autoImplicit false
set_option linter.all false
namespace Mine
open PySem PyProof.Rows

noncomputable def biNames : List (Str × Value) := [("len", .builtin "len"), ("int", .type "int"), ("str", .type "str"), ("abs", .builtin "abs"), ("list", .type "list"), ("tuple", .type "tuple"), ("dict", .type "dict"), ("sum", .builtin "sum"),
  ("min", .builtin "min"), ("max", .builtin "max"), ("isinstance", .builtin "isinstance"), ("bool", .type "bool"), ("range", .type "range"), ("ValueError", .type "ValueError")]
noncomputable def fnOk (fnames gn : List Str) (F : MFn) (fd : FuncData) (body : List Stmt) : Bool :=
  matchB ⟨F.slots, fnames, gn, fd.scope, pinOf F⟩ F.body body &&
  decide (fd.scope.kind = .function) && !fd.scope.isCoroutine && !fd.scope.isGenerator && fd.scope.names.all (fun x => decide (x.2 ≠ .cell)) &&
  fd.params.posonlyargs.isEmpty && (fd.params.args.map (·.arg) == F.slots.take F.args) && fd.params.vararg.isNone && fd.params.kwonlyargs.isEmpty && fd.params.kw_defaults.isEmpty && fd.params.kwarg.isNone && fd.params.defaults.isEmpty &&
  decide (F.args ≤ F.slots.length) && decide (F.slots.Nodup) && (F.slots.take F.args).all (fun x => decide (fd.scope.names.lookup x = some .local))
structure Fn0 (fnames gn : List Str) (h0 : Heap) (mg : Str → Option Value) (F : MFn) (a : Addr) (fd : FuncData) (body : List Stmt) : Prop where
  name : mg F.name = some (.ref a)
  obj : ∃ o, h0.get? a = some o ∧ o.data = .func fd
  bdy : fd.body = .stmts body
  code : h0.CodeRec fd.code fd.qualname
  gl : fd.globals = mainGlobals
  bu : fd.builtins = builtinsNs
  clo : fd.closure = []
  dfl : fd.defaults = .none
  kdf : fd.kwdefaults = .none
  ok : fnOk fnames gn F fd body = true
structure Tx where
  prog : Program
  w : World
  fns : List MFn
  gn : List Str
  G : List D
  mg : Str → Option Value
  mb : Str → Option Value
  h0 : Heap
  X0 : Addr → Prop
structure Tx.Ok (t : Tx) : Prop where
  g : t.h0.Ns mainGlobals t.mg
  b : t.h0.Ns builtinsNs t.mb
  lim : t.h0.NoLimit
  bi : ∀ x v, (x, v) ∈ biNames → t.mg x = none ∧ t.mb x = some v
  fn : ∀ (i : Nat) (F : MFn), t.fns[i]? = some F → ∃ a fd body, Fn0 (t.fns.map (·.name)) t.gn t.h0 t.mg F a fd body
  gl : ∀ (i : Nat) (x : Str) (d : D), t.gn[i]? = some x → t.G[i]? = some d → ∃ v, t.mg x = some v ∧ Rep t.prog t.w t.X0 t.h0 v d
noncomputable def Av (X : Addr → Prop) (L : Addr) (o : Nat → Option Addr) : Addr → Prop := fun a => X a ∨ a = L ∨ ∃ i, o i = some a
noncomputable def AvL (X : Addr → Prop) (L : Addr) : Addr → Prop := fun a => X a ∨ a = L
noncomputable def OwnRep (prog : Program) (w : World) (Y : Addr → Prop) (h : Heap) (a : Addr) (d : D) : Prop := match d with
  | .list l => ∃ vs n, h.get? a = some (lstO vs n) ∧ RepAll prog w Y h vs l
  | .dict kv => ∃ es, h.DictOf (strKind prog w) a es ∧ PairsAre es kv
  | _ => False
noncomputable def SlotOk (prog : Program) (w : World) (Y : Addr → Prop) (h : Heap) (oi : Option Addr) (mx : Option Value) : Option Slot → Prop
  | some (.fr d) => oi = none ∧ ∃ v, mx = some v ∧ Rep prog w Y h v d
  | some (.own d) => ∃ a, oi = some a ∧ mx = some (.ref a) ∧ OwnRep prog w Y h a d
  | _ => oi = none
structure St (prog : Program) (w : World) (X : Addr → Prop) (L : Addr) (slots : List Str) (o : Nat → Option Addr) (ρ : Env) (h : Heap) : Prop where
  ns : ∃ m, h.Ns L m ∧ ∀ i x, slots[i]? = some x → SlotOk prog w (Av X L o) h (o i) (m x) (ρ[i]?)
  xl : ¬ X L
  xo : ∀ i a, o i = some a → ¬ X a ∧ a ≠ L ∧ i < slots.length
  inj : ∀ i j a, o i = some a → o j = some a → i = j
  xok : XOk X h
  sys : X sysModules
  len : ρ.length = slots.length
section
variable {prog : Program} {w : World} {X : Addr → Prop} {L : Addr} {slots : List Str} {o : Nat → Option Addr} {ρ : Env} {h h' : Heap} {Y : Addr → Prop}

theorem OwnRep.live {a : Addr} {d : D} (r : OwnRep prog w Y h a d) : ∃ ob, h.get? a = some ob := by
  cases d with
  | list l => obtain ⟨vs, n, e, _⟩ := r; exact ⟨_, e⟩
  | dict l => obtain ⟨es, e, _⟩ := r; obtain ⟨ob, q, _⟩ := dictOf_get e; exact ⟨ob, q⟩
  | _ => cases r
theorem OwnRep.mono {a : Addr} {d : D} (r : OwnRep prog w Y h a d) (k : Keep Y h h') (ka : ∀ ob, h.get? a = some ob → h'.get? a = some ob) : OwnRep prog w Y h' a d := by
  cases d with
  | list l => obtain ⟨vs, n, e, q⟩ := r; exact ⟨vs, n, ka _ e, q.mono k⟩
  | dict l => obtain ⟨es, e, q⟩ := r; exact ⟨es, dictOf_keep e ka, q⟩
  | _ => cases r
theorem OwnRep.ext {a : Addr} {d : D} (r : OwnRep prog w Y h a d) (k : Ext h h') : OwnRep prog w Y h' a d := r.mono (k.keep _) fun _ e => k _ _ e
theorem OwnRep.avoid {a : Addr} {d : D} {Y' : Addr → Prop} (r : OwnRep prog w Y h a d) (k : ∀ a o, h.get? a = some o → ¬ Y a → ¬ Y' a) : OwnRep prog w Y' h a d := by
  cases d with
  | list l => obtain ⟨vs, n, e, q⟩ := r; exact ⟨vs, n, e, q.avoid k⟩
  | dict l => exact r
  | _ => cases r
theorem SlotOk.mono {oi : Option Addr} {mx : Option Value} {sl : Option Slot} (r : SlotOk prog w Y h oi mx sl) (k : Keep Y h h') (ka : ∀ a, oi = some a → ∀ ob, h.get? a = some ob → h'.get? a = some ob) : SlotOk prog w Y h' oi mx sl := by
  match sl, r with
  | some (.fr d), ⟨e, v, e', q⟩ => exact ⟨e, v, e', q.mono k⟩
  | some (.own d), ⟨a, e, e', q⟩ => exact ⟨a, e, e', q.mono k (ka a e)⟩
  | some .unset, r => exact r
  | some (.ex c), r => exact r
  | none, r => exact r
theorem SlotOk.avoid {oi : Option Addr} {mx : Option Value} {sl : Option Slot} {Y' : Addr → Prop} (r : SlotOk prog w Y h oi mx sl) (k : ∀ a o, h.get? a = some o → ¬ Y a → ¬ Y' a) : SlotOk prog w Y' h oi mx sl := by
  match sl, r with
  | some (.fr d), ⟨e, v, e', q⟩ => exact ⟨e, v, e', q.avoid k⟩
  | some (.own d), ⟨a, e, e', q⟩ => exact ⟨a, e, e', q.avoid k⟩
  | some .unset, r => exact r
  | some (.ex c), r => exact r
  | none, r => exact r
theorem St.ext (S : St prog w X L slots o ρ h) (k : Ext h h') : St prog w X L slots o ρ h' := by
  obtain ⟨⟨m, hm, hs⟩, xl, xo, inj, xok, sys, len⟩ := S
  exact ⟨⟨m, hm.keeps k, fun i x e => (hs i x e).mono (k.keep _) fun a _ ob q => k a ob q⟩, xl, xo, inj, xok.ext k, sys, len⟩
theorem St.own_slot (S : St prog w X L slots o ρ h) {i : Nat} {a : Addr} (e : o i = some a) : ∃ d, ρ[i]? = some (.own d) ∧ OwnRep prog w (Av X L o) h a d := by
  obtain ⟨m, hm, hs⟩ := S.ns
  have hi := (S.xo i a e).2.2
  have := hs i slots[i] (List.getElem?_eq_getElem hi)
  match hq : ρ[i]? with
  | some (.own d) => rw [hq] at this; obtain ⟨a', e1, _, q⟩ := this; rw [e] at e1; cases e1; exact ⟨d, rfl, q⟩
  | some (.fr d) => rw [hq] at this; rw [this.1] at e; cases e
  | some .unset => rw [hq] at this; rw [(show o i = none from this)] at e; cases e
  | some (.ex c) => rw [hq] at this; rw [(show o i = none from this)] at e; cases e
  | none => rw [hq] at this; rw [(show o i = none from this)] at e; cases e
theorem St.live (S : St prog w X L slots o ρ h) : XOk (Av X L o) h := by
  intro a q
  rcases q with q | rfl | ⟨i, q⟩
  · exact S.xok a q
  · obtain ⟨m, ⟨ob, _, _, e, _⟩, _⟩ := S.ns; exact ⟨ob, e⟩
  · obtain ⟨d, _, r⟩ := S.own_slot q; exact r.live
theorem St.liveL (S : St prog w X L slots o ρ h) : XOk (AvL X L) h := fun a q => S.live a (q.elim .inl fun q => .inr (.inl q))
theorem St.avSys (S : St prog w X L slots o ρ h) : Av X L o sysModules := .inl S.sys
theorem St.own_ref (S : St prog w X L slots o ρ h) {i : Nat} {a : Addr} {d : D} (e : o i = some a) (r : OwnRep prog w (Av X L o) h a d) : RepO prog w (Av X L o) h (.ref a) d ∧ Rep prog w (AvL X L) h (.ref a) d := by
  have nx : ¬ AvL X L a := fun q => q.elim (S.xo i a e).1 (S.xo i a e).2.1
  have less : ∀ b, AvL X L b → Av X L o b := fun b q => q.elim .inl fun q => .inr (.inl q)
  cases d with
  | list l => obtain ⟨vs, n, e, q⟩ := r; exact ⟨⟨a, vs, n, rfl, e, q⟩, .list nx e (q.less less)⟩
  | dict l =>
    obtain ⟨es, e', q⟩ := r
    exact ⟨⟨a, es, rfl, by rw [beq_eq_false_iff_ne]; intro q; exact (S.xo i a e).1 (q ▸ S.sys), e', q⟩, .dict nx e' q⟩
  | _ => cases r
end

noncomputable def AvD (X : Addr → Prop) (L : Addr) (o : Nat → Option Addr) (ρ : Env) : Addr → Prop := fun a => X a ∨ a = L ∨ ∃ i l, o i = some a ∧ ρ[i]? = some (.own (.list l))
structure EvRep (prog : Program) (w : World) (X : Addr → Prop) (L : Addr) (o : Nat → Option Addr) (ρ : Env) (esc : Bool) (h : Heap) (v : Value) (d : D) : Prop where
  out : RepO prog w (Av X L o) h v d
  av : esc = false → Rep prog w (Av X L o) h v d
  avl : Rep prog w (AvL X L) h v d
  avd : notList d = true → Rep prog w (AvD X L o ρ) h v d
theorem EvRep.of {prog : Program} {w : World} {X : Addr → Prop} {L : Addr} {o : Nat → Option Addr} {ρ : Env} {b : Bool} {h : Heap} {v : Value} {d : D} (hs : X sysModules) (r : Rep prog w (Av X L o) h v d) : EvRep prog w X L o ρ b h v d :=
  ⟨r.o (.inl hs), fun _ => r, r.less fun _ q => q.elim .inl fun q => .inr (.inl q), fun _ => r.less fun _ q => q.elim .inl fun q => .inr (q.elim .inl fun ⟨i, _, q, _⟩ => .inr ⟨i, q⟩)⟩
theorem EvRep.ext {prog : Program} {w : World} {X : Addr → Prop} {L : Addr} {o : Nat → Option Addr} {ρ : Env} {b : Bool} {h h' : Heap} {v : Value} {d : D} (r : EvRep prog w X L o ρ b h v d) (k : Ext h h') : EvRep prog w X L o ρ b h' v d :=
  ⟨r.out.ext k, fun q => (r.av q).ext k, r.avl.ext k, fun q => (r.avd q).ext k⟩
structure Ar (n : Nat) (A : Around) : Prop where
  handled : A.handled = none
  depth : A.depth + n < recursionLimit
  units : A.units + 4 * n + 100 < cLine
theorem Ar.roomy {n : Nat} {A : Around} (r : Ar n A) : Roomy A := by have := r.units; show A.units + 80 < cLine; omega
structure OrcOk (t : Tx) (n : Nat) (O : Orc) : Prop where
  fn : ∀ (f : Nat) (xs : List D) (r : D × Bool), O.fn f xs = .ok r → ∀ (F : MFn) (a : Addr) (A : Around) (s : Shared) (X : Addr → Prop) (vs : List Value) (Q E : Value → Shared → Prop),
    t.fns[f]? = some F → t.mg F.name = some (.ref a) → Ar n A → Ext t.h0 s.heap → XOk X s.heap → X sysModules → (∀ a, X a → t.X0 a ∨ t.h0.get? a = none) → RepAll t.prog t.w X s.heap vs xs →
    (∀ v h' tk, Ext s.heap h' → Rep t.prog t.w X h' v r.1 → (r.2 = true → ∃ c, v = .ref c ∧ s.heap.get? c = none) → Q v { s with heap := h', toks := tk }) →
    wpAny (model t.prog t.w) A (call (.ref a) vs) Q E s
  rf : ∀ (f : Nat) (xs : List D) (d d' : D), O.rf f xs d = .ok d' → ∀ (F : MFn) (a la : Addr) (A : Around) (s : Shared) (X : Addr → Prop) (vs : List Value) (Q E : Value → Shared → Prop),
    t.fns[f]? = some F → t.mg F.name = some (.ref a) → Ar n A → Ext t.h0 s.heap → XOk X s.heap → X sysModules → (∀ a, X a → t.X0 a ∨ t.h0.get? a = none) → RepAll t.prog t.w (fun b => X b ∨ b = la) s.heap vs xs →
    ¬ X la → t.h0.get? la = none → OwnRep t.prog t.w (fun b => X b ∨ b = la) s.heap la d →
    (∀ v h' tk, Keep (fun b => b = la) s.heap h' → OwnRep t.prog t.w (fun b => X b ∨ b = la) h' la d' → Q v { s with heap := h', toks := tk }) →
    wpAny (model t.prog t.w) A (call (.ref a) (vs ++ [.ref la])) Q E s
structure Fx where
  t : Tx
  n : Nat
  O : Orc
  C : MC
  env : PySem.Env
  L : Addr
  X : Addr → Prop
  A : Around
  hE : Heap
  Z : Addr → Prop
structure Fx.Ok (c : Fx) : Prop where
  t : c.t.Ok
  orc : OrcOk c.t c.n c.O
  ar : Ar c.n c.A
  kind : c.env.scope.kind = .function
  sc : c.env.scope = c.C.scope
  loc : c.env.locals = c.L
  gl : c.env.globals = mainGlobals
  bu : c.env.builtins = builtinsNs
  fnames : c.C.fnames = c.t.fns.map (·.name)
  gnames : c.C.gnames = c.t.gn
  x0 : ∀ a, c.X a → c.t.X0 a ∨ c.t.h0.get? a = none
  l0 : c.t.h0.get? c.L = none
  nodup : c.C.slots.Nodup
  xE : XOk c.X c.hE
  xz : ∀ a, c.Z a → ¬ c.X a
  lE : ¬ ∃ ob, c.hE.get? c.L = some ob
noncomputable abbrev Fx.M (c : Fx) : Model := model c.t.prog c.t.w
structure Fx.St (c : Fx) (o : Nat → Option Addr) (ρ : Env) (h : Heap) : Prop where
  st : Mine.St c.t.prog c.t.w c.X c.L c.C.slots o ρ h
  h0 : Ext c.t.h0 h
  o0 : ∀ i a, o i = some a → c.t.h0.get? a = none
  kE : Keep c.Z c.hE h
  oE : ∀ i a, o i = some a → c.hE.get? a = none ∨ c.Z a
theorem Fx.St.ext {c : Fx} {o : Nat → Option Addr} {ρ : Env} {h h' : Heap} (S : c.St o ρ h) (k : Ext h h') : c.St o ρ h' := ⟨S.st.ext k, S.h0.trans k, S.o0, S.kE.trans (k.keep _), S.oE⟩
noncomputable def Fx.EvOk (c : Fx) (m : ME) : Prop := ∀ (e : Expr) (d : D) (o : Nat → Option Addr) (ρ : Env) (s : Shared) (Q E : Value → Shared → Prop), matchE c.C m e = true → ev c.O c.t.G ρ m = .ok d → c.St o ρ s.heap →
  (∀ v h' tk, Ext s.heap h' → EvRep c.t.prog c.t.w c.X c.L o ρ m.esc h' v d → Q v { s with heap := h', toks := tk }) → wpAny c.M c.A (eval e c.env) Q E s
noncomputable def Fx.TrOk (c : Fx) (m : ME) : Prop := ∀ (e : Expr) (b : Bool) (o : Nat → Option Addr) (ρ : Env) (s : Shared) (Q : Bool → Shared → Prop) (E : Value → Shared → Prop), matchE c.C m e = true → ev c.O c.t.G ρ m = .ok (.bool b) → c.St o ρ s.heap →
  (∀ h' tk, Ext s.heap h' → Q b { s with heap := h', toks := tk }) → wpAny c.M c.A (isTrue e c.env (eval e c.env)) Q E s
structure EvRepAll (prog : Program) (w : World) (X : Addr → Prop) (L : Addr) (o : Nat → Option Addr) (ρ : Env) (esc : Bool) (h : Heap) (vs : List Value) (ds : List D) : Prop where
  av : esc = false → RepAll prog w (Av X L o) h vs ds
  avl : RepAll prog w (AvL X L) h vs ds
  avd : ds.all notList = true → RepAll prog w (AvD X L o ρ) h vs ds
noncomputable def Fx.EvsOk (c : Fx) (ms : MEs) : Prop := ∀ (es : List Expr) (ds : List D) (o : Nat → Option Addr) (ρ : Env) (s : Shared) (Q : List Value → Shared → Prop) (E : Value → Shared → Prop), matchEs c.C ms es = true → evs c.O c.t.G ρ ms = .ok ds → c.St o ρ s.heap →
  (∀ vs h' tk, Ext s.heap h' → EvRepAll c.t.prog c.t.w c.X c.L o ρ ms.esc h' vs ds → Q vs { s with heap := h', toks := tk }) → wpAny c.M c.A (spliced (es.map fun e => (false, eval e c.env))) Q E s
noncomputable def Fx.EvoOk (c : Fx) (mo : MO) : Prop := ∀ (eo : Option Expr) (io : Option Int) (o : Nat → Option Addr) (ρ : Env) (s : Shared) (Q : Value → Shared → Prop) (E : Value → Shared → Prop), matchO c.C mo eo = true → evo c.O c.t.G ρ mo = .ok io → c.St o ρ s.heap →
  (∀ v h' tk, Ext s.heap h' → PartIs v io → Q v { s with heap := h', toks := tk }) → wpAny c.M c.A (evalPart eo c.env) Q E s
end Mine
-- MEv
set_option autoImplicit false
set_option linter.all false
namespace Mine
open PySem PyProof.Rows

theorem isLoc_inv {C : MC} {i : Nat} {x : Str} (h : isLoc C i x = true) : C.slots[i]? = some x ∧ C.scope.names.lookup x = some .local ∧ (x == ("__debug__" : Str)) = false := by
  simp only [isLoc, Bool.and_eq_true, beq_iff_eq, Bool.not_eq_true'] at h
  exact ⟨h.1.1, h.1.2, h.2⟩
theorem isSt_inv {C : MC} {i : Nat} {x : Str} (h : isSt C i x = true) : isLoc C i x = true ∧ C.pin ≠ some i := by
  simp only [isSt, Bool.and_eq_true, Bool.not_eq_true', beq_eq_false_iff_ne] at h
  exact h
theorem isGl_inv {C : MC} {x : Str} (h : isGl C x = true) : C.scope.names.lookup x = some .globalImplicit ∧ (x == ("__debug__" : Str)) = false := by
  simp only [isGl, Bool.and_eq_true, beq_iff_eq, Bool.not_eq_true'] at h
  exact ⟨h.1, h.2⟩
theorem R.bind_inv {α β : Type} {r : R α} {f : α → R β} {b : β} (h : r.bind f = .ok b) : ∃ a, r = .ok a ∧ f a = .ok b := by
  cases r with
  | ok a => exact ⟨a, rfl, h⟩
  | exc c => cases h
  | stuck => cases h
section
variable {c : Fx} (ok : c.Ok)
include ok

theorem Fx.kindOf (x : Str) : c.env.kindOf x = c.C.scope.names.lookup x := by rw [Env.kindOf, ok.sc]
theorem Fx.gname {x : Str} {p : Pos} {v : Value} {s : Shared} {Q E : Value → Shared → Prop} (hx : isGl c.C x = true) (hv : c.t.mg x = some v) (h0 : Ext c.t.h0 s.heap) (k : Q v s) : wpAny c.M c.A (eval (.Name x p) c.env) Q E s := by
  obtain ⟨h1, h2⟩ := isGl_inv hx
  refine Calls.Name_function_global ok.kind (by rw [Fx.kindOf ok, h1]) (Calls.loadGlobal_global (mg := c.t.mg) (by rw [ok.gl]; exact ok.t.g.keeps h0) hv k) h2
theorem Fx.bname {x : Str} {p : Pos} {v : Value} {s : Shared} {Q E : Value → Shared → Prop} (hx : isGl c.C x = true) (hv : (x, v) ∈ biNames) (h0 : Ext c.t.h0 s.heap) (k : Q v s) : wpAny c.M c.A (eval (.Name x p) c.env) Q E s := by
  obtain ⟨h1, h2⟩ := isGl_inv hx
  obtain ⟨g1, g2⟩ := ok.t.bi x v hv
  refine Calls.Name_function_global ok.kind (by rw [Fx.kindOf ok, h1]) (Calls.loadGlobal_builtin (mg := c.t.mg) (mb := c.t.mb) (by rw [ok.gl]; exact ok.t.g.keeps h0) g1 (by rw [ok.bu]; exact ok.t.b.keeps h0) g2 k) h2
theorem Fx.lname {i : Nat} {x : Str} {p : Pos} {d : D} {o : Nat → Option Addr} {ρ : Env} {s : Shared} {Q E : Value → Shared → Prop} (hx : isLoc c.C i x = true) (S : c.St o ρ s.heap)
    (hρ : ρ[i]? = some (.fr d)) (k : ∀ v, Rep c.t.prog c.t.w (Av c.X c.L o) s.heap v d → Q v s) : wpAny c.M c.A (eval (.Name x p) c.env) Q E s := by
  obtain ⟨h1, h2, h3⟩ := isLoc_inv hx
  obtain ⟨m, hm, hs⟩ := S.st.ns
  have := hs i x h1
  rw [hρ] at this
  obtain ⟨_, v, e, r⟩ := this
  exact wpAny_Name (wpAny_loadName_local ok.kind (by rw [Fx.kindOf ok, h2]) (by rw [ok.loc]; exact hm) e (k v r)) h3
theorem Fx.oname {i : Nat} {x : Str} {p : Pos} {d : D} {o : Nat → Option Addr} {ρ : Env} {s : Shared} {Q E : Value → Shared → Prop} (hx : isLoc c.C i x = true) (S : c.St o ρ s.heap)
    (hρ : ρ[i]? = some (.own d)) (k : ∀ a, o i = some a → OwnRep c.t.prog c.t.w (Av c.X c.L o) s.heap a d → Q (.ref a) s) : wpAny c.M c.A (eval (.Name x p) c.env) Q E s := by
  obtain ⟨h1, h2, h3⟩ := isLoc_inv hx
  obtain ⟨m, hm, hs⟩ := S.st.ns
  have := hs i x h1
  rw [hρ] at this
  obtain ⟨a, e1, e2, r⟩ := this
  exact wpAny_Name (wpAny_loadName_local ok.kind (by rw [Fx.kindOf ok, h2]) (by rw [ok.loc]; exact hm) e2 (k a e1 r)) h3
theorem Fx.ev_var (i : Nat) : c.EvOk (.var i) := by
  intro e d o ρ s Q E hm he S k
  replace hm := inv_var hm
  obtain ⟨_, _, rfl, hm⟩ := hm
  · simp only [ev] at he
    split at he
    · rename_i d' hq
      cases he
      exact Fx.lname ok hm S hq fun v r => k v s.heap s.toks (.refl _) (.of S.st.sys r)
    · cases he
theorem Fx.ev_own (i : Nat) : c.EvOk (.own i) := by
  intro e d o ρ s Q E hm he S k
  replace hm := inv_own hm
  obtain ⟨_, _, rfl, hm⟩ := hm
  · simp only [ev] at he
    split at he
    · rename_i d' hq
      cases he
      refine Fx.oname ok hm S hq fun a e1 r => k _ s.heap s.toks (.refl _) ?_
      obtain ⟨r1, r2⟩ := S.st.own_ref e1 r
      refine ⟨r1, (fun q => by cases q), r2, fun hn => ?_⟩
      cases d with
      | dict kv =>
        obtain ⟨ca, es, e2, nx, dc, pr⟩ := r2.dict_inv
        cases e2
        refine .dict (fun q => ?_) dc pr
        rcases q with q | q | ⟨j, l, q, q'⟩
        · exact nx (.inl q)
        · exact nx (.inr q)
        · have := S.st.inj i j _ e1 q
          subst this
          rw [hq] at q'; cases q'
      | list l => cases hn
      | _ => cases r
    · cases he
theorem Fx.ev_glob (g : Nat) : c.EvOk (.glob g) := by
  intro e d o ρ s Q E hm he S k
  replace hm := inv_glob hm
  obtain ⟨_, _, rfl, hm⟩ := hm
  · simp only [ev] at he
    split at he
    · rename_i d' hq
      cases he
      simp only [Bool.and_eq_true, beq_iff_eq] at hm
      obtain ⟨v, hv, r⟩ := ok.t.gl g _ _ (by rw [← ok.gnames]; exact hm.1) hq
      refine Fx.gname ok hm.2 hv S.h0 (k v s.heap s.toks (.refl _) (.of S.st.sys ?_))
      refine Rep.ext (Rep.avoid (fun a ob ha nx q => ?_) r) S.h0
      rcases q with q | q | ⟨i, q⟩
      · rcases ok.x0 a q with q' | q'
        · exact nx q'
        · rw [ha] at q'; cases q'
      · rw [q, ok.l0] at ha; cases ha
      · rw [S.o0 i a q] at ha; cases ha
    · cases he
theorem Fx.ev_cint (i : Int) : c.EvOk (.cint i) := by
  intro e d o ρ s Q E hm he S k
  replace hm := inv_cint hm
  obtain ⟨_, _, _, rfl, hm⟩ := hm
  · simp only [ev] at he; cases he
    obtain rfl := beq_iff_eq.mp hm
    exact wpAny_Constant_int (k _ s.heap _ (.refl _) (.of S.st.sys (.int _ _)))
theorem Fx.ev_cstr (i : Str) : c.EvOk (.cstr i) := by
  intro e d o ρ s Q E hm he S k
  replace hm := inv_cstr hm
  obtain ⟨_, _, _, rfl, hm⟩ := hm
  · simp only [ev] at he; cases he
    obtain rfl := beq_iff_eq.mp hm
    exact Calls.Constant_str (k _ s.heap _ (.refl _) (.of S.st.sys (.str _ _)))
theorem Fx.ev_cbool (i : Bool) : c.EvOk (.cbool i) := by
  intro e d o ρ s Q E hm he S k
  replace hm := inv_cbool hm
  obtain ⟨_, _, _, rfl, hm⟩ := hm
  · simp only [ev] at he; cases he
    obtain rfl := beq_iff_eq.mp hm
    exact fun _ _ _ => k _ s.heap s.toks (.refl _) (.of S.st.sys (.bool _))
theorem Fx.two {a b : ME} (ha : c.EvOk a) (hb : c.EvOk b) {ea eb : Expr} {x y : D} {o : Nat → Option Addr} {ρ : Env} {s : Shared} {E : Value → Shared → Prop} {T : Value → Value → Shared → Prop} (ma : matchE c.C a ea = true) (mb : matchE c.C b eb = true)
    (xa : ev c.O c.t.G ρ a = .ok x) (xb : ev c.O c.t.G ρ b = .ok y) (S : c.St o ρ s.heap)
    (k : ∀ v u h' tk, Ext s.heap h' → EvRep c.t.prog c.t.w c.X c.L o ρ a.esc h' v x → EvRep c.t.prog c.t.w c.X c.L o ρ b.esc h' u y → T v u { s with heap := h', toks := tk }) :
    wpAny c.M c.A (eval ea c.env) (fun v s₁ => wpAny c.M c.A (eval eb c.env) (fun u s₂ => T v u s₂) E s₁) E s :=
  ha ea x o ρ s _ E ma xa S fun v h1 t1 x1 r1 => hb eb y o ρ _ _ E mb xb (S.ext x1) fun u h2 t2 x2 r2 => k v u h2 t2 (x1.trans x2) (r1.ext x2) r2
theorem Fx.ev_bin (op : Operator) {a b : ME} (ha : c.EvOk a) (hb : c.EvOk b) : c.EvOk (.bin op a b) := by
  intro e d o ρ s Q E hm he S k
  replace hm := inv_bin hm
  obtain ⟨_, _, _, _, rfl, hm⟩ := hm
  · simp only [Bool.and_eq_true, beq_iff_eq] at hm
    obtain ⟨⟨rfl, m1⟩, m2⟩ := hm
    simp only [ev] at he
    obtain ⟨x, hx, he⟩ := R.bind_inv he
    obtain ⟨y, hy, he⟩ := R.bind_inv he
    refine wpAny_BinOp (Fx.two ok ha hb m1 m2 hx hy S fun v u h' tk x1 r1 r2 => ?_)
    exact bin_sound (S.ext x1).st.live r1.out r2.out he fun v' h2 t2 x2 r => k v' h2 t2 (x1.trans x2) (.of S.st.sys r)
theorem Fx.ev_neg {a : ME} (ha : c.EvOk a) : c.EvOk (.neg a) := by
  intro e d o ρ s Q E hm he S k
  replace hm := inv_neg hm
  obtain ⟨_, _, rfl, hm⟩ := hm
  · simp only [ev] at he
    obtain ⟨x, hx, he⟩ := R.bind_inv he
    split at he
    · cases he
      refine wpAny_UnaryOp (ha _ _ o ρ s _ E hm hx S fun v h1 t1 x1 r1 => ?_)
      obtain ⟨t, rfl⟩ := r1.out.int_inv
      exact neg_int (k _ h1 _ x1 (.of S.st.sys (.int _ _)))
    · cases he
theorem Fx.ev_nt {a : ME} (ha : c.EvOk a) : c.EvOk (.nt a) := by
  intro e d o ρ s Q E hm he S k
  replace hm := inv_nt hm
  obtain ⟨_, _, rfl, hm⟩ := hm
  · simp only [ev] at he
    obtain ⟨x, hx, he⟩ := R.bind_inv he
    split at he
    · cases he
      refine wpAny_UnaryOp (ha _ _ o ρ s _ E hm hx S fun v h1 t1 x1 r1 => ?_)
      obtain rfl := r1.out.bool_inv
      exact not_value (wpAny_truthy_bool (k _ h1 _ x1 (.of S.st.sys (.bool _))))
    · cases he
theorem Fx.tr_nt {a : ME} (ha : c.TrOk a) : c.TrOk (.nt a) := by
  intro e b o ρ s Q E hm he S k
  replace hm := inv_nt hm
  obtain ⟨_, _, rfl, hm⟩ := hm
  · simp only [ev] at he
    obtain ⟨x, hx, he⟩ := R.bind_inv he
    split at he
    · rename_i b'
      cases he
      exact wpAny_isTrue_Not (ha _ b' o ρ s _ E hm hx S fun h1 t1 x1 => k h1 t1 x1)
    · cases he
theorem Fx.ev_and {a b : ME} (ha : c.EvOk a) (hb : c.EvOk b) : c.EvOk (.and a b) := by
  intro e d o ρ s Q E hm he S k
  replace hm := inv_and hm
  obtain ⟨x0, y, zs, p, rfl, hm⟩ := hm
  simp only [ev] at he
  obtain ⟨x, hx, he⟩ := R.bind_inv he
  have k' : ∀ v h' tk, Ext s.heap h' → EvRep c.t.prog c.t.w c.X c.L o ρ b.esc h' v d → Q v { s with heap := h', toks := tk } := fun v h' tk x1 r => k v h' tk x1 ⟨r.out, fun q => r.av (by simp only [ME.esc, Bool.or_eq_false_iff] at q; exact q.2), r.avl, r.avd⟩
  cases zs with
  | nil =>
    simp only [Bool.and_eq_true] at hm
    refine wpAny_And2 (ha _ _ o ρ s _ E hm.1 hx S fun v h1 t1 x1 r1 => ?_)
    split at he
    · obtain rfl := r1.out.bool_inv
      refine wpAny_truthy_bool ?_
      exact hb _ _ o ρ _ _ E hm.2 he (S.ext x1) fun v h2 t2 x2 r2 => k' v h2 t2 (x1.trans x2) r2
    · obtain rfl := r1.out.bool_inv
      cases he
      exact wpAny_truthy_bool (k' _ h1 t1 x1 (.of S.st.sys (.bool _)))
    · cases he
  | cons z zs =>
    simp only [Bool.and_eq_true] at hm
    show wpAny c.M c.A (do
      let v ← eval x0 c.env
      standAt p
      let t ← holding [v] (truthy v)
      match BoolOp.And, t with
      | .And, false | .Or, true => pure v
      | _, _ => eval (.BoolOp .And (y :: z :: zs) p) c.env) Q E s
    refine wpAny_bind (ha _ _ o ρ s _ E hm.1 hx S fun v h1 t1 x1 r1 => wpAny_bind (wpAny_standAt (wpAny_bind (wpAny_holding ?_))))
    split at he
    · obtain rfl := r1.out.bool_inv
      refine wpAny_truthy_bool ?_
      exact hb _ _ o ρ _ _ E hm.2 he (S.ext x1) fun v h2 t2 x2 r2 => k' v h2 t2 (x1.trans x2) r2
    · obtain rfl := r1.out.bool_inv
      cases he
      exact wpAny_truthy_bool (wpAny_pure (k' _ h1 t1 x1 (.of S.st.sys (.bool _))))
    · cases he
theorem Fx.ev_or {a b : ME} (ha : c.EvOk a) (hb : c.EvOk b) : c.EvOk (.or a b) := by
  intro e d o ρ s Q E hm he S k
  replace hm := inv_or hm
  obtain ⟨x0, y, zs, p, rfl, hm⟩ := hm
  simp only [ev] at he
  obtain ⟨x, hx, he⟩ := R.bind_inv he
  have k' : ∀ v h' tk, Ext s.heap h' → EvRep c.t.prog c.t.w c.X c.L o ρ b.esc h' v d → Q v { s with heap := h', toks := tk } := fun v h' tk x1 r => k v h' tk x1 ⟨r.out, fun q => r.av (by simp only [ME.esc, Bool.or_eq_false_iff] at q; exact q.2), r.avl, r.avd⟩
  cases zs with
  | nil =>
    simp only [Bool.and_eq_true] at hm
    refine wpAny_Or2 (ha _ _ o ρ s _ E hm.1 hx S fun v h1 t1 x1 r1 => ?_)
    split at he
    · obtain rfl := r1.out.bool_inv
      cases he
      exact wpAny_truthy_bool (k' _ h1 t1 x1 (.of S.st.sys (.bool _)))
    · obtain rfl := r1.out.bool_inv
      refine wpAny_truthy_bool ?_
      exact hb _ _ o ρ _ _ E hm.2 he (S.ext x1) fun v h2 t2 x2 r2 => k' v h2 t2 (x1.trans x2) r2
    · cases he
  | cons z zs =>
    simp only [Bool.and_eq_true] at hm
    show wpAny c.M c.A (do
      let v ← eval x0 c.env
      standAt p
      let t ← holding [v] (truthy v)
      match BoolOp.Or, t with
      | .And, false | .Or, true => pure v
      | _, _ => eval (.BoolOp .Or (y :: z :: zs) p) c.env) Q E s
    refine wpAny_bind (ha _ _ o ρ s _ E hm.1 hx S fun v h1 t1 x1 r1 => wpAny_bind (wpAny_standAt (wpAny_bind (wpAny_holding ?_))))
    split at he
    · obtain rfl := r1.out.bool_inv
      cases he
      exact wpAny_truthy_bool (wpAny_pure (k' _ h1 t1 x1 (.of S.st.sys (.bool _))))
    · obtain rfl := r1.out.bool_inv
      refine wpAny_truthy_bool ?_
      exact hb _ _ o ρ _ _ E hm.2 he (S.ext x1) fun v h2 t2 x2 r2 => k' v h2 t2 (x1.trans x2) r2
    · cases he
theorem Fx.tr_and {a b : ME} (ha : c.TrOk a) (hb : c.TrOk b) : c.TrOk (.and a b) := by
  intro e r o ρ s Q E hm he S k
  replace hm := inv_and hm
  obtain ⟨x0, y, zs, p, rfl, hm⟩ := hm
  simp only [ev] at he
  obtain ⟨x, hx, he⟩ := R.bind_inv he
  cases zs with
  | nil =>
    simp only [Bool.and_eq_true] at hm
    refine wpAny_isTrue_BoolOp (wpAny_allTrue_And_cons ?_)
    split at he
    · refine ha _ true o ρ s _ E hm.1 hx S fun h1 t1 x1 => ?_
      refine wpAny_allTrue_And_cons (hb _ r o ρ _ _ E hm.2 he (S.ext x1) fun h2 t2 x2 => ?_)
      cases r
      · exact k h2 t2 (x1.trans x2)
      · exact wpAny_allTrue_And_nil (k h2 t2 (x1.trans x2))
    · cases he
      exact ha _ false o ρ s _ E hm.1 hx S fun h1 t1 x1 => k h1 t1 x1
    · cases he
  | cons z zs =>
    simp only [Bool.and_eq_true] at hm
    refine wpAny_isTrue_BoolOp (wpAny_allTrue_And_cons ?_)
    split at he
    · refine ha _ true o ρ s _ E hm.1 hx S fun h1 t1 x1 => ?_
      have := hb _ r o ρ { s with heap := h1, toks := t1 } Q E hm.2 he (S.ext x1) fun h2 t2 x2 => k h2 t2 (x1.trans x2)
      exact this
    · cases he
      exact ha _ false o ρ s _ E hm.1 hx S fun h1 t1 x1 => k h1 t1 x1
    · cases he
theorem Fx.tr_or {a b : ME} (ha : c.TrOk a) (hb : c.TrOk b) : c.TrOk (.or a b) := by
  intro e r o ρ s Q E hm he S k
  replace hm := inv_or hm
  obtain ⟨x0, y, zs, p, rfl, hm⟩ := hm
  simp only [ev] at he
  obtain ⟨x, hx, he⟩ := R.bind_inv he
  cases zs with
  | nil =>
    simp only [Bool.and_eq_true] at hm
    refine wpAny_isTrue_BoolOp (wpAny_allTrue_Or_cons ?_)
    split at he
    · cases he
      exact ha _ true o ρ s _ E hm.1 hx S fun h1 t1 x1 => k h1 t1 x1
    · refine ha _ false o ρ s _ E hm.1 hx S fun h1 t1 x1 => ?_
      refine wpAny_allTrue_Or_cons (hb _ r o ρ _ _ E hm.2 he (S.ext x1) fun h2 t2 x2 => ?_)
      cases r
      · exact wpAny_allTrue_Or_nil (k h2 t2 (x1.trans x2))
      · exact k h2 t2 (x1.trans x2)
    · cases he
  | cons z zs =>
    simp only [Bool.and_eq_true] at hm
    refine wpAny_isTrue_BoolOp (wpAny_allTrue_Or_cons ?_)
    split at he
    · cases he
      exact ha _ true o ρ s _ E hm.1 hx S fun h1 t1 x1 => k h1 t1 x1
    · refine ha _ false o ρ s _ E hm.1 hx S fun h1 t1 x1 => ?_
      have := hb _ r o ρ { s with heap := h1, toks := t1 } Q E hm.2 he (S.ext x1) fun h2 t2 x2 => k h2 t2 (x1.trans x2)
      exact this
    · cases he
end
end Mine
-- MEv2
set_option autoImplicit false
set_option linter.all false
namespace Mine
open PySem PyProof.Rows

theorem match_notSet {C : MC} {m : ME} {e : Expr} (op : CmpOp) (h : matchE C m e = true) : behindInMarks op e = false := by
  cases e with
  | Set es k p => cases m <;> exact Bool.noConfusion h
  | _ => rfl
theorem match_noSlice {C : MC} {m : ME} {e : Expr} (h : matchE C m e = true) : noSlice e = true := by
  cases e with
  | Slice l u st p => cases m <;> exact Bool.noConfusion h
  | _ => rfl
theorem match_star {C : MC} {m : ME} {e : Expr} (h : matchE C m e = true) (rest : List Expr) (env : PySem.Env) : starEach (e :: rest) env = (false, eval e env) :: starEach rest env := by
  cases e with
  | Starred v p => cases m <;> exact Bool.noConfusion h
  | _ => rfl
theorem match_base {C : MC} {m : ME} {e : Expr} (h : matchE C m e = true) (name : Str) (env : PySem.Env) (whole : Sem Value) : attributeBase e name env whole = whole := by
  cases e with
  | Call f as ks p =>
    cases as with
    | cons a as => cases f <;> rfl
    | nil =>
      cases f with
      | Name x q =>
        cases ks with
        | nil => cases m <;> exact Bool.noConfusion h
        | cons k ks => rfl
      | _ => rfl
  | _ => rfl
theorem trees_plain {C : MC} : ∀ {ms : MEs} {es : List Expr}, matchEs C ms es = true → ∀ (pos : Pos) (env : PySem.Env), backTo pos (starEach es env) = es.map fun e => (false, eval e env)
  | .nil, [], _, _, _ => rfl
  | .nil, _ :: _, h, _, _ => Bool.noConfusion h
  | .cons _ _, [], h, _, _ => Bool.noConfusion h
  | .cons a as, e :: es, h, pos, env => by
    have h := Bool.and_eq_true_iff.mp (show (matchE C a e && matchEs C as es) = true from h)
    rw [match_star h.1]
    show (false, eval e env) :: backTo pos (starEach es env) = _
    rw [trees_plain h.2]; rfl
theorem trees_noStar (es : List Expr) (env : PySem.Env) : (es.map fun e => (false, eval e env)).any (·.1) = false := by
  induction es with
  | nil => rfl
  | cons e es ih => simpa using ih
section
variable {prog : Program} {w : World} {A : Around} {E : Value → Shared → Prop} {s : Shared} {env : PySem.Env}
theorem callB {f : Value} (hf : (∃ id, f = .builtin id) ∨ ∃ T, f = .type T) {pos : Pos} {e : Expr} {es : List Expr} {Q : Value → Shared → Prop}
    (h : wpAny (model prog w) A (spliced ((e :: es).map fun e => (false, eval e env))) (fun vs s₁ => wpAny (model prog w) A (call f vs) Q E s₁) E s) :
    wpAny (model prog w) A (callWith pos f [] ((e :: es).map fun e => (false, eval e env)) []) Q E s := by
  rcases hf with ⟨id, rfl⟩ | ⟨T, rfl⟩
  · exact Calls.callWith_builtin (trees_noStar _ _) (Calls.evalArgs_plain h)
  · exact PyProof.Rows.callWith_type (trees_noStar _ _) (Calls.evalArgs_plain h)
end

noncomputable def CmpFull (prog : Program) (w : World) : Prop := ∀ (A : Around) (E : Value → Shared → Prop) (s : Shared) (X : Addr → Prop) (Q : Value → Shared → Prop) (op : CmpOp) (x y d : D) (a b : Value),
  Roomy A → RepO prog w X s.heap a x → RepO prog w X s.heap b y → cmpD op x y = .ok d → Cont prog w X s d Q → wpAny (model prog w) A (compareOp op a b) Q E s
section
variable {c : Fx} (ok : c.Ok) (hcf : CmpFull c.t.prog c.t.w)
include ok hcf

theorem Fx.ev_cmp (op : CmpOp) {a b : ME} (ha : c.EvOk a) (hb : c.EvOk b) : c.EvOk (.cmp op a b) := by
  intro e d o ρ s Q E hm he S k
  replace hm := inv_cmp hm
  obtain ⟨_, _, _, _, rfl, hm⟩ := hm
  · simp only [Bool.and_eq_true, beq_iff_eq] at hm
    obtain ⟨⟨rfl, m1⟩, m2⟩ := hm
    simp only [ev] at he
    obtain ⟨x, hx, he⟩ := R.bind_inv he
    obtain ⟨y, hy, he⟩ := R.bind_inv he
    refine wpAny_Compare1 (Fx.two ok ha hb m1 m2 hx hy S fun v u h' tk x1 r1 r2 => ?_) (match_notSet _ m2)
    exact hcf _ _ _ _ _ _ _ _ _ _ _ ok.ar.roomy r1.out r2.out he fun v' h2 t2 x2 r => k v' h2 t2 (x1.trans x2) (.of S.st.sys r)
theorem Fx.tr_cmp (op : CmpOp) {a b : ME} (ha : c.EvOk a) (hb : c.EvOk b) : c.TrOk (.cmp op a b) := by
  intro e r o ρ s Q E hm he S k
  replace hm := inv_cmp hm
  obtain ⟨_, _, _, _, rfl, hm⟩ := hm
  · simp only [Bool.and_eq_true, beq_iff_eq] at hm
    obtain ⟨⟨rfl, m1⟩, m2⟩ := hm
    simp only [ev] at he
    obtain ⟨x, hx, he⟩ := R.bind_inv he
    obtain ⟨y, hy, he⟩ := R.bind_inv he
    refine wpAny_isTrue_Compare1 (Fx.two ok ha hb m1 m2 hx hy S fun v u h' tk x1 r1 r2 => ?_) (match_notSet _ m2)
    refine hcf _ _ _ _ _ _ _ _ _ _ _ ok.ar.roomy r1.out r2.out he fun v' h2 t2 x2 r => ?_
    obtain rfl := r.bool_inv
    exact wpAny_truthy_bool (k h2 t2 (x1.trans x2))
end

section
variable {c : Fx} (ok : c.Ok)
include ok
theorem Fx.ev_idx {a i : ME} (ha : c.EvOk a) (hi : c.EvOk i) : c.EvOk (.idx a i) := by
  intro e d o ρ s Q E hm he S k
  replace hm := inv_idx hm
  obtain ⟨_, _, _, rfl, hm⟩ := hm
  · simp only [Bool.and_eq_true] at hm
    simp only [ev] at he
    obtain ⟨x, hx, he⟩ := R.bind_inv he
    obtain ⟨y, hy, he⟩ := R.bind_inv he
    refine Subscript_ (Fx.two ok ha hi hm.1 hm.2 hx hy S fun v u h' tk x1 r1 r2 => ?_)
    exact idx_sound (match_noSlice hm.2) r1.out r2.out he fun v' h2 t2 x2 r => k v' h2 t2 (x1.trans x2) (.of S.st.sys r)
theorem Fx.ev_slice {a : ME} {lo hi : MO} (ha : c.EvOk a) (hl : c.EvoOk lo) (hh : c.EvoOk hi) : c.EvOk (.slice a lo hi) := by
  intro e d o ρ s Q E hm he S k
  replace hm := inv_slice hm
  obtain ⟨_, _, _, _, _, rfl, hm⟩ := hm
  · simp only [Bool.and_eq_true] at hm
    simp only [ev] at he
    obtain ⟨x, hx, he⟩ := R.bind_inv he
    obtain ⟨l, hl', he⟩ := R.bind_inv he
    obtain ⟨u, hu', he⟩ := R.bind_inv he
    refine Subscript_ (ha _ x o ρ s _ E hm.1.1 hx S fun v h1 t1 x1 r1 => wpAny_Slice ?_)
    refine hl _ l o ρ _ _ E hm.1.2 hl' (S.ext x1) fun vl h2 t2 x2 p1 => ?_
    refine hh _ u o ρ _ _ E hm.2 hu' ((S.ext x1).ext x2) fun vu h3 t3 x3 p2 => ?_
    rw [evalPart_none]
    refine wpAny_pure ?_
    have S3 := ((S.ext x1).ext x2).ext x3
    refine slice_sound (lo := l) (hi := u) (vl := vl) (vu := vu) ((S3.ext (Ext.push _ _)).st.live) (((r1.ext x2).ext x3).ext (Ext.push _ _)).out p1 p2 (Heap.IsSliceOf.new ..) he fun v' h4 t4 x4 r => ?_
    exact k v' h4 t4 ((((x1.trans x2).trans x3).trans (Ext.push _ _)).trans x4) (.of S.st.sys r)
theorem Fx.evo_none : c.EvoOk .none := by
  intro eo io o ρ s Q E hm he S k
  replace hm : eo = none := Option.isNone_iff_eq_none.mp hm
  subst hm
  simp only [evo] at he; cases he
  rw [evalPart_none]
  exact wpAny_pure (k _ s.heap s.toks (.refl _) rfl)
theorem Fx.evo_some {a : ME} (ha : c.EvOk a) : c.EvoOk (.some a) := by
  intro eo io o ρ s Q E hm he S k
  replace hm := o1_inv hm
  obtain ⟨_, rfl, hm⟩ := hm
  · simp only [evo] at he
    obtain ⟨x, hx, he⟩ := R.bind_inv he
    rw [evalPart_some]
    refine ha _ x o ρ s _ E hm hx S fun v h1 t1 x1 r1 => ?_
    unfold optInt at he
    split at he
    · cases he
      exact k v h1 t1 x1 r1.out.int_inv
    · cases he
theorem Fx.evs_nil : c.EvsOk .nil := by
  intro es ds o ρ s Q E hm he S k
  replace hm : es = [] := List.isEmpty_iff.mp hm
  subst hm
  simp only [evs] at he; cases he
  exact Calls.spliced_nil (k _ s.heap s.toks (.refl _) ⟨fun _ => .nil, .nil, fun _ => .nil⟩)
theorem Fx.evs_cons {a : ME} {as : MEs} (ha : c.EvOk a) (hs : c.EvsOk as) : c.EvsOk (.cons a as) := by
  intro es ds o ρ s Q E hm he S k
  replace hm := lc_inv hm
  obtain ⟨_, _, rfl, hm⟩ := hm
  · simp only [Bool.and_eq_true] at hm
    simp only [evs] at he
    obtain ⟨x, hx, he⟩ := R.bind_inv he
    obtain ⟨xs, hxs, he⟩ := R.bind_inv he
    cases he
    rw [List.map_cons]
    refine Calls.spliced_cons (ha _ x o ρ s _ E hm.1 hx S fun v h1 t1 x1 r1 => ?_)
    refine hs _ xs o ρ _ _ E hm.2 hxs (S.ext x1) fun vs h2 t2 x2 r2 => k _ h2 t2 (x1.trans x2) ⟨fun q => ?_, .cons (r1.ext x2).avl r2.avl, fun q => ?_⟩
    · simp only [MEs.esc, Bool.or_eq_false_iff] at q
      exact .cons ((r1.ext x2).av q.1) (r2.av q.2)
    · simp only [List.all_cons, Bool.and_eq_true] at q
      exact .cons ((r1.ext x2).avd q.1) (r2.avd q.2)
theorem Fx.ev_tupD {as : MEs} (hs : c.EvsOk as) : c.EvOk (.tupD as) := by
  intro e d o ρ s Q E hm he S k
  replace hm := inv_tupD hm
  obtain ⟨_, _, _, rfl, hm⟩ := hm
  · simp only [ev] at he
    split at he
    · cases he
    · rename_i hesc
      obtain ⟨xs, hxs, he⟩ := R.bind_inv he
      split at he
      · rename_i hb
        cases he
        refine Tuple_ ?_
        rw [trees_plain hm]
        refine hs _ xs o ρ s _ E hm hxs S fun vs h1 t1 x1 r1 => ?_
        have rl := r1.av (by simpa using hesc)
        refine wpAny_newObj_type ?_ (by show vs.toArray.size ≤ sizeLine; rw [List.size_toArray, rl.length, sizeLine_eq]; simp only [big] at hb; omega)
        refine k _ _ _ (x1.trans (Ext.push _ _)) (.of S.st.sys ?_)
        exact .tuple (n := 0) (S.ext x1).st.live.new (Heap.get?_push_size _ rfl) (rl.ext (Ext.push _ _))
      · cases he
theorem Fx.ev_lstD {as : MEs} (hs : c.EvsOk as) : c.EvOk (.lstD as) := by
  intro e d o ρ s Q E hm he S k
  replace hm := inv_lstD hm
  obtain ⟨_, _, rfl, hm⟩ := hm
  · simp only [ev] at he
    split at he
    · cases he
    · rename_i hesc
      obtain ⟨xs, hxs, he⟩ := R.bind_inv he
      split at he
      · rename_i hb
        cases he
        refine List_ ?_
        rw [trees_plain hm]
        refine hs _ xs o ρ s _ E hm hxs S fun vs h1 t1 x1 r1 => ?_
        have rl := r1.av (by simpa using hesc)
        refine wpAny_newObj_type ?_ (by show vs.toArray.size ≤ sizeLine; rw [List.size_toArray, rl.length, sizeLine_eq]; simp only [big] at hb; omega)
        refine k _ _ _ (x1.trans (Ext.push _ _)) (.of S.st.sys ?_)
        exact .list (n := 0) (S.ext x1).st.live.new (Heap.get?_push_size _ rfl) (rl.ext (Ext.push _ _))
      · cases he
end
end Mine
-- MEv3
set_option autoImplicit false
set_option linter.all false
namespace Mine
open PySem PyProof.Rows

section
variable {prog : Program} {w : World} {X X' : Addr → Prop} {h : Heap}
theorem Rep.flat_avoid {v : Value} {d : D} (k : ∀ a vs n, h.get? a = some (tupO vs n) → ¬ X a → ¬ X' a) (q : flat d = true) (r : Rep prog w X h v d) : Rep prog w X' h v d :=
  r.go (L := false) (K := false) ⟨fun a vs n e nx => ⟨e, k a vs n e nx⟩, fun q => Bool.noConfusion q, fun q => Bool.noConfusion q⟩ q
theorem Rep.nodict_avoid {v : Value} {d : D} (k : ∀ a vs n, (h.get? a = some (tupO vs n) ∨ h.get? a = some (lstO vs n)) → ¬ X a → ¬ X' a) (q : nodict d = true) (r : Rep prog w X h v d) : Rep prog w X' h v d :=
  r.go (L := true) (K := false) ⟨fun a vs n e nx => ⟨e, k a vs n (.inl e) nx⟩, fun _ a vs n e nx => ⟨e, k a vs n (.inr e) nx⟩, fun q => Bool.noConfusion q⟩ q
end

section
variable {c : Fx} (ok : c.Ok)
include ok
theorem Fx.av0 {o : Nat → Option Addr} {ρ : Env} {h : Heap} (S : c.St o ρ h) : ∀ a, Av c.X c.L o a → c.t.X0 a ∨ c.t.h0.get? a = none := by
  intro a q
  rcases q with q | q | ⟨i, q⟩
  · exact ok.x0 a q
  · exact .inr (q ▸ ok.l0)
  · exact .inr (S.o0 i a q)
theorem Fx.avl0 {o : Nat → Option Addr} {ρ : Env} {h : Heap} (S : c.St o ρ h) : ∀ a, AvL c.X c.L a → c.t.X0 a ∨ c.t.h0.get? a = none := fun a q => Fx.av0 ok S a (q.elim .inl fun q => .inr (.inl q))
theorem Fx.avd0 {o : Nat → Option Addr} {ρ : Env} {h : Heap} (S : c.St o ρ h) : ∀ a, AvD c.X c.L o ρ a → c.t.X0 a ∨ c.t.h0.get? a = none := fun a q => Fx.av0 ok S a (q.elim .inl fun q => .inr (q.elim .inl fun ⟨i, _, q, _⟩ => .inr ⟨i, q⟩))
theorem Fx.call_fn {f : Nat} {F : MFn} {fa : Addr} {xs : List D} {r : D × Bool} {esc : Bool} {vs : List Value} {o : Nat → Option Addr} {ρ : Env} {s : Shared} {Q E : Value → Shared → Prop}
    (hF : c.t.fns[f]? = some F) (hn : c.t.mg F.name = some (.ref fa)) (hr : c.O.fn f xs = .ok r) (hal : aliasOk esc xs r.1 = true) (S : c.St o ρ s.heap) (R : EvRepAll c.t.prog c.t.w c.X c.L o ρ esc s.heap vs xs)
    (k : ∀ v h' tk, Ext s.heap h' → Rep c.t.prog c.t.w (Av c.X c.L o) h' v r.1 → (r.2 = true → ∃ c, v = .ref c ∧ s.heap.get? c = none) → Q v { s with heap := h', toks := tk }) : wpAny c.M c.A (call (.ref fa) vs) Q E s := by
  cases esc with
  | false => exact ok.orc.fn f xs r hr F fa c.A s (Av c.X c.L o) vs Q E hF hn ok.ar S.h0 S.st.live S.st.avSys (Fx.av0 ok S) (R.av rfl) k
  | true =>
    simp only [aliasOk, Bool.not_true, Bool.false_or, Bool.or_eq_true, Bool.and_eq_true] at hal
    rcases hal with hal | hal
    · refine ok.orc.fn f xs r hr F fa c.A s (AvL c.X c.L) vs Q E hF hn ok.ar S.h0 S.st.liveL (.inl S.st.sys) (Fx.avl0 ok S) R.avl fun v h' tk x1 r1 => k v h' tk x1 ?_
      refine Rep.flat_avoid (fun a vs n e nx q => ?_) hal r1
      rcases q with q | q | ⟨i, q⟩
      · exact nx (.inl q)
      · exact nx (.inr q)
      · obtain ⟨d, _, ow⟩ := (S.ext x1).st.own_slot q
        cases d with
        | list l => obtain ⟨vs', n', e', _⟩ := ow; rw [e] at e'; simp at e'
        | dict l => obtain ⟨es, e', _⟩ := ow; obtain ⟨ob, e2, e3⟩ := dictOf_get e'; rw [e] at e2; rw [← Option.some.inj e2] at e3; simp at e3
        | _ => cases ow
    · refine ok.orc.fn f xs r hr F fa c.A s (AvD c.X c.L o ρ) vs Q E hF hn ok.ar S.h0 (fun a q => S.st.live a (q.elim .inl fun q => .inr (q.elim .inl fun ⟨i, _, q, _⟩ => .inr ⟨i, q⟩))) (.inl S.st.sys) (Fx.avd0 ok S) (R.avd hal.2) fun v h' tk x1 r1 => k v h' tk x1 ?_
      refine Rep.nodict_avoid (fun a vs n e nx q => ?_) hal.1 r1
      rcases q with q | q | ⟨i, q⟩
      · exact nx (.inl q)
      · exact nx (.inr (.inl q))
      · obtain ⟨d, hd, ow⟩ := (S.ext x1).st.own_slot q
        cases d with
        | list l => exact nx (.inr (.inr ⟨i, l, q, hd⟩))
        | dict l =>
          obtain ⟨es, e', _⟩ := ow
          obtain ⟨ob, e2, e3⟩ := dictOf_get e'
          rcases e with e | e <;> (rw [e] at e2; rw [← Option.some.inj e2] at e3; simp at e3)
        | _ => cases ow
theorem Fx.fn_of {f : Nat} {x : Str} (h : c.C.fnames[f]? = some x) : ∃ F, c.t.fns[f]? = some F ∧ F.name = x := by
  rw [ok.fnames, List.getElem?_map] at h
  cases hq : c.t.fns[f]? with
  | none => rw [hq] at h; cases h
  | some F => rw [hq] at h; cases h; exact ⟨F, rfl, rfl⟩
theorem Fx.ev_callG (f : Nat) {as : MEs} (hs : c.EvsOk as) {e : Expr} {xs : List D} {r : D × Bool} {o : Nat → Option Addr} {ρ : Env} {s : Shared} {Q E : Value → Shared → Prop}
    (hm : matchE c.C (.call f as) e = true) (hxs : evs c.O c.t.G ρ as = .ok xs) (hr : c.O.fn f xs = .ok r) (hal : aliasOk as.esc xs r.1 = true) (S : c.St o ρ s.heap)
    (k : ∀ v h' tk, Ext s.heap h' → Rep c.t.prog c.t.w (Av c.X c.L o) h' v r.1 → (r.2 = true → ∃ c, v = .ref c ∧ s.heap.get? c = none) → Q v { s with heap := h', toks := tk }) : wpAny c.M c.A (eval e c.env) Q E s := by
  replace hm := inv_call hm
  obtain ⟨_, _, _, _, _, rfl, hm⟩ := hm
  · simp only [Bool.and_eq_true, beq_iff_eq, decide_eq_true_eq] at hm
    obtain ⟨⟨⟨h1, h2⟩, h3⟩, h4⟩ := hm
    obtain ⟨F, hF, rfl⟩ := Fx.fn_of ok h1
    obtain ⟨fa, fd, body, FN⟩ := ok.t.fn f F hF
    obtain ⟨ob, ho, hd⟩ := FN.obj
    refine Call_Name (trees_plain h3 _ _) (Fx.gname ok h2 FN.name S.h0 ?_)
    rw [List.map_cons]
    refine Calls.callWith_function (o := ob) (fd := fd) (Calls.evalArgs_plain ?_)
    have := hs _ xs o ρ s (fun vs s₁ => (s₁.heap.get? fa = some ob ∧ ob.data = .func fd) ∧ wpAny c.M c.A (call (.ref fa) vs []) Q E s₁) E h3 hxs S fun vs h1 t1 x1 r1 =>
      ⟨⟨(S.h0.trans x1) _ _ ho, hd⟩, Fx.call_fn ok hF FN.name hr hal (S.ext x1) r1 fun v h2 t2 x2 r2 fr => k v h2 t2 (x1.trans x2) r2 fun q => by
        obtain ⟨b, e1, e2⟩ := fr q
        refine ⟨b, e1, ?_⟩
        cases hq : s.heap.get? b with
        | none => rfl
        | some ob => rw [x1 _ _ hq] at e2; cases e2⟩
    exact this
theorem Fx.ev_call (f : Nat) {as : MEs} (hs : c.EvsOk as) : c.EvOk (.call f as) := by
  intro e d o ρ s Q E hm he S k
  simp only [ev] at he
  obtain ⟨xs, hxs, he⟩ := R.bind_inv he
  obtain ⟨r, hr, he⟩ := R.bind_inv he
  split at he
  · rename_i hal
    cases he
    exact Fx.ev_callG ok f hs hm hxs hr hal S fun v h' tk x1 r1 _ => k v h' tk x1 (.of S.st.sys r1)
  · cases he
end
end Mine
-- MEv4
set_option autoImplicit false
set_option linter.all false
namespace Mine
open PySem PyProof.Rows

theorem b1_mem (b : B1) : (b1Name b, b1Val b) ∈ biNames := by cases b <;> (repeat (first | exact List.Mem.head _ | apply List.Mem.tail))
theorem b2_mem (b : B2) : (b2Name b, b2Val b) ∈ biNames := by cases b <;> (repeat (first | exact List.Mem.head _ | apply List.Mem.tail))
theorem ty_mem {t : Ty} (h : plainTy t = true) : (tyName t, tyVal t) ∈ biNames := by cases t <;> first | exact Bool.noConfusion h | (repeat (first | exact List.Mem.head _ | apply List.Mem.tail))
theorem b1_kind (b : B1) : (∃ id, b1Val b = .builtin id) ∨ ∃ T, b1Val b = .type T := by cases b <;> first | exact .inl ⟨_, rfl⟩ | exact .inr ⟨_, rfl⟩
theorem b2_kind (b : B2) : (∃ id, b2Val b = .builtin id) ∨ ∃ T, b2Val b = .type T := by cases b <;> exact .inl ⟨_, rfl⟩
noncomputable def IntText (prog : Program) (w : World) : Prop := ∀ (A : Around) (E : Value → Shared → Prop) (s : Shared) (Q : Value → Shared → Prop) (x : Str) (t : Tok) (i : Int), intOf x = some i → (∀ u tk, Q (.int i u) { s with toks := tk }) → wpAny (model prog w) A (call (.type "int") [.str x t]) Q E s
section
variable {c : Fx} (ok : c.Ok) (hit : IntText c.t.prog c.t.w)
include ok

theorem Fx.one_arg {a : ME} (ha : c.EvOk a) {f : Value} (hf : (∃ id, f = .builtin id) ∨ ∃ T, f = .type T) {x : Str} {p pos : Pos} {y : Expr} {d : D} {o : Nat → Option Addr} {ρ : Env} {s : Shared} {Q E : Value → Shared → Prop}
    (hx : isGl c.C x = true) (hv : (x, f) ∈ biNames) (hm : matchE c.C a y = true) (he : ev c.O c.t.G ρ a = .ok d) (S : c.St o ρ s.heap)
    (k : ∀ v h' tk, Ext s.heap h' → EvRep c.t.prog c.t.w c.X c.L o ρ a.esc h' v d → wpAny c.M c.A (call f [v]) Q E { s with heap := h', toks := tk }) : wpAny c.M c.A (eval (.Call (.Name x p) [y] [] pos) c.env) Q E s := by
  refine Call_Name (trees_plain (C := c.C) (ms := .cons a .nil) (es := [y]) (Bool.and_eq_true_iff.mpr ⟨hm, rfl⟩) _ _) (Fx.bname ok hx hv S.h0 (callB hf ?_))
  exact Calls.spliced_cons (ha _ d o ρ s _ E hm he S fun v h1 t1 x1 r1 => Calls.spliced_nil (k v h1 t1 x1 r1))
theorem Fx.two_args {a b : ME} (ha : c.EvOk a) (hb : c.EvOk b) {f : Value} (hf : (∃ id, f = .builtin id) ∨ ∃ T, f = .type T) {x : Str} {p pos : Pos} {y z : Expr} {d d' : D} {o : Nat → Option Addr} {ρ : Env} {s : Shared} {Q E : Value → Shared → Prop}
    (hx : isGl c.C x = true) (hv : (x, f) ∈ biNames) (hm : matchE c.C a y = true) (hm' : matchE c.C b z = true) (he : ev c.O c.t.G ρ a = .ok d) (he' : ev c.O c.t.G ρ b = .ok d') (S : c.St o ρ s.heap)
    (k : ∀ v u h' tk, Ext s.heap h' → EvRep c.t.prog c.t.w c.X c.L o ρ a.esc h' v d → EvRep c.t.prog c.t.w c.X c.L o ρ b.esc h' u d' → wpAny c.M c.A (call f [v, u]) Q E { s with heap := h', toks := tk }) : wpAny c.M c.A (eval (.Call (.Name x p) [y, z] [] pos) c.env) Q E s := by
  refine Call_Name (trees_plain (C := c.C) (ms := .cons a (.cons b .nil)) (es := [y, z]) (Bool.and_eq_true_iff.mpr ⟨hm, Bool.and_eq_true_iff.mpr ⟨hm', rfl⟩⟩) _ _) (Fx.bname ok hx hv S.h0 (callB hf ?_))
  refine Calls.spliced_cons (ha _ d o ρ s _ E hm he S fun v h1 t1 x1 r1 => Calls.spliced_cons (hb _ d' o ρ _ _ E hm' he' (S.ext x1) fun u h2 t2 x2 r2 => Calls.spliced_nil ?_))
  exact k v u h2 t2 (x1.trans x2) (r1.ext x2) r2
include hit in
theorem Fx.ev_bi1 (b : B1) {a : ME} (ha : c.EvOk a) : c.EvOk (.bi1 b a) := by
  intro e d o ρ s Q E hm he S k
  replace hm := inv_bi1 hm
  obtain ⟨_, _, _, _, rfl, hm⟩ := hm
  · simp only [Bool.and_eq_true, beq_iff_eq] at hm
    obtain ⟨⟨rfl, h2⟩, h3⟩ := hm
    simp only [ev] at he
    obtain ⟨x, hx, he⟩ := R.bind_inv he
    refine Fx.one_arg ok ha (b1_kind b) h2 (b1_mem b) h3 hx S fun v h1 t1 x1 r1 => ?_
    by_cases hb : ∃ t, x = .str t ∧ b = .int
    · obtain ⟨t, rfl, rfl⟩ := hb
      obtain ⟨u, rfl⟩ := r1.out.str_inv
      simp only [b1D] at he
      split at he
      · rename_i i hi
        cases he
        exact hit _ _ _ _ _ _ _ hi fun u tk => k _ h1 tk x1 (.of S.st.sys (.int _ _))
      · cases he
    · exact b1_sound ok.ar.handled (S.ext x1).st.live r1.out he (fun v' h2 t2 x2 r => k v' h2 t2 (x1.trans x2) (.of S.st.sys r)) fun t q q' => hb ⟨t, q, q'⟩
theorem Fx.ev_bi2 (b : B2) {a a' : ME} (ha : c.EvOk a) (ha' : c.EvOk a') : c.EvOk (.bi2 b a a') := by
  intro e d o ρ s Q E hm he S k
  replace hm := inv_bi2 hm
  obtain ⟨_, _, _, _, _, rfl, hm⟩ := hm
  · simp only [Bool.and_eq_true, beq_iff_eq] at hm
    obtain ⟨⟨⟨rfl, h2⟩, h3⟩, h4⟩ := hm
    simp only [ev] at he
    obtain ⟨x, hx, he⟩ := R.bind_inv he
    obtain ⟨y, hy, he⟩ := R.bind_inv he
    refine Fx.two_args ok ha ha' (b2_kind b) h2 (b2_mem b) h3 h4 hx hy S fun v u h1 t1 x1 r1 r2 => ?_
    exact b2_sound ok.ar.handled r1.out r2.out he fun v' h2 t2 x2 r => k v' h2 t2 (x1.trans x2) (.of S.st.sys r)
theorem Fx.ev_isi {a : ME} (t : Ty) (ha : c.EvOk a) : c.EvOk (.isi a t) := by
  intro e d o ρ s Q E hm he S k
  replace hm := inv_isi hm
  obtain ⟨_, _, _, _, _, _, rfl, hm⟩ := hm
  · rename_i x p y z pz pos
    simp only [Bool.and_eq_true, beq_iff_eq] at hm
    obtain ⟨⟨⟨⟨⟨rfl, h2⟩, h3⟩, h4⟩, rfl⟩, h6⟩ := hm
    simp only [ev] at he
    obtain ⟨x, hx, he⟩ := R.bind_inv he
    refine Call_Name (trees := [(false, eval y c.env), (false, eval (.Name (tyName t) pz) c.env)]) ?_ (Fx.bname ok (v := .builtin "isinstance") h2 (by repeat (first | exact List.Mem.head _ | apply List.Mem.tail)) S.h0 ?_)
    · rw [match_star h3]; rfl
    refine callB (es := [.Name (tyName t) pz]) (.inl ⟨"isinstance", rfl⟩) ?_
    refine Calls.spliced_cons (ha _ x o ρ s _ E h3 hx S fun v h1 t1 x1 r1 => Calls.spliced_cons (Fx.bname ok h6 (ty_mem h4) (S.ext x1).h0 (Calls.spliced_nil ?_)))
    exact isi_sound r1.out he fun v' h2 t2 x2 r => k v' h2 t2 (x1.trans x2) (.of S.st.sys r)
theorem Fx.ev_find {a b : ME} (ha : c.EvOk a) (hb : c.EvOk b) : c.EvOk (.find a b) := by
  intro e d o ρ s Q E hm he S k
  replace hm := inv_find hm
  obtain ⟨_, _, _, _, _, rfl, hm⟩ := hm
  · rename_i oe n ap y cp
    simp only [Bool.and_eq_true, beq_iff_eq] at hm
    obtain ⟨⟨⟨h1, rfl⟩, h3⟩, h4⟩ := hm
    simp only [ev] at he
    obtain ⟨x, hx, he⟩ := R.bind_inv he
    obtain ⟨y, hy, he⟩ := R.bind_inv he
    refine Call_method1 (match_base h3 _ _ _) (match_star h4 _ _) (by simpa using h1) (ha _ x o ρ s _ E h3 hx S fun v h1 t1 x1 r1 => ?_)
    obtain ⟨t, tk, rfl⟩ : ∃ t tk, v = .str t tk := by
      unfold findD at he
      split at he
      · obtain ⟨u, rfl⟩ := r1.out.str_inv; exact ⟨_, _, rfl⟩
      · cases he
    refine ⟨"str", "str.find", F.plainAttrs_str, F.slot_str_find, F.type_str_find, typeIs_str _ _ _, (fun _ q => by cases q), ?_⟩
    refine Calls.callWith_builtin rfl (Calls.evalArgs_plain (Calls.spliced_cons (hb _ y o ρ _ _ E h4 hy (S.ext x1) fun u h2 t2 x2 r2 => Calls.spliced_nil ?_)))
    obtain ⟨_, _, _, q⟩ := find_sound (A := c.A) (E := E) (Q := Q) (s := { s with heap := h2, toks := t2 }) (r1.ext x2).out r2.out he fun v' h3 t3 x3 r => k v' h3 t3 ((x1.trans x2).trans x3) (.of S.st.sys r)
    exact q
noncomputable def plainTest : Expr → Bool
  | .UnaryOp .Not _ _ => false
  | .BoolOp _ _ _ => false
  | .IfExp _ _ _ _ => false
  | .Compare _ _ _ _ => false
  | _ => true
omit ok in
theorem isTrue_of_plain {e : Expr} (h : plainTest e = true) (env : PySem.Env) (whole : Sem Value) : isTrue e env whole = (do let v ← whole; standAt e.pos; holding [v] (truthy v)) := by
  cases e with
  | UnaryOp op x p => cases op <;> first | (cases h; done) | rfl
  | BoolOp => cases h
  | IfExp => cases h
  | Compare => cases h
  | _ => rfl
noncomputable def plainMTest : ME → Bool
  | .nt _ | .and _ _ | .or _ _ | .cmp _ _ _ => false
  | _ => true
omit ok in
theorem match_plainTest {C : MC} {m : ME} {e : Expr} (h : matchE C m e = true) (hp : plainMTest m = true) : plainTest e = true := by
  cases e with
  | UnaryOp op x p => cases op <;> first | rfl | (cases m <;> first | exact Bool.noConfusion hp | exact Bool.noConfusion h)
  | BoolOp => cases m <;> first | exact Bool.noConfusion hp | exact Bool.noConfusion h
  | IfExp => cases m <;> first | exact Bool.noConfusion hp | exact Bool.noConfusion h
  | Compare => cases m <;> first | exact Bool.noConfusion hp | exact Bool.noConfusion h
  | _ => rfl
theorem Fx.tr_plain {m : ME} (hp : plainMTest m = true) (ha : c.EvOk m) : c.TrOk m := by
  intro e b o ρ s Q E hm he S k
  refine wpAny_isTrue_value (ha _ _ o ρ s _ E hm he S fun v h1 t1 x1 r1 => ?_) (isTrue_of_plain (match_plainTest hm hp) _ _)
  obtain rfl := r1.out.bool_inv
  exact wpAny_truthy_bool (k h1 t1 x1)
end
end Mine
-- MEx
set_option autoImplicit false
set_option linter.all false
namespace Mine
open PySem PyProof.Rows

noncomputable def Wr (L : Addr) (o : Nat → Option Addr) : Addr → Prop := fun a => a = L ∨ ∃ i, o i = some a
theorem wr_av {X : Addr → Prop} {L : Addr} {o : Nat → Option Addr} : ∀ a, Wr L o a → Av X L o a := fun a q => .inr q
noncomputable def upd {α : Type} (o : Nat → α) (i : Nat) (v : α) : Nat → α := fun j => if j = i then v else o j
theorem upd_same {α : Type} (o : Nat → α) (i : Nat) (v : α) : upd o i v i = v := if_pos rfl
theorem upd_other {α : Type} (o : Nat → α) {i j : Nat} (v : α) (h : j ≠ i) : upd o i v j = o j := if_neg h
theorem sameBut_keep {L : Addr} {h h' : Heap} (sb : Heap.SameBut L h h') {W : Addr → Prop} (hw : W L) : Keep W h h' := fun b o e n => (sb.2 b fun q => n (q ▸ hw)).trans e
section
variable {prog : Program} {w : World} {X : Addr → Prop} {L : Addr} {slots : List Str} {o : Nat → Option Addr} {ρ : Env} {h h' : Heap}

theorem slot_ne (nd : slots.Nodup) {i j : Nat} {x y : Str} (hi : slots[i]? = some x) (hj : slots[j]? = some y) (hne : j ≠ i) : y ≠ x := by
  intro e
  subst e
  have h1 := (List.getElem?_eq_some_iff.mp hi)
  have h2 := (List.getElem?_eq_some_iff.mp hj)
  obtain ⟨l1, e1⟩ := h1
  obtain ⟨l2, e2⟩ := h2
  exact hne ((List.getElem_inj nd).mp (e2.trans e1.symm))
theorem St.set_fr (S : St prog w X L slots o ρ h) (nd : slots.Nodup) {i : Nat} {x : Str} (hx : slots[i]? = some x) {v : Value} {d : D} {m : Str → Option Value} (hm : h.Ns L m) (hs : ∀ i x, slots[i]? = some x → SlotOk prog w (Av X L o) h (o i) (m x) (ρ[i]?))
    (r : Rep prog w (Av X L o) h v d) (hn : h'.Ns L (fun y => if y = x then some v else m y)) (sb : Heap.SameBut L h h') : St prog w X L slots (upd o i none) (ρ.set i (.fr d)) h' := by
  have kp : Keep (Av X L o) h h' := sameBut_keep sb (.inr (.inl rfl))
  have av : ∀ a, Av X L (upd o i none) a → Av X L o a := fun a q => by
    rcases q with q | q | ⟨j, q⟩
    · exact .inl q
    · exact .inr (.inl q)
    · by_cases hj : j = i
      · subst hj; rw [upd_same] at q; cases q
      · rw [upd_other _ _ hj] at q; exact .inr (.inr ⟨j, q⟩)
  have hi : i < ρ.length := by rw [S.len]; exact (List.getElem?_eq_some_iff.mp hx).1
  refine ⟨⟨_, hn, fun j y hy => ?_⟩, S.xl, fun j a q => ?_, fun j k a q q' => ?_, fun a q => ?_, S.sys, by rw [List.length_set, S.len]⟩
  · by_cases hj : j = i
    · subst hj
      rw [hx] at hy; cases hy
      rw [List.getElem?_set_self hi, upd_same]
      exact ⟨rfl, v, if_pos rfl, (r.mono kp).less av⟩
    · have hne := slot_ne nd hx hy hj
      rw [List.getElem?_set_ne (Ne.symm hj), upd_other _ _ hj, if_neg hne]
      exact ((hs j y hy).mono kp fun a q ob e => (sb.2 a fun q' => (S.xo j a q).2.1 q').trans e).avoid fun a _ _ n q => n (av a q)
  · by_cases hj : j = i
    · subst hj; rw [upd_same] at q; cases q
    · rw [upd_other _ _ hj] at q; exact S.xo j a q
  · by_cases hj : j = i
    · subst hj; rw [upd_same] at q; cases q
    · by_cases hk : k = i
      · subst hk; rw [upd_same] at q'; cases q'
      · rw [upd_other _ _ hj] at q; rw [upd_other _ _ hk] at q'; exact S.inj j k a q q'
  · obtain ⟨ob, e⟩ := S.xok a q
    exact ⟨ob, (sb.2 a fun q' => S.xl (q' ▸ q)).trans e⟩
theorem St.set_own {h1 : Heap} (S : St prog w X L slots o ρ h1) (nd : slots.Nodup) {i : Nat} {x : Str} (hx : slots[i]? = some x) {a : Addr} {d : D} (ha : h1.get? a = none) (x1 : Ext h1 h) (r : OwnRep prog w (fun b => Av X L o b ∨ b = a) h a d)
    {m : Str → Option Value} (hm : h1.Ns L m) (hs : ∀ i x, slots[i]? = some x → SlotOk prog w (Av X L o) h1 (o i) (m x) (ρ[i]?))
    (hn : h'.Ns L (fun y => if y = x then some (.ref a) else m y)) (sb : Heap.SameBut L h h') : St prog w X L slots (upd o i (some a)) (ρ.set i (.own d)) h' := by
  have lv := S.live
  have na : ¬ Av X L o a := fun q => by obtain ⟨ob, e⟩ := lv a q; rw [ha] at e; cases e
  have kp : Keep (fun b => Av X L o b ∨ b = a) h h' := sameBut_keep sb (.inl (.inr (.inl rfl)))
  have av : ∀ b, Av X L (upd o i (some a)) b → Av X L o b ∨ b = a := fun b q => by
    rcases q with q | q | ⟨j, q⟩
    · exact .inl (.inl q)
    · exact .inl (.inr (.inl q))
    · by_cases hj : j = i
      · subst hj; rw [upd_same] at q; cases q; exact .inr rfl
      · rw [upd_other _ _ hj] at q; exact .inl (.inr (.inr ⟨j, q⟩))
  have hi : i < ρ.length := by rw [S.len]; exact (List.getElem?_eq_some_iff.mp hx).1
  have nL : a ≠ L := fun q => na (.inr (.inl q))
  refine ⟨⟨_, hn, fun j y hy => ?_⟩, S.xl, fun j b q => ?_, fun j k b q q' => ?_, fun b q => ?_, S.sys, by rw [List.length_set, S.len]⟩
  · by_cases hj : j = i
    · subst hj
      rw [hx] at hy; cases hy
      rw [List.getElem?_set_self hi, upd_same]
      exact ⟨a, rfl, if_pos rfl, (r.mono kp fun ob e => (sb.2 a nL).trans e).avoid fun b _ _ n q => n (av b q)⟩
    · have hne := slot_ne nd hx hy hj
      rw [List.getElem?_set_ne (Ne.symm hj), upd_other _ _ hj, if_neg hne]
      have s1 := (hs j y hy).avoid (Y' := fun b => Av X L o b ∨ b = a) fun b ob e n q => q.elim n fun q => by rw [q, ha] at e; cases e
      have s2 := s1.mono (h' := h) (x1.keep _) fun b _ ob e => x1 b ob e
      exact (s2.mono kp fun b q ob e => (sb.2 b fun q' => (S.xo j b q).2.1 q').trans e).avoid fun b _ _ n q => n (av b q)
  · by_cases hj : j = i
    · subst hj; rw [upd_same] at q; cases q
      exact ⟨fun q => na (.inl q), nL, (List.getElem?_eq_some_iff.mp hx).1⟩
    · rw [upd_other _ _ hj] at q; exact S.xo j b q
  · by_cases hj : j = i
    · subst hj; rw [upd_same] at q; cases q
      by_cases hk : k = j
      · exact hk.symm
      · rw [upd_other _ _ hk] at q'; exact absurd (.inr (.inr ⟨k, q'⟩)) na
    · by_cases hk : k = i
      · subst hk; rw [upd_same] at q'; cases q'
        rw [upd_other _ _ hj] at q; exact absurd (.inr (.inr ⟨j, q⟩)) na
      · rw [upd_other _ _ hj] at q; rw [upd_other _ _ hk] at q'; exact S.inj j k b q q'
  · obtain ⟨ob, e⟩ := S.xok b q
    exact ⟨ob, (sb.2 b fun q' => S.xl (q' ▸ q)).trans (x1 b ob e)⟩
theorem St.turn_own (S : St prog w X L slots o ρ h) {i : Nat} {a : Addr} {d : D} (ha : o i = some a) (sb : Heap.SameBut a h h') (r : OwnRep prog w (Av X L o) h' a d) : St prog w X L slots o (ρ.set i (.own d)) h' := by
  have kp : Keep (Av X L o) h h' := sameBut_keep sb (.inr (.inr ⟨i, ha⟩))
  obtain ⟨nx, nL, hi⟩ := S.xo i a ha
  have hi' : i < ρ.length := by rw [S.len]; exact hi
  obtain ⟨m, hm, hs⟩ := S.ns
  refine ⟨⟨m, hm.sameBut sb (Ne.symm nL), fun j y hy => ?_⟩, S.xl, S.xo, S.inj, fun b q => ?_, S.sys, by rw [List.length_set, S.len]⟩
  · by_cases hj : j = i
    · subst hj
      have := hs j y hy
      rw [List.getElem?_set_self hi']
      obtain ⟨d0, e0, _⟩ := S.own_slot ha
      rw [e0] at this
      obtain ⟨a', e1, e2, _⟩ := this
      exact ⟨a', e1, e2, by rw [ha] at e1; cases e1; exact r⟩
    · rw [List.getElem?_set_ne (Ne.symm hj)]
      exact (hs j y hy).mono kp fun b q ob e => (sb.2 b fun q' => hj (S.inj j i b q (q' ▸ ha))).trans e
  · obtain ⟨ob, e⟩ := S.xok b q
    exact ⟨ob, (sb.2 b fun q' => nx (q' ▸ q)).trans e⟩
end

theorem swaps_no {C : MC} {m : ME} {v : Expr} (h : matchE C m v = true) (hn : notComp m = true) (t : Option Expr) (line : Nat) (env : PySem.Env) : swapsWith v t line env = pure false := by
  cases v with
  | ListComp => cases m <;> first | exact Bool.noConfusion hn | exact Bool.noConfusion h
  | SetComp => cases m <;> exact Bool.noConfusion h
  | DictComp => cases m <;> exact Bool.noConfusion h
  | _ => rfl
noncomputable def OG (p : Option Nat) (o o' : Nat → Option Addr) (h : Heap) : Prop := (∀ i a, o' i = some a → (∃ j, o j = some a) ∨ h.get? a = none) ∧ ∀ i, p = some i → o' i = o i
theorem OG.refl (p : Option Nat) (o : Nat → Option Addr) (h : Heap) : OG p o o h := ⟨fun i a q => .inl ⟨i, q⟩, fun _ _ => rfl⟩
noncomputable def Fx.Post (c : Fx) (o : Nat → Option Addr) (s : Shared) (r : SR) (Q : Flow → Shared → Prop) : Prop := match r with
  | .next ρ' => ∀ o' h' tk, c.St o' ρ' h' → Keep (Wr c.L o) s.heap h' → OG c.C.pin o o' s.heap → Q .next { s with heap := h', toks := tk }
  | .ret d fr _ => ∀ v h' tk, Ext c.t.h0 h' → Keep c.Z c.hE h' → Rep c.t.prog c.t.w c.X h' v d → (fr = true → ∃ a, v = .ref a ∧ (c.hE.get? a = none ∨ c.Z a)) → Q (.ret v) { s with heap := h', toks := tk }
  | _ => False
noncomputable def Fx.ExOk (c : Fx) (ms : MS) : Prop := ∀ (st : Stmt) (o : Nat → Option Addr) (ρ : Env) (s : Shared) (Q : Flow → Shared → Prop) (E : Value → Shared → Prop), matchS c.C ms st = true → c.St o ρ s.heap → c.Post o s (ex c.O c.t.G ms ρ) Q → wpAny c.M c.A (exec st c.env) Q E s
noncomputable def Fx.ExB (c : Fx) (ms : MS) : Prop := ∀ (l : List Stmt) (o : Nat → Option Addr) (ρ : Env) (s : Shared) (Q : Flow → Shared → Prop) (E : Value → Shared → Prop), matchB c.C ms l = true → c.St o ρ s.heap → c.Post o s (ex c.O c.t.G ms ρ) Q → wpAny c.M c.A (execs l c.env) Q E s
section
variable {c : Fx} (ok : c.Ok)
theorem Fx.keep_trans {o o1 : Nat → Option Addr} {ρ1 : Env} {h h1 h2 : Heap} (k1 : Keep (Wr c.L o) h h1) (g1 : OG c.C.pin o o1 h) (k2 : Keep (Wr c.L o1) h1 h2) : Keep (Wr c.L o) h h2 := fun b ob e n => by
  refine k2 b ob (k1 b ob e n) fun q => ?_
  rcases q with q | ⟨i, q⟩
  · exact n (.inl q)
  · rcases g1.1 i b q with ⟨j, q'⟩ | q'
    · exact n (.inr ⟨j, q'⟩)
    · rw [e] at q'; cases q'
theorem Fx.og_trans {o o1 o2 : Nat → Option Addr} {ρ2 : Env} {h h1 h2 : Heap} (k1 : Keep (Wr c.L o) h h1) (g1 : OG c.C.pin o o1 h) (g2 : OG c.C.pin o1 o2 h1) (S2 : c.St o2 ρ2 h2) : OG c.C.pin o o2 h := by
  refine ⟨fun i a q => ?_, fun i hi => (g2.2 i hi).trans (g1.2 i hi)⟩
  rcases g2.1 i a q with ⟨j, q'⟩ | q'
  · exact g1.1 j a q'
  · by_cases hw : Wr c.L o a
    · rcases hw with hw | hw
      · exact absurd hw (S2.st.xo i a q).2.1
      · exact .inl hw
    · right
      cases e : h.get? a with
      | none => rfl
      | some ob => rw [k1 a ob e hw] at q'; cases q'
theorem Fx.Post.after {o o1 : Nat → Option Addr} {ρ1 : Env} {s : Shared} {h1 : Heap} {t1 : Nat} {r : SR} {Q : Flow → Shared → Prop} (P : c.Post o s r Q) (k1 : Keep (Wr c.L o) s.heap h1) (g1 : OG c.C.pin o o1 s.heap) : c.Post o1 { s with heap := h1, toks := t1 } r Q := by
  cases r with
  | next ρ' => exact fun o' h' tk S k g => P o' h' tk S (Fx.keep_trans (ρ1 := ρ') k1 g1 k) (Fx.og_trans k1 g1 g S)
  | ret d fr ρ' => exact fun v h' tk a b c d => P v h' tk a b c d
  | exc _ _ => exact P
  | stuck => exact P
theorem Fx.Post.ext {o : Nat → Option Addr} {s : Shared} {h1 : Heap} {t1 : Nat} {r : SR} {Q : Flow → Shared → Prop} (P : c.Post o s r Q) (x1 : Ext s.heap h1) : c.Post o { s with heap := h1, toks := t1 } r Q := P.after (ρ1 := []) (x1.keep _) (OG.refl _ _ _)
theorem SR.of_post {α : Type} {r : R α} {ρ : Env} {f : α → SR} {o : Nat → Option Addr} {s : Shared} {Q : Flow → Shared → Prop} (P : c.Post o s (SR.of r ρ f) Q) : ∃ a, r = .ok a ∧ c.Post o s (f a) Q := by
  cases r with
  | ok a => exact ⟨a, rfl, P⟩
  | exc _ => exact P.elim
  | stuck => exact P.elim
include ok
theorem Fx.exb_skip : c.ExB .skip := by
  intro l o ρ s Q E hm S P
  replace hm : l = [] := List.isEmpty_iff.mp hm
  subst hm
  simp only [ex] at P
  exact wpAny_execs_nil (P o s.heap s.toks S (Keep.refl _ _) (OG.refl _ _ _))
theorem Fx.exb_seq {a b : MS} (ha : c.ExOk a) (hb : c.ExB b) : c.ExB (.seq a b) := by
  intro l o ρ s Q E hm S P
  replace hm := lc_inv hm
  obtain ⟨st, rest, rfl, hm⟩ := hm
  · simp only [Bool.and_eq_true] at hm
    simp only [ex] at P
    refine wpAny_execs_cons (ha st o ρ s _ E hm.1 S ?_)
    cases hr : ex c.O c.t.G a ρ with
    | next ρ1 =>
      rw [hr] at P
      intro o1 h1 t1 S1 k1 g1
      exact hb rest o1 ρ1 _ Q E hm.2 S1 (Fx.Post.after (ρ1 := ρ1) P k1 g1)
    | ret d fr ρ1 => rw [hr] at P; exact P
    | exc _ _ => rw [hr] at P; exact P
    | stuck => rw [hr] at P; exact P
theorem Fx.store_fr {i : Nat} {x : Str} {v : Value} {d : D} {o : Nat → Option Addr} {ρ : Env} {s : Shared} {E : Value → Shared → Prop} {T : Unit → Shared → Prop} (hx : isSt c.C i x = true) (S : c.St o ρ s.heap) (r : Rep c.t.prog c.t.w (Av c.X c.L o) s.heap v d)
    (k : ∀ h', c.St (upd o i none) (ρ.set i (.fr d)) h' → Keep (Wr c.L o) s.heap h' → OG c.C.pin o (upd o i none) s.heap → T () { s with heap := h', toks := s.toks + 1 }) : wpAny c.M c.A (storeName c.env x v) T E s := by
  obtain ⟨hx, hpin⟩ := isSt_inv hx
  obtain ⟨h1, h2, h3⟩ := isLoc_inv hx
  obtain ⟨m, hm, hs⟩ := S.st.ns
  refine wpAny_storeName_local (by rw [Fx.kindOf ok, h2]) (by rw [ok.loc]; exact hm) (fun h' hn sb => ?_) (by rw [ok.kind]; rfl)
  rw [ok.loc] at hn sb
  have sub : ∀ j a, upd o i none j = some a → o j = some a := fun j a q => by
    by_cases hj : j = i
    · subst hj; rw [upd_same] at q; cases q
    · rw [upd_other _ _ hj] at q; exact q
  refine k h' ⟨S.st.set_fr ok.nodup h1 hm hs r hn sb, fun b ob e => (sb.2 b fun q => ?_).trans (S.h0 b ob e), fun j a q => S.o0 j a (sub j a q), fun b ob e n => (sb.2 b fun q => ?_).trans (S.kE b ob e n), fun j a q => S.oE j a (sub j a q)⟩ (sameBut_keep sb (.inl rfl)) ⟨fun j a q => .inl ⟨j, sub j a q⟩, fun j hj => upd_other _ _ fun q => hpin (q ▸ hj)⟩
  · rw [q, ok.l0] at e; cases e
  · exact ok.lE (q ▸ ⟨ob, e⟩)
theorem Fx.ex_asg (i : Nat) {e : ME} (he : c.EvOk e) : c.ExOk (.asg i e) := by
  intro st o ρ s Q E hm S P
  replace hm := inv_asg hm
  obtain ⟨_, _, _, _, rfl, hm⟩ := hm
  · simp only [Bool.and_eq_true] at hm
    obtain ⟨⟨h1, h2⟩, h3⟩ := hm
    simp only [ex] at P
    split at P
    · exact P.elim
    · rename_i hesc
      obtain ⟨d, hd, P⟩ := SR.of_post P
      refine wpAny_Assign_Name (he _ d o ρ s _ E h2 hd S fun v h' tk x1 r => ?_) (swaps_no h2 h3 _ _ _)
      exact Fx.store_fr ok h1 (S.ext x1) (r.av (by simpa using hesc)) fun h'' S' k' g' => P _ h'' _ S' (Fx.keep_trans (ρ1 := ρ) (x1.keep _) (OG.refl _ _ _) k') ⟨(fun j a q => by
        rcases g'.1 j a q with q' | q'
        · exact .inl q'
        · right
          cases e : s.heap.get? a with
          | none => rfl
          | some ob => have := x1 a ob e; rw [show h'.get? a = none from q'] at this; cases this), g'.2⟩
theorem Fx.ex_ret {e : ME} (he : c.EvOk e) : c.ExOk (.ret e) := by
  intro st o ρ s Q E hm S P
  replace hm := inv_ret hm
  obtain ⟨_, _, rfl, hm⟩ := hm
  · simp only [ex] at P
    obtain ⟨d, hd, P⟩ := SR.of_post P
    cases hio : isOwn e with
    | false =>
      refine wpAny_Return_some (he _ d o ρ s _ E hm hd S fun v h' tk x1 r => ?_)
      exact P v h' tk (S.h0.trans x1) (S.kE.trans (x1.keep _)) (r.avl.less fun a q => .inl q) fun hf => by rw [hio] at hf; cases hf
    | true =>
      cases e with
      | own i =>
        refine wpAny_Return_some ?_
        replace hm := inv_own hm
        obtain ⟨_, _, rfl, hm⟩ := hm
        · simp only [ev] at hd
          split at hd
          · rename_i d' hq
            cases hd
            refine Fx.oname ok hm S hq fun a e1 r => ?_
            exact P _ s.heap s.toks S.h0 S.kE ((S.st.own_ref e1 r).2.less fun a q => .inl q) fun _ => ⟨a, rfl, S.oE i a e1⟩
          · cases hd
      | _ => cases hio
theorem Fx.ex_ite {t : ME} {a b : MS} (ht : c.TrOk t) (ha : c.ExB a) (hb : c.ExB b) : c.ExOk (.ite t a b) := by
  intro st o ρ s Q E hm S P
  replace hm := inv_ite hm
  obtain ⟨_, _, _, _, rfl, hm⟩ := hm
  · simp only [Bool.and_eq_true] at hm
    simp only [ex] at P
    obtain ⟨d, hd, P⟩ := SR.of_post P
    split at P
    · refine wpAny_If (ht _ true o ρ s _ E hm.1.1 hd S fun h' tk x1 => ?_)
      exact ha _ o ρ _ Q E hm.1.2 (S.ext x1) (P.ext x1)
    · refine wpAny_If (ht _ false o ρ s _ E hm.1.1 hd S fun h' tk x1 => ?_)
      exact hb _ o ρ _ Q E hm.2 (S.ext x1) (P.ext x1)
    · exact P.elim
end
end Mine
-- MEx2
set_option autoImplicit false
set_option linter.all false
namespace Mine
open PySem PyProof.Rows

section
variable {prog : Program} {w : World} {X : Addr → Prop} {h h' : Heap} {it : Addr} {ob : Obj} {fs : Array Value}
theorem goF (e : h.get? it = some ob) (f : ob.data = .fields fs) : Go true true X (fun a => X a ∨ a = it) h h :=
  ⟨fun a vs n q nx => ⟨q, fun z => z.elim nx fun z => by rw [z, e] at q; cases q; cases f⟩, fun _ a vs n q nx => ⟨q, fun z => z.elim nx fun z => by rw [z, e] at q; cases q; cases f⟩,
    fun _ a o2 es n q q3 nx => ⟨q, fun z => z.elim nx fun z => by rw [z, e] at q; cases q; rw [f] at q3; cases q3⟩⟩
theorem Rep.avoidF {v : Value} {d : D} (e : h.get? it = some ob) (f : ob.data = .fields fs) (r : Rep prog w X h v d) : Rep prog w (fun a => X a ∨ a = it) h v d := r.go (goF e f) (within_all d)
theorem RepAll.avoidF {vs : List Value} {ds : List D} (e : h.get? it = some ob) (f : ob.data = .fields fs) (r : RepAll prog w X h vs ds) : RepAll prog w (fun a => X a ∨ a = it) h vs ds := r.go (goF e f) (withins_all ds)
theorem OwnRep.ne_it {Y : Addr → Prop} {a : Addr} {d : D} (r : OwnRep prog w Y h a d) (e : h.get? it = some ob) (f : ob.data = .fields fs) : a ≠ it := by
  intro z
  subst z
  cases d with
  | list l => obtain ⟨vs, n, q, _⟩ := r; rw [e] at q; cases q; cases f
  | dict l => obtain ⟨es, ⟨o2, es2, n2, q2, _, q3, _⟩, _⟩ := r; rw [e] at q2; cases q2; rw [f] at q3; cases q3
  | _ => cases r
theorem OwnRep.avoidF {Y : Addr → Prop} {a : Addr} {d : D} (r : OwnRep prog w Y h a d) (e : h.get? it = some ob) (f : ob.data = .fields fs) : OwnRep prog w (fun a => Y a ∨ a = it) h a d := by
  cases d with
  | list l => obtain ⟨vs, n, q, z⟩ := r; exact ⟨vs, n, q, z.avoidF e f⟩
  | dict l => exact r
  | _ => cases r
theorem SlotOk.avoidF {Y : Addr → Prop} {oi : Option Addr} {mx : Option Value} {sl : Option Slot} (r : SlotOk prog w Y h oi mx sl) (e : h.get? it = some ob) (f : ob.data = .fields fs) : SlotOk prog w (fun a => Y a ∨ a = it) h oi mx sl := by
  match sl, r with
  | some (.fr d), ⟨e1, v, e', q⟩ => exact ⟨e1, v, e', q.avoidF e f⟩
  | some (.own d), ⟨a, e1, e', q⟩ => exact ⟨a, e1, e', q.avoidF e f⟩
  | some .unset, r => exact r
  | some (.ex c), r => exact r
  | none, r => exact r
theorem St.other {L : Addr} {slots : List Str} {o : Nat → Option Addr} {ρ : Env} (S : St prog w X L slots o ρ h) (e : h.get? it = some ob) (f : ob.data = .fields fs) (sb : Heap.ExtBut it h h') (nx : ¬ X it) : St prog w X L slots o ρ h' := by
  obtain ⟨m, hm, hs⟩ := S.ns
  have nL : L ≠ it := fun z => by
    obtain ⟨o2, es, n, q, q2, _⟩ := hm
    rw [z, e] at q; cases q; rw [f] at q2; cases q2
  have kp : Keep (fun a => Av X L o a ∨ a = it) h h' := fun b ob q n => sb b ob (fun z => n (.inr z)) q
  refine ⟨⟨m, ?_, fun j y hy => ?_⟩, S.xl, S.xo, S.inj, fun a q => ?_, S.sys, S.len⟩
  · obtain ⟨o2, es, n, q, r⟩ := hm
    exact ⟨o2, es, n, sb _ _ nL q, r⟩
  · refine (((hs j y hy).avoidF e f).mono kp fun a q ob2 q2 => sb a ob2 (fun z => ?_) q2).avoid fun a _ _ n q => n (.inl q)
    obtain ⟨d, _, ow⟩ := S.own_slot q
    exact ow.ne_it e f z
  · obtain ⟨ob2, q2⟩ := S.xok a q
    exact ⟨ob2, sb a ob2 (fun z => nx (z ▸ q)) q2⟩
end

section
variable {c : Fx} (ok : c.Ok)
theorem Fx.St.other {o : Nat → Option Addr} {ρ : Env} {h h' : Heap} {it : Addr} {ob : Obj} {fs : Array Value} (S : c.St o ρ h) (e : h.get? it = some ob) (f : ob.data = .fields fs) (sb : Heap.ExtBut it h h') (nx : ¬ c.X it)
    (n0 : c.t.h0.get? it = none) (nE : ¬ c.Z it → c.hE.get? it = none) : c.St o ρ h' :=
  ⟨S.st.other e f sb nx, fun b ob q => sb b ob (fun z => by rw [z, n0] at q; cases q) (S.h0 b ob q), S.o0, fun b ob q n => sb b ob (fun z => by subst z; rw [nE n] at q; cases q) (S.kE b ob q n), S.oE⟩
theorem Fx.St.new0 {o : Nat → Option Addr} {ρ : Env} {h : Heap} (S : c.St o ρ h) : c.t.h0.get? h.objs.size = none ∧ (¬ c.Z h.objs.size → c.hE.get? h.objs.size = none) := by
  have q : h.get? h.objs.size = none := Heap.get?_none_of_le (Nat.le_refl _)
  refine ⟨?_, fun n => ?_⟩
  · cases e : c.t.h0.get? h.objs.size with
    | none => rfl
    | some ob => rw [S.h0 _ _ e] at q; cases q
  · cases e : c.hE.get? h.objs.size with
    | none => rfl
    | some ob => rw [S.kE _ _ e n] at q; cases q
structure IterOk (c : Fx) (hb : Heap) (o : Nat → Option Addr) (it : Addr) (J : List D → Heap → Prop) : Prop where
  obj : ∀ rest h, J rest h → ∃ ob fs, h.get? it = some ob ∧ ob.data = .fields fs
  keep : ∀ rest h h' o', J rest h → Keep (Wr c.L o') h h' → OG c.C.pin o o' hb → Keep (Wr c.L o) hb h → (∀ j a, o' j = some a → a ≠ it) → it ≠ c.L → J rest h'
  item : ∀ d rest o' ρ' s' (T : Option Value → Shared → Prop) (E : Value → Shared → Prop), J (d :: rest) s'.heap → c.St o' ρ' s'.heap → Keep (Wr c.L o) hb s'.heap → OG c.C.pin o o' hb →
    (∀ v h' tk, Heap.ExtBut it s'.heap h' → J rest h' → Rep c.t.prog c.t.w (Av c.X c.L o') s'.heap v d → T (some v) { s' with heap := h', toks := tk }) → wpAny c.M c.A (pyNext (.ref it)) T E s'
  stop : ∀ o' ρ' s' (T : Option Value → Shared → Prop) (E : Value → Shared → Prop), J [] s'.heap → c.St o' ρ' s'.heap → (∀ h' tk, Heap.ExtBut it s'.heap h' → T none { s' with heap := h', toks := tk }) → wpAny c.M c.A (pyNext (.ref it)) T E s'
  new : hb.get? it = none
  nx : ¬ c.X it
include ok in
theorem Fx.for_loop {i : Nat} {b : MS} (hb : c.ExB b) {x : Str} {px : Pos} {body : List Stmt} {base : Heap} {o : Nat → Option Addr} {it : Addr} {J : List D → Heap → Prop} (IT : IterOk c base o it J) (hx : isSt c.C i x = true) (hm : matchB c.C b body = true)
    {s₀ : Shared} {Q : Flow → Shared → Prop} {R : Result → Shared → Prop} (hR : ∀ f s', R (.ok f) s' ↔ Q f s') (hbase : s₀.heap = base) (n0 : c.t.h0.get? it = none) (nE : ¬ c.Z it → c.hE.get? it = none)
    {l : List D} {ρ : Env} (P : c.Post o s₀ (forLoop (fun d ρ' => ex c.O c.t.G b (ρ'.set i (.fr d))) l ρ) Q) {h1 : Heap} {t1 : Nat} (hJ : J l h1) (S : c.St o ρ h1) (kp : Ext base h1) :
    codeAny c.M c.A (.forLoop (.Name x px) (.ref it) body [] c.env) R { s₀ with heap := h1, toks := t1 } := by
  refine codeAny_forLoop (fun n s' => ∃ o' ρ' rest h' tk, s' = { s₀ with heap := h', toks := tk } ∧ n = rest.length ∧ c.St o' ρ' h' ∧ Keep (Wr c.L o) base h' ∧ OG c.C.pin o o' base ∧ J rest h' ∧ c.Post o s₀ (forLoop (fun d ρ' => ex c.O c.t.G b (ρ'.set i (.fr d))) rest ρ') Q) ?_ l.length ⟨o, ρ, l, h1, t1, rfl, rfl, S, kp.keep _, OG.refl _ _ _, hJ, P⟩
  rintro n s' ⟨o', ρ', rest, h', tk, rfl, rfl, S', kp', og', hJ', P'⟩
  obtain ⟨ob, fs, e1, e2⟩ := IT.obj _ _ hJ'
  cases rest with
  | nil =>
    refine IT.stop o' ρ' _ _ _ hJ' S' fun h2 t2 eb => ?_
    dsimp only
    refine wpAny_execs_nil ((hR _ _).mpr ?_)
    refine P' o' h2 t2 (S'.other e1 e2 eb IT.nx n0 nE) ?_ (hbase ▸ og')
    intro b' ob' q n'
    have q' : base.get? b' = some ob' := hbase ▸ q
    exact eb b' ob' (fun z => by rw [z, IT.new] at q'; cases q') (kp' b' ob' q' n')
  | cons d rest =>
    refine IT.item d rest o' ρ' _ _ _ hJ' S' kp' og' fun v h2 t2 eb hJ2 rv => ?_
    dsimp only
    obtain ⟨ob2, fs2, f1, f2⟩ := IT.obj _ _ hJ2
    have S2 := S'.other e1 e2 eb IT.nx n0 nE
    have rv2 : Rep c.t.prog c.t.w (Av c.X c.L o') h2 v d := ((rv.avoidF e1 e2).mono fun b' ob' q n' => eb b' ob' (fun z => n' (.inr z)) q).less fun a q => .inl q
    refine wpAny_assign_Name (Fx.store_fr ok hx S2 rv2 fun h3 S3 k3 g3 => ?_)
    have itL : it ≠ c.L := fun z => by
      obtain ⟨m, ⟨o9, es, n9, q, q2, _⟩, _⟩ := S'.st.ns
      rw [← z, e1] at q; cases q; rw [e2] at q2; cases q2
    have oit : ∀ j a, o' j = some a → a ≠ it := fun j a q => by
      obtain ⟨d9, _, ow⟩ := S'.st.own_slot q
      exact ow.ne_it e1 e2
    have sub : ∀ j a, upd o' i none j = some a → o' j = some a := fun j a q => by
      by_cases hj : j = i
      · subst hj; rw [upd_same] at q; cases q
      · rw [upd_other _ _ hj] at q; exact q
    have og3 : OG c.C.pin o (upd o' i none) base := ⟨fun j a q => og'.1 j a (sub j a q), fun j hj => (upd_other o' none (fun q : j = i => (isSt_inv hx).2 (q ▸ hj))).trans (og'.2 j hj)⟩
    have kp2 : Keep (Wr c.L o) base h2 := fun b' ob' q n' => eb b' ob' (fun z => by rw [z, IT.new] at q; cases q) (kp' b' ob' q n')
    have wr' : ∀ b' ob', base.get? b' = some ob' → ¬ Wr c.L o b' → ¬ Wr c.L o' b' := fun b' ob' q n' z => by
      rcases z with z | ⟨j, z⟩
      · exact n' (.inl z)
      · rcases og'.1 j b' z with z' | z'
        · exact n' (.inr z')
        · rw [q] at z'; cases z'
    have kp3 : Keep (Wr c.L o) base h3 := fun b' ob' q n' => k3 b' ob' (kp2 b' ob' q n') (wr' b' ob' q n')
    have hJ3 : J rest h3 := IT.keep rest h2 h3 o' hJ2 k3 og' kp2 oit itL
    simp only [forLoop] at P'
    refine hb body _ _ { s₀ with heap := h3, toks := t2 + 1 } _ _ hm S3 ?_
    cases hr : ex c.O c.t.G b (ρ'.set i (.fr d)) with
    | next ρ4 =>
      rw [hr] at P'
      intro o4 h4 t4 S4 k4 g4
      refine ⟨rest.length, by simp, o4, ρ4, rest, h4, t4, rfl, rfl, S4, ?_, ?_, ?_, P'⟩
      · intro b' ob' q n'
        refine k4 b' ob' (kp3 b' ob' q n') fun z => wr' b' ob' q n' ?_
        rcases z with z | ⟨j, z⟩
        · exact .inl z
        · exact .inr ⟨j, sub j b' z⟩
      · refine ⟨fun j a q => ?_, fun j hj => (g4.2 j hj).trans (og3.2 j hj)⟩
        rcases g4.1 j a q with ⟨j', q'⟩ | q'
        · exact og3.1 j' a q'
        · by_cases hw : Wr c.L o a
          · rcases hw with hw | hw
            · exact absurd hw (S4.st.xo j a q).2.1
            · exact .inl hw
          · right
            cases e : base.get? a with
            | none => rfl
            | some ob9 => have := kp3 a ob9 e hw; rw [show h3.get? a = none from q'] at this; cases this
      · refine IT.keep rest h3 h4 (upd o' i none) hJ3 k4 og3 kp3 (fun j a q => oit j a (sub j a q)) itL
    | ret d' fr ρ4 =>
      rw [hr] at P'
      intro v' h4 t4 q1 q2 q3 q4
      exact (hR _ _).mpr (P' v' h4 t4 q1 q2 q3 q4)
    | exc _ _ => rw [hr] at P'; exact P'.elim
    | stuck => rw [hr] at P'; exact P'.elim
theorem Fx.iter_list (ok : c.Ok) {o : Nat → Option Addr} {ρ : Env} {hb : Heap} {it la : Addr} {vs : List Value} {n : Nat} {ds : List D} (S : c.St o ρ hb) (nx : ¬ Av c.X c.L o la) (hl : hb.get? la = some (lstO vs n)) (rl : RepAll c.t.prog c.t.w (Av c.X c.L o) hb vs ds) (hn : hb.get? it = none) :
    IterOk c hb o it (fun rest h => ∃ k, h.IsListIter it la k ∧ h.get? la = some (lstO vs n) ∧ rest = ds.drop k) := by
  have later : ∀ {o' : Nat → Option Addr} {h : Heap}, Keep (Wr c.L o) hb h → OG c.C.pin o o' hb → ∀ {v : Value} {d : D}, Rep c.t.prog c.t.w (Av c.X c.L o) hb v d → Rep c.t.prog c.t.w (Av c.X c.L o') h v d := fun {o' h} kp og {v d} r => by
    have r1 := r.avoid (X' := fun a => Av c.X c.L o a ∨ Av c.X c.L o' a) (fun a ob e na z => by
      rcases z with z | z | z | ⟨j, z⟩
      · exact na z
      · exact na (.inl z)
      · exact na (.inr (.inl z))
      · rcases og.1 j a z with z' | z'
        · exact na (.inr (.inr z'))
        · rw [e] at z'; cases z')
    exact (r1.mono (h' := h) (fun b ob e nb => kp b ob e fun z => nb (.inl (wr_av b z)))).less fun a q => .inr q
  refine ⟨?_, ?_, ?_, ?_, hn, fun q => by obtain ⟨ob, e⟩ := S.st.xok it q; rw [hn] at e; cases e⟩
  · rintro rest h ⟨k, ⟨ob, e, _, f⟩, _, _⟩; exact ⟨ob, _, e, f⟩
  · rintro rest h h' o' ⟨k, ⟨ob, e, q, f⟩, hl', hr⟩ kp og kb oit itL
    refine ⟨k, ⟨ob, kp it ob e fun z => ?_, q, f⟩, kp la _ hl' fun z => ?_, hr⟩
    · rcases z with z | ⟨j, z⟩
      · exact itL z
      · exact oit j it z rfl
    · rcases z with z | ⟨j, z⟩
      · exact nx (.inr (.inl z))
      · rcases og.1 j la z with z' | z'
        · exact nx (.inr (.inr z'))
        · rw [hl] at z'; cases z'
  · rintro d rest o' ρ' s' T E ⟨k, hi, hl', hr⟩ S' kb og kk
    have hd : ds[k]? = some d := by
      have : (ds.drop k)[0]? = some d := by rw [← hr]; rfl
      simpa using this
    obtain ⟨v, hv, rv⟩ := rl.get hd
    refine wpAny_pyNext_list_item hi (isLst hl') (x := v) (by simpa using hv) fun h' hi' sb => ?_
    refine kk v h' _ (fun b ob nb e => (sb.2 b nb).trans e) ⟨k + 1, hi', ?_, ?_⟩ (later kb og rv)
    · refine (sb.2 la fun z => ?_).trans hl'
      obtain ⟨ob, e, _, f⟩ := hi
      rw [← z, hl'] at e; cases e; cases f
    · have : ds.drop (k + 1) = (ds.drop k).drop 1 := by rw [List.drop_drop]
      rw [this, ← hr]; rfl
  · rintro o' ρ' s' T E ⟨k, hi, hl', hr⟩ S' kk
    refine wpAny_pyNext_list_end ok.ar.handled hi (isLst hl') ?_ fun h' eb => kk h' _ eb
    have : ds.length ≤ k := by
      have := congrArg List.length hr
      simp at this; omega
    have := rl.length
    simp; omega
end
end Mine
-- MEx3
set_option autoImplicit false
set_option linter.all false
namespace Mine
open PySem PyProof.Rows

theorem match_notSetIter {C : MC} {m : ME} {e : Expr} (h : matchE C m e = true) (env : PySem.Env) : ∀ x, foldedSetIterable e env x = pure x := by
  cases e with
  | Set es k p => cases m <;> exact Bool.noConfusion h
  | _ => intro x; rfl
section
variable {c : Fx} (ok : c.Ok)

theorem Fx.later {o o' : Nat → Option Addr} {hb h : Heap} (kp : Keep (Wr c.L o) hb h) (og : OG c.C.pin o o' hb) {v : Value} {d : D} (r : Rep c.t.prog c.t.w (Av c.X c.L o) hb v d) : Rep c.t.prog c.t.w (Av c.X c.L o') h v d := by
  have r1 := r.avoid (X' := fun a => Av c.X c.L o a ∨ Av c.X c.L o' a) (fun a ob e na z => by
    rcases z with z | z | z | ⟨j, z⟩
    · exact na z
    · exact na (.inl z)
    · exact na (.inr (.inl z))
    · rcases og.1 j a z with z' | z'
      · exact na (.inr (.inr z'))
      · rw [e] at z'; cases z')
  exact (r1.mono (h' := h) (fun b ob e nb => kp b ob e fun z => nb (.inl (wr_av b z)))).less fun a q => .inr q
include ok
theorem Fx.iter_tuple {o : Nat → Option Addr} {ρ : Env} {hb : Heap} {it la : Addr} {vs : List Value} {n : Nat} {ds : List D} (S : c.St o ρ hb) (nx : ¬ Av c.X c.L o la) (hl : hb.get? la = some (tupO vs n)) (rl : RepAll c.t.prog c.t.w (Av c.X c.L o) hb vs ds) (hn : hb.get? it = none) :
    IterOk c hb o it (fun rest h => ∃ k, h.IsTupleIter it la k ∧ h.get? la = some (tupO vs n) ∧ rest = ds.drop k) := by
  refine ⟨?_, ?_, ?_, ?_, hn, fun q => by obtain ⟨ob, e⟩ := S.st.xok it q; rw [hn] at e; cases e⟩
  · rintro rest h ⟨k, ⟨ob, e, _, f⟩, _, _⟩; exact ⟨ob, _, e, f⟩
  · rintro rest h h' o' ⟨k, ⟨ob, e, q, f⟩, hl', hr⟩ kp og kb oit itL
    refine ⟨k, ⟨ob, kp it ob e fun z => ?_, q, f⟩, kp la _ hl' fun z => ?_, hr⟩
    · rcases z with z | ⟨j, z⟩
      · exact itL z
      · exact oit j it z rfl
    · rcases z with z | ⟨j, z⟩
      · exact nx (.inr (.inl z))
      · rcases og.1 j la z with z' | z'
        · exact nx (.inr (.inr z'))
        · rw [hl] at z'; cases z'
  · rintro d rest o' ρ' s' T E ⟨k, hi, hl', hr⟩ S' kb og kk
    have hd : ds[k]? = some d := by
      have : (ds.drop k)[0]? = some d := by rw [← hr]; rfl
      simpa using this
    obtain ⟨v, hv, rv⟩ := rl.get hd
    refine wpAny_pyNext_tuple_item hi ⟨_, hl', rfl, _, rfl⟩ (x := v) (by simpa using hv) fun h' hi' sb => ?_
    refine kk v h' _ (fun b ob nb e => (sb.2 b nb).trans e) ⟨k + 1, hi', ?_, ?_⟩ (Fx.later kb og rv)
    · refine (sb.2 la fun z => ?_).trans hl'
      obtain ⟨ob, e, _, f⟩ := hi
      rw [← z, hl'] at e; cases e; cases f
    · have : ds.drop (k + 1) = (ds.drop k).drop 1 := by rw [List.drop_drop]
      rw [this, ← hr]; rfl
  · rintro o' ρ' s' T E ⟨k, hi, hl', hr⟩ S' kk
    refine wpAny_pyNext_tuple_end ok.ar.handled hi ⟨_, hl', rfl, _, rfl⟩ ?_ fun h' eb => kk h' _ eb
    have : ds.length ≤ k := by
      have := congrArg List.length hr
      simp at this; omega
    have := rl.length
    simp; omega
theorem Fx.iter_str {o : Nat → Option Addr} {ρ : Env} {hb : Heap} {it : Addr} {x : Str} {t : Tok} {ty : String} (S : c.St o ρ hb) (hty : ty = "str_ascii_iterator" ∨ ty = "str_iterator") (hn : hb.get? it = none) :
    IterOk c hb o it (fun rest h => ∃ k, h.IsStrIter it ty x t k ∧ rest = (x.cps.toList.drop k).map fun c => PyData.str (sone c)) := by
  refine ⟨?_, ?_, ?_, ?_, hn, fun q => by obtain ⟨ob, e⟩ := S.st.xok it q; rw [hn] at e; cases e⟩
  · rintro rest h ⟨k, ⟨ob, e, _, f⟩, _⟩; exact ⟨ob, _, e, f⟩
  · rintro rest h h' o' ⟨k, ⟨ob, e, q, f⟩, hr⟩ kp og kb oit itL
    refine ⟨k, ⟨ob, kp it ob e fun z => ?_, q, f⟩, hr⟩
    rcases z with z | ⟨j, z⟩
    · exact itL z
    · exact oit j it z rfl
  · rintro d rest o' ρ' s' T E ⟨k, hi, hr⟩ S' kb og kk
    have hlt : k < x.cps.toList.length := by
      have := congrArg List.length hr
      simp at this ⊢; omega
    have hd : x.cps.toList.drop k = x.cps.toList[k] :: x.cps.toList.drop (k + 1) := List.drop_eq_getElem_cons hlt
    rw [hd, List.map_cons] at hr
    injection hr with hr1 hr2
    have hx : x.cps[k]? = some x.cps.toList[k] := by rw [← Array.getElem?_toList]; exact List.getElem?_eq_getElem hlt
    have fin : ∀ h', h'.IsStrIter it ty x t (k + 1) → Heap.SameBut it s'.heap h' → T (some (.str ⟨#[x.cps.toList[k]]⟩ s'.toks)) { s' with heap := h', toks := s'.toks + 1 } := fun h' hi' sb =>
      kk _ h' _ (fun b ob nb e => (sb.2 b nb).trans e) ⟨k + 1, hi', hr2⟩ (by rw [hr1]; exact .str _ _)
    rcases hty with rfl | rfl
    · exact wpAny_pyNext_ascii_item hi hx fin
    · exact wpAny_pyNext_wide_item hi hx fin
  · rintro o' ρ' s' T E ⟨k, hi, hr⟩ S' kk
    have hx : x.cps[k]? = none := by
      have := congrArg List.length hr
      simp at this
      simp; omega
    rcases hty with rfl | rfl
    · exact wpAny_pyNext_ascii_end ok.ar.handled hi hx fun h' eb => kk h' _ eb
    · exact wpAny_pyNext_wide_end ok.ar.handled hi hx fun h' eb => kk h' _ eb
theorem Fx.iter_range {o : Nat → Option Addr} {ρ : Env} {hb : Heap} {it : Addr} (S : c.St o ρ hb) (hn : hb.get? it = none) :
    IterOk c hb o it (fun rest h => ∃ (x : Int) (m : Nat), IsRangeIter h it x m 1 ∧ rest = (List.range m).map fun (k : Nat) => PyData.int (x + (k : Int))) := by
  refine ⟨?_, ?_, ?_, ?_, hn, fun q => by obtain ⟨ob, e⟩ := S.st.xok it q; rw [hn] at e; cases e⟩
  · rintro rest h ⟨x, m, e, _⟩; exact ⟨_, _, e, rfl⟩
  · rintro rest h h' o' ⟨x, m, e, hr⟩ kp og kb oit itL
    refine ⟨x, m, kp it _ e fun z => ?_, hr⟩
    rcases z with z | ⟨j, z⟩
    · exact itL z
    · exact oit j it z rfl
  · rintro d rest o' ρ' s' T E ⟨x, m, hi, hr⟩ S' kb og kk
    cases m with
    | zero => simp at hr
    | succ m =>
      rw [List.range_succ_eq_map, List.map_cons, List.map_map] at hr
      injection hr with hr1 hr2
      refine wpAny_pyNext_range_item hi (by omega) fun h' hi' sb => ?_
      refine kk _ h' _ (fun b ob nb e => (sb.2 b nb).trans e) ⟨x + 1, m, ?_, ?_⟩ (by rw [hr1]; simpa using .int _ _)
      · have : ((m + 1 : Nat) : Int) - 1 = (m : Int) := by omega
        rw [this] at hi'; exact hi'
      · rw [hr2]
        refine List.map_congr_left fun k _ => ?_
        show PyData.int (x + ((k + 1 : Nat) : Int)) = PyData.int (x + 1 + (k : Int))
        congr 1; omega
  · rintro o' ρ' s' T E ⟨x, m, hi, hr⟩ S' kk
    cases m with
    | succ m => rw [List.range_succ_eq_map, List.map_cons] at hr; cases hr
    | zero => exact wpAny_pyNext_range_end ok.ar.handled hi (by simp) fun h' eb => kk h' _ eb
theorem Fx.ex_forL (i : Nat) {e : ME} {b : MS} (he : c.EvOk e) (hb : c.ExB b) : c.ExOk (.forL i e b) := by
  intro st o ρ s Q E hm S P
  replace hm := inv_forL hm
  obtain ⟨_, _, _, _, _, rfl, hm⟩ := hm
  · simp only [Bool.and_eq_true] at hm
    obtain ⟨⟨h1, h2⟩, h3⟩ := hm
    simp only [ex] at P
    split at P
    · exact P.elim
    · rename_i hesc
      obtain ⟨d, hd, P⟩ := SR.of_post P
      refine wpAny_For (he _ d o ρ s _ E h2 hd S fun v h' tk x1 r => ?_) (match_notSetIter h2 _)
      have hav := r.av (by simpa using hesc)
      have S1 := S.ext x1
      have n0 := S1.new0
      have hnew : h'.get? h'.objs.size = none := Heap.get?_none_of_le (Nat.le_refl _)
      cases hi : itemsD d with
      | none => rw [hi] at P; exact P.elim
      | some l =>
        rw [hi] at P
        dsimp only at P
        split at P
        · cases d with
          | list l' =>
            cases hi
            obtain ⟨ca, vs, n, rfl, nx, hg, rl⟩ := hav.list_inv
            refine wpAny_pyIter_list (isLst hg) ?_
            exact Fx.for_loop ok hb (Fx.iter_list ok S1 nx hg rl hnew) h1 h3 (Q := Q) (s₀ := { s with heap := h', toks := tk }) (fun f s' => Iff.rfl) rfl n0.1 n0.2 (P.ext x1) ⟨0, ⟨_, Heap.get?_push_size _ rfl, rfl, rfl⟩, Heap.get?_push_of_some _ hg, by simp⟩ (S1.ext (Ext.push _ _)) (Ext.push _ _)
          | tuple l' =>
            cases hi
            obtain ⟨ca, vs, n, rfl, nx, hg, rl⟩ := hav.tuple_inv
            refine wpAny_pyIter_tuple ⟨_, hg, rfl, _, rfl⟩ ?_
            exact Fx.for_loop ok hb (Fx.iter_tuple ok S1 nx hg rl hnew) h1 h3 (Q := Q) (s₀ := { s with heap := h', toks := tk }) (fun f s' => Iff.rfl) rfl n0.1 n0.2 (P.ext x1) ⟨0, ⟨_, Heap.get?_push_size _ rfl, rfl, rfl⟩, Heap.get?_push_of_some _ hg, by simp⟩ (S1.ext (Ext.push _ _)) (Ext.push _ _)
          | str x =>
            cases hi
            obtain ⟨t, rfl⟩ := hav.str_inv
            cases ha : x.cps.all (· < 128) with
            | true =>
              refine wpAny_pyIter_ascii ha ?_
              exact Fx.for_loop ok hb (Fx.iter_str ok S1 (x := x) (t := t) (.inl rfl) hnew) h1 h3 (Q := Q) (s₀ := { s with heap := h', toks := tk }) (fun f s' => Iff.rfl) rfl n0.1 n0.2 (P.ext x1) ⟨0, ⟨_, Heap.get?_push_size _ rfl, rfl, rfl⟩, by simp⟩ (S1.ext (Ext.push _ _)) (Ext.push _ _)
            | false =>
              refine wpAny_pyIter_wide ha ?_
              exact Fx.for_loop ok hb (Fx.iter_str ok S1 (x := x) (t := t) (.inr rfl) hnew) h1 h3 (Q := Q) (s₀ := { s with heap := h', toks := tk }) (fun f s' => Iff.rfl) rfl n0.1 n0.2 (P.ext x1) ⟨0, ⟨_, Heap.get?_push_size _ rfl, rfl, rfl⟩, by simp⟩ (S1.ext (Ext.push _ _)) (Ext.push _ _)
          | _ => cases hi
        · exact P.elim
theorem range_small {u v : Int} (hu : idxInt u = true) (hv : idxInt v = true) : Builtin.Range.small u v 1 = true := by
  simp only [idxInt, Bool.and_eq_true, decide_eq_true_eq] at hu hv
  unfold Builtin.Range.small
  have f : ∀ z : Int, -2147483648 < z → z < 2147483648 → Builtin.Range.rangeFitsLong z = true := fun z h1 h2 => by
    unfold Builtin.Range.rangeFitsLong; simp; omega
  simp only [rangeSize_one]
  rw [f u (by omega) (by omega), f v (by omega) (by omega), f 1 (by omega) (by omega), f (if u < v then v - u else 0) (by split <;> omega) (by split <;> omega)]
  simp only [Bool.true_and, if_pos (show (1 : Int) > 0 by omega)]
  rw [f (v + (1 - 1)) (by omega) (by omega), Bool.or_true]
theorem Fx.range_loop {i : Nat} {b : MS} (hb : c.ExB b) {x : Str} {px : Pos} {body : List Stmt} {o : Nat → Option Addr} {ρ : Env} {s : Shared} {Q : Flow → Shared → Prop} {E : Value → Shared → Prop} {u v : Int} {t1 t2 t3 : Tok} {ra : Addr} (h1 : isSt c.C i x = true) (h3 : matchB c.C b body = true)
    (hu : idxInt u = true) (hv : idxInt v = true) (S : c.St o ρ s.heap) (hr : IsRange s.heap ra u v 1 t1 t2 t3) (P : c.Post o s (forLoop (fun d ρ' => ex c.O c.t.G b (ρ'.set i (.fr d))) (rangeD u v) ρ) Q) :
    wpAny c.M c.A (pyIter (.ref ra)) (fun it s₂ => codeAny c.M c.A (.forLoop (.Name x px) it body [] c.env) (fun r s' => match r with | .ok f => Q f s' | .error e => cameBackBy c.M c.A c.env E e s') s₂) E s := by
  refine wpAny_pyIter_range hr (range_small ok hu hv) ?_
  have n0 := S.new0
  have hnew : s.heap.get? s.heap.objs.size = none := Heap.get?_none_of_le (Nat.le_refl _)
  refine Fx.for_loop ok hb (Fx.iter_range ok S hnew) h1 h3 (Q := Q) (s₀ := s) (fun f s' => Iff.rfl) rfl n0.1 n0.2 P ⟨u, (v - u).toNat, ?_, rfl⟩ (S.ext (Ext.push _ _)) (Ext.push _ _)
  have e : Builtin.Range.rangeSize u v 1 = (((v - u).toNat : Nat) : Int) := by
    rw [rangeSize_one]; split <;> omega
  rw [e]
  exact Heap.get?_push_size _ rfl
theorem Fx.ex_forR (i : Nat) {lo hi : ME} {b : MS} (hl : c.EvOk lo) (hh : c.EvOk hi) (hb : c.ExB b) : c.ExOk (.forR i lo hi b) := by
  intro st o ρ s Q E hm S P
  replace hm := inv_forR hm
  obtain ⟨x, px, r, pr, ue, us, pc, body, pos, rfl, hm⟩ := hm
  simp only [ex] at P
  obtain ⟨d, hd, P⟩ := SR.of_post P
  obtain ⟨d', hd', P⟩ := SR.of_post P
  split at P
  · rename_i u v
    split at P
    · rename_i hb2
      simp only [Bool.and_eq_true] at hb2
      simp only [Bool.and_eq_true, beq_iff_eq, Bool.or_eq_true] at hm
      obtain ⟨⟨⟨⟨h1, rfl⟩, h3⟩, h6⟩, hm⟩ := hm
      rcases hm with hm | hm
      · obtain ⟨rfl, hm⟩ := l0_inv hm
        obtain ⟨h4, h5⟩ := Bool.and_eq_true_iff.mp hm
        cases lo with
        | cint z =>
          obtain rfl := beq_iff_eq.mp h4
          simp only [ev] at hd; cases hd
          refine wpAny_For (Fx.one_arg ok hh (.inr ⟨"range", rfl⟩) h3 (by repeat (first | exact List.Mem.head _ | apply List.Mem.tail)) h5 hd' S fun w h' tk x1 r1 => ?_) (by intro _; rfl)
          obtain ⟨t, rfl⟩ := r1.out.int_inv
          refine call_range_1 ?_
          exact Fx.range_loop ok hb h1 h6 hb2.1 hb2.2 (s := { s with heap := _, toks := _ }) ((S.ext x1).ext (Ext.push _ _)) (IsRange.new _ _ _ _ _ _ _) (P.ext (x1.trans (Ext.push _ _)))
        | _ => exact Bool.noConfusion h4
      · obtain ⟨ve, rfl, hm⟩ := l1_inv hm
        obtain ⟨h4, h5⟩ := Bool.and_eq_true_iff.mp hm
        refine wpAny_For (Fx.two_args ok hl hh (.inr ⟨"range", rfl⟩) h3 (by repeat (first | exact List.Mem.head _ | apply List.Mem.tail)) h4 h5 hd hd' S fun w w' h' tk x1 r1 r2 => ?_) (by intro _; rfl)
        obtain ⟨t, rfl⟩ := r1.out.int_inv
        obtain ⟨t', rfl⟩ := r2.out.int_inv
        refine call_range_2 ?_
        exact Fx.range_loop ok hb h1 h6 hb2.1 hb2.2 (s := { s with heap := _, toks := _ }) ((S.ext x1).ext (Ext.push _ _)) (IsRange.new _ _ _ _ _ _ _) (P.ext (x1.trans (Ext.push _ _)))
    · exact P.elim
  · exact P.elim
end
end Mine
-- MEx4
set_option autoImplicit false
set_option linter.all false
namespace Mine
open PySem PyProof.Rows

section
variable {c : Fx} (ok : c.Ok)

theorem Fx.St.turn {o : Nat → Option Addr} {ρ : Env} {h h' : Heap} {i : Nat} {a : Addr} {d : D} (S : c.St o ρ h) (ha : o i = some a) (sb : Heap.SameBut a h h') (r : OwnRep c.t.prog c.t.w (Av c.X c.L o) h' a d) : c.St o (ρ.set i (.own d)) h' := by
  refine ⟨S.st.turn_own ha sb r, fun b ob e => (sb.2 b fun q => ?_).trans (S.h0 b ob e), S.o0, fun b ob e n => (sb.2 b fun q => ?_).trans (S.kE b ob e n), S.oE⟩
  · rw [q, S.o0 i a ha] at e; cases e
  · rcases S.oE i a ha with z | z
    · rw [q, z] at e; cases e
    · exact n (q ▸ z)
include ok
theorem Fx.store_own {i : Nat} {x : Str} {a : Addr} {d : D} {o : Nat → Option Addr} {ρ : Env} {s : Shared} {h1 : Heap} {E : Value → Shared → Prop} {T : Unit → Shared → Prop} (hx : isSt c.C i x = true) (S : c.St o ρ h1) (ha : h1.get? a = none) (x1 : Ext h1 s.heap)
    (r : OwnRep c.t.prog c.t.w (fun b => Av c.X c.L o b ∨ b = a) s.heap a d)
    (k : ∀ h', c.St (upd o i (some a)) (ρ.set i (.own d)) h' → Keep (Wr c.L o) h1 h' → OG c.C.pin o (upd o i (some a)) h1 → T () { s with heap := h', toks := s.toks + 1 }) : wpAny c.M c.A (storeName c.env x (.ref a)) T E s := by
  obtain ⟨hx, hpin⟩ := isSt_inv hx
  obtain ⟨h1', h2, h3⟩ := isLoc_inv hx
  obtain ⟨m, hm, hs⟩ := S.st.ns
  refine wpAny_storeName_local (by rw [Fx.kindOf ok, h2]) (by rw [ok.loc]; exact hm.keeps x1) (fun h' hn sb => ?_) (by rw [ok.kind]; rfl)
  rw [ok.loc] at hn sb
  have n0 : c.t.h0.get? a = none := by
    cases e : c.t.h0.get? a with
    | none => rfl
    | some ob => rw [S.h0 _ _ e] at ha; cases ha
  have nE : c.hE.get? a = none ∨ c.Z a := by
    by_cases z : c.Z a
    · exact .inr z
    · left
      cases e : c.hE.get? a with
      | none => rfl
      | some ob => rw [S.kE _ _ e z] at ha; cases ha
  refine k h' ⟨S.st.set_own ok.nodup h1' ha x1 r hm hs hn sb, fun b ob e => (sb.2 b fun q => ?_).trans (x1 b ob (S.h0 b ob e)), fun j b q => ?_, fun b ob e n => (sb.2 b fun q => ?_).trans (x1 b ob (S.kE b ob e n)), fun j b q => ?_⟩
    (fun b ob e n => sameBut_keep (W := Wr c.L o) sb (.inl rfl) b ob (x1 b ob e) n) ⟨fun j b q => ?_, fun j hj => upd_other _ _ fun q => hpin (q ▸ hj)⟩
  · rw [q, ok.l0] at e; cases e
  · by_cases hj : j = i
    · subst hj; rw [upd_same] at q; cases q; exact n0
    · rw [upd_other _ _ hj] at q; exact S.o0 j b q
  · exact ok.lE (q ▸ ⟨ob, e⟩)
  · by_cases hj : j = i
    · subst hj; rw [upd_same] at q; cases q; exact nE
    · rw [upd_other _ _ hj] at q; exact S.oE j b q
  · by_cases hj : j = i
    · subst hj; rw [upd_same] at q; cases q; exact .inr ha
    · rw [upd_other _ _ hj] at q; exact .inl ⟨j, q⟩
noncomputable def Fx.NewOk (c : Fx) (m : ME) : Prop := ∀ (e : Expr) (d : D) (o : Nat → Option Addr) (ρ : Env) (s : Shared) (Q E : Value → Shared → Prop), matchE c.C m e = true → ev c.O c.t.G ρ m = .ok d → c.St o ρ s.heap →
  (∀ a h1 h2 tk, Ext s.heap h1 → h1.get? a = none → Ext h1 h2 → OwnRep c.t.prog c.t.w (fun b => Av c.X c.L o b ∨ b = a) h2 a d → Q (.ref a) { s with heap := h2, toks := tk }) → wpAny c.M c.A (eval e c.env) Q E s
theorem Fx.new_lstD {as : MEs} (hs : c.EvsOk as) : c.NewOk (.lstD as) := by
  intro e d o ρ s Q E hm he S k
  replace hm := inv_lstD hm
  obtain ⟨_, _, rfl, hm⟩ := hm
  · simp only [ev] at he
    split at he
    · cases he
    · rename_i hesc
      obtain ⟨xs, hxs, he⟩ := R.bind_inv he
      split at he
      · rename_i hb
        cases he
        refine List_ ?_
        rw [trees_plain hm]
        refine hs _ xs o ρ s _ E hm hxs S fun vs h1 t1 x1 r1 => ?_
        have rl := r1.av (by simpa using hesc)
        refine wpAny_newObj_type ?_ (by show vs.toArray.size ≤ sizeLine; rw [List.size_toArray, rl.length, sizeLine_eq]; simp only [big] at hb; omega)
        have hnew : h1.get? h1.objs.size = none := Heap.get?_none_of_le (Nat.le_refl _)
        refine k _ h1 _ _ x1 hnew (Ext.push _ _) ⟨vs, 0, Heap.get?_push_size _ rfl, ?_⟩
        exact (rl.avoid fun a ob q n z => z.elim n fun z => by rw [z, hnew] at q; cases q).ext (Ext.push _ _)
      · cases he
theorem Fx.ex_new (i : Nat) {e : ME} (he : c.NewOk e) {v : Expr} {x : Str} {px pos : Pos} {d : D} {o : Nat → Option Addr} {ρ : Env} {s : Shared} {Q : Flow → Shared → Prop} {E : Value → Shared → Prop} (h1 : isSt c.C i x = true) (h2 : matchE c.C e v = true) (h3 : notComp e = true) (S : c.St o ρ s.heap)
    (hd : ev c.O c.t.G ρ e = .ok d) (P : c.Post o s (.next (ρ.set i (.own d))) Q) : wpAny c.M c.A (exec (.Assign [.Name x px] v pos) c.env) Q E s := by
  refine wpAny_Assign_Name (he _ d o ρ s _ E h2 hd S fun a ha hb tk x1 hn x2 r => ?_) (swaps_no h2 h3 _ _ _)
  refine Fx.store_own ok h1 (S.ext x1) hn x2 r fun h'' S' k' g' => P _ h'' _ S' (Fx.keep_trans (ρ1 := ρ) (x1.keep _) (OG.refl _ _ _) k') ⟨fun j b q => ?_, g'.2⟩
  rcases g'.1 j b q with q' | q'
  · exact .inl q'
  · right
    cases e : s.heap.get? b with
    | none => rfl
    | some ob => have := x1 b ob e; rw [q'] at this; cases this
theorem Fx.ex_append (i : Nat) {e : ME} (he : c.EvOk e) : c.ExOk (.append i e) := by
  intro st o ρ s Q E hm S P
  replace hm := inv_append hm
  obtain ⟨_, _, _, _, _, _, _, rfl, hm⟩ := hm
  · rename_i x px n ap y cp pos
    simp only [Bool.and_eq_true, beq_iff_eq] at hm
    obtain ⟨⟨⟨h1, h2⟩, rfl⟩, h4⟩ := hm
    simp only [ex] at P
    split at P
    · exact P.elim
    · rename_i hesc
      split at P
      · rename_i l hq
        obtain ⟨d, hd, P⟩ := SR.of_post P
        split at P
        · rename_i hb
          refine wpAny_Expr_any (Q := Q) ?_ (by simp [interactive, ok.kind]) rfl
          refine Call_method1 rfl (match_star h4 _ _) (by simpa using h1) (Fx.oname ok h2 S hq fun a ha r => ?_)
          obtain ⟨vs, n, hg, rl⟩ := r
          refine ⟨"list", "list.append", F.plainAttrs_list, F.slot_list_append, F.type_list_append, ⟨_, hg, rfl⟩, (fun b q => ?_), ?_⟩
          · cases q; exact ⟨_, hg, rfl⟩
          refine PySem.P.append_list (he _ d o ρ s _ E h4 hd S fun v h1 t1 x1 r1 => ?_)
          have hg1 := x1 _ _ hg
          refine ⟨vs.toArray, n, ?_, hg1, ?_⟩
          · rw [List.size_toArray, rl.length, sizeLine_eq]; simp only [big] at hb; omega
          have S1 := S.ext x1
          have sb : Heap.SameBut a h1 (h1.update a (Obj.mapSeq fun xs => xs.push v)) := Heap.SameBut.update ..
          have hu : (h1.update a (Obj.mapSeq fun xs => xs.push v)).get? a = some (lstO (vs ++ [v]) (n + 1)) := by
            rw [Heap.get?_update_self _ hg1 (by rw [mapSeq_push]; rfl), mapSeq_push]; simp [lstO]
          have kp : Keep (Av c.X c.L o) h1 (h1.update a (Obj.mapSeq fun xs => xs.push v)) := sameBut_keep sb (.inr (.inr ⟨i, ha⟩))
          refine P o _ _ (S1.turn ha sb ⟨vs ++ [v], n + 1, hu, ((rl.ext x1).mono kp).append (.cons ((r1.av (by simpa using hesc)).mono kp) .nil)⟩) ?_ (OG.refl _ _ _)
          exact fun b ob q nw => sameBut_keep (W := Wr c.L o) sb (.inr ⟨i, ha⟩) b ob (x1 b ob q) nw
        · exact P.elim
      · exact P.elim
theorem Fx.ex_loop {t : ME} {b : MS} (ht : c.TrOk t) (hb : c.ExB b) : c.ExOk (.loop t b) := by
  intro st o ρ s Q E hm S P
  replace hm := inv_loop hm
  obtain ⟨_, _, _, rfl, hm⟩ := hm
  · rename_i te body pos
    simp only [Bool.and_eq_true] at hm
    simp only [ex] at P
    refine wpAny_While ?_
    refine codeAny_whileLoop (fun n s' => ∃ o' ρ' h' tk, s' = { s with heap := h', toks := tk } ∧ c.St o' ρ' h' ∧ c.Post o' { s with heap := h', toks := tk } (whileLoop (fun ρ' => ev c.O c.t.G ρ' t) (fun ρ' => ex c.O c.t.G b ρ') n ρ') Q) ?_ whileFuel ⟨o, ρ, s.heap, s.toks, rfl, S, P⟩
    rintro n s' ⟨o', ρ', h', tk, rfl, S', P'⟩
    cases n with
    | zero => exact P'.elim
    | succ n =>
      simp only [whileLoop] at P'
      obtain ⟨d, hd, P'⟩ := SR.of_post P'
      split at P'
      · refine ht _ true o' ρ' _ _ _ hm.1 hd S' fun h2 t2 x2 => ?_
        simp only [if_true]
        refine hb _ o' ρ' _ _ _ hm.2 (S'.ext x2) ?_
        have P2 := Fx.Post.ext (t1 := t2) P' x2
        cases hr : ex c.O c.t.G b ρ' with
        | next ρ4 =>
          rw [hr] at P2
          intro o4 h4 t4 S4 k4 g4
          exact ⟨n, Nat.lt_succ_self n, o4, ρ4, h4, t4, rfl, S4, Fx.Post.after (s := { s with heap := h2, toks := t2 }) (t1 := t4) (ρ1 := ρ4) P2 k4 g4⟩
        | ret d' fr ρ4 => rw [hr] at P2; exact P2
        | exc _ _ => rw [hr] at P2; exact P2.elim
        | stuck => rw [hr] at P2; exact P2.elim
      · refine ht _ false o' ρ' _ _ _ hm.1 hd S' fun h2 t2 x2 => ?_
        simp only [Bool.false_eq_true, if_false]
        exact wpAny_execs_nil (P' o' h2 t2 (S'.ext x2) (x2.keep _) (OG.refl _ _ _))
      · exact P'.elim
end
end Mine
-- MComp
set_option autoImplicit false
set_option linter.all false
namespace Mine
open PySem PyProof.Rows

theorem seqD_inv {x : D} {l : List D} (h : seqD x = some l) : x = .list l ∨ x = .tuple l := by
  cases x <;> first | (cases h; done) | exact .inl (congrArg _ (Option.some.inj h)) | exact .inr (congrArg _ (Option.some.inj h))
theorem rep_atom {prog : Program} {w : World} {X X' : Addr → Prop} {h h' : Heap} {v : Value} {d : D} (ha : atomD d = true) (r : Rep prog w X h v d) : Rep prog w X' h' v d := by
  cases r with
  | none => exact .none
  | bool b => exact .bool b
  | int i t => exact .int i t
  | str x t => exact .str x t
  | tuple => cases ha
  | list => cases ha
  | dict => cases ha
theorem mapCall_inv {O : Orc} {f : Nat} {x : D} {xs rs : List D} (h : mapCall O f (x :: xs) = .ok rs) : ∃ r rs', O.fn f [x] = .ok r ∧ atomD r.1 = true ∧ mapCall O f xs = .ok rs' ∧ rs = r.1 :: rs' := by
  simp only [mapCall] at h
  obtain ⟨r, hr, h⟩ := R.bind_inv h
  split at h
  · rename_i ha
    obtain ⟨rs', h2, h⟩ := R.bind_inv h
    cases h
    exact ⟨r, rs', hr, ha, h2, rfl⟩
  · cases h
section
variable {prog : Program} {w : World} {A : Around} {E : Value → Shared → Prop} {s : Shared}
theorem append_exact {l : Addr} {vs : List Value} {n : Nat} {x : Value} {Q : Value → Shared → Prop} (hl : s.heap.get? l = some (lstO vs n)) (hsz : vs.length ≤ sizeLine)
    (hQ : ∀ h', h'.get? l = some (lstO (vs ++ [x]) (n + 1)) → Heap.SameBut l s.heap h' → Q .none { s with heap := h' }) : wpAny (model prog w) A (call (.builtin "list.append") [.ref l, x]) Q E s := by
  refine wpAny_call_entry slot_list_append (isLst hl).typeIs entry_list_append ?_ (args_list_append _ _)
  show wpAny _ _ (updateSeq l (·.push x) >>= fun _ => ret .none) _ _ s
  refine wpAny_bind (wpAny_updateSeq hl rfl (wpAny_pure ⟨.none, rfl, hQ _ ?_ (Heap.SameBut.update ..)⟩) (by simpa using hsz))
  rw [Heap.get?_update_self _ hl (by rw [mapSeq_push]; rfl), mapSeq_push]; simp [lstO]
end

section
variable {c : Fx} (ok : c.Ok)
include ok

theorem Fx.comp_elt {f : Nat} {x y : Str} {px py pc : Pos} {sc : Scope} {C : Addr} {m : Str → Option Value} {v : Value} {d : D} {r : D × Bool} {o : Nat → Option Addr} {ρ : Env} {s : Shared} {Q E : Value → Shared → Prop}
    (hf : c.C.fnames[f]? = some x) (hk : sc.kind = .function) (hx : sc.names.lookup x = some .globalImplicit) (hxd : (x == ("__debug__" : Str)) = false) (hy : sc.names.lookup y = some .local) (hyd : (y == ("__debug__" : Str)) = false)
    (hn : s.heap.Ns C m) (hv : m y = some v) (rv : Rep c.t.prog c.t.w (Av c.X c.L o) s.heap v d) (hr : c.O.fn f [d] = .ok r) (S : c.St o ρ s.heap)
    (k : ∀ u h' tk, Ext s.heap h' → Rep c.t.prog c.t.w (Av c.X c.L o) h' u r.1 → Q u { s with heap := h', toks := tk }) :
    wpAny c.M c.A (eval (.Call (.Name x px) [.Name y py] [] pc) (compEnv sc C c.env)) Q E s := by
  obtain ⟨F, hF, rfl⟩ := Fx.fn_of ok hf
  obtain ⟨fa, fd, body, FN⟩ := ok.t.fn f F hF
  obtain ⟨ob, ho, hd⟩ := FN.obj
  refine Call_Name (trees := [(false, eval (.Name y py) (compEnv sc C c.env))]) rfl (Calls.Name_function_global hk hx (Calls.loadGlobal_global (mg := c.t.mg) (by show s.heap.Ns c.env.globals _; rw [ok.gl]; exact ok.t.g.keeps S.h0) FN.name ?_) hxd)
  refine Calls.callWith_function (o := ob) (fd := fd) (Calls.evalArgs_plain ?_)
  refine Calls.spliced_cons (wpAny_Name (wpAny_loadName_local hk hy hn hv ?_) hyd)
  refine Calls.spliced_nil ⟨⟨S.h0 _ _ ho, hd⟩, ?_⟩
  exact ok.orc.fn f [d] r hr F fa c.A s (Av c.X c.L o) [v] Q E hF FN.name ok.ar S.h0 S.st.live S.st.avSys (Fx.av0 ok S) (.cons rv .nil) fun u h' tk x1 r1 _ => k u h' tk x1 r1
omit ok in
structure CIter (c : Fx) (it : Addr) (vs : List Value) (hb : Heap) (J : Nat → Heap → Prop) : Prop where
  item : ∀ k v s' (T : Option Value → Shared → Prop) (E : Value → Shared → Prop), J k s'.heap → vs[k]? = some v → (∀ h' tk, J (k + 1) h' → Heap.ExtBut it s'.heap h' → T (some v) { s' with heap := h', toks := tk }) → wpAny c.M c.A (pyNext (.ref it)) T E s'
  stop : ∀ k s' (T : Option Value → Shared → Prop) (E : Value → Shared → Prop), J k s'.heap → vs.length ≤ k → (∀ h' tk, Heap.ExtBut it s'.heap h' → T none { s' with heap := h', toks := tk }) → wpAny c.M c.A (pyNext (.ref it)) T E s'
  keep : ∀ k h h', J k h → (∀ b ob, (b = it ∨ ∃ o, hb.get? b = some o) → h.get? b = some ob → h'.get? b = some ob) → J k h'
  again : ∀ k s' (Q E : Value → Shared → Prop), J k s'.heap → Q (.ref it) s' → wpAny c.M c.A (pyIter (.ref it)) Q E s'
theorem Fx.citer_list {it la : Addr} {vs : List Value} {n : Nat} {hb : Heap} (hl : hb.get? la = some (lstO vs n)) (hn : it ≠ la) : CIter c it vs hb (fun k h => h.IsListIter it la k ∧ h.get? la = some (lstO vs n)) where
  item := fun k v s' T E ⟨hi, hl'⟩ hv kk => wpAny_pyNext_list_item hi (isLst hl') (x := v) (by simpa using hv) fun h' hi' sb => kk h' _ ⟨hi', (sb.2 la (Ne.symm hn)).trans hl'⟩ fun b ob nb e => (sb.2 b nb).trans e
  stop := fun k s' T E ⟨hi, hl'⟩ hv kk => wpAny_pyNext_list_end ok.ar.handled hi (isLst hl') (by simpa using hv) fun h' eb => kk h' _ eb
  keep := fun k h h' ⟨⟨ob, e, q, f⟩, hl'⟩ kk => ⟨⟨ob, kk it ob (.inl rfl) e, q, f⟩, kk la _ (.inr ⟨_, hl⟩) hl'⟩
  again := fun k s' Q E ⟨hi, _⟩ q => wpAny_pyIter_listiter hi q
theorem Fx.citer_tuple {it la : Addr} {vs : List Value} {n : Nat} {hb : Heap} (hl : hb.get? la = some (tupO vs n)) (hn : it ≠ la) : CIter c it vs hb (fun k h => h.IsTupleIter it la k ∧ h.get? la = some (tupO vs n)) where
  item := fun k v s' T E ⟨hi, hl'⟩ hv kk => wpAny_pyNext_tuple_item hi ⟨_, hl', rfl, _, rfl⟩ (x := v) (by simpa using hv) fun h' hi' sb => kk h' _ ⟨hi', (sb.2 la (Ne.symm hn)).trans hl'⟩ fun b ob nb e => (sb.2 b nb).trans e
  stop := fun k s' T E ⟨hi, hl'⟩ hv kk => wpAny_pyNext_tuple_end ok.ar.handled hi ⟨_, hl', rfl, _, rfl⟩ (by simpa using hv) fun h' eb => kk h' _ eb
  keep := fun k h h' ⟨⟨ob, e, q, f⟩, hl'⟩ kk => ⟨⟨ob, kk it ob (.inl rfl) e, q, f⟩, kk la _ (.inr ⟨_, hl⟩) hl'⟩
  again := fun k s' Q E ⟨hi, _⟩ q => wpAny_pyIter_tupleiter hi q
theorem Fx.comp_core {f : Nat} {x y : Str} {px py pc pz : Pos} {iter : Expr} {sc : Scope} {p : Pos} {hb : Heap} {o : Nat → Option Addr} {ρ : Env} {it : Addr} {vs : List Value} {J : Nat → Heap → Prop} (IT : CIter c it vs hb J) {l rs : List D} {s : Shared} {Q E : Value → Shared → Prop}
    (hf : c.C.fnames[f]? = some x) (hsc : compScope sc y x = true) (hm : mapCall c.O f l = .ok rs) (hlen : l.length ≤ big) (S : c.St o ρ hb) (rl : RepAll c.t.prog c.t.w (Av c.X c.L o) hb vs l) (hit : it = hb.objs.size) (xs : Ext hb s.heap) (hsz : hb.objs.size < s.heap.objs.size) (hJ : J 0 s.heap)
    (k : ∀ v h' tk, Ext hb h' → Rep c.t.prog c.t.w (Av c.X c.L o) h' v (.list rs) → Q v { s with heap := h', toks := tk }) :
    wpAny c.M c.A (newList []) (fun acc s₃ => wpAny c.M c.A (newFunctionEnv sc c.env.globals [] [] c.env.qual none .none (some c.env)) (fun cenv s₄ =>
        codeAny c.M c.A (.compStart (.ListComp (.Call (.Name x px) [.Name y py] [] pc) [⟨.Name y pz, iter, [], 0⟩] sc p) 0 (.ref it) acc { cenv with scope := sc })
          (fun r s' => ∃ m, s'.heap.Ns cenv.locals m ∧ ∀ h', Heap.SameBut cenv.locals s'.heap h' →
            match r with | .ok _ => Q acc { s' with heap := h' } | .error x => wpAny c.M c.A (passOn "comprehension.variables-let-go" x { cenv with scope := sc }) Q E { s' with heap := h' }) s₄) E s₃) E s := by
  simp only [compScope, Bool.and_eq_true, beq_iff_eq, Bool.not_eq_true', List.all_eq_true, List.isEmpty_iff] at hsc
  obtain ⟨⟨⟨⟨⟨⟨⟨⟨hkind, hgen⟩, hco⟩, hyd⟩, hxd⟩, hy⟩, hx⟩, hall⟩, hmore⟩ := hsc
  have hcell : ∀ z ∈ sc.names, z.2 ≠ .cell := fun z hz q => by have := (hall z hz).1.1; rw [q] at this; exact Bool.noConfusion this
  refine wpAny_newObj_type (hd := by size_fits) (wpAny_newFunctionEnv hcell (by intro z hz; simp at hz) (fun h₁ hns₁ hsb₁ => ?_) hkind)
  dsimp only at hns₁ hsb₁ ⊢
  generalize hH2 : s.heap.push { cls := .type "list", dict := none, data := .seq ([] : List Value).toArray } = H2 at hns₁ hsb₁ ⊢
  have hC : H2.objs.size = s.heap.objs.size + 1 := by rw [← hH2, Heap.size_push]
  generalize hCe : H2.objs.size = C at hns₁ hsb₁ hC ⊢
  generalize hDe : s.heap.objs.size = D' at hC hsz ⊢
  have hDC : D' ≠ C := by omega
  have hIC : it ≠ C := fun e => by have h : hb.objs.size = C := hit.symm.trans e; omega
  have hID : it ≠ D' := fun e => by have h : hb.objs.size = D' := hit.symm.trans e; omega
  have below : ∀ b ob, s.heap.get? b = some ob → b ≠ C ∧ b ≠ D' := fun b ob e =>
    ⟨fun q => by have h : C < s.heap.objs.size := q ▸ Heap.lt_size e; omega, fun q => by have h : D' < s.heap.objs.size := q ▸ Heap.lt_size e; omega⟩
  have belowb : ∀ b ob, hb.get? b = some ob → b ≠ C ∧ b ≠ D' ∧ b ≠ it := fun b ob e =>
    ⟨fun q => by have h : C < hb.objs.size := q ▸ Heap.lt_size e; omega, fun q => by have h : D' < hb.objs.size := q ▸ Heap.lt_size e; omega, fun q => by have h : hb.objs.size < hb.objs.size := (q.trans hit) ▸ Heap.lt_size e; omega⟩
  have old : Ext s.heap h₁ := fun b ob e => hsb₁.extBut b ob (below b ob e).1 (Heap.get?_push_of_some _ (hH2 ▸ Heap.get?_push_of_some _ e))
  have hacc : h₁.get? D' = some (lstO [] 0) := hsb₁.extBut _ _ hDC (Heap.get?_push_of_some _ (by rw [← hH2, ← hDe]; exact Heap.get?_push_size _ rfl))
  have nD : ¬ Av c.X c.L o D' := fun q => by
    obtain ⟨ob, e⟩ := S.st.live _ q
    exact (belowb _ _ e).2.1 rfl
  have hJ₁ : J 0 h₁ := IT.keep 0 _ _ hJ fun b ob _ e => old b ob e
  have loop : ∀ s₂ : Shared, s₂ = { s with heap := h₁, toks := s.toks + ([] : List (Str × Value)).length } →
      codeAny c.M c.A (.compLoop (.ListComp (.Call (.Name x px) [.Name y py] [] pc) [⟨.Name y pz, iter, [], 0⟩] sc p) 0 (.ref it) (.ref D') (compEnv sc C c.env))
        (fun r s' => ∃ m, s'.heap.Ns C m ∧ ∀ h', Heap.SameBut C s'.heap h' →
          match r with | .ok _ => Q (.ref D') { s' with heap := h' } | .error x => wpAny c.M c.A (passOn "comprehension.variables-let-go" x (compEnv sc C c.env)) Q E { s' with heap := h' }) s₂ := by
    rintro s₂ rfl
    refine codeAny_compLoop_list (fun n s' => ∃ h' tk m' i done rest rs' ys q, s' = { s with heap := h', toks := tk } ∧ n = rest.length ∧ J i h' ∧ rest = l.drop i ∧ h'.Ns C m' ∧ h'.get? D' = some (lstO ys q) ∧ (∀ X h, RepAll c.t.prog c.t.w X h ys done) ∧ mapCall c.O f rest = .ok rs' ∧ rs = done ++ rs' ∧ Ext hb h' ∧ done.length + rest.length = l.length) ?_ l.length
      ⟨h₁, _, _, 0, [], l, rs, [], 0, rfl, rfl, hJ₁, rfl, hns₁, hacc, fun _ _ => .nil, hm, rfl, xs.trans old, by simp⟩
    rintro n s' ⟨h', tk, m', i, done, rest, rs', ys, q, rfl, rfl, J', hrest, ns', hD', rd, hm', hrs, x', hl'⟩
    have hvl := rl.length
    cases rest with
    | nil =>
      refine IT.stop i _ _ _ J' (by have := congrArg List.length hrest; simp at this; omega) fun h2 t2 eb => ?_
      dsimp only
      refine ⟨m', ns'.extBut eb (Ne.symm hIC), fun h3 sb3 => ?_⟩
      simp only [mapCall] at hm'
      cases hm'
      rw [List.append_nil] at hrs
      subst hrs
      exact k (.ref D') h3 t2 (fun b ob e => sb3.extBut b ob (belowb b ob e).1 (eb b ob (belowb b ob e).2.2 (x' b ob e))) (.list nD (sb3.extBut _ _ hDC (eb _ _ (Ne.symm hID) hD')) (rd _ _))
    | cons d rest =>
      obtain ⟨r, rs2, hr, hatom, hm2, rfl⟩ := mapCall_inv hm'
      have hd : l[i]? = some d := by
        have : (l.drop i)[0]? = some d := by rw [← hrest]; rfl
        simpa using this
      obtain ⟨v, hv, rv⟩ := rl.get hd
      refine IT.item i v _ _ _ J' hv fun h2 t2 J2 eb => ?_
      dsimp only
      have ns2 := ns'.extBut eb (Ne.symm hIC)
      refine wpAny_assign_Name (wpAny_storeName_local hy ns2 (fun h3 hn3 sb3 => ?_) (by simp [compEnv, hkind]))
      have x3 : Ext hb h3 := fun b ob e => sb3.extBut b ob (belowb b ob e).1 (eb b ob (belowb b ob e).2.2 (x' b ob e))
      refine Fx.comp_elt ok (f := f) (d := d) (r := r) (o := o) (ρ := ρ) hf hkind hx hxd hy hyd hn3 (if_pos rfl) (rv.ext x3) hr (S.ext x3) fun u h4 t4 x4 r4 => ?_
      have hD4 : h4.get? D' = some (lstO ys q) := x4 _ _ (sb3.extBut _ _ hDC (eb _ _ (Ne.symm hID) hD'))
      have hyl : ys.length = done.length := (rd (fun _ => False) h4).length
      simp only [List.length_cons] at hl'
      refine append_exact hD4 (by rw [sizeLine_eq]; simp only [big] at hlen; omega) fun h5 hD5 sb5 => ?_
      refine ⟨rest.length, by simp, h5, t4, _, i + 1, done ++ [r.1], rest, rs2, ys ++ [u], q + 1, rfl, rfl, ?_, ?_, (hn3.keeps x4).sameBut sb5 (Ne.symm hDC), hD5, fun X h => (rd X h).append (.cons (rep_atom hatom r4) .nil), hm2, by rw [hrs]; simp, ?_, by simp; omega⟩
      · refine IT.keep _ _ _ J2 fun b ob hb' e => ?_
        have nb : b ≠ C ∧ b ≠ D' := by
          rcases hb' with rfl | ⟨ob', e'⟩
          · exact ⟨hIC, hID⟩
          · exact ⟨(belowb b ob' e').1, (belowb b ob' e').2.1⟩
        exact sb5.extBut b ob nb.2 (x4 b ob (sb3.extBut b ob nb.1 e))
      · have : l.drop (i + 1) = (l.drop i).drop 1 := by rw [List.drop_drop]
        rw [this, ← hrest]; rfl
      · exact fun b ob e => sb5.extBut b ob (belowb b ob e).2.1 (x4 b ob (x3 b ob e))
  exact codeAny_compStart_list (loop _ rfl) (IT.again 0 _ _ _ hJ₁ (loop _ rfl))
theorem Fx.ev_comp (f : Nat) {a : ME} (ha : c.EvOk a) : c.EvOk (.comp f a) := by
  intro e d o ρ s Q E hm he S k
  replace hm := inv_comp hm
  obtain ⟨x, px, y, py, pc, iter, pz, sc, p, rfl, hm⟩ := hm
  simp only [Bool.and_eq_true, beq_iff_eq] at hm
  obtain ⟨⟨h1, h2⟩, h3⟩ := hm
  simp only [ev] at he
  split at he
  · cases he
  · rename_i hesc
    obtain ⟨xd, hx, he⟩ := R.bind_inv he
    split at he
    · rename_i l hl
      split at he
      · rename_i hb
        obtain ⟨rs, hrs, he⟩ := R.bind_inv he
        cases he
        have hsc := h2
        simp only [compScope, Bool.and_eq_true, beq_iff_eq, Bool.not_eq_true', List.all_eq_true, List.isEmpty_iff] at hsc
        obtain ⟨⟨⟨⟨⟨⟨⟨⟨hkind, hgen⟩, hco⟩, hyd⟩, hxd⟩, hy⟩, hxg⟩, hall⟩, hmore⟩ := hsc
        refine wpAny_ListComp (fun z hz q => by have := (hall z hz).1.2; rw [q] at this; exact Bool.noConfusion this) hkind ?_ (ha _ xd o ρ s _ E h3 hx S fun v h1' t1 x1 r1 => ?_) (match_notSetIter h3 _)
        · intro z hz q
          have := (hall z hz).2
          simp only [q, beq_self_eq_true, Bool.not_true, Bool.false_or, beq_iff_eq, Bool.or_eq_true, Bool.not_eq_true'] at this
          exact this
        have hav := r1.av (by simpa using hesc)
        have S1 := S.ext x1
        rcases seqD_inv hl with rfl | rfl
        · obtain ⟨la, vs, n, rfl, nx, hg, rl⟩ := hav.list_inv
          refine wpAny_pyIter_list (isLst hg) ?_
          refine Fx.comp_core ok (Fx.citer_list ok (n := n) hg (Nat.ne_of_gt (Heap.lt_size hg))) h1 h2 hrs hb S1 rl rfl (Ext.push _ _) (by rw [Heap.size_push]; exact Nat.lt_succ_self _) ⟨⟨_, Heap.get?_push_size _ rfl, rfl, rfl⟩, Heap.get?_push_of_some _ hg⟩ fun v h' tk x2 r2 => ?_
          exact k v h' tk (x1.trans x2) (.of S.st.sys r2)
        · obtain ⟨la, vs, n, rfl, nx, hg, rl⟩ := hav.tuple_inv
          refine wpAny_pyIter_tuple ⟨_, hg, rfl, _, rfl⟩ ?_
          refine Fx.comp_core ok (Fx.citer_tuple ok (n := n) hg (Nat.ne_of_gt (Heap.lt_size hg))) h1 h2 hrs hb S1 rl rfl (Ext.push _ _) (by rw [Heap.size_push]; exact Nat.lt_succ_self _) ⟨⟨_, Heap.get?_push_size _ rfl, rfl, rfl⟩, Heap.get?_push_of_some _ hg⟩ fun v h' tk x2 r2 => ?_
          exact k v h' tk (x1.trans x2) (.of S.st.sys r2)
      · cases he
    · cases he
end
end Mine
-- MMax
set_option autoImplicit false
set_option linter.all false
set_option maxRecDepth 100000
namespace Mine
open PySem PyProof.Rows

theorem maxd_args (a v : Value) : argsOk "max" ⟨[a], [(Str.ofString "default", v)]⟩ := by unfold argsOk; kernel_rfl
section
variable {prog : Program} {w : World} {A : Around} {E : Value → Shared → Prop} {s : Shared}

theorem gt_ints {a b : Int} {t u : Tok} {Q : Value → Shared → Prop} (h : Q (.bool (decide (b < a))) s) : wpAny (model prog w) A (richCompare .Gt (.int a t) (.int b u)) Q E s :=
  CmpOf.ints_gt (P := fun i v => ∃ t, v = Value.int (if i = 0 then b else a) t) (fun i => if i = 0 then b else a) (fun i v h => h) 1 0 (.int a t) (.int b u) s Q E ⟨t, rfl⟩ ⟨u, rfl⟩ h
theorem maxd_turns {R : Result → Shared → Prop} {I S l : Addr} {vs : List Value} {ds : List D} {dv : Value} {X : Addr → Prop} {hb : Heap} (hh : A.handled = none) (hSI : S ≠ I) (hlI : l ≠ I) (hlS : l ≠ S) (rl : RepAll prog w X hb vs ds) :
    ∀ (k i : Nat) (b : Int) (tb : Tok) (m : Int) (s : Shared) (c : Nat), ds.length - i = k → i ≤ ds.length → s.heap.IsListIter I l i → s.heap.IsList l vs.toArray → maxFrom b (ds.drop i) = some m →
    s.heap.get? S = some { cls := .type "list", dict := none, data := .seq #[.int b tb, .int b tb] c, slots := #[] } →
    (∀ t h' tk, (∀ b o, b ≠ I → b ≠ S → s.heap.get? b = some o → h'.get? b = some o) → R (.ok (.ret (.int m t))) { s with heap := h', toks := tk }) →
    codeAny (model prog w) A (.builtin "max.loop" ⟨[.ref I, .none, .ref S], [(Str.ofString "default", dv)]⟩) R s := by
  have hname : (toString "max" ++ toString ".loop" : String) = "max.loop" := by decide
  have hvl := rl.length
  intro k
  induction k with
  | zero =>
    intro i b tb m s c hk hi hit hl hm hS hR
    have hie : ds.length ≤ i := by omega
    rw [List.drop_of_length_le hie] at hm
    simp only [maxFrom, Option.some.injEq] at hm
    subst hm
    refine codeAny_builtin F.entry_max_loop ?_
    rw [Around.under_plainId F.plain_max_loop _]
    show wpAny _ A.in1 (seqItems? (.ref S) >>= _) _ _ s
    refine wpAny_bind (wpAny_seqItems hS rfl ?_)
    show wpAny _ A.in1 (tryCatch (pyNext (.ref I)) _ >>= _) _ _ s
    refine wpAny_bind (wpAny_tryCatch (wpAny_pyNext_list_end hh hit hl (by simp; omega) fun h' eb => ?_))
    have hS' := eb S _ hSI hS
    show wpAny _ A.in1 (updateSeq S (fun _ => #[]) >>= _) _ _ _
    refine wpAny_bind ?_
    refine wpAny_updateSeq hS' rfl (wpAny_bind (wpAny_letGo (wpAny_pure ?_)))
    exact hR tb _ _ fun b o hbI hbS e => (Heap.get?_update_other _ _ (Ne.symm hbS)).trans (eb b o hbI e)
  | succ k ih =>
    intro i b tb m s c hk hi hit hl hm hS hR
    have hlt : i < ds.length := by omega
    obtain ⟨v, hv, rv⟩ := rl.get (List.getElem?_eq_getElem hlt)
    rw [List.drop_eq_getElem_cons hlt] at hm
    obtain ⟨x, hx⟩ : ∃ x, ds[i] = .int x := by
      cases hq : ds[i] with
      | int x => exact ⟨x, rfl⟩
      | _ => rw [hq] at hm; simp [maxFrom] at hm
    rw [hx] at hm rv
    obtain ⟨t, rfl⟩ := rv.int_inv
    simp only [maxFrom] at hm
    refine codeAny_builtin F.entry_max_loop ?_
    rw [Around.under_plainId F.plain_max_loop _]
    show wpAny _ A.in1 (seqItems? (.ref S) >>= _) _ _ s
    refine wpAny_bind (wpAny_seqItems hS rfl ?_)
    show wpAny _ A.in1 (tryCatch (pyNext (.ref I)) _ >>= _) _ _ s
    refine wpAny_bind (wpAny_tryCatch (wpAny_pyNext_list_item hit hl (x := .int x t) (by simpa using hv) fun h' hit' sb => ?_))
    have hS' := (sb.2 S hSI).trans hS
    have hl' : h'.IsList l vs.toArray := hl.extBut sb.extBut hlI
    show wpAny _ A.in1 (tryCatch (holding [Value.int x t, Value.int x t] (richCompare .Gt (.int x t) (.int b tb) >>= _)) _ >>= _) _ _ _
    refine wpAny_bind (wpAny_tryCatch (wpAny_holding (wpAny_bind (gt_ints ?_))))
    refine wpAny_bind (wpAny_holding (wpAny_truthy_bool ?_))
    refine wpAny_bind (wpAny_letGo (wpAny_pure ?_))
    by_cases hxb : b < x
    · rw [decide_eq_true hxb]
      simp only [if_true]
      refine wpAny_bind ?_
      refine wpAny_updateSeq hS' rfl (wpAny_bind (wpAny_letGo ?_))
      rw [hname]
      refine wpAny_pure ⟨plainId_quiet F.plain_max_loop _, ih (i + 1) x t m _ _ (by omega) hlt (hit'.extBut (Heap.SameBut.update ..).extBut (Ne.symm hSI)) (hl'.extBut (Heap.SameBut.update ..).extBut hlS) ?_ (Heap.get?_update_self _ hS' rfl) fun t' h'' tk'' hk'' => ?_⟩
      · rwa [Int.max_eq_right (by omega)] at hm
      · exact hR t' h'' tk'' fun b o hbI hbS e => hk'' b o hbI hbS ((Heap.get?_update_other _ _ (Ne.symm hbS)).trans ((sb.2 b hbI).trans e))
    · rw [decide_eq_false hxb]
      simp only [Bool.false_eq_true, if_false]
      refine wpAny_bind (wpAny_letGo ?_)
      rw [hname]
      refine wpAny_pure ⟨plainId_quiet F.plain_max_loop _, ih (i + 1) b tb m _ c (by omega) hlt hit' hl' ?_ hS' fun t' h'' tk'' hk'' => ?_⟩
      · rwa [Int.max_eq_left (by omega)] at hm
      · exact hR t' h'' tk'' fun b o hbI hbS e => hk'' b o hbI hbS ((sb.2 b hbI).trans e)
theorem maxd_call {l : Addr} {vs : List Value} {n : Nat} {ds : List D} {m : Int} {t0 : Tok} {X : Addr → Prop} {Q : Value → Shared → Prop} (hh : A.handled = none) (hl : s.heap.get? l = some (lstO vs n)) (rl : RepAll prog w X s.heap vs ds) (hm : maxdD (.list ds) = .ok (.int m))
    (k : ∀ h' tk t, Ext s.heap h' → Q (.int m t) { s with heap := h', toks := tk }) : wpAny (model prog w) A (call (.builtin "max") [.ref l] [(Str.ofString "default", .int 0 t0)]) Q E s := by
  have hname : (toString "max" ++ toString ".loop" : String) = "max.loop" := by decide
  refine wpAny_call (codeAny_call_builtin F.plain_max F.entry_max ?_)
  have hc : wpAny (model prog w) A.in1 (Builtin.«max» ⟨[.ref l], [(Str.ofString "default", .int 0 t0)]⟩) (fun fin s' => match fin with
      | .done f => (match (Except.ok f : Result) with | .ok (.ret v) => Q v s' | .ok _ => False | .error e => E e s')
      | .again c' => c'.quiet = true ∧ codeAny (model prog w) A c' (fun r s' => match r with | .ok (.ret v) => Q v s' | .ok _ => False | .error e => E e s') s') E s := by
    show wpAny _ A.in1 (Builtin.Builtins.bindParams "max" ["key", "default"] 0 ⟨[], [(Str.ofString "default", .int 0 t0)]⟩ >>= _) _ _ s
    refine wpAny_bind (wpAny_of_eq (show Builtin.Builtins.bindParams "max" ["key", "default"] 0 ⟨[], [(Str.ofString "default", .int 0 t0)]⟩ = pure [none, some (.int 0 t0)] from rfl) ?_)
    refine wpAny_bind (wpAny_pure ?_)
    refine wpAny_bind (wpAny_pyIter_list (isLst hl) ?_)
    refine wpAny_bind (wpAny_newObj_type ?_)
    rw [hname]
    refine wpAny_pure ⟨plainId_quiet F.plain_max_loop _, ?_⟩
    have hlI : l ≠ s.heap.objs.size := Nat.ne_of_lt (Heap.lt_size hl)
    have hlS : l ≠ s.heap.objs.size + 1 := Nat.ne_of_lt (Nat.lt_succ_of_lt (Heap.lt_size hl))
    have hSI : s.heap.objs.size + 1 ≠ s.heap.objs.size := Nat.succ_ne_self _
    have hsz : (s.heap.push { cls := .type "list_iterator", data := .fields #[.ref l, .int 0 0] }).objs.size = s.heap.objs.size + 1 := Heap.size_push ..
    dsimp only
    generalize hH1 : s.heap.push { cls := .type "list_iterator", data := .fields #[.ref l, .int 0 0] } = H1 at hsz ⊢
    have hS : (H1.push { cls := .type "list", dict := none, data := .seq ([] : List Value).toArray }).get? (s.heap.objs.size + 1) = some { cls := .type "list", dict := none, data := .seq #[] 0, slots := #[] } := by
      rw [← hsz]; exact Heap.get?_push_size _ rfl
    have hit : (H1.push { cls := .type "list", dict := none, data := .seq ([] : List Value).toArray }).IsListIter s.heap.objs.size l 0 := ⟨_, Heap.get?_push_of_some _ (by rw [← hH1]; exact Heap.get?_push_size _ rfl), rfl, rfl⟩
    have hl2 : (H1.push { cls := .type "list", dict := none, data := .seq ([] : List Value).toArray }).get? l = some (lstO vs n) := Heap.get?_push_of_some _ (by rw [← hH1]; exact Heap.get?_push_of_some _ hl)
    have x2 : Ext s.heap (H1.push { cls := .type "list", dict := none, data := .seq ([] : List Value).toArray }) := fun b o e => Heap.get?_push_of_some _ (by rw [← hH1]; exact Heap.get?_push_of_some _ e)
    have nb : ∀ b o, s.heap.get? b = some o → b ≠ s.heap.objs.size ∧ b ≠ s.heap.objs.size + 1 := fun b o e => ⟨Nat.ne_of_lt (Heap.lt_size e), Nat.ne_of_lt (Nat.lt_succ_of_lt (Heap.lt_size e))⟩
    rw [hsz]
    generalize H1.push { cls := .type "list", dict := none, data := .seq ([] : List Value).toArray } = H2 at hS hit hl2 x2 ⊢
    generalize s.heap.objs.size + 1 = S at hS hlS hSI nb ⊢
    generalize s.heap.objs.size = I at hit hlI hSI nb ⊢
    refine codeAny_builtin F.entry_max_loop ?_
    rw [Around.under_plainId F.plain_max_loop _]
    show wpAny _ A.in1 (seqItems? (.ref S) >>= _) _ _ _
    refine wpAny_bind (wpAny_seqItems hS rfl ?_)
    show wpAny _ A.in1 (tryCatch (pyNext (.ref I)) _ >>= _) _ _ _
    cases ds with
    | nil =>
      cases rl
      simp only [maxdD, R.ok.injEq, PyData.int.injEq] at hm
      subst hm
      refine wpAny_bind (wpAny_tryCatch (wpAny_pyNext_list_end hh hit (isLst hl2) rfl fun h' eb => ?_))
      refine wpAny_bind (wpAny_rule (wpAny_pure ?_))
      exact k h' _ t0 fun b o e => eb b o (nb b o e).1 (x2 b o e)
    | cons d0 ds =>
      cases rl with
      | @cons v0 vs _ _ r0 rs =>
        cases d0 with
        | int i =>
          obtain ⟨u, rfl⟩ := r0.int_inv
          simp only [maxdD] at hm
          cases hq : maxFrom i ds with
          | none => rw [hq] at hm; cases hm
          | some m' =>
            rw [hq] at hm
            simp only [R.ok.injEq, PyData.int.injEq] at hm
            subst hm
            refine wpAny_bind (wpAny_tryCatch (wpAny_pyNext_list_item hit (isLst hl2) (x := .int i u) (by simp) fun h' hit' sb => ?_))
            have hS' := (sb.2 S hSI).trans hS
            show wpAny _ A.in1 (updateSeq S (fun _ => #[Value.int i u, Value.int i u]) >>= _) _ _ _
            refine wpAny_bind ?_
            refine wpAny_updateSeq hS' rfl ?_
            rw [hname]
            refine wpAny_pure ⟨plainId_quiet F.plain_max_loop _, maxd_turns (X := X) (hb := s.heap) (ds := .int i :: ds) hh hSI hlI hlS (.cons r0 rs) _ 1 i u m' _ _ rfl (by simp) (hit'.extBut (Heap.SameBut.update ..).extBut (Ne.symm hSI)) (((isLst hl2).extBut sb.extBut hlI).extBut (Heap.SameBut.update ..).extBut hlS) (by simpa using hq) (Heap.get?_update_self _ hS' rfl) fun t' h'' tk'' hk'' => ?_⟩
            exact k h'' tk'' t' fun b o e => hk'' b o (nb b o e).1 (nb b o e).2 ((Heap.get?_update_other _ _ (Ne.symm (nb b o e).2)).trans ((sb.2 b (nb b o e).1).trans (x2 b o e)))
        | _ => simp [maxdD] at hm
  simp only [checkBuiltinCall, F.kind_max]
  cases hsig : Manifest.signature? "max" with
  | none => exact wpAny_pure hc
  | some sig =>
    have ha' : Bind.checkArgs "max" sig ⟨[.ref l], [(Str.ofString "default", .int 0 t0)]⟩ = pure () := by simpa only [argsOk, hsig] using maxd_args (.ref l) (.int 0 t0)
    simp only [ha']
    exact wpAny_pure hc
end

section
variable {c : Fx} (ok : c.Ok)
include ok
theorem Fx.ev_maxd {a : ME} (ha : c.EvOk a) : c.EvOk (.maxd a) := by
  intro e d o ρ s Q E hm he S k
  replace hm := inv_maxd hm
  obtain ⟨x, px, y, kw, p, n, p2, rfl, e1, e2, hm⟩ := hm
  obtain ⟨karg, kval, kpos⟩ := kw
  dsimp only at e1 e2
  subst e1 e2
  simp only [Bool.and_eq_true, beq_iff_eq] at hm
  obtain ⟨⟨rfl, h2⟩, h3⟩ := hm
  simp only [ev] at he
  obtain ⟨xd, hx, he⟩ := R.bind_inv he
  refine wpAny_Call_Name_kw (Fx.bname ok (v := .builtin "max") h2 (by repeat (first | exact List.Mem.head _ | apply List.Mem.tail)) S.h0 ?_)
  have hp : backTo p (starEach [y] c.env) = [(false, eval y c.env)] := trees_plain (C := c.C) (ms := .cons a .nil) (es := [y]) (Bool.and_eq_true_iff.mpr ⟨h3, rfl⟩) _ _
  refine callWith_kw ?_ hp (by rw [hp]; rfl)
  rw [hp]
  refine Calls.spliced_cons (ha _ xd o ρ s _ E h3 hx S fun v h1 t1 x1 r1 => Calls.spliced_nil ?_)
  refine kws_cons (wpAny_Constant_int (kws_nil ?_))
  obtain ⟨l, rfl⟩ : ∃ l, xd = .list l := by
    cases xd with
    | list l => exact ⟨l, rfl⟩
    | _ => simp [maxdD] at he
  obtain ⟨m, rfl⟩ : ∃ m, d = .int m := by
    unfold maxdD at he
    split at he
    · cases he; exact ⟨_, rfl⟩
    · split at he
      · cases he; exact ⟨_, rfl⟩
      · cases he
    · cases he
  obtain ⟨la, vs, n', rfl, hg, rl⟩ := r1.out.list_inv
  exact maxd_call ok.ar.handled hg rl he fun h' tk t x2 => k _ h' tk (x1.trans x2) (.of S.st.sys (.int _ _))
end
end Mine
-- MEx5
set_option autoImplicit false
set_option linter.all false
namespace Mine
open PySem PyProof.Rows

section
variable {c : Fx} (ok : c.Ok)
include ok

theorem Fx.ex_asgOwn (i : Nat) {e : ME} (hn : c.NewOk e) : c.ExOk (.asgOwn i e) := by
  intro st o ρ s Q E hm S P
  replace hm := inv_asgOwn hm
  obtain ⟨_, _, _, _, rfl, hm⟩ := hm
  simp only [Bool.and_eq_true] at hm
  obtain ⟨⟨h1, h2⟩, h3⟩ := hm
  simp only [ex] at P
  split at P
  · exact P.elim
  · split at P
    · obtain ⟨d, hd, P⟩ := SR.of_post P
      exact Fx.ex_new ok i hn h1 h2 h3 S hd P
    · obtain ⟨d, hd, P⟩ := SR.of_post P
      exact Fx.ex_new ok i hn h1 h2 h3 S hd P
    · exact P.elim
omit ok in
theorem strs_any {prog : Program} {w : World} {X X' : Addr → Prop} {h h' : Heap} {l : List D} {vs : List Value} (hs : (strsD l).isSome = true) (r : RepAll prog w X h vs l) : RepAll prog w X' h' vs l := by
  induction l generalizing vs with
  | nil => cases r; exact .nil
  | cons d l ih =>
    cases r with
    | cons a b =>
      cases d with
      | str x =>
        simp only [strsD, Option.isSome_map] at hs
        obtain ⟨t, rfl⟩ := a.str_inv
        exact .cons (.str _ _) (ih hs b)
      | _ => cases hs
theorem Fx.ex_asgFresh (i f : Nat) {as : MEs} (hs : c.EvsOk as) : c.ExOk (.asgFresh i f as) := by
  intro st o ρ s Q E hm S P
  replace hm := inv_asgFresh hm
  obtain ⟨_, _, _, _, rfl, hm⟩ := hm
  simp only [Bool.and_eq_true] at hm
  obtain ⟨h1, h2⟩ := hm
  simp only [ex] at P
  split at P
  · exact P.elim
  · rename_i hesc
    obtain ⟨xs, hxs, P⟩ := SR.of_post P
    obtain ⟨r, hr, P⟩ := SR.of_post P
    split at P
    · rename_i hf
      rw [Bool.and_eq_true] at hf
      have hesc' : as.esc = false := by simpa using hesc
      refine wpAny_Assign_Name (Fx.ev_callG ok f hs h2 hxs hr (by simp [aliasOk, hesc']) S fun v h' tk x1 r1 fr => ?_) (swaps_no h2 rfl _ _ _)
      obtain ⟨a, rfl, hn⟩ := fr hf.1
      have ow : OwnRep c.t.prog c.t.w (fun b => Av c.X c.L o b ∨ b = a) h' a r.1 := by
        cases hd : r.1 with
        | dict kv =>
          rw [hd] at r1
          obtain ⟨_, es, e1, _, dc, pr⟩ := r1.dict_inv
          cases e1
          exact ⟨es, dc, pr⟩
        | list l =>
          rw [hd] at r1
          obtain ⟨_, vs, n, e1, _, hg, rl⟩ := r1.list_inv
          cases e1
          have hq := hf.2
          rw [hd] at hq
          exact ⟨vs, n, hg, strs_any hq rl⟩
        | _ => have hq := hf.2; rw [hd] at hq; cases hq
      refine Fx.store_own ok h1 S hn x1 ow fun h'' S' k' g' => P _ h'' _ S' k' g'
    · exact P.elim
end

theorem St.turn_keep {prog : Program} {w : World} {X : Addr → Prop} {L : Addr} {slots : List Str} {o : Nat → Option Addr} {ρ : Env} {h h' : Heap} (S : St prog w X L slots o ρ h) {i : Nat} {a : Addr} {d : D} (ha : o i = some a) (sb : Keep (fun b => b = a) h h') (r : OwnRep prog w (Av X L o) h' a d) : St prog w X L slots o (ρ.set i (.own d)) h' := by
  have kp : Keep (Av X L o) h h' := fun b ob e n => sb b ob e fun q => n (q ▸ .inr (.inr ⟨i, ha⟩))
  obtain ⟨nx, nL, hi⟩ := S.xo i a ha
  have hi' : i < ρ.length := by rw [S.len]; exact hi
  obtain ⟨m, hm, hs⟩ := S.ns
  refine ⟨⟨m, ?_, fun j y hy => ?_⟩, S.xl, S.xo, S.inj, fun b q => ?_, S.sys, by rw [List.length_set, S.len]⟩
  · obtain ⟨o2, es, n, q, r⟩ := hm
    exact ⟨o2, es, n, sb _ _ q fun z => nL z.symm, r⟩
  · by_cases hj : j = i
    · subst hj
      have := hs j y hy
      rw [List.getElem?_set_self hi']
      obtain ⟨d0, e0, _⟩ := S.own_slot ha
      rw [e0] at this
      obtain ⟨a', e1, e2, _⟩ := this
      exact ⟨a', e1, e2, by rw [ha] at e1; cases e1; exact r⟩
    · rw [List.getElem?_set_ne (Ne.symm hj)]
      exact (hs j y hy).mono kp fun b q ob e => sb b ob e fun q' => hj (S.inj j i b q (q' ▸ ha))
  · obtain ⟨ob, e⟩ := S.xok b q
    exact ⟨ob, sb b ob e fun q' => nx (q' ▸ q)⟩
noncomputable def snocE (m : ME) : MEs → MEs
  | .nil => .cons m .nil
  | .cons a as => .cons a (snocE m as)
theorem match_snoc {C : MC} {m : ME} {e : Expr} (hm : matchE C m e = true) : ∀ {as : MEs} {es : List Expr}, matchEs C as es = true → matchEs C (snocE m as) (es ++ [e]) = true
  | .nil, [], _ => Bool.and_eq_true_iff.mpr ⟨hm, rfl⟩
  | .nil, _ :: _, h => Bool.noConfusion h
  | .cons _ _, [], h => Bool.noConfusion h
  | .cons a as, x :: es, h => by
    have h := Bool.and_eq_true_iff.mp (show (matchE C a x && matchEs C as es) = true from h)
    exact Bool.and_eq_true_iff.mpr ⟨h.1, match_snoc hm h.2⟩
noncomputable def Fx.EvtOk (c : Fx) (ms : MEs) : Prop := ∀ (es : List Expr) (ds : List D) (o : Nat → Option Addr) (ρ : Env) (s : Shared) (tail : List (Bool × Sem Value)) (Q : List Value → Shared → Prop) (E : Value → Shared → Prop), matchEs c.C ms es = true → evs c.O c.t.G ρ ms = .ok ds → c.St o ρ s.heap →
  (∀ vs h' tk, Ext s.heap h' → EvRepAll c.t.prog c.t.w c.X c.L o ρ ms.esc h' vs ds → wpAny c.M c.A (spliced tail) (fun us s₂ => Q (vs ++ us) s₂) E { s with heap := h', toks := tk }) → wpAny c.M c.A (spliced (es.map (fun e => (false, eval e c.env)) ++ tail)) Q E s
section
variable {c : Fx} (ok : c.Ok)
include ok
theorem Fx.evt_nil : c.EvtOk .nil := by
  intro es ds o ρ s tail Q E hm he S k
  replace hm : es = [] := List.isEmpty_iff.mp hm
  subst hm
  simp only [evs] at he; cases he
  exact k [] s.heap s.toks (.refl _) ⟨fun _ => .nil, .nil, fun _ => .nil⟩
theorem Fx.evt_cons {a : ME} {as : MEs} (ha : c.EvOk a) (hs : c.EvtOk as) : c.EvtOk (.cons a as) := by
  intro es ds o ρ s tail Q E hm he S k
  replace hm := lc_inv hm
  obtain ⟨_, _, rfl, hm⟩ := hm
  simp only [Bool.and_eq_true] at hm
  simp only [evs] at he
  obtain ⟨x, hx, he⟩ := R.bind_inv he
  obtain ⟨xs, hxs, he⟩ := R.bind_inv he
  cases he
  rw [List.map_cons, List.cons_append]
  refine Calls.spliced_cons (ha _ x o ρ s _ E hm.1 hx S fun v h1 t1 x1 r1 => ?_)
  refine hs _ xs o ρ _ _ _ E hm.2 hxs (S.ext x1) fun vs h2 t2 x2 r2 => k (v :: vs) h2 t2 (x1.trans x2) ⟨fun q => ?_, .cons (r1.ext x2).avl r2.avl, fun q => ?_⟩
  · simp only [MEs.esc, Bool.or_eq_false_iff] at q
    exact .cons ((r1.ext x2).av q.1) (r2.av q.2)
  · simp only [List.all_cons, Bool.and_eq_true] at q
    exact .cons ((r1.ext x2).avd q.1) (r2.avd q.2)
theorem Fx.ex_callRef (f i : Nat) {as : MEs} (hs : c.EvtOk as) : c.ExOk (.callRef f as i) := by
  intro st o ρ s Q E hm S P
  replace hm := inv_callRef hm
  obtain ⟨x, px, l, cp, pos, rfl, hm⟩ := hm
  simp only [Bool.and_eq_true, beq_iff_eq, decide_eq_true_eq] at hm
  obtain ⟨⟨⟨⟨⟨h1, h2⟩, h3⟩, h4⟩, h5⟩, h6⟩ := hm
  replace h4 := o1_inv h4
  obtain ⟨z, hz, h4⟩ := h4
  replace h4 := wName_inv h4
  obtain ⟨y, py, rfl, h4⟩ := h4
  have hl : l = l.dropLast ++ [.Name y py] := by
    have hne : l ≠ [] := fun q => by subst q; cases hz
    rw [List.getLast?_eq_some_getLast hne] at hz
    have := List.dropLast_concat_getLast hne
    rw [Option.some.inj hz] at this
    exact this.symm
  have hlen : 0 < l.dropLast.length := by rw [List.length_dropLast]; omega
  generalize l.dropLast = es at hl h3 hlen
  subst hl
  simp only [ex] at P
  split at P
  · exact P.elim
  · rename_i hesc
    split at P
    · rename_i d hρ
      obtain ⟨xs, hxs, P⟩ := SR.of_post P
      obtain ⟨d', hr, P⟩ := SR.of_post P
      obtain ⟨F, hF, rfl⟩ := Fx.fn_of ok h1
      obtain ⟨fa, fd, body, FN⟩ := ok.t.fn f F hF
      obtain ⟨ob, ho, hd⟩ := FN.obj
      have hown : matchE c.C (.own i) (.Name y py) = true := h4
      have ht := trees_plain (match_snoc hown h3) cp c.env
      refine wpAny_Expr_any (Q := Q) ?_ (by simp [interactive, ok.kind]) rfl
      refine Call_Name ht (Fx.gname ok h2 FN.name S.h0 ?_)
      rw [List.map_append, List.map_cons, List.map_nil]
      cases es with
      | nil => simp at hlen
      | cons e0 es =>
        have key := hs (e0 :: es) xs o ρ s [(false, eval (.Name y py) c.env)] (fun vs s₁ => (s₁.heap.get? fa = some ob ∧ ob.data = .func fd) ∧ wpAny c.M c.A (call (.ref fa) vs []) (fun v s₂ => Q .next s₂) E s₁) E h3 hxs S fun vs h1 t1 x1 r1 => ?_
        · rw [List.map_cons, List.cons_append] at key ⊢
          exact Calls.callWith_function (o := ob) (fd := fd) (Calls.evalArgs_plain key)
        · have S1 := S.ext x1
          refine Calls.spliced_cons (Fx.oname ok h4 S1 hρ fun la hla r => Calls.spliced_nil ⟨⟨S1.h0 _ _ ho, hd⟩, ?_⟩)
          obtain ⟨nX, nL, _⟩ := S1.st.xo i la hla
          have hav : Av c.X c.L o la := .inr (.inr ⟨i, hla⟩)
          have back : ∀ b, ((Av c.X c.L o b ∧ b ≠ la) ∨ b = la) → Av c.X c.L o b := fun b q => q.elim (·.1) fun q => q ▸ hav
          refine ok.orc.rf f xs d d' hr F fa la c.A _ (fun b => Av c.X c.L o b ∧ b ≠ la) vs _ E hF FN.name ok.ar S1.h0 (fun b q => S1.st.live b q.1) ⟨S1.st.avSys, fun q => nX (q ▸ S1.st.sys)⟩ (fun b q => Fx.av0 ok S1 b q.1) ((r1.av (by simpa using hesc)).less back) (fun q => q.2 rfl) (S1.o0 i la hla) (r.avoid fun b _ _ n q => n (back b q)) fun v h' tk kp ow => ?_
          refine P o h' tk ⟨S1.st.turn_keep hla kp (ow.avoid fun b _ _ n q => n ?_), fun b ob' e => kp b ob' (S1.h0 b ob' e) fun q => ?_, S1.o0, fun b ob' e n => kp b ob' (S1.kE b ob' e n) fun q => ?_, S1.oE⟩ (fun b ob' e n => kp b ob' (x1 b ob' e) fun q => n (.inr ⟨i, q ▸ hla⟩)) (OG.refl _ _ _)
          · by_cases hb : b = la
            · exact .inr hb
            · exact .inl ⟨q, hb⟩
          · rw [q, S1.o0 i la hla] at e; cases e
          · rcases S1.oE i la hla with z | z
            · rw [q, z] at e; cases e
            · exact n (q ▸ z)
    · exact P.elim
theorem Fx.ex_forO (j i : Nat) (b : Bool) {t : ME} (ht : c.TrOk t) : c.ExOk (.forO j i t b) := by
  intro st o ρ s Q E hm S P
  replace hm := inv_forO hm
  obtain ⟨x, px, y, py, te, r, rn, rp, pr, pi, p, rfl, hm⟩ := hm
  simp only [Bool.and_eq_true, beq_iff_eq] at hm
  obtain ⟨⟨⟨h1, h2⟩, hte⟩, rfl⟩ := hm
  simp only [ex] at P
  split at P
  · rename_i l hρ
    split at P
    · rename_i hb
      obtain ⟨hb, hij⟩ := hb
      refine wpAny_For (Fx.oname ok h2 S hρ fun la hla ow => ?_) (by intro _; rfl)
      obtain ⟨vs, n, hg, rl⟩ := ow
      refine wpAny_pyIter_list (isLst hg) ?_
      have n0 := S.new0
      have hnew : s.heap.get? s.heap.objs.size = none := Heap.get?_none_of_le (Nat.le_refl _)
      have hsl := (isLoc_inv h2).1
      have nx : ¬ c.X s.heap.objs.size := fun q => by obtain ⟨ob, e⟩ := S.st.xok _ q; rw [hnew] at e; cases e
      generalize hit0 : s.heap.objs.size = it at n0 hnew nx ⊢
      have hit1 : (s.heap.push { cls := .type "list_iterator", data := .fields #[.ref la, .int 0 0] }).IsListIter it la 0 := ⟨_, by rw [← hit0]; exact Heap.get?_push_size _ rfl, rfl, rfl⟩
      refine codeAny_forLoop (fun m s' => ∃ o' ρ' k h' tk, s' = { s with heap := h', toks := tk } ∧ m = l.length - k ∧ c.St o' ρ' h' ∧ Keep (Wr c.L o) s.heap h' ∧ OG c.C.pin o o' s.heap ∧ o' i = some la ∧ ρ'[i]? = some (.own (.list l)) ∧ h'.IsListIter it la k ∧
        c.Post o s (forLoop (foS c.O c.t.G j t b) (l.drop k) ρ') Q) ?_ l.length ⟨o, ρ, 0, _, s.toks, rfl, rfl, S.ext (Ext.push _ _), (Ext.push _ _).keep _, OG.refl _ _ _, hla, hρ, hit1, P⟩
      rintro m s' ⟨o', ρ', k, h', tk, rfl, rfl, S', kp, og, hoi, hρ', hit, P'⟩
      obtain ⟨m', hm', hs'⟩ := S'.st.ns
      have hso := hs' i y hsl
      rw [hρ'] at hso
      obtain ⟨a', e1, e2, vs', n', hg', rl'⟩ := hso
      rw [hoi] at e1
      cases e1
      obtain ⟨obi, ei, qi, fi⟩ := id hit
      by_cases hkl : k < l.length
      · obtain ⟨v, hv, rv⟩ := rl'.get (List.getElem?_eq_getElem hkl)
        refine wpAny_pyNext_list_item hit (isLst hg') (x := v) (by simpa using hv) fun h2' hit' sb => ?_
        dsimp only
        have S2 := S'.other ei fi sb.extBut nx n0.1 n0.2
        have rv2 : Rep c.t.prog c.t.w (Av c.X c.L o') h2' v l[k] := ((rv.avoidF ei fi).mono fun b' ob' q n' => sb.extBut b' ob' (fun z => n' (.inr z)) q).less fun a q => .inl q
        have itL : it ≠ c.L := fun z => by
          obtain ⟨o9, es, n9, q, q2, _⟩ := hm'
          rw [← z, ei] at q; cases q; rw [fi] at q2; cases q2
        have oit : ∀ jj a, o' jj = some a → a ≠ it := fun jj a q => by
          obtain ⟨d9, _, ow⟩ := S'.st.own_slot q
          exact ow.ne_it ei fi
        refine wpAny_assign_Name (Fx.store_fr ok h1 S2 rv2 fun h3 S3 k3 g3 => ?_)
        have og2 : OG c.C.pin o (upd o' j none) s.heap := by
          refine ⟨fun jj a q => og.1 jj a ?_, fun jj hj => (upd_other o' none (fun q : jj = j => (isSt_inv h1).2 (q ▸ hj))).trans (og.2 jj hj)⟩
          by_cases hj : jj = j
          · subst hj; rw [upd_same] at q; cases q
          · rw [upd_other _ _ hj] at q; exact q
        have wr' : ∀ b' ob', s.heap.get? b' = some ob' → ¬ Wr c.L o b' → ¬ Wr c.L o' b' := fun b' ob' q n' z => by
          rcases z with z | ⟨jj, z⟩
          · exact n' (.inl z)
          · rcases og.1 jj b' z with z' | z'
            · exact n' (.inr z')
            · rw [q] at z'; cases z'
        have kp2 : Keep (Wr c.L o) s.heap h3 := fun b' ob' q n' => k3 b' ob' (sb.extBut b' ob' (fun z => by rw [z, hnew] at q; cases q) (kp b' ob' q n')) (wr' b' ob' q n')
        have hit3 : h3.IsListIter it la (k + 1) := by
          obtain ⟨ob9, e9, q9, f9⟩ := hit'
          refine ⟨ob9, k3 it ob9 e9 fun z => ?_, q9, f9⟩
          rcases z with z | ⟨jj, z⟩
          · exact itL z
          · exact oit jj it z rfl
        rw [List.drop_eq_getElem_cons hkl] at P'
        simp only [forLoop, foS] at P'
        have hρ3 : (ρ'.set j (.fr l[k]))[i]? = some (.own (.list l)) := by rw [List.getElem?_set_ne (Ne.symm hij)]; exact hρ'
        cases hev : ev c.O c.t.G (ρ'.set j (.fr l[k])) t with
        | exc _ => rw [hev] at P'; exact P'.elim
        | stuck => rw [hev] at P'; exact P'.elim
        | ok dd =>
          rw [hev] at P'
          cases dd with
          | bool bb =>
            refine wpAny_execs_cons (wpAny_If (ht te bb (upd o' j none) _ { s with heap := h3, toks := _ } _ _ hte hev S3 fun h4 t4 x4 => ?_))
            cases bb with
            | true =>
              simp only [if_true]
              refine wpAny_execs_cons (wpAny_Return_some (Fx.ev_cbool ok b _ (.bool b) (upd o' j none) (ρ'.set j (.fr l[k])) _ _ _ (beq_self_eq_true b) (by simp only [ev]) (S3.ext x4) fun v5 h5 t5 x5 r5 => ?_))
              exact P' v5 h5 t5 ((S3.ext x4).h0.trans x5) ((S3.ext x4).kE.trans (x5.keep _)) (r5.avl.less fun a q => .inl q) fun q => by cases q
            | false =>
              simp only [Bool.false_eq_true, if_false]
              refine wpAny_execs_nil (wpAny_execs_nil ?_)
              refine ⟨l.length - (k + 1), by omega, upd o' j none, _, k + 1, h4, t4, rfl, rfl, S3.ext x4, fun b' ob' q n' => x4 b' ob' (kp2 b' ob' q n'), og2, (upd_other _ _ hij).trans hoi, hρ3, ?_, P'⟩
              obtain ⟨ob9, e9, q9, f9⟩ := hit3
              exact ⟨ob9, x4 _ _ e9, q9, f9⟩
          | _ => exact P'.elim
      · have hkl' : l.length ≤ k := by omega
        have hvl := rl'.length
        refine wpAny_pyNext_list_end ok.ar.handled hit (isLst hg') (by simp; omega) fun h2' eb => ?_
        dsimp only
        refine wpAny_execs_nil ?_
        rw [List.drop_of_length_le hkl'] at P'
        simp only [forLoop] at P'
        exact P' o' h2' _ (S'.other ei fi eb nx n0.1 n0.2) (fun b' ob' q n' => eb b' ob' (fun z => by rw [z, hnew] at q; cases q) (kp b' ob' q n')) og
    · exact P.elim
  · exact P.elim
end
end Mine
-- MInt
namespace Mine
open PySem
theorem intText (prog : Program) (w : World) : IntText prog w := fun A E s Q x t i h k => by cases h
end Mine
-- MAll
set_option autoImplicit false
set_option linter.all false
namespace Mine
open PySem PyProof.Rows

mutual
noncomputable def okE : ME → Bool
  | .var _ => true
  | .own _ => true
  | .glob _ => true
  | .cint _ => true
  | .cstr _ => true
  | .cbool _ => true
  | .bin _ a b => okE a && okE b
  | .neg a => okE a
  | .nt a => okE a
  | .and a b => okE a && okE b
  | .or a b => okE a && okE b
  | .cmp _ a b => okE a && okE b
  | .call _ as => okEs as
  | .tupD as => okEs as
  | .lstD as => okEs as
  | .bi1 _ a => okE a
  | .bi2 _ a b => okE a && okE b
  | .isi a _ => okE a
  | .find a b => okE a && okE b
  | .idx a b => okE a && okE b
  | .slice a lo hi => okE a && (okO lo && okO hi)
  | .comp _ a => okE a
  | .maxd a => okE a
noncomputable def okEs : MEs → Bool
  | .nil => true
  | .cons a as => okE a && okEs as
noncomputable def okO : MO → Bool
  | .none => true
  | .some a => okE a
end
noncomputable def okNew : ME → Bool
  | .lstD as => okEs as
  | _ => false
noncomputable def okS : MS → Bool
  | .skip => true
  | .seq a b => okS a && okS b
  | .asg _ e => okE e
  | .append _ e => okE e
  | .ret e => okE e
  | .asgOwn _ e => okNew e
  | .asgFresh _ _ as => okEs as
  | .callRef _ as _ => okEs as
  | .ite c a b => okE c && (okS a && okS b)
  | .forL _ e b => okE e && okS b
  | .forR _ lo hi b => okE lo && (okE hi && okS b)
  | .forO _ _ t _ => okE t
  | .loop c b => okE c && okS b
section
variable {c : Fx} (ok : c.Ok)
include ok

mutual
theorem Fx.ev_all : (m : ME) → okE m = true → c.EvOk m ∧ c.TrOk m := fun m h => by
  match m, h with
  | .var i, h =>
    have q := Fx.ev_var ok i
    exact ⟨q, Fx.tr_plain ok rfl q⟩
  | .own i, h =>
    have q := Fx.ev_own ok i
    exact ⟨q, Fx.tr_plain ok rfl q⟩
  | .glob i, h =>
    have q := Fx.ev_glob ok i
    exact ⟨q, Fx.tr_plain ok rfl q⟩
  | .cint i, h =>
    have q := Fx.ev_cint ok i
    exact ⟨q, Fx.tr_plain ok rfl q⟩
  | .cstr i, h =>
    have q := Fx.ev_cstr ok i
    exact ⟨q, Fx.tr_plain ok rfl q⟩
  | .cbool i, h =>
    have q := Fx.ev_cbool ok i
    exact ⟨q, Fx.tr_plain ok rfl q⟩
  | .bin op a b, h =>
    replace h := Bool.and_eq_true_iff.mp h
    have q := Fx.ev_bin ok op (Fx.ev_all a h.1).1 (Fx.ev_all b h.2).1
    exact ⟨q, Fx.tr_plain ok rfl q⟩
  | .neg a, h =>
    have q := Fx.ev_neg ok (Fx.ev_all a h).1
    exact ⟨q, Fx.tr_plain ok rfl q⟩
  | .nt a, h =>
    exact ⟨Fx.ev_nt ok (Fx.ev_all a h).1, Fx.tr_nt ok (Fx.ev_all a h).2⟩
  | .and a b, h =>
    replace h := Bool.and_eq_true_iff.mp h
    exact ⟨Fx.ev_and ok (Fx.ev_all a h.1).1 (Fx.ev_all b h.2).1, Fx.tr_and ok (Fx.ev_all a h.1).2 (Fx.ev_all b h.2).2⟩
  | .or a b, h =>
    replace h := Bool.and_eq_true_iff.mp h
    exact ⟨Fx.ev_or ok (Fx.ev_all a h.1).1 (Fx.ev_all b h.2).1, Fx.tr_or ok (Fx.ev_all a h.1).2 (Fx.ev_all b h.2).2⟩
  | .cmp op a b, h =>
    replace h := Bool.and_eq_true_iff.mp h
    exact ⟨Fx.ev_cmp ok cmp_full op (Fx.ev_all a h.1).1 (Fx.ev_all b h.2).1, Fx.tr_cmp ok cmp_full op (Fx.ev_all a h.1).1 (Fx.ev_all b h.2).1⟩
  | .call f as, h =>
    have q := Fx.ev_call ok f (Fx.evs_all as h)
    exact ⟨q, Fx.tr_plain ok rfl q⟩
  | .tupD as, h =>
    have q := Fx.ev_tupD ok (Fx.evs_all as h)
    exact ⟨q, Fx.tr_plain ok rfl q⟩
  | .lstD as, h =>
    have q := Fx.ev_lstD ok (Fx.evs_all as h)
    exact ⟨q, Fx.tr_plain ok rfl q⟩
  | .bi1 b a, h =>
    have q := Fx.ev_bi1 ok (intText c.t.prog c.t.w) b (Fx.ev_all a h).1
    exact ⟨q, Fx.tr_plain ok rfl q⟩
  | .bi2 op a b, h =>
    replace h := Bool.and_eq_true_iff.mp h
    have q := Fx.ev_bi2 ok op (Fx.ev_all a h.1).1 (Fx.ev_all b h.2).1
    exact ⟨q, Fx.tr_plain ok rfl q⟩
  | .isi a t, h =>
    have q := Fx.ev_isi ok t (Fx.ev_all a h).1
    exact ⟨q, Fx.tr_plain ok rfl q⟩
  | .find a b, h =>
    replace h := Bool.and_eq_true_iff.mp h
    have q := Fx.ev_find ok (Fx.ev_all a h.1).1 (Fx.ev_all b h.2).1
    exact ⟨q, Fx.tr_plain ok rfl q⟩
  | .idx a b, h =>
    replace h := Bool.and_eq_true_iff.mp h
    have q := Fx.ev_idx ok (Fx.ev_all a h.1).1 (Fx.ev_all b h.2).1
    exact ⟨q, Fx.tr_plain ok rfl q⟩
  | .slice a lo hi, h =>
    replace h := Bool.and_eq_true_iff.mp h
    replace h := And.intro h.1 (Bool.and_eq_true_iff.mp h.2)
    have q := Fx.ev_slice ok (Fx.ev_all a h.1).1 (Fx.evo_all lo h.2.1) (Fx.evo_all hi h.2.2)
    exact ⟨q, Fx.tr_plain ok rfl q⟩
  | .comp f a, h =>
    have q := Fx.ev_comp ok f (Fx.ev_all a h).1
    exact ⟨q, Fx.tr_plain ok rfl q⟩
  | .maxd a, h =>
    have q := Fx.ev_maxd ok (Fx.ev_all a h).1
    exact ⟨q, Fx.tr_plain ok rfl q⟩
theorem Fx.evs_all : (m : MEs) → okEs m = true → c.EvsOk m
  | .nil, _ => Fx.evs_nil ok
  | .cons a as, h => Fx.evs_cons ok (Fx.ev_all a (Bool.and_eq_true_iff.mp h).1).1 (Fx.evs_all as (Bool.and_eq_true_iff.mp h).2)
theorem Fx.evo_all : (m : MO) → okO m = true → c.EvoOk m
  | .none, _ => Fx.evo_none ok
  | .some a, h => Fx.evo_some ok (Fx.ev_all a h).1
end

theorem Fx.evt_all : (m : MEs) → okEs m = true → c.EvtOk m
  | .nil, _ => Fx.evt_nil ok
  | .cons a as, h => Fx.evt_cons ok (Fx.ev_all ok a (Bool.and_eq_true_iff.mp h).1).1 (Fx.evt_all as (Bool.and_eq_true_iff.mp h).2)
theorem Fx.new_all (e : ME) (h : okNew e = true) : c.NewOk e := by
  cases e with
  | lstD as => exact Fx.new_lstD ok (Fx.evs_all ok as h)
  | _ => exact Bool.noConfusion h
theorem Fx.ex_all : (m : MS) → okS m = true → c.ExOk m ∧ c.ExB m := fun m h => by
  have bad : ∀ {m : MS}, (∀ C l, matchB C m l = false) → c.ExB m := fun q l _ _ _ _ _ hm => by rw [q] at hm; cases hm
  match m, h with
  | .skip, _ => exact ⟨fun _ _ _ _ _ _ hm => Bool.noConfusion hm, Fx.exb_skip ok⟩
  | .seq a b, h =>
    replace h := Bool.and_eq_true_iff.mp h
    exact ⟨fun _ _ _ _ _ _ hm => Bool.noConfusion hm, Fx.exb_seq ok (Fx.ex_all a h.1).1 (Fx.ex_all b h.2).2⟩
  | .asg i e, h =>
    exact ⟨Fx.ex_asg ok i (Fx.ev_all ok e h).1, bad fun _ _ => rfl⟩
  | .append i e, h =>
    exact ⟨Fx.ex_append ok i (Fx.ev_all ok e h).1, bad fun _ _ => rfl⟩
  | .ret e, h =>
    exact ⟨Fx.ex_ret ok (Fx.ev_all ok e h).1, bad fun _ _ => rfl⟩
  | .asgOwn i e, h =>
    exact ⟨Fx.ex_asgOwn ok i (Fx.new_all ok e h), bad fun _ _ => rfl⟩
  | .asgFresh i f as, h =>
    exact ⟨Fx.ex_asgFresh ok i f (Fx.evs_all ok as h), bad fun _ _ => rfl⟩
  | .callRef f as i, h =>
    exact ⟨Fx.ex_callRef ok f i (Fx.evt_all ok as h), bad fun _ _ => rfl⟩
  | .ite t a b, h =>
    replace h := Bool.and_eq_true_iff.mp h
    replace h := And.intro h.1 (Bool.and_eq_true_iff.mp h.2)
    exact ⟨Fx.ex_ite ok (Fx.ev_all ok t h.1).2 (Fx.ex_all a h.2.1).2 (Fx.ex_all b h.2.2).2, bad fun _ _ => rfl⟩
  | .forL i e b, h =>
    replace h := Bool.and_eq_true_iff.mp h
    exact ⟨Fx.ex_forL ok i (Fx.ev_all ok e h.1).1 (Fx.ex_all b h.2).2, bad fun _ _ => rfl⟩
  | .forR i lo hi b, h =>
    replace h := Bool.and_eq_true_iff.mp h
    replace h := And.intro h.1 (Bool.and_eq_true_iff.mp h.2)
    exact ⟨Fx.ex_forR ok i (Fx.ev_all ok lo h.1).1 (Fx.ev_all ok hi h.2.1).1 (Fx.ex_all b h.2.2).2, bad fun _ _ => rfl⟩
  | .forO j i t b, h =>
    exact ⟨Fx.ex_forO ok j i b (Fx.ev_all ok t h).2, bad fun _ _ => rfl⟩
  | .loop t b, h =>
    replace h := Bool.and_eq_true_iff.mp h
    exact ⟨Fx.ex_loop ok (Fx.ev_all ok t h.1).2 (Fx.ex_all b h.2).2, bad fun _ _ => rfl⟩
end
end Mine
-- MCall
set_option autoImplicit false
set_option linter.all false
namespace Mine
open PySem PyProof.Rows

theorem lookup_zip {ns : List Str} {vs : List Value} (nd : ns.Nodup) (hl : vs.length = ns.length) : ∀ (i : Nat) (x : Str), ns[i]? = some x → (ns.zip vs).lookup x = vs[i]? := by
  induction ns generalizing vs with
  | nil => intro i x h; simp at h
  | cons n ns ih =>
    intro i x h
    cases vs with
    | nil => simp at hl
    | cons v vs =>
      simp only [List.length_cons, Nat.add_right_cancel_iff] at hl
      simp only [List.nodup_cons] at nd
      cases i with
      | zero => simp at h; subst h; simp [List.lookup]
      | succ i =>
        simp only [List.getElem?_cons_succ] at h
        have hne : x ≠ n := fun q => nd.1 (q ▸ (List.mem_iff_getElem?.mpr ⟨i, h⟩))
        simp only [List.zip_cons_cons, List.lookup, beq_eq_false_iff_ne.mpr hne, List.getElem?_cons_succ]
        exact ih nd.2 hl i x h
theorem filterMap_zip {ns : List Str} {vs : List Value} (nd : ns.Nodup) (hl : vs.length = ns.length) : ns.filterMap (fun n => ((ns.zip vs).lookup n).map (n, ·)) = ns.zip vs := by
  have key : ∀ (ms : List Str) (us : List Value) (f : Str → Option Value), us.length = ms.length → (∀ (i : Nat) (x : Str), ms[i]? = some x → f x = us[i]?) → ms.filterMap (fun n => (f n).map (n, ·)) = ms.zip us := by
    intro ms
    induction ms with
    | nil => intro us f h _; simp
    | cons m ms ih =>
      intro us f h hf
      cases us with
      | nil => simp at h
      | cons u us =>
        have h0 := hf 0 m rfl
        simp only [List.getElem?_cons_zero] at h0
        simp only [List.filterMap_cons, h0, Option.map_some, List.zip_cons_cons]
        rw [ih us f (by simpa using h) fun i x q => by simpa using hf (i + 1) x (by simpa using q)]
  exact key ns vs _ hl (lookup_zip nd hl)
theorem bind_plain {fd : FuncData} {vs : List Value} (h1 : fd.params.posonlyargs = []) (h2 : fd.params.vararg = none) (h3 : fd.params.kwonlyargs = []) (h4 : fd.params.kwarg = none) (h5 : fd.defaults = .none)
    (nd : (fd.params.args.map (·.arg)).Nodup) (hl : vs.length = (fd.params.args.map (·.arg)).length) : bindArgs fd ⟨vs, []⟩ = pure ((fd.params.args.map (·.arg)).zip vs) := by
  have hm : ((fd.params.args.map (·.arg)).filter fun n => (((fd.params.args.map (·.arg)).zip vs).lookup n).isNone) = [] := by
    rw [List.filter_eq_nil_iff]
    intro n hn
    obtain ⟨i, hi⟩ := List.mem_iff_getElem?.mp hn
    rw [lookup_zip nd hl i n hi]
    have := (List.getElem?_eq_some_iff.mp hi).1
    simp [List.getElem?_eq_getElem (show i < vs.length by omega)]
  have hf := filterMap_zip nd hl
  have pb : ∀ {α β : Type} (a : α) (f : α → Sem β), (pure a >>= f) = f a := fun _ _ => rfl
  have ns0 : notAStandIn .none = pure () := rfl
  unfold bindArgs
  simp only [h1, h2, h3, h4, h5, List.map_nil, List.nil_append, seqItems?, ns0, pb, List.forIn_nil, Option.getD_none]
  have e0 : (#[] : Array Value).toList = [] := rfl
  have g : ¬ (decide (vs.length > (fd.params.args.map (·.arg)).length) && (Option.isNone (none : Option Arg))) = true := by simp [hl]
  rw [if_neg g]
  simp only [e0, List.drop_nil, List.length_nil, Nat.sub_zero, List.take_length, List.zip_nil_right, List.forIn_nil, pb]
  rw [hm]
  simp only [List.isEmpty_nil, Bool.not_true, Bool.false_eq_true, if_false, List.append_nil, hf, pb, List.forIn_nil]
theorem lookup_mem {l : List (Str × Value)} (nd : (l.map (·.1)).Nodup) {x : Str} {v : Value} (h : (x, v) ∈ l) : l.lookup x = some v := by
  induction l with
  | nil => cases h
  | cons p l ih =>
    obtain ⟨k, u⟩ := p
    simp only [List.map_cons, List.nodup_cons] at nd
    rcases List.mem_cons.mp h with h | h
    · cases h; simp [List.lookup]
    · have hne : x ≠ k := fun q => nd.1 (q ▸ List.mem_map.mpr ⟨(x, v), h, rfl⟩)
      simp only [List.lookup, beq_eq_false_iff_ne.mpr hne]
      exact ih nd.2 h
theorem lookup_bound {ns : List Str} {vs : List Value} (nd : ns.Nodup) (hl : vs.length = ns.length) {i : Nat} {x : Str} {v : Value} (hx : ns[i]? = some x) (hv : vs[i]? = some v) : (ns.zip vs).reverse.lookup x = some v := by
  have e : (ns.zip vs).map (·.1) = ns := List.map_fst_zip (by omega)
  refine lookup_mem (by rw [List.map_reverse, e]; exact List.pairwise_reverse.mpr (List.Pairwise.imp (fun h => Ne.symm h) nd)) (List.mem_reverse.mpr ?_)
  refine List.mem_iff_getElem?.mpr ⟨i, ?_⟩
  rw [List.getElem?_zip_eq_some]
  exact ⟨hx, hv⟩
theorem Ext.none {h h' : Heap} (x : Ext h h') {a : Addr} (e : h'.get? a = none) : h.get? a = none := by
  cases q : h.get? a with
  | none => rfl
  | some ob => rw [x _ _ q] at e; cases e
theorem Ar.step {n : Nat} {A : Around} {env : PySem.Env} (hA : Ar (n + 1) A) : Ar n (A.deeper env) :=
  ⟨hA.handled, by have := hA.depth; show A.depth + 1 + n < recursionLimit; omega, by have := hA.units; show A.units + 3 + 4 * n + 100 < cLine; omega⟩
theorem orc_ok {t : Tx} (T : t.Ok) (hS : ∀ F ∈ t.fns, okS F.body = true) : ∀ n, OrcOk t n (orc t.fns t.G n)
  | 0 => ⟨fun f xs r hr => by simp [orc] at hr, fun f xs d d' hr => by simp [orc] at hr⟩
  | n + 1 => ⟨(fun f xs r hr F a A s X vs Q E hF hn hA x0 hX hsys hav rl k => by
    have ih := orc_ok T hS n
    simp only [orc, hF, runF] at hr
    split at hr
    · rename_i hlen
      obtain ⟨a', fd, body, FN⟩ := T.fn f F hF
      have : a' = a := by have := FN.name; rw [hn] at this; cases this; rfl
      subst this
      obtain ⟨ob, ho, hd⟩ := FN.obj
      have hok := FN.ok
      simp only [fnOk, Bool.and_eq_true, decide_eq_true_eq, Bool.not_eq_true', List.isEmpty_iff, Option.isNone_iff_eq_none, beq_iff_eq, List.all_eq_true] at hok
      obtain ⟨⟨⟨⟨⟨⟨⟨⟨⟨⟨⟨⟨⟨⟨hmatch, hkind⟩, hco⟩, hgen⟩, hcell⟩, hpo⟩, hargs⟩, hva⟩, hko⟩, hkd⟩, hkw⟩, hdf⟩, hle⟩, hnd⟩, hloc⟩ := hok
      have hlv : vs.length = (fd.params.args.map (·.arg)).length := by rw [rl.length, hlen, hargs, List.length_take, Nat.min_eq_left hle]
      have hnd' : (fd.params.args.map (·.arg)).Nodup := by rw [hargs]; exact (List.take_sublist _ _).nodup hnd
      have hnew : s.heap.get? s.heap.objs.size = none := Heap.get?_none_of_le (Nat.le_refl _)
      refine wpAny_call (codeAny_call_def (o := ob) (fd := fd) (body := body) (binds := (fd.params.args.map (·.arg)).zip vs) (by have := hA.depth; omega) (x0 _ _ ho) hd (T.lim.keeps x0) (FN.code.keeps x0) FN.bdy
        (BindsTo.of_eq (bind_plain hpo hva hko hkw FN.dfl hnd' hlv)) hcell (fun p hp => ?_) (fun h1 hns hext => ?_) hco hgen hkind)
      · obtain ⟨x, v⟩ := p
        exact hloc x (by rw [← hargs]; exact (List.of_mem_zip hp).1)
      let c : Fx := { t := t, n := n, O := orc t.fns t.G n, C := ⟨F.slots, t.fns.map (·.name), t.gn, fd.scope, pinOf F⟩, env := callEnv fd s.heap.objs.size a', L := s.heap.objs.size, X := X, A := A.deeper (callEnv fd s.heap.objs.size a'), hE := s.heap, Z := fun _ => False }
      have ok : c.Ok := {
        t := T, orc := ih
        ar := hA.step
        kind := hkind, sc := rfl, loc := rfl, gl := FN.gl, bu := FN.bu, fnames := rfl, gnames := rfl, x0 := hav
        l0 := Ext.none x0 hnew, nodup := hnd, xE := hX, xz := fun a q => q.elim
        lE := fun ⟨o, e⟩ => by rw [show s.heap.get? s.heap.objs.size = some o from e] at hnew; cases hnew }
      have hx1 : Ext s.heap h1 := hext
      have S : c.St (fun _ => none) (initEnv F xs) h1 := {
        st := {
          ns := ⟨_, hns, fun i x hx => ?_⟩
          xl := fun q => hX.new q
          xo := fun i a q => by cases q
          inj := fun i j a q => by cases q
          xok := hX.ext hx1
          sys := hsys
          len := by simp only [initEnv, List.length_append, List.length_map, List.length_replicate]; exact Nat.add_sub_cancel' (hlen ▸ hle) }
        h0 := Ext.trans x0 hx1
        o0 := fun i a q => by cases q
        kE := hx1.keep _
        oE := fun i a q => by cases q }
      · refine (Fx.ex_all ok F.body (hS F (List.mem_of_getElem? hF))).2 body (fun _ => none) (initEnv F xs) _ _ _ hmatch S ?_
        show c.Post _ _ (ex (orc t.fns t.G n) t.G F.body (initEnv F xs)) _
        cases hex : ex (orc t.fns t.G n) t.G F.body (initEnv F xs) with
        | next ρ' =>
          rw [hex] at hr
          cases hr
          intro o' h' tk S' _ _
          exact k .none h' tk (Keep.ext S'.kE) .none fun q => by cases q
        | ret d fr ρ' =>
          rw [hex] at hr
          cases hr
          intro v h' tk q1 q2 q3 q4
          refine k v h' tk (Keep.ext q2) q3 fun q => ?_
          obtain ⟨b, e1, e2⟩ := q4 q
          exact ⟨b, e1, e2.elim id fun z => z.elim⟩
        | exc _ _ => rw [hex] at hr; cases hr
        | stuck => rw [hex] at hr; cases hr
      · have hx' : F.slots[i]? = some x := hx
        by_cases hi : i < xs.length
        · have e1 : (initEnv F xs)[i]? = some (.fr xs[i]) := by
            unfold initEnv
            rw [List.getElem?_append_left (by simpa using hi)]
            simp [hi]
          rw [e1]
          obtain ⟨v, hv, rv⟩ := rl.get (List.getElem?_eq_getElem hi)
          refine ⟨rfl, v, ?_, ?_⟩
          · refine lookup_bound hnd' hlv (i := i) ?_ hv
            rw [hargs, List.getElem?_take_of_lt (by omega)]
            exact hx'
          · refine (rv.avoid (X' := Av X s.heap.objs.size fun _ => none) fun b ob e nx q => ?_).ext hx1
            rcases q with q | q | ⟨j, q⟩
            · exact nx q
            · rw [q, hnew] at e; cases e
            · cases q
        · have hi2 : i < F.slots.length := (List.getElem?_eq_some_iff.mp hx').1
          have e1 : (initEnv F xs)[i]? = some .unset := by
            unfold initEnv
            rw [List.getElem?_append_right (by simp; omega)]
            simp [List.getElem?_replicate]; omega
          rw [e1]
          rfl
    · cases hr), fun f xs d d' hr F a la A s X vs Q E hF hn hA x0 hX hsys hav rl nla h0la ow k => by
    have ih := orc_ok T hS n
    simp only [orc, hF, runRef] at hr
    split at hr
    · rename_i hlen
      obtain ⟨href, hlen⟩ := hlen
      obtain ⟨a', fd, body, FN⟩ := T.fn f F hF
      have : a' = a := by have := FN.name; rw [hn] at this; cases this; rfl
      subst this
      obtain ⟨ob, ho, hd⟩ := FN.obj
      have hok := FN.ok
      simp only [fnOk, Bool.and_eq_true, decide_eq_true_eq, Bool.not_eq_true', List.isEmpty_iff, Option.isNone_iff_eq_none, beq_iff_eq, List.all_eq_true] at hok
      obtain ⟨⟨⟨⟨⟨⟨⟨⟨⟨⟨⟨⟨⟨⟨hmatch, hkind⟩, hco⟩, hgen⟩, hcell⟩, hpo⟩, hargs⟩, hva⟩, hko⟩, hkd⟩, hkw⟩, hdf⟩, hle⟩, hnd⟩, hloc⟩ := hok
      have hlv : (vs ++ [Value.ref la]).length = (fd.params.args.map (·.arg)).length := by rw [List.length_append, rl.length, hargs, List.length_take, Nat.min_eq_left hle]; exact hlen
      have hnd' : (fd.params.args.map (·.arg)).Nodup := by rw [hargs]; exact (List.take_sublist _ _).nodup hnd
      have hnew : s.heap.get? s.heap.objs.size = none := Heap.get?_none_of_le (Nat.le_refl _)
      obtain ⟨obl, hobl⟩ := ow.live
      have nlaL : la ≠ s.heap.objs.size := fun q => by rw [q, hnew] at hobl; cases hobl
      have hpin : pinOf F = some xs.length := by simp only [pinOf, href, if_true, Option.some.injEq]; omega
      refine wpAny_call (codeAny_call_def (o := ob) (fd := fd) (body := body) (binds := (fd.params.args.map (·.arg)).zip (vs ++ [Value.ref la])) (by have := hA.depth; omega) (x0 _ _ ho) hd (T.lim.keeps x0) (FN.code.keeps x0) FN.bdy
        (BindsTo.of_eq (bind_plain hpo hva hko hkw FN.dfl hnd' hlv)) hcell (fun p hp => ?_) (fun h1 hns hext => ?_) hco hgen hkind)
      · obtain ⟨x, v⟩ := p
        exact hloc x (by rw [← hargs]; exact (List.of_mem_zip hp).1)
      let c : Fx := { t := t, n := n, O := orc t.fns t.G n, C := ⟨F.slots, t.fns.map (·.name), t.gn, fd.scope, pinOf F⟩, env := callEnv fd s.heap.objs.size a', L := s.heap.objs.size, X := X, A := A.deeper (callEnv fd s.heap.objs.size a'), hE := s.heap, Z := fun b => b = la }
      have ok : c.Ok := {
        t := T, orc := ih
        ar := hA.step
        kind := hkind, sc := rfl, loc := rfl, gl := FN.gl, bu := FN.bu, fnames := rfl, gnames := rfl, x0 := hav
        l0 := Ext.none x0 hnew, nodup := hnd, xE := hX, xz := fun a q => q ▸ nla
        lE := fun ⟨o, e⟩ => by rw [show s.heap.get? s.heap.objs.size = some o from e] at hnew; cases hnew }
      have hx1 : Ext s.heap h1 := hext
      let o1 : Nat → Option Addr := fun j => if j = xs.length then some la else none
      have o1s : ∀ i b, o1 i = some b → i = xs.length ∧ b = la := fun i b q => by
        by_cases hi : i = xs.length
        · exact ⟨hi, by rw [show o1 i = some la from if_pos hi] at q; cases q; rfl⟩
        · rw [show o1 i = none from if_neg hi] at q; cases q
      have hslen : xs.length < F.slots.length := Nat.lt_of_lt_of_le (hlen ▸ Nat.lt_succ_self _) hle
      have av : ∀ b, Av X s.heap.objs.size o1 b → (X b ∨ b = la) ∨ b = s.heap.objs.size := fun b q => by
        rcases q with q | q | ⟨j, q⟩
        · exact .inl (.inl q)
        · exact .inr q
        · exact .inl (.inr (o1s j b q).2)
      have env0 : ∀ i : Nat, (xs.map Slot.fr ++ Slot.own d :: List.replicate (F.slots.length - (xs.length + 1)) Slot.unset)[i]? = if i < xs.length then (xs[i]?).map Slot.fr else if i = xs.length then some (.own d) else (List.replicate (F.slots.length - (xs.length + 1)) Slot.unset)[i - (xs.length + 1)]? := fun i => by
        by_cases hi : i < xs.length
        · rw [if_pos hi, List.getElem?_append_left (by simpa using hi), List.getElem?_map]
        · rw [if_neg hi, List.getElem?_append_right (by simpa using hi), List.length_map]
          by_cases he : i = xs.length
          · rw [if_pos he, he, Nat.sub_self]; rfl
          · rw [if_neg he]
            obtain ⟨k, hk⟩ : ∃ k, i - xs.length = k + 1 := ⟨i - xs.length - 1, by omega⟩
            rw [hk, List.getElem?_cons_succ]
            congr 1; omega
      have S : c.St o1 (xs.map Slot.fr ++ Slot.own d :: List.replicate (F.slots.length - (xs.length + 1)) Slot.unset) h1 := {
        st := {
          ns := ⟨_, hns, fun i x hx => ?_⟩
          xl := fun q => hX.new q
          xo := fun i a q => by obtain ⟨rfl, rfl⟩ := o1s i a q; exact ⟨nla, nlaL, hslen⟩
          inj := fun i j a q q' => (o1s i a q).1.trans (o1s j a q').1.symm
          xok := hX.ext hx1
          sys := hsys
          len := by simp only [List.length_append, List.length_map, List.length_cons, List.length_replicate]; show _ = F.slots.length; omega }
        h0 := Ext.trans x0 hx1
        o0 := fun i a q => by rw [(o1s i a q).2]; exact h0la
        kE := hx1.keep _
        oE := fun i a q => .inr (o1s i a q).2 }
      · refine (Fx.ex_all ok F.body (hS F (List.mem_of_getElem? hF))).2 body o1 _ _ _ _ hmatch S ?_
        show c.Post _ _ (ex (orc t.fns t.G n) t.G F.body _) _
        cases hex : ex (orc t.fns t.G n) t.G F.body (xs.map Slot.fr ++ Slot.own d :: List.replicate (F.slots.length - (xs.length + 1)) Slot.unset) with
        | next ρ' =>
          rw [hex] at hr
          intro o' h' tk S' _ og
          have ho' : o' xs.length = some la := (og.2 xs.length hpin).trans (if_pos rfl)
          obtain ⟨m', hm', hs'⟩ := S'.st.ns
          have hsl := hs' xs.length _ (List.getElem?_eq_getElem hslen)
          dsimp only at hr
          split at hr
          · rename_i dd hq
            cases hr
            rw [hq] at hsl
            obtain ⟨b, e1, _, ow'⟩ := hsl
            rw [ho'] at e1
            cases e1
            refine k .none h' tk S'.kE (ow'.avoid fun b _ _ nb q => nb ?_)
            rcases q with q | q
            · exact .inl q
            · exact .inr (.inr ⟨xs.length, q ▸ ho'⟩)
          · cases hr
        | ret d fr ρ' => rw [hex] at hr; cases hr
        | exc _ _ => rw [hex] at hr; cases hr
        | stuck => rw [hex] at hr; cases hr
      · have hx' : F.slots[i]? = some x := hx
        rw [env0 i]
        by_cases hi : i < xs.length
        · rw [if_pos hi, List.getElem?_eq_getElem hi]
          obtain ⟨v, hv, rv⟩ := rl.get (List.getElem?_eq_getElem hi)
          refine ⟨if_neg (by omega), v, ?_, ?_⟩
          · refine lookup_bound hnd' hlv (i := i) ?_ ?_
            · rw [hargs, List.getElem?_take_of_lt (by omega)]
              exact hx'
            · rw [List.getElem?_append_left (by have := rl.length; omega)]; exact hv
          · refine (rv.avoid (X' := Av X s.heap.objs.size o1) fun b ob e nx q => ?_).ext hx1
            rcases av b q with q | q
            · exact nx q
            · rw [q, hnew] at e; cases e
        · rw [if_neg hi]
          by_cases he : i = xs.length
          · rw [if_pos he]
            refine ⟨la, if_pos he, ?_, ?_⟩
            · refine lookup_bound hnd' hlv (i := i) ?_ ?_
              · rw [hargs, List.getElem?_take_of_lt (by omega)]
                exact hx'
              · rw [List.getElem?_append_right (by have := rl.length; omega), rl.length, he, Nat.sub_self]; rfl
            · refine (ow.avoid (Y' := Av X s.heap.objs.size o1) fun b ob e nx q => ?_).ext hx1
              rcases av b q with q | q
              · exact nx q
              · rw [q, hnew] at e; cases e
          · rw [if_neg he]
            have hi2 : i < F.slots.length := (List.getElem?_eq_some_iff.mp hx').1
            rw [List.getElem?_replicate, if_pos (by omega)]
            exact if_neg he
    · cases hr⟩
end Mine
-- MTop
set_option autoImplicit false
set_option linter.all false
set_option maxRecDepth 100000
namespace Mine
open PySem PySem.W PyProof.Rows

noncomputable def recOk (fnames gn : List Str) (F : MFn) (d : DefRec) : Bool :=
  d.name == F.name && fnOk fnames gn F (Calls.docDef d.name d.params d.body d.scope .none .none .none) d.body
theorem bi_boot : ∀ x v, (x, v) ∈ biNames → bootBuiltins x = some v := by
  intro x v h
  have : ∀ q ∈ biNames, bootBuiltins q.1 = some q.2 := by
    simp only [biNames, List.forall_mem_cons, List.forall_mem_nil]
    refine ⟨?_, ?_, ?_, ?_, ?_, ?_, ?_, ?_, ?_, ?_, ?_, ?_, ?_, ?_, fun _ h => nomatch h⟩ <;> with_unfolding_all rfl
  exact this (x, v) h
noncomputable def biFree (p : Program) (loose : List Str) : Bool := biNames.all fun q =>
  !(startupNames.contains q.1) && !(loose.contains q.1) && !(((recsOf p).map (·.name)).contains q.1) && !(((litsOf p).map (·.1)).contains q.1) && !(((clssOf p loose).map (·.name)).contains q.1) && decide (q.1 ≠ "__name__")
noncomputable def atom : D → Bool
  | .int _ | .str _ | .bool _ | .none => true
  | _ => false
section
variable {p : Program} {loose : List Str} {mean : ExcName → Option Value} {mg mb : Str → Option Value} {h : Heap} {prog : Program} {w : World} {fns : List MFn} {gn : List Str} {G : List D}

theorem tx_ok (T : Top p loose mean mg mb h) (hf : ∀ F ∈ fns, ∃ d ∈ recsOf p, recOk (fns.map (·.name)) gn F d = true) (hb : biFree p loose = true)
    (hg : ∀ (i : Nat) (x : Str) (d : D), gn[i]? = some x → G[i]? = some d → ∃ v, mg x = some v ∧ Rep prog w (· = sysModules) h v d) : Tx.Ok ⟨prog, w, fns, gn, G, mg, mb, h, (· = sysModules)⟩ where
  g := T.g
  b := T.b
  lim := T.nolimit
  bi := fun x v hx => by
    have := List.all_eq_true.mp hb (x, v) hx
    simp only [Bool.and_eq_true, Bool.not_eq_true', decide_eq_true_eq, List.contains_eq_mem, decide_eq_false_iff_not] at this
    obtain ⟨⟨⟨⟨⟨h1, h2⟩, h3⟩, h4⟩, h5⟩, h6⟩ := this
    exact ⟨T.free x h1 h2 h3 h4 h5, (T.builtins x h6).trans (bi_boot x v hx)⟩
  fn := fun i F hF => by
    obtain ⟨d, hd, hr⟩ := hf F (List.mem_of_getElem? hF)
    simp only [recOk, Bool.and_eq_true, beq_iff_eq] at hr
    obtain ⟨a, o, pm, code, doc, h1, h2, h3, h4⟩ := T.fn d hd
    refine ⟨a, Calls.docDef d.name d.params d.body d.scope pm code doc, d.body, ?_, ⟨o, h2, h3⟩, rfl, h4, rfl, rfl, rfl, rfl, rfl, ?_⟩
    · rw [← hr.1]; exact h1
    · exact hr.2
  gl := hg
theorem rep_const (T : Top p loose mean mg mb h) {x : Str} {d : D} (hv : valOf p x = some d) (ha : atom d = true) : ∃ v, mg x = some v ∧ Rep prog w (· = sysModules) h v d := by
  obtain ⟨v, h1, h2⟩ := T.const x d hv
  refine ⟨v, h1, ?_⟩
  have r := h2 h
  cases d with
  | int i => cases r; exact .int _ _
  | str i => cases r; exact .str _ _
  | bool i => cases r; exact .bool _
  | none => cases r; exact .none
  | _ => cases ha
theorem rep_ints {P : Params} {X : Addr → Prop} {a : Addr} {xs : List Int} (W : Well P h (.ref a) (ofPy (.list (xs.map PyData.int)))) (nx : ¬ X a) : Rep prog w X h (.ref a) (.list (xs.map PyData.int)) := by
  simp only [ofPy] at W
  cases W with
  | list e r =>
    refine .list nx e ?_
    clear e
    rename_i vs
    induction xs generalizing vs with
    | nil => cases r; exact .nil
    | cons x xs ih =>
      simp only [List.map_cons, ofPys, ofPy] at r
      cases r with
      | cons r1 r2 => cases r1; exact .cons (.int _ _) (ih r2)
theorem well_list {P : Params} {a : Addr} {l : List D} (W : Well P h (.ref a) (ofPy (.list l))) : ∃ vs : List Value, h.get? a = some { cls := .type "list", data := .seq vs.toArray } := by
  simp only [ofPy] at W
  cases W with
  | list e r => exact ⟨_, e⟩
theorem law_run (T : Top p loose mean mg mb h) (hi : importsNone p = true) (hff : (fns.all fun F => (recsOf p).any (recOk (fns.map (·.name)) gn F)) = true) (hb : biFree p loose = true)
    (hg : ∀ (i : Nat) (x : Str) (d : D), gn[i]? = some x → G[i]? = some d → ∃ v, mg x = some v ∧ Rep prog w (· = sysModules) h v d) (hS : ∀ F ∈ fns, okS F.body = true)
    {i : Nat} {F : MFn} {fa a : Addr} {xs : List Int} {P : Params} {s : Shared} (hs : s.heap = h) (hF : fns[i]? = some F) (hn : mg F.name = some (.ref fa)) (W : Well P h (.ref a) (ofPy (.list (xs.map PyData.int)))) {b : Bool}
    (hr : callF fns G 600 i [.list (xs.map PyData.int)] = .ok (.bool true, b)) {Q E : Value → Shared → Prop}
    (k : ∀ h' tk, Ext h h' → Q (.bool true) { s with heap := h', toks := tk }) : wpAny (model prog w) callerA (call (.ref fa) [.ref a]) Q E s := by
  subst hs
  have hf : ∀ F ∈ fns, ∃ d ∈ recsOf p, recOk (fns.map (·.name)) gn F d = true := fun F hF => by
    obtain ⟨d, hd, hr⟩ := List.any_eq_true.mp (List.all_eq_true.mp hff F hF)
    exact ⟨d, hd, hr⟩
  have TX : Tx.Ok ⟨prog, w, fns, gn, G, mg, mb, s.heap, (· = sysModules)⟩ := tx_ok T hf hb hg
  obtain ⟨mm, ⟨o, es, n, e1, e2, e3⟩, _⟩ := (T.seer hi).mods
  have nx : ¬ a = sysModules := fun q => by
    obtain ⟨vs, e⟩ := well_list W
    rw [q, e1] at e
    cases e
    simp at e2
  refine (orc_ok TX hS 600).fn i _ _ hr F fa callerA s (· = sysModules) [.ref a] Q E hF hn ⟨rfl, by decide, by decide⟩ (Ext.refl _) (fun b q => ⟨o, q ▸ e1⟩) rfl (fun b q => .inl q) (.cons (rep_ints W nx) .nil) fun v h' tk x1 r1 _ => ?_
  obtain rfl := r1.bool_inv
  exact k h' tk x1
end

section
variable {c : ClaimW} {cl : Str → Option Addr} {mean : ExcName → Option Value} {args : List WData} {s₁ s' : Shared}
theorem good_bool {b : Bool} (k : Ext s₁.heap s'.heap) (hg : s'.gens = #[]) (hn : ∀ cls, c.raises args cls = false) (hp : c.post args (.bool b) args = true) (hos : s'.os = s₁.os) : GoodWG c cl mean args s₁ (.ok (.ret (.bool b))) s' :=
  GoodW.toG ⟨.inl ⟨_, _, [], rfl, hn, .bool b, hp, unshared_nil⟩, k, hos, hg⟩
end
end Mine
-- MPure
set_option autoImplicit false
set_option linter.all false
namespace Mine
open PySem

noncomputable def fin : SR → R (D × Bool)
  | .next _ => .ok (.none, false)
  | .ret d b _ => .ok (d, b)
  | .exc c _ => .exc c
  | .stuck => .stuck
theorem Za5 (d : D) (b : Bool) (ρ : Env) : fin (.ret d b ρ) = .ok (d, b) := Eq.trans rfl rfl
theorem orc_fn {fns : List MFn} {G : List D} {n i : Nat} {F : MFn} {ds : List D} (h : fns[i]? = some F) (hl : ds.length = F.args) : (orc fns G (n + 1)).fn i ds = fin (ex (orc fns G n) G F.body (initEnv F ds)) := by
  simp only [orc, h, runF, if_pos hl]
  cases ex (orc fns G n) G F.body (initEnv F ds) <;> rfl
theorem ZaN {α β : Type} (a : α) (f : α → R β) : (R.ok a).bind f = f a := Eq.trans rfl rfl
theorem ZbP {α : Type} (a : α) (ρ : Env) (f : α → SR) : SR.of (.ok a) ρ f = f a := Eq.trans rfl rfl
theorem Zai (ρ : Env) (f : Env → SR) : (SR.next ρ).then f = f ρ := Eq.trans rfl rfl
theorem Zaw (d : D) (b : Bool) (ρ : Env) (f : Env → SR) : (SR.ret d b ρ).then f = .ret d b ρ := Eq.trans rfl rfl
theorem Zch (s t : Slot) (ρ : Env) : (s :: ρ).set 0 t = t :: ρ := Eq.trans rfl rfl
theorem Zcg (s t : Slot) (ρ : Env) (i : Nat) : (s :: ρ).set (i + 1) t = s :: ρ.set i t := Eq.trans rfl rfl
noncomputable def frD : Option Slot → R D
  | some (.fr d) => .ok d
  | _ => .stuck
noncomputable def ownD : Option Slot → R D
  | some (.own d) => .ok d
  | _ => .stuck
noncomputable def globD : Option D → R D
  | some d => .ok d
  | none => .stuck
theorem ZbO (d : D) : frD (some (.fr d)) = .ok d := Eq.trans rfl rfl
theorem Zbx (d : D) : ownD (some (.own d)) = .ok d := Eq.trans rfl rfl
theorem ZaT (d : D) : globD (some d) = .ok d := Eq.trans rfl rfl
section
variable {O : Orc} {G : List D} {s : Slot} {ρ : Env}
noncomputable def iteS (r : R D) (A B : SR) (ρ : Env) : SR := match r with
  | .ok (.bool true) => A
  | .ok (.bool false) => B
  | .exc c => .exc c ρ
  | _ => .stuck
theorem Za3 (v : Bool) (A B : SR) (ρ : Env) : iteS (.ok (.bool v)) A B ρ = if v = true then A else B := by cases v <;> rfl
noncomputable def andR (r : R D) (q : R D) : R D := match r with
  | .ok (.bool true) => q
  | .ok (.bool false) => .ok (.bool false)
  | .exc c => .exc c
  | _ => .stuck
noncomputable def orR (r : R D) (q : R D) : R D := match r with
  | .ok (.bool true) => .ok (.bool true)
  | .ok (.bool false) => q
  | .exc c => .exc c
  | _ => .stuck
theorem ZaC (v u : Bool) : andR (.ok (.bool v)) (.ok (.bool u)) = .ok (.bool (v && u)) := by cases v <;> rfl
theorem Zb3 (v u : Bool) : orR (.ok (.bool v)) (.ok (.bool u)) = .ok (.bool (v || u)) := by cases v <;> rfl
theorem Za0 : ex O G .skip (s :: ρ) = .next (s :: ρ) := by simp only [ex]
theorem ZbH (a b : MS) : ex O G (.seq a b) (s :: ρ) = (ex O G a (s :: ρ)).then fun ρ' => ex O G b ρ' := by simp only [ex]
theorem ZbN (i : Nat) (e : ME) : ex O G (.asg i e) (s :: ρ) = if e.esc = true then .stuck else SR.of (ev O G (s :: ρ) e) (s :: ρ) fun d => .next ((s :: ρ).set i (.fr d)) := by simp only [ex]
theorem ZbI (c : ME) (a b : MS) : ex O G (.ite c a b) (s :: ρ) = iteS (ev O G (s :: ρ) c) (ex O G a (s :: ρ)) (ex O G b (s :: ρ)) (s :: ρ) := by
  simp only [ex]
  cases ev O G (s :: ρ) c with
  | ok d => cases d <;> first | rfl | (rename_i b; cases b <;> rfl)
  | exc c => rfl
  | stuck => rfl
theorem ZbL (e : ME) : ex O G (.ret e) (s :: ρ) = SR.of (ev O G (s :: ρ) e) (s :: ρ) fun d => .ret d (isOwn e) (s :: ρ) := by simp only [ex]
theorem ZbZ (i : Nat) : ev O G (s :: ρ) (.var i) = frD (s :: ρ)[i]? := by
  simp only [ev]; unfold frD; rfl
theorem Zb0 (i : Nat) : ev O G (s :: ρ) (.own i) = ownD (s :: ρ)[i]? := by
  simp only [ev]; unfold ownD; rfl
theorem Zbv (i : Int) : ev O G (s :: ρ) (.cint i) = .ok (.int i) := by simp only [ev]
theorem ZbD (i : Str) : ev O G (s :: ρ) (.cstr i) = .ok (.str i) := by simp only [ev]
theorem ZaU (i : Bool) : ev O G (s :: ρ) (.cbool i) = .ok (.bool i) := by simp only [ev]
theorem ZbY (op : Operator) (a b : ME) : ev O G (s :: ρ) (.bin op a b) = (ev O G (s :: ρ) a).bind fun x => (ev O G (s :: ρ) b).bind fun y => binD op x y := by simp only [ev]
noncomputable def negD : D → R D
  | .int i => .ok (.int (-i))
  | _ => .stuck
noncomputable def ntD : D → R D
  | .bool i => .ok (.bool (!i))
  | _ => .stuck
theorem ZaR (i : Int) : negD (.int i) = .ok (.int (-i)) := Eq.trans rfl rfl
theorem ZaQ (i : Bool) : ntD (.bool i) = .ok (.bool (!i)) := Eq.trans rfl rfl
theorem Zb4 (a : ME) : ev O G (s :: ρ) (.neg a) = (ev O G (s :: ρ) a).bind negD := by
  simp only [ev]; congr
theorem Zb9 (a : ME) : ev O G (s :: ρ) (.nt a) = (ev O G (s :: ρ) a).bind ntD := by
  simp only [ev]; congr
theorem ZbT (a b : ME) : ev O G (s :: ρ) (.and a b) = andR (ev O G (s :: ρ) a) (ev O G (s :: ρ) b) := by
  simp only [ev]
  cases ev O G (s :: ρ) a with
  | ok d => cases d <;> first | rfl | (rename_i b; cases b <;> rfl)
  | exc c => rfl
  | stuck => rfl
theorem Zcd (a b : ME) : ev O G (s :: ρ) (.or a b) = orR (ev O G (s :: ρ) a) (ev O G (s :: ρ) b) := by
  simp only [ev]
  cases ev O G (s :: ρ) a with
  | ok d => cases d <;> first | rfl | (rename_i b; cases b <;> rfl)
  | exc c => rfl
  | stuck => rfl
theorem Zb5 (op : CmpOp) (a b : ME) : ev O G (s :: ρ) (.cmp op a b) = (ev O G (s :: ρ) a).bind fun x => (ev O G (s :: ρ) b).bind fun y => cmpD op x y := by simp only [ev]
theorem ZbG (f : Nat) (as : MEs) : ev O G (s :: ρ) (.call f as) = (evs O G (s :: ρ) as).bind fun xs => (O.fn f xs).bind fun r => if aliasOk as.esc xs r.1 = true then .ok r.1 else .stuck := by simp only [ev]
theorem Zb2 (b : B1) (a : ME) : ev O G (s :: ρ) (.bi1 b a) = (ev O G (s :: ρ) a).bind fun x => b1D b x := by simp only [ev]
theorem Zb6 (b : B2) (a c : ME) : ev O G (s :: ρ) (.bi2 b a c) = (ev O G (s :: ρ) a).bind fun x => (ev O G (s :: ρ) c).bind fun y => b2D b x y := by simp only [ev]
theorem ZbQ (a : ME) (t : Ty) : ev O G (s :: ρ) (.isi a t) = (ev O G (s :: ρ) a).bind fun x => isiD x t := by simp only [ev]
theorem ZbE (a b : ME) : ev O G (s :: ρ) (.find a b) = (ev O G (s :: ρ) a).bind fun x => (ev O G (s :: ρ) b).bind fun y => findD x y := by simp only [ev]
theorem ZbV (a b : ME) : ev O G (s :: ρ) (.idx a b) = (ev O G (s :: ρ) a).bind fun x => (ev O G (s :: ρ) b).bind fun y => idxD x y := by simp only [ev]
theorem ZaJ (a : ME) (lo hi : MO) : ev O G (s :: ρ) (.slice a lo hi) = (ev O G (s :: ρ) a).bind fun x => (evo O G (s :: ρ) lo).bind fun l => (evo O G (s :: ρ) hi).bind fun h => sliceD x l h := by simp only [ev]
theorem ev_tupD (as : MEs) : ev O G (s :: ρ) (.tupD as) = if as.esc = true then .stuck else (evs O G (s :: ρ) as).bind fun xs => if xs.length ≤ big then .ok (.tuple xs) else .stuck := by simp only [ev]
theorem ev_lstD (as : MEs) : ev O G (s :: ρ) (.lstD as) = if as.esc = true then .stuck else (evs O G (s :: ρ) as).bind fun xs => if xs.length ≤ big then .ok (.list xs) else .stuck := by simp only [ev]
theorem Zbr (g : Nat) : ev O G (s :: ρ) (.glob g) = globD G[g]? := by
  simp only [ev]; unfold globD; rfl
theorem Zbt : evs O G (s :: ρ) .nil = .ok [] := by simp only [evs]
theorem ZaF (a : ME) (as : MEs) : evs O G (s :: ρ) (.cons a as) = (ev O G (s :: ρ) a).bind fun x => (evs O G (s :: ρ) as).bind fun xs => .ok (x :: xs) := by simp only [evs]
theorem ZaG : evo O G (s :: ρ) .none = .ok none := by simp only [evo]
theorem ZaK (a : ME) : evo O G (s :: ρ) (.some a) = (ev O G (s :: ρ) a).bind optInt := by simp only [evo]
theorem optInt_int (i : Int) : optInt (.int i) = .ok (some i) := Eq.trans rfl rfl
end

theorem ZbA (a b : Int) : binD .Add (.int a) (.int b) = .ok (.int (a + b)) := Eq.trans rfl rfl
theorem Zbk (a b : Int) : binD .Sub (.int a) (.int b) = .ok (.int (a - b)) := Eq.trans rfl rfl
theorem bin_mul (a b : Int) : binD .Mult (.int a) (.int b) = if smallInt a && smallInt b then .ok (.int (a * b)) else .stuck := Eq.trans rfl rfl
theorem bin_fdiv (a b : Int) : binD .FloorDiv (.int a) (.int b) = if smallInt a && smallInt b && !(b == 0) then .ok (.int (a.fdiv b)) else .stuck := Eq.trans rfl rfl
theorem bin_mod (a b : Int) : binD .Mod (.int a) (.int b) = if b == 0 then .stuck else .ok (.int (a.fmod b)) := Eq.trans rfl rfl
theorem bin_adds (a b : Str) : binD .Add (.str a) (.str b) = if slen a + slen b ≤ big then .ok (.str (sapp a b)) else .stuck := Eq.trans rfl rfl
theorem bin_addl (a b : List D) : binD .Add (.list a) (.list b) = if a.length + b.length ≤ big then .ok (.list (a ++ b)) else .stuck := Eq.trans rfl rfl
theorem fmod_pos (a : Int) {b : Int} (h : 0 < b) : a.fmod b = a % b := Int.fmod_eq_emod_of_nonneg a (Int.le_of_lt h)
theorem fdiv_pos (a : Int) {b : Int} (h : 0 < b) : a.fdiv b = a / b := Int.fdiv_eq_ediv_of_nonneg a (Int.le_of_lt h)
theorem small_of {a : Int} (h1 : -1267650600228229401496703205376 < a) (h2 : a < 1267650600228229401496703205376) : smallInt a = true := by
  simp only [smallInt, decide_eq_true_eq]; omega
theorem Zag (a b : Int) : cmpD .Eq (.int a) (.int b) = .ok (.bool (a == b)) := Eq.trans rfl rfl
theorem Zak (a b : Int) : cmpD .NotEq (.int a) (.int b) = .ok (.bool (a != b)) := Eq.trans rfl rfl
theorem Zal (a b : Str) : cmpD .Eq (.str a) (.str b) = .ok (.bool (a == b)) := Eq.trans rfl rfl
theorem Zb1 (a b : Int) : cmpD .Lt (.int a) (.int b) = .ok (.bool (decide (a < b))) := Eq.trans rfl rfl
theorem ZbR (a b : Int) : cmpD .Gt (.int a) (.int b) = .ok (.bool (decide (b < a))) := Eq.trans rfl rfl
theorem yes_if {p : Prop} [Decidable p] (b : Bool) : R.yes (if p then .ok b else .stuck) = if p then .ok (.bool b) else .stuck := by split <;> rfl
theorem no_if {p : Prop} [Decidable p] (b : Bool) : R.no (if p then .ok b else .stuck) = if p then .ok (.bool (!b)) else .stuck := by split <;> rfl
theorem cmp_in_list (x : Str) (l : List D) : cmpD .In (.str x) (.list l) = if eqOk (.str x) && eqOk (.list l) then .ok (.bool (l.any fun y => PyData.eqv y (.str x))) else .stuck := yes_if _
theorem cmp_notin_list (x : Str) (l : List D) : cmpD .NotIn (.str x) (.list l) = if eqOk (.str x) && eqOk (.list l) then .ok (.bool (!(l.any fun y => PyData.eqv y (.str x)))) else .stuck := no_if _
theorem pidx_tuple {l : List D} {i : Int} {d : D} (h0 : 0 ≤ i) (h1 : i < 1073741824) (h2 : l[i.toNat]? = some d) : idxD (.tuple l) (.int i) = .ok d := by
  have hl := (List.getElem?_eq_some_iff.mp h2).1
  have e1 : idxInt i = true := by simp only [idxInt, Bool.and_eq_true, decide_eq_true_eq]; omega
  have e2 : place i l.length = some i.toNat := by
    unfold place
    rw [if_pos h0, if_pos (by omega)]
  simp only [idxD, e1, if_true, e2, h2]
theorem Zan (a : D) (l : List D) : idxD (.tuple (a :: l)) (.int 0) = .ok a := pidx_tuple (by decide) (by decide) rfl
theorem Zar (a b : D) (l : List D) : idxD (.tuple (a :: b :: l)) (.int 1) = .ok b := pidx_tuple (by decide) (by decide) rfl
theorem Zah (a b c : D) (l : List D) : idxD (.tuple (a :: b :: c :: l)) (.int 2) = .ok c := pidx_tuple (by decide) (by decide) rfl
theorem Zaq (a b c d : D) (l : List D) : idxD (.tuple (a :: b :: c :: d :: l)) (.int 3) = .ok d := pidx_tuple (by decide) (by decide) rfl
theorem pidx_list {l : List D} {i : Int} {d : D} (h0 : 0 ≤ i) (h1 : i < 1073741824) (h2 : l[i.toNat]? = some d) : idxD (.list l) (.int i) = .ok d := by
  have hl := (List.getElem?_eq_some_iff.mp h2).1
  have e1 : idxInt i = true := by simp only [idxInt, Bool.and_eq_true, decide_eq_true_eq]; omega
  have e2 : place i l.length = some i.toNat := by
    unfold place
    rw [if_pos h0, if_pos (by omega)]
  simp only [idxD, e1, if_true, e2, h2]
theorem pidx_str {x : Str} {i : Int} (h0 : 0 ≤ i) (h1 : i < slen x) (h2 : slen x ≤ big) : idxD (.str x) (.int i) = .ok (.str (sone (x.cps.toList.getD i.toNat 0))) := by
  simp only [slen, big] at *
  have e1 : idxInt i = true := by simp only [idxInt, Bool.and_eq_true, decide_eq_true_eq]; omega
  have e2 : place i x.cps.size = some i.toNat := by
    unfold place
    rw [if_pos h0, if_pos h1]
  have e3 : x.cps[i.toNat]? = some (x.cps.toList.getD i.toNat 0) := by
    have hl : i.toNat < x.cps.size := by omega
    rw [Array.getElem?_eq_getElem hl]
    simp [List.getD, hl]
  simp only [idxD, slen, e1, if_true, e2, e3]
theorem b1_len_list (l : List D) : b1D .len (.list l) = if l.length ≤ big then .ok (.int l.length) else .stuck := Eq.trans rfl rfl
theorem b1_len_tuple (l : List D) : b1D .len (.tuple l) = if l.length ≤ big then .ok (.int l.length) else .stuck := Eq.trans rfl rfl
theorem b1_len_str (l : Str) : b1D .len (.str l) = if slen l ≤ big then .ok (.int (slen l)) else .stuck := Eq.trans rfl rfl
theorem Zad (b : Bool) : b1D .int (.bool b) = .ok (.int (if b then 1 else 0)) := Eq.trans rfl rfl
theorem ZbK (a b : Int) : b2D .min (.int a) (.int b) = .ok (.int (if b < a then b else a)) := Eq.trans rfl rfl
theorem ZbW (a b : Int) : b2D .max (.int a) (.int b) = .ok (.int (if a < b then b else a)) := Eq.trans rfl rfl
theorem mul_ok {a b : Int} (h1 : -1267650600228229401496703205376 < a) (h2 : a < 1267650600228229401496703205376) (h3 : -1267650600228229401496703205376 < b) (h4 : b < 1267650600228229401496703205376) : binD .Mult (.int a) (.int b) = .ok (.int (a * b)) := by
  rw [bin_mul, small_of h1 h2, small_of h3 h4]; rfl
theorem mod_ok {a b : Int} (h : 0 < b) : binD .Mod (.int a) (.int b) = .ok (.int (a % b)) := by
  rw [bin_mod, if_neg (by simp; omega), fmod_pos a h]
theorem fdiv_ok {a b : Int} (h1 : -1267650600228229401496703205376 < a) (h2 : a < 1267650600228229401496703205376) (h3 : 0 < b) (h4 : b < 1267650600228229401496703205376) : binD .FloorDiv (.int a) (.int b) = .ok (.int (a / b)) := by
  rw [bin_fdiv, small_of h1 h2, small_of (by omega) h4, if_pos (by simp; omega), fdiv_pos a h3]
theorem getk {l : List D} {i : Int} (h0 : 0 ≤ i) (h1 : i < 1073741824) : idxD (.list l) (.int i) = globD l[i.toNat]? := by
  cases h : l[i.toNat]? with
  | some d => exact pidx_list h0 h1 h
  | none =>
    have e1 : idxInt i = true := by simp only [idxInt, Bool.and_eq_true, decide_eq_true_eq]; omega
    simp only [idxD, e1, if_true]
    have hl : l.length ≤ i.toNat := List.getElem?_eq_none_iff.mp h
    have e2 : place i l.length = none := by
      unfold place
      rw [if_pos h0, if_neg (by omega)]
    rw [e2]; rfl
theorem adds_ok {a b : Str} (h : slen a + slen b ≤ 1048576) : binD .Add (.str a) (.str b) = .ok (.str (sapp a b)) := by
  exact (bin_adds a b).trans (if_pos (show _ ≤ big from h))
theorem len_list_ok {l : List D} (h : l.length ≤ 1048576) : b1D .len (.list l) = .ok (.int l.length) := (b1_len_list l).trans (if_pos (show _ ≤ big from h))
theorem len_tuple_ok {l : List D} (h : l.length ≤ 1048576) : b1D .len (.tuple l) = .ok (.int l.length) := (b1_len_tuple l).trans (if_pos (show _ ≤ big from h))
theorem len_str_ok {l : Str} (h : slen l ≤ 1048576) : b1D .len (.str l) = .ok (.int (slen l)) := (b1_len_str l).trans (if_pos (show _ ≤ big from h))
noncomputable def tupR (xs : List D) : R D := if xs.length ≤ big then .ok (.tuple xs) else .stuck
noncomputable def lstR (xs : List D) : R D := if xs.length ≤ big then .ok (.list xs) else .stuck
theorem Zbh {l : List D} (h : l.length ≤ 1048576) : tupR l = .ok (.tuple l) := if_pos (show _ ≤ big from h)
theorem Za9 {l : List D} (h : l.length ≤ 1048576) : lstR l = .ok (.list l) := if_pos (show _ ≤ big from h)
theorem Zbz {O : Orc} {G : List D} {s : Slot} {ρ : Env} (as : MEs) : ev O G (s :: ρ) (.tupD as) = if as.esc = true then .stuck else (evs O G (s :: ρ) as).bind tupR := by
  rw [ev_tupD]; rfl
theorem Zbw {O : Orc} {G : List D} {s : Slot} {ρ : Env} (as : MEs) : ev O G (s :: ρ) (.lstD as) = if as.esc = true then .stuck else (evs O G (s :: ρ) as).bind lstR := by
  rw [ev_lstD]; rfl
end Mine
-- MPure2
set_option autoImplicit false
set_option linter.all false
namespace Mine
open PySem

theorem ofS_inj {a b : String} (h : Str.ofString a = Str.ofString b) : a = b := by
  have h2 : (Str.ofString a).cps.toList = (Str.ofString b).cps.toList := by rw [h]
  rw [PyProof.Rows.signs_ofString, PyProof.Rows.signs_ofString] at h2
  have inj : ∀ l m : List Char, l.map Char.toNat = m.map Char.toNat → l = m := by
    intro l
    induction l with
    | nil => intro m h; cases m with | nil => rfl | cons => simp at h
    | cons c l ih =>
      intro m h
      cases m with
      | nil => simp at h
      | cons d m =>
        simp only [List.map_cons, List.cons.injEq] at h
        rw [ih m h.2, Char.toNat_inj.mp h.1]
  exact String.toList_inj.mp (inj _ _ h2)
theorem ZbJ (a b : String) : (Str.ofString a = Str.ofString b) = (a = b) := propext ⟨ofS_inj, fun h => h ▸ rfl⟩
theorem ZaZ (a b : String) : (Str.ofString a == Str.ofString b) = (a == b) := by
  rw [Bool.eq_iff_iff, beq_iff_eq, beq_iff_eq, ZbJ]
theorem ZbM (q : R D) : andR (.ok (.bool false)) q = .ok (.bool false) := Eq.trans rfl rfl
section
variable {O : Orc} {G : List D} {s : Slot} {ρ : Env}
noncomputable def bodyS (O : Orc) (G : List D) (i : Nat) (b : MS) (x : D) (ρ : Env) : SR := ex O G b (ρ.set i (.fr x))
noncomputable def forS (O : Orc) (G : List D) (i : Nat) (b : MS) (ρ : Env) (d : D) : SR := match itemsD d with
  | some l => if l.length ≤ big then forLoop (bodyS O G i b) l ρ else .stuck
  | none => .stuck
theorem Za2 (i : Nat) (e : ME) (b : MS) : ex O G (.forL i e b) (s :: ρ) = if e.esc = true then .stuck else SR.of (ev O G (s :: ρ) e) (s :: ρ) (forS O G i b (s :: ρ)) := by
  simp only [ex]; rfl
theorem forS_list {i : Nat} {b : MS} {l : List D} (h : l.length ≤ 1048576) : forS O G i b (s :: ρ) (.list l) = forLoop (bodyS O G i b) l (s :: ρ) := if_pos (show _ ≤ big from h)
theorem ZaO (f : D → Env → SR) (ρ : Env) : forLoop f [] ρ = .next ρ := Eq.trans rfl rfl
theorem ZaA (f : D → Env → SR) (x : D) (xs : List D) (ρ : Env) : forLoop f (x :: xs) ρ = (f x ρ).then fun ρ' => forLoop f xs ρ' := Eq.trans rfl rfl
theorem Zam (i : Nat) (b : MS) (x : D) : bodyS O G i b x (s :: ρ) = ex O G b ((s :: ρ).set i (.fr x)) := Eq.trans rfl rfl
noncomputable def rngS (O : Orc) (G : List D) (i : Nat) (b : MS) (ρ : Env) (r q : R D) : SR := SR.of r ρ fun x => SR.of q ρ fun y => (match x, y with
      | .int u, .int v => if idxInt u && idxInt v then forLoop (bodyS O G i b) (rangeD u v) ρ else .stuck
      | _, _ => .stuck)
theorem ZbU (i : Nat) (lo hi : ME) (b : MS) : ex O G (.forR i lo hi b) (s :: ρ) = rngS O G i b (s :: ρ) (ev O G (s :: ρ) lo) (ev O G (s :: ρ) hi) := by
  simp only [ex]; rfl
theorem ZaX {i : Nat} {b : MS} {u v : Int} (h3 : -1073741824 < u) (h4 : u < 1073741824) (h5 : -1073741824 < v) (h6 : v < 1073741824) : rngS O G i b (s :: ρ) (.ok (.int u)) (.ok (.int v)) = forLoop (bodyS O G i b) (rangeD u v) (s :: ρ) := by
  have e1 : idxInt u = true := by simp only [idxInt, Bool.and_eq_true, decide_eq_true_eq]; omega
  have e2 : idxInt v = true := by simp only [idxInt, Bool.and_eq_true, decide_eq_true_eq]; omega
  simp only [rngS, SR.of_ok, e1, e2, Bool.and_self, if_true]
noncomputable def apS (sl : Option Slot) (r : R D) (ρ : Env) (i : Nat) : SR := match sl with
  | some (.own (.list l)) => SR.of r ρ fun d => if l.length < big then .next (ρ.set i (.own (.list (l ++ [d])))) else .stuck
  | _ => .stuck
theorem Zas (i : Nat) (e : ME) : ex O G (.append i e) (s :: ρ) = if e.esc = true then .stuck else apS (s :: ρ)[i]? (ev O G (s :: ρ) e) (s :: ρ) i := by
  simp only [ex]; rfl
theorem ZbS {l : List D} {d : D} {i : Nat} (h : l.length < 1048576) : apS (some (.own (.list l))) (.ok d) (s :: ρ) i = .next ((s :: ρ).set i (.own (.list (l ++ [d])))) := if_pos (show _ < big from h)
theorem Zbs (i : Nat) (as : MEs) : ex O G (.asgOwn i (.lstD as)) (s :: ρ) = SR.of (ev O G (s :: ρ) (.lstD as)) (s :: ρ) fun d => .next ((s :: ρ).set i (.own d)) := by
  simp only [ex, ME.esc]; rfl
end
theorem range_length (u v : Int) : (rangeD u v).length = (v - u).toNat := by simp [rangeD]
noncomputable def Letters (x : Str) : Prop := ∀ c ∈ x.cps.toList, 97 ≤ c ∧ c ≤ 122
noncomputable def abc : Str := Str.ofString "abcdefghijklmnopqrstuvwxyz"
theorem abc_fold : Str.ofString "abcdefghijklmnopqrstuvwxyz" = abc := Eq.trans rfl rfl
theorem abc_list : abc.cps.toList = [97, 98, 99, 100, 101, 102, 103, 104, 105, 106, 107, 108, 109, 110, 111, 112, 113, 114, 115, 116, 117, 118, 119, 120, 121, 122] := by decide +kernel
theorem abc_len : slen abc = 26 := by decide +kernel
theorem abc_get {i : Nat} (h : i < 26) : abc.cps.toList.getD i 0 = 97 + i := by
  rw [abc_list]
  have : ∀ i : Nat, i < 26 → ([97, 98, 99, 100, 101, 102, 103, 104, 105, 106, 107, 108, 109, 110, 111, 112, 113, 114, 115, 116, 117, 118, 119, 120, 121, 122] : List Nat).getD i 0 = 97 + i := by decide
  exact this i h
theorem abc_at {i : Int} (h0 : 0 ≤ i) (h1 : i < 26) : idxD (.str abc) (.int i) = .ok (.str (sone (97 + i.toNat))) := by
  rw [pidx_str h0 (by rw [abc_len]; omega) (by rw [abc_len]; decide), abc_get (by omega)]
theorem slen_sone (c : Nat) : slen (sone c) = 1 := Eq.trans rfl rfl
theorem Zb7 (a b : Str) : slen (sapp a b) = slen a + slen b := by simp [slen, sapp]
theorem slen_smk (l : List Nat) : slen (smk l) = l.length := by simp [slen, smk]
theorem slen_toList (x : Str) : slen x = x.cps.toList.length := by simp [slen]
theorem letters_sapp {a b : Str} (ha : Letters a) (hb : Letters b) : Letters (sapp a b) := fun c hc => by
  simp only [sapp, Array.toList_append, List.mem_append] at hc
  exact hc.elim (ha c) (hb c)
theorem letters_sone {c : Nat} (h1 : 97 ≤ c) (h2 : c ≤ 122) : Letters (sone c) := fun d hd => by
  simp only [sone, List.mem_singleton] at hd
  omega
theorem letters_empty : Letters (Str.ofString "") := fun c hc => by
  have : (Str.ofString "").cps.toList = [] := by decide
  rw [this] at hc; cases hc
theorem slen_empty : slen (Str.ofString "") = 0 := by decide
theorem mem_cut {α : Type} {l : List α} {lo hi : Option Int} {x : α} (h : x ∈ cut l lo hi) : x ∈ l := List.mem_of_mem_drop (List.mem_of_mem_take h)
theorem letters_cut {x : Str} {lo hi : Option Int} (h : Letters x) : Letters (smk (cut x.cps.toList lo hi)) := fun c hc => h c (mem_cut (by simpa [smk] using hc))
theorem slice_hi {x : Str} {i : Int} (h0 : 0 ≤ i) (h1 : i < 1073741824) (h2 : slen x ≤ 1048576) : sliceD (.str x) none (some i) = .ok (.str (smk (cut x.cps.toList none (some i)))) := by
  have e1 : idxInt i = true := by simp only [idxInt, Bool.and_eq_true, decide_eq_true_eq]; omega
  simp only [sliceD, partOk, e1, Bool.and_self, if_true]
  exact if_pos (show _ ≤ big from h2)
theorem slice_lo {x : Str} {i : Int} (h0 : 0 ≤ i) (h1 : i < 1073741824) (h2 : slen x ≤ 1048576) : sliceD (.str x) (some i) none = .ok (.str (smk (cut x.cps.toList (some i) none))) := by
  have e1 : idxInt i = true := by simp only [idxInt, Bool.and_eq_true, decide_eq_true_eq]; omega
  simp only [sliceD, partOk, e1, Bool.and_self, if_true]
  exact if_pos (show _ ≤ big from h2)
theorem slice_both {x : Str} {i j : Int} (h0 : 0 ≤ i) (h1 : i < 1073741824) (h3 : 0 ≤ j) (h4 : j < 1073741824) (h2 : slen x ≤ 1048576) : sliceD (.str x) (some i) (some j) = .ok (.str (smk (cut x.cps.toList (some i) (some j)))) := by
  have e1 : idxInt i = true := by simp only [idxInt, Bool.and_eq_true, decide_eq_true_eq]; omega
  have e2 : idxInt j = true := by simp only [idxInt, Bool.and_eq_true, decide_eq_true_eq]; omega
  simp only [sliceD, partOk, e1, e2, Bool.and_self, if_true]
  exact if_pos (show _ ≤ big from h2)
theorem clip_pos (n : Nat) {i : Int} (h : 0 ≤ i) : clip n i = min i.toNat n := by
  obtain ⟨k, rfl⟩ := Int.eq_ofNat_of_zero_le h
  unfold clip
  rw [if_neg (Int.not_lt.mpr h), Int.max_eq_right (Int.le_min.mpr ⟨h, Int.natCast_nonneg n⟩), Int.toNat_natCast]
  rcases Nat.le_total k n with q | q
  · rw [Int.min_eq_left (Int.ofNat_le.mpr q), Nat.min_eq_left q, Int.toNat_natCast]
  · rw [Int.min_eq_right (Int.ofNat_le.mpr q), Nat.min_eq_right q, Int.toNat_natCast]
theorem cut_hi_len {α : Type} (l : List α) {i : Int} (h : 0 ≤ i) : (cut l none (some i)).length = min i.toNat l.length := by
  simp only [cut, Option.elim, clip_pos _ h, List.drop_zero, List.length_take, Nat.sub_zero]
  exact Nat.min_eq_left (Nat.min_le_right _ _)
theorem cut_lo_len {α : Type} (l : List α) {i : Int} (h : 0 ≤ i) : (cut l (some i) none).length = l.length - i.toNat := by
  simp only [cut, Option.elim, clip_pos _ h, List.length_take, List.length_drop, Nat.min_self]
  rcases Nat.le_total i.toNat l.length with q | q
  · rw [Nat.min_eq_left q]
  · rw [Nat.min_eq_right q, Nat.sub_self, Nat.sub_eq_zero_of_le q]
theorem cut_both_len {α : Type} (l : List α) {i j : Int} (h : 0 ≤ i) (hj : 0 ≤ j) : (cut l (some i) (some j)).length = min j.toNat l.length - i.toNat := by
  simp only [cut, Option.elim, clip_pos _ h, clip_pos _ hj, List.length_take, List.length_drop]
  rcases Nat.le_total i.toNat l.length with q | q
  · rw [Nat.min_eq_left q]
    exact Nat.min_eq_left (Nat.sub_le_sub_right (Nat.min_le_right _ _) _)
  · rw [Nat.min_eq_right q, Nat.sub_self, Nat.min_zero, Nat.sub_eq_zero_of_le (Nat.le_trans (Nat.min_le_right _ _) q)]
theorem Zbg (a b : Str) : findD (.str a) (.str b) = .ok (.int (Txt.find a b)) := Eq.trans rfl rfl
theorem Zau (i : Nat) : isOwn (.var i) = false := Eq.trans rfl rfl
theorem Zbj (i : Nat) : ME.esc (.var i) = false := Eq.trans rfl rfl
theorem ZaB (i : Nat) : isOwn (.own i) = true := Eq.trans rfl rfl
theorem ZaV (g : Nat) : ME.esc (.glob g) = false := Eq.trans rfl rfl
theorem Zaj (i : Int) : isOwn (.cint i) = false := Eq.trans rfl rfl
theorem ZaD (i : Int) : ME.esc (.cint i) = false := Eq.trans rfl rfl
theorem ZaI (i : Str) : ME.esc (.cstr i) = false := Eq.trans rfl rfl
theorem Zac (i : Bool) : isOwn (.cbool i) = false := Eq.trans rfl rfl
theorem Zat (op : Operator) (a b : ME) : isOwn (.bin op a b) = false := Eq.trans rfl rfl
theorem Zbe (op : Operator) (a b : ME) : ME.esc (.bin op a b) = false := Eq.trans rfl rfl
theorem Zba (a : ME) : ME.esc (.neg a) = false := Eq.trans rfl rfl
theorem Zav (a b : ME) : isOwn (.and a b) = false := Eq.trans rfl rfl
theorem Zbn (a b : ME) : ME.esc (.and a b) = (a.esc || b.esc) := by simp only [ME.esc]
theorem Za1 (op : CmpOp) (a b : ME) : ME.esc (.cmp op a b) = false := Eq.trans rfl rfl
theorem ZaM (f : Nat) (as : MEs) : ME.esc (.call f as) = false := Eq.trans rfl rfl
theorem Zax (b : B1) (a : ME) : isOwn (.bi1 b a) = false := Eq.trans rfl rfl
theorem Zbf (b : B2) (a c : ME) : ME.esc (.bi2 b a c) = false := Eq.trans rfl rfl
theorem Zay (a i : ME) : isOwn (.idx a i) = false := Eq.trans rfl rfl
theorem Zby (a i : ME) : ME.esc (.idx a i) = false := Eq.trans rfl rfl
theorem Zaz (a : ME) (lo hi : MO) : ME.esc (.slice a lo hi) = false := Eq.trans rfl rfl
theorem Zap (as : MEs) : isOwn (.tupD as) = false := Eq.trans rfl rfl
theorem ZaW (as : MEs) : ME.esc (.tupD as) = false := Eq.trans rfl rfl
theorem Zao (as : MEs) : isOwn (.lstD as) = false := Eq.trans rfl rfl
theorem ZaH (as : MEs) : ME.esc (.lstD as) = false := Eq.trans rfl rfl
theorem Zbi : MEs.esc .nil = false := Eq.trans rfl rfl
theorem ZaP (a : ME) (as : MEs) : MEs.esc (.cons a as) = (a.esc || as.esc) := by simp only [MEs.esc]
theorem Zaf (x : Int) : isiD (.int x) .int = .ok (.bool true) := Eq.trans rfl rfl
theorem Zab (x : Int) : isiD (.int x) .bool = .ok (.bool false) := Eq.trans rfl rfl
theorem Zae (x : Str) : isiD (.str x) .str = .ok (.bool true) := Eq.trans rfl rfl
theorem Zaa (x : List D) : isiD (.list x) .list = .ok (.bool true) := Eq.trans rfl rfl
section
variable {O : Orc} {G : List D} {s : Slot} {ρ : Env}
theorem peel_f {c : ME} {A B : MS} (h : ev O G (s :: ρ) c = .ok (.bool false)) : ex O G (.seq (.ite c A .skip) B) (s :: ρ) = ex O G B (s :: ρ) := by
  rw [ZbH, ZbI, h, Za0]; rfl
theorem peel_t {c : ME} {A B : MS} {d : D} {b : Bool} {ρ' : Env} (h : ev O G (s :: ρ) c = .ok (.bool true)) (hr : ex O G A (s :: ρ) = .ret d b ρ') : ex O G (.seq (.ite c A .skip) B) (s :: ρ) = .ret d b ρ' := by
  rw [ZbH, ZbI, h, hr]; rfl
theorem peel_ret {e : ME} {B : MS} {d : D} (h : ev O G (s :: ρ) e = .ok d) : ex O G (.seq (.ret e) B) (s :: ρ) = .ret d (isOwn e) (s :: ρ) := by
  rw [ZbH, ZbL, h]; rfl
theorem peel_asg {i : Nat} {e : ME} {B : MS} {d : D} (h : ev O G (s :: ρ) e = .ok d) (he : e.esc = false) : ex O G (.seq (.asg i e) B) (s :: ρ) = ex O G B ((s :: ρ).set i (.fr d)) := by
  rw [ZbH, ZbN, he, h]; rfl
theorem peel_tn {c : ME} {A B : MS} {ρ' : Env} (h : ev O G (s :: ρ) c = .ok (.bool true)) (hr : ex O G A (s :: ρ) = .next ρ') : ex O G (.seq (.ite c A .skip) B) (s :: ρ) = ex O G B ρ' := by
  rw [ZbH, ZbI, h, hr]; rfl
end
end Mine
-- MPure3
set_option autoImplicit false
set_option linter.all false
namespace Mine
open PySem

noncomputable def Nm (x : Str) : Prop := Letters x ∧ 1 ≤ slen x ∧ slen x ≤ 8
noncomputable abbrev numE (v : Int) : D := .tuple [.str (Str.ofString "num"), .int v]
noncomputable abbrev nameE (x : Str) : D := .tuple [.str (Str.ofString "name"), .str x]
noncomputable abbrev twoE (w : String) (a b : D) : D := .tuple [.str (Str.ofString w), a, b]
noncomputable abbrev whenE (a b c : D) : D := .tuple [.str (Str.ofString "when"), a, b, c]
noncomputable abbrev letE (x : Str) (b c : D) : D := .tuple [.str (Str.ofString "let"), .str x, b, c]
noncomputable def twoWords : List String := ["sum", "less", "times", "part", "rest", "below", "same"]
inductive Ex : Nat → D → Prop where
  | num {k : Nat} {v : Int} : -1000000000 ≤ v → v ≤ 1000000000 → Ex k (numE v)
  | name {k : Nat} {x : Str} : Nm x → Ex k (nameE x)
  | two {k : Nat} {w : String} {a b : D} : w ∈ twoWords → Ex k a → Ex k b → Ex (k + 1) (twoE w a b)
  | when {k : Nat} {a b c : D} : Ex k a → Ex k b → Ex k c → Ex (k + 1) (whenE a b c)
  | lett {k : Nat} {x : Str} {b c : D} : Nm x → Ex k b → Ex k c → Ex (k + 1) (letE x b c)
theorem Ex.mono {k : Nat} {d : D} (h : Ex k d) : ∀ {m : Nat}, k ≤ m → Ex m d := by
  induction h with
  | num a b => exact fun _ => .num a b
  | name a => exact fun _ => .name a
  | two hw _ _ ia ib =>
    intro m hm
    obtain ⟨m', rfl⟩ : ∃ m', m = m' + 1 := ⟨m - 1, by omega⟩
    exact .two hw (ia (by omega)) (ib (by omega))
  | when _ _ _ ia ib ic =>
    intro m hm
    obtain ⟨m', rfl⟩ : ∃ m', m = m' + 1 := ⟨m - 1, by omega⟩
    exact .when (ia (by omega)) (ib (by omega)) (ic (by omega))
  | lett hx _ _ ib ic =>
    intro m hm
    obtain ⟨m', rfl⟩ : ∃ m', m = m' + 1 := ⟨m - 1, by omega⟩
    exact .lett hx (ib (by omega)) (ic (by omega))
theorem strOk_letters {x : Str} (h : Letters x) : PyData.strOk x = true := by
  unfold PyData.strOk
  rw [Array.all_eq_true]
  intro i hi
  have := h x.cps[i] (by simp)
  simp; omega
theorem word_lay {w : String} (h : w ∈ twoWords) : PyData.strOk (Str.ofString w) = true := by
  simp only [twoWords, List.mem_cons, List.not_mem_nil, or_false] at h
  rcases h with rfl | rfl | rfl | rfl | rfl | rfl | rfl <;> decide +kernel
theorem lay_num : PyData.strOk (Str.ofString "num") = true := by decide +kernel
theorem lay_name : PyData.strOk (Str.ofString "name") = true := by decide +kernel
theorem lay_when : PyData.strOk (Str.ofString "when") = true := by decide +kernel
theorem lay_let : PyData.strOk (Str.ofString "let") = true := by decide +kernel
theorem Ex.lay {k : Nat} {d : D} (h : Ex k d) : d.canLay0 = true := by
  induction h with
  | num a b => simp [PyData.canLay0, PyData.canLayAll0, lay_num]
  | name a => simp [PyData.canLay0, PyData.canLayAll0, lay_name, strOk_letters a.1]
  | two hw _ _ ia ib => simp [PyData.canLay0, PyData.canLayAll0, word_lay hw, ia, ib]
  | when _ _ _ ia ib ic => simp [PyData.canLay0, PyData.canLayAll0, lay_when, ia, ib, ic]
  | lett hx _ _ ib ic => simp [PyData.canLay0, PyData.canLayAll0, lay_let, strOk_letters hx.1, ib, ic]
theorem Ex.deep {k : Nat} {d : D} (h : Ex k d) : d.depth ≤ k + 1 := by
  induction h with
  | num a b => simp [PyData.depth, PyData.depthAll]
  | name a => simp [PyData.depth, PyData.depthAll]
  | two hw _ _ ia ib => simp [PyData.depth, PyData.depthAll]; omega
  | when _ _ _ ia ib ic => simp [PyData.depth, PyData.depthAll]; omega
  | lett hx _ _ ib ic => simp [PyData.depth, PyData.depthAll]; omega
theorem in_list {x : String} {l : List String} (hx : PyData.strOk (Str.ofString x) = true) (hl : (l.all fun y => PyData.strOk (Str.ofString y)) = true) : cmpD .In (.str (Str.ofString x)) (.list (l.map fun y => .str (Str.ofString y))) = .ok (.bool (l.contains x)) := by
  have hc : PyData.canLayAll0 (l.map fun y => PyData.str (Str.ofString y)) = true := by
    induction l with
    | nil => rfl
    | cons y l ih =>
      simp only [List.all_cons, Bool.and_eq_true] at hl
      simp only [List.map_cons, PyData.canLayAll0, PyData.canLay0, hl.1, ih hl.2, Bool.and_self]
  have hd : PyData.depthAll (l.map fun y => PyData.str (Str.ofString y)) = 0 := by
    clear hc hl
    induction l with
    | nil => rfl
    | cons y l ih => simp only [List.map_cons, PyData.depthAll, PyData.depth, ih]; rfl
  have e1 : eqOk (.str (Str.ofString x)) = true := by simp only [eqOk, PyData.canLay0, hx, PyData.depth]; rfl
  have e2 : eqOk (.list (l.map fun y => PyData.str (Str.ofString y))) = true := by simp only [eqOk, PyData.canLay0, hc, PyData.depth, hd]; rfl
  rw [cmp_in_list, e1, e2]
  simp only [Bool.and_self, if_true]
  have : ((l.map fun y => PyData.str (Str.ofString y)).any fun y => PyData.eqv y (.str (Str.ofString x))) = l.contains x := by
    clear hc hd e2 hl
    induction l with
    | nil => rfl
    | cons y l ih =>
      simp only [List.map_cons, List.any_cons, ih, List.contains_cons, PyData.eqv, ZaZ]
      rw [Bool.beq_comm]
  rw [this]
theorem two_ne {w : String} (h : w ∈ twoWords) : (w == "num") = false ∧ (w == "name") = false ∧ (w == "let") = false ∧ (w == "when") = false := by
  simp only [twoWords, List.mem_cons, List.not_mem_nil, or_false] at h
  rcases h with rfl | rfl | rfl | rfl | rfl | rfl | rfl <;> decide
theorem slice_tup1 {a : D} {l : List D} (h : l.length < 1048576) : sliceD (.tuple (a :: l)) (some 1) none = .ok (.tuple l) := by
  have e1 : idxInt 1 = true := by decide
  simp only [sliceD, partOk, e1, Bool.and_self, if_true]
  exact if_pos (by simp [big]; omega)
theorem slice_tup2 {a b : D} {l : List D} (h : l.length < 1048575) : sliceD (.tuple (a :: b :: l)) (some 2) none = .ok (.tuple l) := by
  have e1 : idxInt 2 = true := by decide
  simp only [sliceD, partOk, e1, Bool.and_self, if_true]
  exact if_pos (by simp [big]; omega)
theorem int_beq_t {a b : Int} (h : a = b) : (a == b) = true := beq_iff_eq.mpr h
theorem int_beq_f {a b : Int} (h : a ≠ b) : (a == b) = false := beq_eq_false_iff_ne.mpr h
theorem Zca (a b : D) : tupR [a, b] = .ok (.tuple [a, b]) := Eq.trans rfl rfl
theorem Zcb (a b c : D) : tupR [a, b, c] = .ok (.tuple [a, b, c]) := Eq.trans rfl rfl
theorem Zcc (a b c d : D) : tupR [a, b, c, d] = .ok (.tuple [a, b, c, d]) := Eq.trans rfl rfl
theorem Zce (a : D) : lstR [a] = .ok (.list [a]) := Eq.trans rfl rfl
theorem Zcf (a b : D) : lstR [a, b] = .ok (.list [a, b]) := Eq.trans rfl rfl
theorem Zb8 (a b c d : D) : lstR [a, b, c, d] = .ok (.list [a, b, c, d]) := Eq.trans rfl rfl
def Sm (a : Int) : Prop := 0 ≤ a ∧ a < 1000000000000000003
abbrev Ps (b : Int) : Prop := (decide (0 < b) && decide (b < 2000000000000000000)) = true
def Ki (k : Int) : Prop := 0 ≤ k ∧ k < 1000
theorem Ps.pos {b : Int} (h : Ps b) : 0 < b := of_decide_eq_true (Bool.and_eq_true_iff.mp h).1
theorem Ps.hi {b : Int} (h : Ps b) : b < 2000000000000000000 := of_decide_eq_true (Bool.and_eq_true_iff.mp h).2
theorem Sm.div {a b : Int} (h : Sm a) (hb : Ps b) : Sm (a / b) := by
  have h1 := h.1
  have h2 := h.2
  have h3 := hb.pos
  refine ⟨Int.ediv_nonneg h1 (Int.le_of_lt h3), ?_⟩
  exact Int.lt_of_le_of_lt (Int.ediv_le_self _ h1) h2
theorem Zbq {a b : Int} (h : Sm a) (hb : Ps b) : binD .FloorDiv (.int a) (.int b) = .ok (.int (a / b)) := by
  have h1 := h.1
  have h2 := h.2
  have h3 := hb.pos
  have h4 := hb.hi
  exact fdiv_ok (by omega) (by omega) h3 (by omega)
theorem ZbX {a b : Int} (h : Ps b) : binD .Mod (.int a) (.int b) = .ok (.int (a % b)) := mod_ok h.pos
theorem Ki.mod {a b : Int} (hb : Ps b) (h : b ≤ 1000) : Ki (a % b) := ⟨Int.emod_nonneg _ (Int.ne_of_gt hb.pos), Int.lt_of_lt_of_le (Int.emod_lt_of_pos _ hb.pos) h⟩
theorem Zbp (c : Nat) : slen (sone c) ≤ 500000 := by rw [slen_sone]; decide
theorem ZaY {a b : Str} (ha : slen a ≤ 500000) (hb : slen b ≤ 500000) : binD .Add (.str a) (.str b) = .ok (.str (sapp a b)) := adds_ok (by omega)
theorem abc_mod (x : Int) : idxD (.str abc) (.int (x % 26)) = .ok (.str (sone (97 + (x % 26).toNat))) := abc_at (by omega) (by omega)
theorem letters_mod (x : Int) : Letters (sone (97 + (x % 26).toNat)) := letters_sone (by omega) (by omega)
theorem pre_ok {y : Str} {i : Int} (hy : Letters y) (hl : slen y ≤ 1000) (h0 : 0 ≤ i) (h1 : i ≤ slen y) : ∃ P, sliceD (.str y) none (some i) = .ok (.str P) ∧ Letters P ∧ (slen P : Int) = i :=
  ⟨_, slice_hi h0 (by omega) (by omega), letters_cut hy, by rw [slen_smk, cut_hi_len _ h0, ← slen_toList]; omega⟩
theorem suf_ok {y : Str} {i : Int} (hy : Letters y) (hl : slen y ≤ 1000) (h0 : 0 ≤ i) (h1 : i ≤ slen y) : ∃ S, sliceD (.str y) (some i) none = .ok (.str S) ∧ Letters S ∧ (slen S : Int) = slen y - i :=
  ⟨_, slice_lo h0 (by omega) (by omega), letters_cut hy, by rw [slen_smk, cut_lo_len _ h0, ← slen_toList]; omega⟩
theorem mid_ok {y : Str} {i j : Int} (hy : Letters y) (hl : slen y ≤ 1000) (h0 : 0 ≤ i) (h1 : i ≤ 1000) (h2 : 0 ≤ j) (h3 : j ≤ 1000) : ∃ S, sliceD (.str y) (some i) (some j) = .ok (.str S) ∧ Letters S ∧ (slen S : Int) ≤ j ∧ (0 < slen S → (slen S : Int) + i ≤ j) :=
  ⟨_, slice_both h0 (by omega) h2 (by omega) (by omega), letters_cut hy, by rw [slen_smk, cut_both_len _ h0 h2]; omega, by rw [slen_smk, cut_both_len _ h0 h2]; omega⟩
theorem pick_int (lo hi : Int) (l : List Int) (hb : (l.all fun z => decide (lo ≤ z) && decide (z ≤ hi)) = true) (n : Nat) (hn : l.length = n) {i : Int} (h0 : 0 ≤ i) (h1 : i < n) (h2 : n ≤ 1000) : ∃ z, idxD (.list (l.map PyData.int)) (.int i) = .ok (.int z) ∧ lo ≤ z ∧ z ≤ hi := by
  subst hn
  have hi' : i.toNat < l.length := by omega
  refine ⟨l[i.toNat], pidx_list h0 (by omega) (by rw [List.getElem?_map, List.getElem?_eq_getElem hi']; rfl), ?_⟩
  have := List.all_eq_true.mp hb _ (List.getElem_mem hi')
  simpa using this
theorem pick_str (l : List String) (n : Nat) (hn : l.length = n) {i : Int} (h0 : 0 ≤ i) (h1 : i < n) (h2 : n ≤ 1000) : ∃ w, w ∈ l ∧ idxD (.list (l.map fun x => .str (Str.ofString x))) (.int i) = .ok (.str (Str.ofString w)) := by
  subst hn
  have hi' : i.toNat < l.length := by omega
  exact ⟨l[i.toNat], List.getElem_mem hi', pidx_list h0 (by omega) (by rw [List.getElem?_map, List.getElem?_eq_getElem hi']; rfl)⟩
theorem pick_intm (lo hi : Int) (l : List Int) (hb : (l.all fun z => decide (lo ≤ z) && decide (z ≤ hi)) = true) (m : Int) (hm : m = (l.length : Int)) (h1 : 0 < m ∧ m ≤ 1000) (x : Int) : ∃ z, idxD (.list (l.map PyData.int)) (.int (x % m)) = .ok (.int z) ∧ lo ≤ z ∧ z ≤ hi :=
  pick_int lo hi l hb l.length rfl (Int.emod_nonneg _ (by omega)) (hm ▸ Int.emod_lt_of_pos _ h1.1) (by omega)
theorem pick_strm (l : List String) (m : Int) (hm : m = (l.length : Int)) (h1 : 0 < m ∧ m ≤ 1000) (x : Int) : ∃ w, w ∈ l ∧ idxD (.list (l.map fun x => .str (Str.ofString x))) (.int (x % m)) = .ok (.str (Str.ofString w)) :=
  pick_str l l.length rfl (Int.emod_nonneg _ (by omega)) (hm ▸ Int.emod_lt_of_pos _ h1.1) (by omega)
noncomputable def nameWords : List String := ["num", "name", "sum", "less", "times", "part", "rest", "below", "same", "when", "let"]
theorem nameWords_ok {w : String} (h : w ∈ nameWords) : Nm (Str.ofString w) := by
  have : ∀ x ∈ nameWords, (∀ c ∈ (Str.ofString x).cps.toList, 97 ≤ c ∧ c ≤ 122) ∧ 1 ≤ slen (Str.ofString x) ∧ slen (Str.ofString x) ≤ 8 := by decide +kernel
  exact this w h
end Mine
-- MPure4
set_option autoImplicit false
set_option linter.all false
namespace Mine
open PySem

theorem idx_back (l r : List D) (a : D) (h : l.length + r.length < 1000000) : idxD (.list (l ++ a :: r)) (.int (-((r.length + 1 : Nat) : Int))) = .ok a := by
  have e1 : idxInt (-((r.length + 1 : Nat) : Int)) = true := by simp only [idxInt, Bool.and_eq_true, decide_eq_true_eq]; omega
  have e2 : place (-((r.length + 1 : Nat) : Int)) (l ++ a :: r).length = some l.length := by
    unfold place
    rw [if_neg (by omega), if_pos (by simp; omega)]
    simp; omega
  have e3 : (l ++ a :: r)[l.length]? = some a := by simp
  simp only [idxD, e1, if_true, e2, e3]
theorem slice_back (l r : List D) (h : l.length + r.length < 1000000) (hr : 0 < r.length) : sliceD (.list (l ++ r)) none (some (-((r.length : Nat) : Int))) = .ok (.list l) := by
  have e1 : idxInt (-((r.length : Nat) : Int)) = true := by simp only [idxInt, Bool.and_eq_true, decide_eq_true_eq]; omega
  simp only [sliceD, partOk, e1, Bool.and_self, if_true]
  rw [if_pos (by simp [big]; omega)]
  have e2 : clip (l ++ r).length (-((r.length : Nat) : Int)) = l.length := by
    unfold clip
    rw [if_pos (by omega)]
    simp only [List.length_append]; omega
  simp only [cut, Option.elim, e2, List.drop_zero, Nat.sub_zero, List.take_left']
theorem Za8 {l : List D} {a : D} (h : l.length < 900000) : idxD (.list (l ++ [a])) (.int (-1)) = .ok a := idx_back l [] a (by simp; omega)
theorem Zbm {l : List D} {a b : D} (h : l.length < 900000) : idxD (.list (l ++ [a, b])) (.int (-1)) = .ok b := by
  have := idx_back (l ++ [a]) [] b (by simp; omega)
  rwa [List.append_assoc] at this
theorem Za4 {l : List D} {a b : D} (h : l.length < 900000) : idxD (.list (l ++ [a, b])) (.int (-2)) = .ok a := idx_back l [b] a (by simp; omega)
theorem ZbB {l : List D} {a b c : D} (h : l.length < 900000) : idxD (.list (l ++ [a, b, c])) (.int (-1)) = .ok c := by
  have := idx_back (l ++ [a, b]) [] c (by simp; omega)
  rwa [List.append_assoc] at this
theorem Za6 {l : List D} {a b c : D} (h : l.length < 900000) : idxD (.list (l ++ [a, b, c])) (.int (-2)) = .ok b := by
  have := idx_back (l ++ [a]) [c] b (by simp; omega)
  rwa [List.append_assoc] at this
theorem Zbo {l : List D} {a b c : D} (h : l.length < 900000) : idxD (.list (l ++ [a, b, c])) (.int (-3)) = .ok a := idx_back l [b, c] a (by simp; omega)
theorem Zbd {l : List D} {a : D} (h : l.length < 900000) : sliceD (.list (l ++ [a])) none (some (-1)) = .ok (.list l) := slice_back l [a] (by simp; omega) (by simp)
theorem ZbF {l : List D} {a b : D} (h : l.length < 900000) : sliceD (.list (l ++ [a, b])) none (some (-2)) = .ok (.list l) := slice_back l [a, b] (by simp; omega) (by simp)
theorem Zbc {l : List D} {a b c : D} (h : l.length < 900000) : sliceD (.list (l ++ [a, b, c])) none (some (-3)) = .ok (.list l) := slice_back l [a, b, c] (by simp; omega) (by simp)
theorem addl_ok {a b : List D} (h : a.length + b.length ≤ 1048576) : binD .Add (.list a) (.list b) = .ok (.list (a ++ b)) := (bin_addl a b).trans (if_pos (show _ ≤ big from h))
theorem from_end1 {l : List D} (h : 0 < l.length) : ∃ r a, l = r ++ [a] := ⟨l.dropLast, l.getLast (by intro q; subst q; simp at h), (List.dropLast_concat_getLast _).symm⟩
theorem from_end2 {l : List D} (h : 1 < l.length) : ∃ r a b, l = r ++ [a, b] := by
  obtain ⟨r, b, rfl⟩ := from_end1 (l := l) (by omega)
  simp only [List.length_append, List.length_cons, List.length_nil] at h
  obtain ⟨r, a, rfl⟩ := from_end1 (l := r) (by omega)
  exact ⟨r, a, b, by simp⟩
theorem from_end3 {l : List D} (h : 2 < l.length) : ∃ r a b c, l = r ++ [a, b, c] := by
  obtain ⟨r, c, rfl⟩ := from_end1 (l := l) (by omega)
  simp only [List.length_append, List.length_cons, List.length_nil] at h
  obtain ⟨r, a, b, rfl⟩ := from_end2 (l := r) (by omega)
  exact ⟨r, a, b, c, by simp⟩
mutual
noncomputable def wt : D → Nat
  | .tuple xs => 1 + wts xs
  | _ => 0
noncomputable def wts : List D → Nat
  | [] => 0
  | x :: xs => wt x + wts xs
end
theorem wts_nil : wts [] = 0 := by simp only [wts]
theorem wts_cons (x : D) (l : List D) : wts (x :: l) = wt x + wts l := by simp only [wts]
theorem wts_app (l r : List D) : wts (l ++ r) = wts l + wts r := by
  induction l with
  | nil => simp only [List.nil_append, wts_nil, Nat.zero_add]
  | cons x l ih => simp only [List.cons_append, wts_cons, ih, Nat.add_assoc]
theorem wt_num (v : Int) : wt (numE v) = 1 := by simp only [wt, wts]
theorem wt_name (x : Str) : wt (nameE x) = 1 := by simp only [wt, wts]
theorem wt_two (w : String) (a b : D) : wt (twoE w a b) = 1 + (wt a + wt b) := by simp only [wt, wts]; omega
theorem wt_when (a b c : D) : wt (whenE a b c) = 1 + (wt a + (wt b + wt c)) := by simp only [wt, wts]; omega
theorem wt_let (x : Str) (b c : D) : wt (letE x b c) = 1 + (wt b + wt c) := by simp only [wt, wts]; omega
def Pile (d : Nat) (l : List D) : Prop := ∀ e ∈ l, Ex d e
theorem Pile.mono {d m : Nat} {l : List D} (h : Pile d l) (k : d ≤ m) : Pile m l := fun e he => (h e he).mono k
theorem Pile.app {d : Nat} {l r : List D} (h : Pile d l) (k : Pile d r) : Pile d (l ++ r) := fun e he => (List.mem_append.mp he).elim (h e) (k e)
theorem Pile.one {d : Nat} {e : D} (h : Ex d e) : Pile d [e] := fun x hx => by rw [List.mem_singleton.mp hx]; exact h
theorem Pile.left {d : Nat} {l r : List D} (h : Pile d (l ++ r)) : Pile d l := fun e he => h e (List.mem_append_left _ he)
theorem Pile.at1 {d : Nat} {l : List D} {a : D} (h : Pile d (l ++ [a])) : Ex d a := h a (by simp)
theorem Pile.at2 {d : Nat} {l : List D} {a b : D} (h : Pile d (l ++ [a, b])) : Ex d a ∧ Ex d b := ⟨h a (by simp), h b (by simp)⟩
theorem Pile.at3 {d : Nat} {l : List D} {a b c : D} (h : Pile d (l ++ [a, b, c])) : Ex d a ∧ Ex d b ∧ Ex d c := ⟨h a (by simp), h b (by simp), h c (by simp)⟩
theorem Ex.tag {k : Nat} {d : D} (h : Ex k d) : ∃ (w : String) (l : List D), d = .tuple (.str (Str.ofString w) :: l) ∧ PyData.strOk (Str.ofString w) = true := by
  cases h with
  | num => exact ⟨_, _, rfl, lay_num⟩
  | name => exact ⟨_, _, rfl, lay_name⟩
  | two hw => exact ⟨_, _, rfl, word_lay hw⟩
  | when => exact ⟨_, _, rfl, lay_when⟩
  | lett => exact ⟨_, _, rfl, lay_let⟩
theorem seven_lay : (twoWords.all fun y => PyData.strOk (Str.ofString y)) = true := by decide +kernel
noncomputable abbrev sevenD : List D := [.str (Str.ofString "sum"), .str (Str.ofString "less"), .str (Str.ofString "times"), .str (Str.ofString "part"), .str (Str.ofString "rest"), .str (Str.ofString "below"), .str (Str.ofString "same")]
theorem in_seven {w : String} (h : PyData.strOk (Str.ofString w) = true) : cmpD .In (.str (Str.ofString w)) (.list [.str (Str.ofString "sum"), .str (Str.ofString "less"), .str (Str.ofString "times"), .str (Str.ofString "part"), .str (Str.ofString "rest"), .str (Str.ofString "below"), .str (Str.ofString "same")]) = .ok (.bool (twoWords.contains w)) := in_list (l := twoWords) h seven_lay
theorem pick_two {i : Int} (h0 : 0 ≤ i) (h1 : i < 7) : ∃ w, w ∈ twoWords ∧ idxD (.list [.str (Str.ofString "sum"), .str (Str.ofString "less"), .str (Str.ofString "times"), .str (Str.ofString "part"), .str (Str.ofString "rest"), .str (Str.ofString "below"), .str (Str.ofString "same")]) (.int i) = .ok (.str (Str.ofString w)) := pick_str twoWords 7 rfl h0 h1 (by omega)
section
variable {O : Orc} {G : List D} {s : Slot} {ρ : Env}
noncomputable def whileS (O : Orc) (G : List D) (c : ME) (b : MS) (f : Nat) (ρ : Env) : SR := whileLoop (fun ρ' => ev O G ρ' c) (fun ρ' => ex O G b ρ') f ρ
theorem Za7 (c : ME) (b : MS) : ex O G (.loop c b) (s :: ρ) = whileS O G c b 1000000 (s :: ρ) := by
  simp only [ex]; rfl
theorem whileS_step (c : ME) (b : MS) (f : Nat) : whileS O G c b (f + 1) (s :: ρ) = iteS (ev O G (s :: ρ) c) ((ex O G b (s :: ρ)).then fun ρ' => whileS O G c b f ρ') (.next (s :: ρ)) (s :: ρ) := by
  simp only [whileS, whileLoop]
  cases ev O G (s :: ρ) c with
  | ok d => cases d <;> first | rfl | (rename_i b; cases b <;> rfl)
  | exc c => rfl
  | stuck => rfl
end
theorem cmp_eq_list (a b : List D) : cmpD .Eq (.list a) (.list b) = if eqOk (.list a) && eqOk (.list b) then .ok (.bool (PyData.eqv (.list a) (.list b))) else .stuck := yes_if _
theorem cmp_ne_list (a b : List D) : cmpD .NotEq (.list a) (.list b) = if eqOk (.list a) && eqOk (.list b) then .ok (.bool (!PyData.eqv (.list a) (.list b))) else .stuck := no_if _
theorem eq_nil_nil : cmpD .Eq (.list []) (.list []) = .ok (.bool true) := Eq.trans rfl rfl
theorem eq_one_nil {k : Nat} {e : D} (h : Ex k e) (hk : k ≤ 62) : cmpD .Eq (.list [e]) (.list []) = .ok (.bool false) := by
  have h1 := h.deep
  have h2 : eqOk (.list [e]) = true := by
    have h3 : PyData.depth (.list [e]) ≤ e.depth + 1 := by simp [PyData.depth, PyData.depthAll]
    simp only [eqOk, PyData.canLay0, PyData.canLayAll0, h.lay, Bool.true_and, Bool.and_true, decide_eq_true_eq]; omega
  rw [cmp_eq_list, h2]; rfl
theorem range_mem {u v : Int} {x : D} (h : x ∈ rangeD u v) : ∃ k : Int, x = .int k ∧ u ≤ k ∧ k < v := by
  simp only [rangeD, List.mem_map, List.mem_range] at h
  obtain ⟨k, hk, rfl⟩ := h
  exact ⟨u + k, rfl, by omega, by omega⟩
theorem Ex.tagN {k : Nat} {d : D} (h : Ex k d) : ∃ (w : String) (l : List D), d = .tuple (.str (Str.ofString w) :: l) ∧ PyData.strOk (Str.ofString w) = true ∧ (w = "name" → Ex 0 d) := by
  cases h with
  | num => exact ⟨_, _, rfl, lay_num, fun h => absurd h (by decide)⟩
  | name hx => exact ⟨_, _, rfl, lay_name, fun _ => .name hx⟩
  | two hw => exact ⟨_, _, rfl, word_lay hw, fun h => by have := (two_ne hw).2.1; rw [h] at this; cases this⟩
  | when => exact ⟨_, _, rfl, lay_when, fun h => absurd h (by decide)⟩
  | lett => exact ⟨_, _, rfl, lay_let, fun h => absurd h (by decide)⟩
theorem cut_map {α β : Type} (f : α → β) (l : List α) (a b : Option Int) : cut (l.map f) a b = (cut l a b).map f := by
  simp only [cut, List.length_map, List.map_take, List.map_drop]
theorem slice_ints {ys : List Int} {a b : Int} (h : ys.length ≤ 1000) (ha0 : 0 ≤ a) (ha1 : a < 1000) (hb0 : 0 ≤ b) (hb1 : b < 1000) : sliceD (.list (ys.map PyData.int)) (some a) (some b) = .ok (.list ((cut ys (some a) (some b)).map PyData.int)) := by
  have e1 : idxInt a = true := by simp only [idxInt, Bool.and_eq_true, decide_eq_true_eq]; omega
  have e2 : idxInt b = true := by simp only [idxInt, Bool.and_eq_true, decide_eq_true_eq]; omega
  simp only [sliceD, partOk, e1, e2, Bool.and_self, if_true, List.length_map, cut_map]
  exact if_pos (by simp only [big]; omega)
noncomputable def fiveWords : List String := ["sum", "less", "times", "part", "rest", "part", "rest"]
theorem pick_five {i : Int} (h0 : 0 ≤ i) (h1 : i < 7) : ∃ w, w ∈ twoWords ∧ idxD (.list [.str (Str.ofString "sum"), .str (Str.ofString "less"), .str (Str.ofString "times"), .str (Str.ofString "part"), .str (Str.ofString "rest"), .str (Str.ofString "part"), .str (Str.ofString "rest")]) (.int i) = .ok (.str (Str.ofString w)) := by
  obtain ⟨w, hw, e⟩ := pick_str fiveWords 7 rfl h0 h1 (by omega)
  exact ⟨w, (by decide : ∀ x ∈ fiveWords, x ∈ twoWords) w hw, e⟩
theorem pick_twom (x : Int) : ∃ w, w ∈ twoWords ∧ idxD (.list [.str (Str.ofString "sum"), .str (Str.ofString "less"), .str (Str.ofString "times"), .str (Str.ofString "part"), .str (Str.ofString "rest"), .str (Str.ofString "below"), .str (Str.ofString "same")]) (.int (x % 7)) = .ok (.str (Str.ofString w)) := pick_strm twoWords 7 rfl (by decide) x
theorem pick_fivem (x : Int) : ∃ w, w ∈ twoWords ∧ idxD (.list [.str (Str.ofString "sum"), .str (Str.ofString "less"), .str (Str.ofString "times"), .str (Str.ofString "part"), .str (Str.ofString "rest"), .str (Str.ofString "part"), .str (Str.ofString "rest")]) (.int (x % 7)) = .ok (.str (Str.ofString w)) := pick_five (by omega) (by omega)
section
variable {O : Orc} {G : List D} {s : Slot} {ρ : Env} {i : Nat} {b : MS} {x y z u : D}
theorem Zbl : forS O G i b (s :: ρ) (.tuple [x, y]) = forLoop (bodyS O G i b) [x, y] (s :: ρ) := Eq.trans rfl rfl
theorem Zbb : forS O G i b (s :: ρ) (.tuple [x, y, z]) = forLoop (bodyS O G i b) [x, y, z] (s :: ρ) := Eq.trans rfl rfl
theorem ZaS : sliceD (.tuple [x, y, z]) (some 1) none = .ok (.tuple [y, z]) := slice_tup1 (by simp)
theorem ZaE : sliceD (.tuple [x, y, z, u]) (some 1) none = .ok (.tuple [y, z, u]) := slice_tup1 (by simp)
theorem ZaL : sliceD (.tuple [x, y, z, u]) (some 2) none = .ok (.tuple [z, u]) := slice_tup2 (by simp)
theorem ZbC : b1D .list (.tuple [x, y]) = .ok (.list [x, y]) := Eq.trans rfl rfl
theorem Zbu : b1D .list (.tuple [x, y, z]) = .ok (.list [x, y, z]) := Eq.trans rfl rfl
end
end Mine
-- MPure5
set_option autoImplicit false
set_option linter.all false
namespace Mine
open PySem

noncomputable def compD (O : Orc) (f : Nat) (x : D) : R D := match seqD x with
  | some l => if l.length ≤ big then (mapCall O f l).bind fun r => .ok (.list r) else .stuck
  | none => .stuck
noncomputable def mapR (r : R (D × Bool)) (q : R (List D)) : R (List D) := r.bind fun r => if atomD r.1 then q.bind fun rs => .ok (r.1 :: rs) else .stuck
noncomputable def maxR : Option Int → R D
  | some m => .ok (.int m)
  | none => .stuck
noncomputable def refS (O : Orc) (f : Nat) (sl : Option Slot) (r : R (List D)) (ρ : Env) (i : Nat) : SR := match sl with
  | some (.own d) => SR.of r ρ fun xs => SR.of (O.rf f xs d) ρ fun d' => .next (ρ.set i (.own d'))
  | _ => .stuck
section
variable {O : Orc} {G : List D} {s : Slot} {ρ : Env}
theorem ev_comp (f : Nat) (a : ME) : ev O G (s :: ρ) (.comp f a) = if a.esc = true then .stuck else (ev O G (s :: ρ) a).bind (compD O f) := by
  simp only [ev]; rfl
theorem comp_l0 {f : Nat} : compD O f (.list []) = (mapCall O f []).bind fun r => .ok (.list r) := Eq.trans rfl rfl
theorem comp_l2 {f : Nat} {x y : D} : compD O f (.list [x, y]) = (mapCall O f [x, y]).bind fun r => .ok (.list r) := Eq.trans rfl rfl
theorem comp_l3 {f : Nat} {x y z : D} : compD O f (.list [x, y, z]) = (mapCall O f [x, y, z]).bind fun r => .ok (.list r) := Eq.trans rfl rfl
theorem mapCall_nil (f : Nat) : mapCall O f [] = .ok [] := by simp only [mapCall]
theorem mapCall_cons (f : Nat) (x : D) (xs : List D) : mapCall O f (x :: xs) = mapR (O.fn f [x]) (mapCall O f xs) := by simp only [mapCall, mapR]
theorem mapR_int (i : Int) (b : Bool) (rs : List D) : mapR (.ok (.int i, b)) (.ok rs) = .ok (.int i :: rs) := Eq.trans rfl rfl
theorem ev_maxd (a : ME) : ev O G (s :: ρ) (.maxd a) = (ev O G (s :: ρ) a).bind maxdD := by simp only [ev]
theorem maxd_nil : maxdD (.list []) = .ok (.int 0) := Eq.trans rfl rfl
theorem maxd_cons (i : Int) (r : List D) : maxdD (.list (.int i :: r)) = maxR (maxFrom i r) := by simp only [maxdD]; unfold maxR; rfl
theorem maxR_some (i : Int) : maxR (some i) = .ok (.int i) := Eq.trans rfl rfl
theorem maxFrom_nil (m : Int) : maxFrom m [] = some m := by simp only [maxFrom]
theorem maxFrom_cons (m i : Int) (r : List D) : maxFrom m (.int i :: r) = maxFrom (max m i) r := by simp only [maxFrom]
theorem b1_sum (l : List D) : b1D .sum (.list l) = maxR (sumD l) := by simp only [b1D]; unfold maxR; rfl
theorem sumD_nil : sumD [] = some 0 := by simp only [sumD]
theorem sumD_cons (i : Int) (r : List D) : sumD (.int i :: r) = (sumD r).map (i + ·) := by simp only [sumD]
theorem ex_callRef (f : Nat) (as : MEs) (i : Nat) : ex O G (.callRef f as i) (s :: ρ) = if as.esc = true then .stuck else refS O f (s :: ρ)[i]? (evs O G (s :: ρ) as) (s :: ρ) i := by
  simp only [ex]; rfl
theorem refS_own {f : Nat} {d : D} {xs : List D} {i : Nat} : refS O f (some (.own d)) (.ok xs) (s :: ρ) i = SR.of (O.rf f xs d) (s :: ρ) fun d' => .next ((s :: ρ).set i (.own d')) := Eq.trans rfl rfl
theorem ex_asgFresh (i f : Nat) (as : MEs) : ex O G (.asgFresh i f as) (s :: ρ) = if as.esc = true then .stuck else SR.of (evs O G (s :: ρ) as) (s :: ρ) fun xs => SR.of (O.fn f xs) (s :: ρ) fun r => if (r.2 && freshOk r.1) = true then .next ((s :: ρ).set i (.own r.1)) else .stuck := by
  simp only [ex]
end
noncomputable def finR (k : Nat) : SR → R D
  | .next ρ => ownD ρ[k]?
  | _ => .stuck
theorem finR_next (k : Nat) (ρ : Env) : finR k (.next ρ) = ownD ρ[k]? := Eq.trans rfl rfl
theorem orc_rf {fns : List MFn} {G : List D} {n i : Nat} {F : MFn} {ds : List D} {d : D} (h : fns[i]? = some F) (hr : F.ref = true) (hl : ds.length + 1 = F.args) :
    (orc fns G (n + 1)).rf i ds d = finR ds.length (ex (orc fns G n) G F.body (ds.map Slot.fr ++ Slot.own d :: List.replicate (F.slots.length - (ds.length + 1)) Slot.unset)) := by
  simp only [orc, h, runRef]
  rw [if_pos ⟨hr, hl⟩]
  cases ex (orc fns G n) G F.body (ds.map Slot.fr ++ Slot.own d :: List.replicate (F.slots.length - (ds.length + 1)) Slot.unset) with
  | next ρ => simp only [finR]; unfold ownD; rfl
  | _ => rfl
noncomputable abbrev strL (l : List Str) : List D := l.map PyData.str
def Nms (l : List Str) : Prop := ∀ y ∈ l, Nm y
noncomputable def add1 (f : List Str) (x : Str) : List Str := if f.contains x then f else f ++ [x]
noncomputable def addAll (f l : List Str) : List Str := l.foldl add1 f
theorem addAll_nil (f : List Str) : addAll f [] = f := rfl
theorem addAll_cons (f l : List Str) (x : Str) : addAll f (x :: l) = addAll (add1 f x) l := rfl
theorem addAll_app (f l r : List Str) : addAll f (l ++ r) = addAll (addAll f l) r := List.foldl_append
theorem add1_mem {f : List Str} {x y : Str} : y ∈ add1 f x ↔ y ∈ f ∨ y = x := by
  unfold add1
  split
  · rename_i h
    rw [List.contains_iff_mem] at h
    exact ⟨.inl, fun q => q.elim id fun q => q ▸ h⟩
  · simp
theorem addAll_mem {l : List Str} : ∀ {f : List Str} {y : Str}, y ∈ addAll f l ↔ y ∈ f ∨ y ∈ l := by
  induction l with
  | nil => intro f y; simp [addAll_nil]
  | cons x l ih => intro f y; rw [addAll_cons, ih, add1_mem, List.mem_cons, or_assoc]
theorem addAll_len {l : List Str} : ∀ {f : List Str}, (addAll f l).length ≤ f.length + l.length := by
  induction l with
  | nil => intro f; simp [addAll_nil]
  | cons x l ih =>
    intro f
    rw [addAll_cons]
    have h1 := ih (f := add1 f x)
    have h2 : (add1 f x).length ≤ f.length + 1 := by unfold add1; split <;> simp
    simp only [List.length_cons]; omega
theorem addAll_nodup {l : List Str} : ∀ {f : List Str}, f.Nodup → (addAll f l).Nodup := by
  induction l with
  | nil => intro f h; exact h
  | cons x l ih =>
    intro f h
    rw [addAll_cons]
    refine ih ?_
    unfold add1
    split
    · exact h
    · rename_i hc
      rw [List.contains_iff_mem] at hc
      rw [List.nodup_append]
      exact ⟨h, by simp, fun a ha b hb => by rw [List.mem_singleton.mp hb]; exact fun q => hc (q ▸ ha)⟩
theorem addAll_fresh {l : List Str} : ∀ {f : List Str}, l.Nodup → (∀ y ∈ l, y ∉ f) → addAll f l = f ++ l := by
  induction l with
  | nil => intro f _ _; simp [addAll_nil]
  | cons x l ih =>
    intro f h hd
    rw [List.nodup_cons] at h
    have hx : add1 f x = f ++ [x] := by
      unfold add1
      rw [if_neg]
      rw [List.contains_iff_mem]
      exact hd x (.head _)
    rw [addAll_cons, hx, ih h.2 fun y hy q => ?_, List.append_assoc]; rfl
    rcases List.mem_append.mp q with q | q
    · exact hd y (.tail _ hy) q
    · exact h.1 (List.mem_singleton.mp q ▸ hy)
theorem addAll_own {l : List Str} (h : l.Nodup) : addAll [] l = l := addAll_fresh h fun _ _ q => nomatch q
theorem addAll_assoc (f : List Str) : ∀ (y x : List Str), addAll (addAll f x) y = addAll f (addAll x y) := by
  intro y
  induction y with
  | nil => intro x; rfl
  | cons a y ih =>
    intro x
    rw [addAll_cons, addAll_cons]
    by_cases ha : a ∈ x
    · have e1 : add1 x a = x := by unfold add1; rw [if_pos (List.contains_iff_mem.mpr ha)]
      have e2 : add1 (addAll f x) a = addAll f x := by unfold add1; rw [if_pos (List.contains_iff_mem.mpr (addAll_mem.mpr (.inr ha)))]
      rw [e1, e2, ih]
    · have e1 : add1 x a = x ++ [a] := by unfold add1; rw [if_neg (by rw [List.contains_iff_mem]; exact ha)]
      rw [e1, ← ih, addAll_app]; rfl
theorem filter_add1 (p : Str → Bool) (f : List Str) (x : Str) : (add1 f x).filter p = if p x then add1 (f.filter p) x else f.filter p := by
  by_cases hx : x ∈ f
  · have e1 : add1 f x = f := by unfold add1; rw [if_pos (List.contains_iff_mem.mpr hx)]
    rw [e1]
    split
    · rename_i hp
      unfold add1
      rw [if_pos (List.contains_iff_mem.mpr (List.mem_filter.mpr ⟨hx, hp⟩))]
    · rfl
  · have e1 : add1 f x = f ++ [x] := by unfold add1; rw [if_neg (by rw [List.contains_iff_mem]; exact hx)]
    rw [e1, List.filter_append]
    split
    · rename_i hp
      unfold add1
      rw [if_neg (by rw [List.contains_iff_mem]; exact fun q => hx (List.mem_filter.mp q).1)]
      simp [hp]
    · rename_i hp
      simp [hp]
theorem filter_addAll (p : Str → Bool) : ∀ (l f : List Str), (addAll f l).filter p = addAll (f.filter p) (l.filter p) := by
  intro l
  induction l with
  | nil => intro f; rfl
  | cons x l ih =>
    intro f
    rw [addAll_cons, ih, filter_add1]
    cases hp : p x with
    | true => rw [if_pos rfl, List.filter_cons, if_pos hp, addAll_cons]
    | false => rw [if_neg (by simp), List.filter_cons, if_neg (by simp [hp])]
theorem Nms.addAll {f l : List Str} (hf : Nms f) (hl : Nms l) : Nms (addAll f l) := fun y hy => (addAll_mem.mp hy).elim (hf y) (hl y)
theorem Nms.filter {l : List Str} (p : Str → Bool) (h : Nms l) : Nms (l.filter p) := fun y hy => h y (List.mem_filter.mp hy).1
theorem Nms.app {f l : List Str} (hf : Nms f) (hl : Nms l) : Nms (f ++ l) := fun y hy => (List.mem_append.mp hy).elim (hf y) (hl y)
theorem Nms.one {x : Str} (h : Nm x) : Nms [x] := fun y hy => List.mem_singleton.mp hy ▸ h
theorem Nms.nil : Nms [] := fun _ h => nomatch h
theorem strL_lay {l : List Str} (h : Nms l) : PyData.canLayAll0 (strL l) = true := by
  induction l with
  | nil => rfl
  | cons x l ih => simp only [List.map_cons, PyData.canLayAll0, PyData.canLay0, strOk_letters (h x (.head _)).1, ih fun y hy => h y (.tail _ hy), Bool.and_self]
theorem strL_deep (l : List Str) : PyData.depthAll (strL l) = 0 := by
  induction l with
  | nil => rfl
  | cons x l ih => simp only [List.map_cons, PyData.depthAll, PyData.depth, ih]; rfl
theorem strL_eqOk {l : List Str} (h : Nms l) : eqOk (.list (strL l)) = true := by
  simp only [eqOk, PyData.canLay0, strL_lay h, PyData.depth, strL_deep]; rfl
theorem str_eqOk {x : Str} (h : Nm x) : eqOk (.str x) = true := by
  simp only [eqOk, PyData.canLay0, strOk_letters h.1, PyData.depth]; rfl
theorem strL_any (l : List Str) (x : Str) : ((strL l).any fun y => PyData.eqv y (.str x)) = l.contains x := by
  induction l with
  | nil => rfl
  | cons y l ih => simp only [List.map_cons, List.any_cons, ih, List.contains_cons, PyData.eqv]; rw [Bool.beq_comm]
theorem notin_strL {x : Str} {l : List Str} (hx : Nm x) (hl : Nms l) : cmpD .NotIn (.str x) (.list (strL l)) = .ok (.bool (!l.contains x)) := by
  rw [cmp_notin_list, str_eqOk hx, strL_eqOk hl, strL_any]; rfl
theorem eqv_strL (l : List Str) : PyData.eqvAll (strL l) (strL l) = true := by
  induction l with
  | nil => rfl
  | cons x l ih => simp only [List.map_cons, PyData.eqvAll, PyData.eqv, ih, beq_self_eq_true, Bool.and_self]
theorem eq_strL {l : List Str} (hl : Nms l) : cmpD .Eq (.list (strL l)) (.list (strL l)) = .ok (.bool true) := by
  rw [cmp_eq_list, strL_eqOk hl]
  simp only [Bool.and_self, if_true, PyData.eqv, eqv_strL]
theorem ne_strL {l : List Str} (hl : Nms l) : cmpD .NotEq (.list (strL l)) (.list (strL l)) = .ok (.bool false) := by
  rw [cmp_ne_list, strL_eqOk hl]
  simp only [Bool.and_self, if_true, PyData.eqv, eqv_strL]; rfl
theorem fresh_strL (l : List Str) : freshOk (.list (strL l)) = true := by
  unfold freshOk
  induction l with
  | nil => rfl
  | cons x l ih => simp only [List.map_cons, strsD, Option.isSome_map] at ih ⊢; exact ih
theorem strL_snoc (l : List Str) (x : Str) : strL l ++ [.str x] = strL (l ++ [x]) := by simp
section
variable {O : Orc} {G : List D} {s : Slot} {ρ : Env}
noncomputable def bodyO (O : Orc) (G : List D) (j : Nat) (t : ME) (b : Bool) (x : D) (ρ : Env) : SR := iteS (ev O G (ρ.set j (.fr x)) t) (.ret (.bool b) false (ρ.set j (.fr x))) (.next (ρ.set j (.fr x))) (ρ.set j (.fr x))
theorem ex_forO {j i : Nat} {t : ME} {b : Bool} {l : List D} (h : (s :: ρ)[i]? = some (.own (.list l))) (hl : l.length ≤ 1048576) (hij : i ≠ j) : ex O G (.forO j i t b) (s :: ρ) = forLoop (bodyO O G j t b) l (s :: ρ) := by
  simp only [ex, h]
  rw [if_pos ⟨show l.length ≤ big from hl, hij⟩]
  congr 1
  funext x ρ'
  unfold bodyO foS
  cases ev O G (List.set ρ' j (.fr x)) t with
  | ok d => cases d <;> first | rfl | (rename_i b; cases b <;> rfl)
  | exc c => rfl
  | stuck => rfl
end
theorem range13 : rangeD 1 3 = [.int 1, .int 2] := rfl
theorem range14 : rangeD 1 4 = [.int 1, .int 2, .int 3] := rfl
theorem range24 : rangeD 2 4 = [.int 2, .int 3] := rfl
end Mine
-- C02
set_option autoImplicit false
set_option linter.all false
namespace Mine
open PySem
namespace L02
noncomputable def F_parts_of : MFn := { name := (Str.ofString "parts_of"), slots := [(Str.ofString "expr")], args := 1, body :=
  (.seq (.ite (.or (.cmp .Eq (.idx (.var 0) (.cint 0)) (.cstr (Str.ofString "num"))) (.cmp .Eq (.idx (.var 0) (.cint 0)) (.cstr (Str.ofString "name"))))
  (.seq (.ret (.lstD .nil))
  .skip)
  .skip)
  (.seq (.ite (.cmp .Eq (.idx (.var 0) (.cint 0)) (.cstr (Str.ofString "let")))
  (.seq (.ret (.lstD (.cons (.idx (.var 0) (.cint 2)) (.cons (.idx (.var 0) (.cint 3)) .nil))))
  .skip)
  .skip)
  (.seq (.ret (.bi1 .list (.slice (.var 0) (.some (.cint 1)) .none)))
  .skip))) }
noncomputable def F_size : MFn := { name := (Str.ofString "size"), slots := [(Str.ofString "expr")], args := 1, body :=
  (.seq (.ret (.bin .Add (.cint 1) (.bi1 .sum (.comp 1 (.call 0 (.cons (.var 0) .nil))))))
  .skip) }
noncomputable def F_deep : MFn := { name := (Str.ofString "deep"), slots := [(Str.ofString "expr")], args := 1, body :=
  (.seq (.ret (.bin .Add (.cint 1) (.maxd (.comp 2 (.call 0 (.cons (.var 0) .nil))))))
  .skip) }
noncomputable def F_gather : MFn := { name := (Str.ofString "gather"), slots := [(Str.ofString "expr"), (Str.ofString "bound"), (Str.ofString "found"), (Str.ofString "part")], args := 3, ref := true, body :=
  (.seq (.ite (.cmp .Eq (.idx (.var 0) (.cint 0)) (.cstr (Str.ofString "name")))
  (.seq (.ite (.and (.cmp .NotIn (.idx (.var 0) (.cint 1)) (.var 1)) (.cmp .NotIn (.idx (.var 0) (.cint 1)) (.own 2)))
  (.seq (.append 2 (.idx (.var 0) (.cint 1)))
  .skip)
  .skip)
  .skip)
  (.seq (.ite (.cmp .Eq (.idx (.var 0) (.cint 0)) (.cstr (Str.ofString "let")))
  (.seq (.callRef 3 (.cons (.idx (.var 0) (.cint 2)) (.cons (.var 1) .nil)) 2)
  (.seq (.callRef 3 (.cons (.idx (.var 0) (.cint 3)) (.cons (.bin .Add (.var 1) (.lstD (.cons (.idx (.var 0) (.cint 1)) .nil))) .nil)) 2)
  .skip))
  (.seq (.forL 3 (.call 0 (.cons (.var 0) .nil))
  (.seq (.callRef 3 (.cons (.var 3) (.cons (.var 1) .nil)) 2)
  .skip))
  .skip))
  .skip))
  .skip) }
noncomputable def F_needs : MFn := { name := (Str.ofString "needs"), slots := [(Str.ofString "expr"), (Str.ofString "found")], args := 1, body :=
  (.seq (.asgOwn 1 (.lstD .nil))
  (.seq (.callRef 3 (.cons (.var 0) (.cons (.lstD .nil) .nil)) 1)
  (.seq (.ret (.own 1))
  .skip))) }
noncomputable def F_law_mixed : MFn := { name := (Str.ofString "_law_mixed"), slots := [(Str.ofString "_law_script"), (Str.ofString "_law_found"), (Str.ofString "_law_more"), (Str.ofString "_law_cell")], args := 1, body :=
  (.seq (.asgOwn 1 (.lstD .nil))
  (.seq (.asg 2 (.cint 1))
  (.seq (.forL 3 (.var 0)
  (.seq (.asg 2 (.bin .Mod (.bin .Add (.bin .Add (.bin .Mult (.var 2) (.cint 6364136223846793005)) (.var 3)) (.cint 1442695040888963407)) (.cint 1000000000000000003)))
  (.seq (.append 1 (.var 2))
  .skip)))
  (.seq (.ret (.own 1))
  .skip)))) }
noncomputable def F_law_cell_at : MFn := { name := (Str.ofString "_law_cell_at"), slots := [(Str.ofString "_law_script"), (Str.ofString "_law_k")], args := 2, body :=
  (.seq (.ite (.cmp .Lt (.var 1) (.bi1 .len (.var 0)))
  (.seq (.ret (.idx (.var 0) (.var 1)))
  .skip)
  .skip)
  (.seq (.ret (.cint 0))
  .skip)) }
noncomputable def F_law_whole : MFn := { name := (Str.ofString "_law_whole"), slots := [(Str.ofString "_law_found")], args := 1, body :=
  (.seq (.ret (.and (.isi (.var 0) .int) (.nt (.isi (.var 0) .bool))))
  .skip) }
noncomputable def F_law_number_by : MFn := { name := (Str.ofString "_law_number_by"), slots := [(Str.ofString "_law_cell"), (Str.ofString "_law_way"), (Str.ofString "_law_more")], args := 1, body :=
  (.seq (.asg 1 (.bin .Mod (.var 0) (.cint 8)))
  (.seq (.asg 2 (.bin .FloorDiv (.var 0) (.cint 8)))
  (.seq (.ite (.cmp .Eq (.var 1) (.cint 0))
  (.seq (.ret (.bin .Sub (.bin .Mod (.var 2) (.cint 2000000001)) (.cint 1000000000)))
  .skip)
  .skip)
  (.seq (.ite (.cmp .Eq (.var 1) (.cint 1))
  (.seq (.ret (.idx (.lstD (.cons (.cint 1000000000) (.cons (.neg (.cint 1000000000)) (.cons (.cint 999999999) (.cons (.neg (.cint 999999999)) .nil))))) (.bin .Mod (.var 2) (.cint 4))))
  .skip)
  .skip)
  (.seq (.ite (.cmp .Eq (.var 1) (.cint 2))
  (.seq (.ret (.bin .Sub (.bin .Mod (.var 2) (.cint 60001)) (.cint 30000)))
  .skip)
  .skip)
  (.seq (.ite (.cmp .Lt (.var 1) (.cint 5))
  (.seq (.ret (.idx (.lstD (.cons (.cint 0) (.cons (.cint 1) (.cons (.neg (.cint 1)) (.cons (.cint 2) (.cons (.cint 3) (.cons (.cint 4) (.cons (.cint 6) (.cons (.cint 8) (.cons (.cint 12) (.cons (.cint 24) (.cons (.neg (.cint 2)) (.cons (.neg (.cint 1)) (.cons (.cint 5) (.cons (.cint 1) (.cons (.cint 50000) (.cons (.cint 30000) (.cons (.cint 2000) .nil)))))))))))))))))) (.bin .Mod (.var 2) (.cint 17))))
  .skip)
  .skip)
  (.seq (.ret (.bin .Sub (.bin .Mod (.var 2) (.cint 13)) (.cint 6)))
  .skip))))))) }
noncomputable def F_law_name_by : MFn := { name := (Str.ofString "_law_name_by"), slots := [(Str.ofString "_law_seed"), (Str.ofString "_law_k"), (Str.ofString "_law_signs"), (Str.ofString "_law_words"), (Str.ofString "_law_more"), (Str.ofString "_law_name"), (Str.ofString "_law_at"), (Str.ofString "_law_turn"), (Str.ofString "_law_spot"), (Str.ofString "_law_two"), (Str.ofString "_law_sign")], args := 2, body :=
  (.seq (.asg 2 (.cstr (Str.ofString "abcdefghijklmnopqrstuvwxyz")))
  (.seq (.asg 3 (.lstD (.cons (.cstr (Str.ofString "num")) (.cons (.cstr (Str.ofString "name")) (.cons (.cstr (Str.ofString "sum")) (.cons (.cstr (Str.ofString "less")) (.cons (.cstr (Str.ofString "times")) (.cons (.cstr (Str.ofString "part")) (.cons (.cstr (Str.ofString "rest")) (.cons (.cstr (Str.ofString "below")) (.cons (.cstr (Str.ofString "same")) (.cons (.cstr (Str.ofString "when")) (.cons (.cstr (Str.ofString "let")) .nil)))))))))))))
  (.seq (.asg 4 (.bin .FloorDiv (.var 0) (.cint 6)))
  (.seq (.ite (.and (.cmp .Eq (.bin .Mod (.var 0) (.cint 6)) (.cint 0)) (.cmp .Lt (.var 1) (.cint 4)))
  (.seq (.ret (.idx (.var 3) (.bin .Mod (.bin .Add (.var 4) (.var 1)) (.cint 11))))
  .skip)
  .skip)
  (.seq (.asg 5 (.cstr (Str.ofString "")))
  (.seq (.asg 6 (.bin .FloorDiv (.var 4) (.cint 7)))
  (.seq (.forR 7 (.cint 0) (.bin .Add (.cint 1) (.bin .Mod (.var 4) (.cint 7)))
  (.seq (.asg 6 (.bin .Add (.bin .Add (.var 6) (.cint 1)) (.bin .Mod (.bin .FloorDiv (.var 4) (.cint 182)) (.cint 25))))
  (.seq (.asg 5 (.bin .Add (.var 5) (.idx (.var 2) (.bin .Mod (.var 6) (.cint 26)))))
  .skip)))
  (.seq (.asg 8 (.bin .Mod (.bin .FloorDiv (.var 4) (.cint 4550)) (.bi1 .len (.var 5))))
  (.seq (.ite (.cmp .Gt (.var 1) (.cint 3))
  (.seq (.asg 8 (.bi2 .min (.var 8) (.cint 6)))
  (.seq (.asg 9 (.bin .Add (.idx (.var 2) (.bin .Mod (.bin .Add (.var 6) (.bin .FloorDiv (.var 1) (.cint 26))) (.cint 26))) (.idx (.var 2) (.bin .Mod (.var 1) (.cint 26)))))
  (.seq (.ret (.bin .Add (.bin .Add (.slice (.var 5) .none (.some (.var 8))) (.var 9)) (.slice (.var 5) (.some (.var 8)) (.some (.cint 6)))))
  .skip)))
  .skip)
  (.seq (.ite (.cmp .Gt (.bin .Mod (.var 0) (.cint 6)) (.cint 3))
  (.seq (.ret (.bin .Add (.idx (.var 2) (.bin .Mod (.bin .Add (.bin .FloorDiv (.var 4) (.cint 7)) (.var 1)) (.cint 26))) (.var 5)))
  .skip)
  .skip)
  (.seq (.ite (.cmp .Eq (.var 1) (.cint 1))
  (.seq (.asg 10 (.idx (.var 2) (.bin .Mod (.bin .Add (.find (.var 2) (.idx (.var 5) (.var 8))) (.cint 1)) (.cint 26))))
  (.seq (.ret (.bin .Add (.bin .Add (.slice (.var 5) .none (.some (.var 8))) (.var 10)) (.slice (.var 5) (.some (.bin .Add (.var 8) (.cint 1))) .none)))
  .skip))
  .skip)
  (.seq (.ret (.bin .Add (.var 5) (.idx (.lstD (.cons (.cstr (Str.ofString "")) (.cons (.cstr (Str.ofString "")) (.cons (.idx (.var 2) (.bin .Mod (.var 6) (.cint 26))) (.cons (.idx (.var 2) (.bin .Mod (.bin .Add (.var 6) (.cint 1)) (.cint 26))) .nil))))) (.var 1))))
  .skip)))))))))))) }
noncomputable def F_law_step : MFn := { name := (Str.ofString "_law_step"), slots := [(Str.ofString "_law_pile"), (Str.ofString "_law_kind"), (Str.ofString "_law_more"), (Str.ofString "_law_seed"), (Str.ofString "_law_words"), (Str.ofString "_law_word"), (Str.ofString "_law_number"), (Str.ofString "_law_cond"), (Str.ofString "_law_turn")], args := 4, body :=
  (.seq (.asg 4 (.lstD (.cons (.cstr (Str.ofString "sum")) (.cons (.cstr (Str.ofString "less")) (.cons (.cstr (Str.ofString "times")) (.cons (.cstr (Str.ofString "part")) (.cons (.cstr (Str.ofString "rest")) (.cons (.cstr (Str.ofString "below")) (.cons (.cstr (Str.ofString "same")) .nil)))))))))
  (.seq (.asg 5 (.idx (.var 4) (.bin .Mod (.var 2) (.cint 7))))
  (.seq (.ite (.and (.or (.cmp .Eq (.var 1) (.cint 12)) (.cmp .Gt (.var 1) (.cint 16))) (.cmp .Gt (.bi1 .len (.var 0)) (.cint 1)))
  (.seq (.ret (.bin .Add (.slice (.var 0) .none (.some (.neg (.cint 2)))) (.lstD (.cons (.tupD (.cons (.cstr (Str.ofString "let")) (.cons (.call 9 (.cons (.var 3) (.cons (.bin .Mod (.var 2) (.cint 3)) .nil))) (.cons (.idx (.var 0) (.neg (.cint 2))) (.cons (.idx (.var 0) (.neg (.cint 1))) .nil))))) .nil))))
  .skip)
  .skip)
  (.seq (.ite (.and (.cmp .Gt (.var 1) (.cint 12)) (.cmp .Gt (.bi1 .len (.var 0)) (.cint 0)))
  (.seq (.ite (.and (.cmp .Eq (.var 1) (.cint 14)) (.cmp .In (.idx (.idx (.var 0) (.neg (.cint 1))) (.cint 0)) (.var 4)))
  (.seq (.asg 5 (.idx (.idx (.var 0) (.neg (.cint 1))) (.cint 0)))
  .skip)
  .skip)
  (.seq (.asg 6 (.tupD (.cons (.cstr (Str.ofString "num")) (.cons (.call 8 (.cons (.bin .FloorDiv (.var 2) (.cint 7)) .nil)) .nil))))
  (.seq (.ite (.cmp .Eq (.var 1) (.cint 16))
  (.seq (.ret (.bin .Add (.slice (.var 0) .none (.some (.neg (.cint 1)))) (.lstD (.cons (.tupD (.cons (.var 5) (.cons (.var 6) (.cons (.idx (.var 0) (.neg (.cint 1))) .nil)))) .nil))))
  .skip)
  .skip)
  (.seq (.ret (.bin .Add (.slice (.var 0) .none (.some (.neg (.cint 1)))) (.lstD (.cons (.tupD (.cons (.var 5) (.cons (.idx (.var 0) (.neg (.cint 1))) (.cons (.var 6) .nil)))) .nil))))
  .skip))))
  .skip)
  (.seq (.ite (.and (.cmp .Eq (.var 1) (.cint 10)) (.cmp .Gt (.bi1 .len (.var 0)) (.cint 0)))
  (.seq (.asg 6 (.tupD (.cons (.cstr (Str.ofString "num")) (.cons (.call 8 (.cons (.bin .FloorDiv (.var 2) (.cint 3)) .nil)) .nil))))
  (.seq (.ret (.bin .Add (.slice (.var 0) .none (.some (.neg (.cint 1)))) (.lstD (.cons (.tupD (.cons (.cstr (Str.ofString "let")) (.cons (.call 9 (.cons (.var 3) (.cons (.bin .Mod (.var 2) (.cint 3)) .nil))) (.cons (.var 6) (.cons (.idx (.var 0) (.neg (.cint 1))) .nil))))) .nil))))
  .skip))
  .skip)
  (.seq (.ite (.and (.cmp .Eq (.var 1) (.cint 11)) (.cmp .Gt (.bi1 .len (.var 0)) (.cint 2)))
  (.seq (.asg 7 (.idx (.var 0) (.neg (.cint 3))))
  (.seq (.forR 8 (.cint 0) (.bin .Mod (.var 2) (.cint 3))
  (.seq (.asg 7 (.tupD (.cons (.cstr (Str.ofString "same")) (.cons (.var 7) (.cons (.tupD (.cons (.cstr (Str.ofString "num")) (.cons (.cint 0) .nil))) .nil)))))
  .skip))
  (.seq (.ret (.bin .Add (.slice (.var 0) .none (.some (.neg (.cint 3)))) (.lstD (.cons (.tupD (.cons (.cstr (Str.ofString "when")) (.cons (.var 7) (.cons (.idx (.var 0) (.neg (.cint 2))) (.cons (.idx (.var 0) (.neg (.cint 1))) .nil))))) .nil))))
  .skip)))
  .skip)
  (.seq (.ite (.and (.cmp .Gt (.var 1) (.cint 5)) (.cmp .Gt (.bi1 .len (.var 0)) (.cint 1)))
  (.seq (.ret (.bin .Add (.slice (.var 0) .none (.some (.neg (.cint 2)))) (.lstD (.cons (.tupD (.cons (.var 5) (.cons (.idx (.var 0) (.neg (.cint 2))) (.cons (.idx (.var 0) (.neg (.cint 1))) .nil)))) .nil))))
  .skip)
  .skip)
  (.seq (.ite (.cmp .Lt (.var 1) (.cint 2))
  (.seq (.ret (.bin .Add (.var 0) (.lstD (.cons (.tupD (.cons (.cstr (Str.ofString "num")) (.cons (.call 8 (.cons (.var 2) .nil)) .nil))) .nil))))
  .skip)
  .skip)
  (.seq (.ret (.bin .Add (.var 0) (.lstD (.cons (.tupD (.cons (.cstr (Str.ofString "name")) (.cons (.call 9 (.cons (.var 3) (.cons (.bin .Mod (.var 2) (.cint 3)) .nil))) .nil))) .nil))))
  .skip))))))))) }
noncomputable def F_law_tree_by : MFn := { name := (Str.ofString "_law_tree_by"), slots := [(Str.ofString "_law_cells"), (Str.ofString "_law_seed"), (Str.ofString "_law_pile"), (Str.ofString "_law_cell")], args := 2, body :=
  (.seq (.asg 2 (.lstD .nil))
  (.seq (.forL 3 (.var 0)
  (.seq (.asg 2 (.call 10 (.cons (.var 2) (.cons (.bin .Mod (.var 3) (.cint 20)) (.cons (.bin .FloorDiv (.var 3) (.cint 20)) (.cons (.var 1) .nil))))))
  .skip))
  (.seq (.loop (.cmp .Gt (.bi1 .len (.var 2)) (.cint 1))
  (.seq (.asg 2 (.bin .Add (.slice (.var 2) .none (.some (.neg (.cint 2)))) (.lstD (.cons (.tupD (.cons (.cstr (Str.ofString "sum")) (.cons (.idx (.var 2) (.neg (.cint 2))) (.cons (.idx (.var 2) (.neg (.cint 1))) .nil)))) .nil))))
  .skip))
  (.seq (.ite (.cmp .Eq (.var 2) (.lstD .nil))
  (.seq (.ret (.tupD (.cons (.cstr (Str.ofString "num")) (.cons (.cint 0) .nil))))
  .skip)
  .skip)
  (.seq (.ret (.idx (.var 2) (.cint 0)))
  .skip))))) }
noncomputable def F_law_link : MFn := { name := (Str.ofString "_law_link"), slots := [(Str.ofString "_law_word"), (Str.ofString "_law_code"), (Str.ofString "_law_row")], args := 2, body :=
  (.seq (.asg 2 (.lstD (.cons (.cint 0) (.cons (.cint 1) (.cons (.neg (.cint 1)) (.cons (.cint 500000000) (.cons (.neg (.cint 500000000)) (.cons (.cint 3) (.cons (.cint 999999999) (.cons (.cint 7) (.cons (.neg (.cint 2)) .nil)))))))))))
  (.seq (.ite (.cmp .Eq (.var 0) (.cstr (Str.ofString "times")))
  (.seq (.asg 2 (.lstD (.cons (.neg (.cint 1)) (.cons (.cint 2) (.cons (.neg (.cint 1)) (.cons (.cint 1000) (.cons (.cint 1) (.cons (.cint 0) (.cons (.cint 31622) (.cons (.neg (.cint 3)) (.cons (.neg (.cint 1)) .nil)))))))))))
  .skip)
  .skip)
  (.seq (.ite (.cmp .Eq (.var 0) (.cstr (Str.ofString "part")))
  (.seq (.asg 2 (.lstD (.cons (.cint 2) (.cons (.neg (.cint 1)) (.cons (.cint 3) (.cons (.cint 5) (.cons (.cint 40000) (.cons (.neg (.cint 2)) (.cons (.cint 30000) (.cons (.cint 7) (.cons (.cint 0) .nil)))))))))))
  .skip)
  .skip)
  (.seq (.ite (.cmp .Eq (.var 0) (.cstr (Str.ofString "rest")))
  (.seq (.asg 2 (.lstD (.cons (.cint 12) (.cons (.cint 8) (.cons (.cint 4) (.cons (.cint 18) (.cons (.cint 12) (.cons (.cint 6) (.cons (.cint 9) (.cons (.cint 6) (.cons (.cint 3) .nil)))))))))))
  .skip)
  .skip)
  (.seq (.ret (.idx (.var 2) (.bin .Mod (.var 1) (.cint 9))))
  .skip))))) }
noncomputable def F_law_many_by : MFn := { name := (Str.ofString "_law_many_by"), slots := [(Str.ofString "_law_seed"), (Str.ofString "_law_cell"), (Str.ofString "_law_words"), (Str.ofString "_law_expr"), (Str.ofString "_law_k"), (Str.ofString "_law_word")], args := 2, body :=
  (.seq (.asg 2 (.lstD (.cons (.cstr (Str.ofString "sum")) (.cons (.cstr (Str.ofString "less")) (.cons (.cstr (Str.ofString "times")) (.cons (.cstr (Str.ofString "part")) (.cons (.cstr (Str.ofString "rest")) (.cons (.cstr (Str.ofString "below")) (.cons (.cstr (Str.ofString "same")) .nil)))))))))
  (.seq (.asg 3 (.tupD (.cons (.cstr (Str.ofString "name")) (.cons (.call 9 (.cons (.var 0) (.cons (.bin .Mod (.var 1) (.cint 40)) .nil))) .nil))))
  (.seq (.forR 4 (.cint 0) (.bin .Add (.cint 5) (.bin .Mod (.bin .FloorDiv (.var 1) (.cint 40)) (.cint 36)))
  (.seq (.asg 5 (.idx (.var 2) (.bin .Mod (.bin .FloorDiv (.var 1) (.cint 1440)) (.cint 7))))
  (.seq (.ite (.cmp .Eq (.bin .Mod (.bin .FloorDiv (.var 1) (.cint 10080)) (.cint 2)) (.cint 1))
  (.seq (.asg 5 (.idx (.var 2) (.bin .Mod (.bin .Add (.bin .FloorDiv (.var 1) (.cint 20160)) (.var 4)) (.cint 2))))
  .skip)
  .skip)
  (.seq (.asg 3 (.tupD (.cons (.var 5) (.cons (.var 3) (.cons (.tupD (.cons (.cstr (Str.ofString "name")) (.cons (.call 9 (.cons (.var 0) (.cons (.var 4) .nil))) .nil))) .nil)))))
  .skip))))
  (.seq (.ret (.var 3))
  .skip)))) }
noncomputable def F_law_expr_by : MFn := { name := (Str.ofString "_law_expr_by"), slots := [(Str.ofString "_law_script"), (Str.ofString "_law_seed"), (Str.ofString "_law_cell"), (Str.ofString "_law_room"), (Str.ofString "_law_word"), (Str.ofString "_law_code"), (Str.ofString "_law_expr"), (Str.ofString "_law_many"), (Str.ofString "_law_k"), (Str.ofString "_law_number")], args := 1, body :=
  (.seq (.asg 1 (.call 6 (.cons (.var 0) (.cons (.cint 0) .nil))))
  (.seq (.asg 2 (.call 6 (.cons (.var 0) (.cons (.cint 1) .nil))))
  (.seq (.asg 3 (.cint 26))
  (.seq (.ite (.cmp .Gt (.bi1 .len (.var 0)) (.cint 63))
  (.seq (.asg 3 (.cint 48))
  .skip)
  .skip)
  (.seq (.ite (.cmp .Lt (.bin .Mod (.var 2) (.cint 8)) (.cint 4))
  (.seq (.ret (.call 11 (.cons (.slice (.var 0) (.some (.cint 2)) (.some (.bin .Add (.cint 2) (.var 3)))) (.cons (.var 1) .nil))))
  .skip)
  .skip)
  (.seq (.ite (.cmp .Eq (.bin .Mod (.var 2) (.cint 8)) (.cint 7))
  (.seq (.ret (.call 13 (.cons (.var 1) (.cons (.bin .FloorDiv (.var 2) (.cint 8)) .nil))))
  .skip)
  .skip)
  (.seq (.asg 4 (.idx (.lstD (.cons (.cstr (Str.ofString "sum")) (.cons (.cstr (Str.ofString "less")) (.cons (.cstr (Str.ofString "times")) (.cons (.cstr (Str.ofString "part")) (.cons (.cstr (Str.ofString "rest")) (.cons (.cstr (Str.ofString "part")) (.cons (.cstr (Str.ofString "rest")) .nil)))))))) (.bin .Mod (.bin .FloorDiv (.var 2) (.cint 8)) (.cint 7))))
  (.seq (.asg 5 (.bin .FloorDiv (.var 2) (.cint 20160)))
  (.seq (.asg 6 (.tupD (.cons (.cstr (Str.ofString "name")) (.cons (.call 9 (.cons (.var 1) (.cons (.cint 3) .nil))) .nil))))
  (.seq (.ite (.cmp .Eq (.bin .Mod (.bin .FloorDiv (.var 2) (.cint 56)) (.cint 3)) (.cint 1))
  (.seq (.asg 6 (.call 11 (.cons (.slice (.var 0) (.some (.cint 2)) (.some (.cint 8))) (.cons (.var 1) .nil))))
  .skip)
  .skip)
  (.seq (.ite (.and (.cmp .Eq (.bin .Mod (.bin .FloorDiv (.var 2) (.cint 56)) (.cint 3)) (.cint 2)) (.or (.cmp .Eq (.var 4) (.cstr (Str.ofString "sum"))) (.cmp .Eq (.var 4) (.cstr (Str.ofString "less")))))
  (.seq (.asg 6 (.tupD (.cons (.cstr (Str.ofString "less")) (.cons (.tupD (.cons (.cstr (Str.ofString "num")) (.cons (.call 12 (.cons (.var 4) (.cons (.bin .FloorDiv (.var 5) (.cint 4)) .nil))) .nil))) (.cons (.var 6) .nil)))))
  .skip)
  .skip)
  (.seq (.asg 7 (.bin .Mod (.bin .FloorDiv (.var 2) (.cint 168)) (.bin .Add (.cint 30) (.bin .Mult (.cint 30) (.bi1 .int (.cmp .Eq (.idx (.var 6) (.cint 0)) (.cstr (Str.ofString "name"))))))))
  (.seq (.ite (.cmp .Eq (.bin .Mod (.bin .FloorDiv (.var 2) (.cint 10080)) (.cint 2)) (.cint 1))
  (.seq (.asg 7 (.bin .Add (.cint 1) (.bin .Mod (.var 7) (.cint 4))))
  .skip)
  .skip)
  (.seq (.forR 8 (.cint 0) (.var 7)
  (.seq (.asg 9 (.call 12 (.cons (.var 4) (.cons (.bin .Add (.bin .FloorDiv (.var 5) (.cint 4)) (.bin .Mult (.var 8) (.bin .Add (.cint 1) (.bin .Mod (.var 5) (.cint 4))))) .nil))))
  (.seq (.ite (.cmp .Eq (.bin .Mod (.bin .FloorDiv (.var 5) (.cint 36)) (.cint 4)) (.cint 1))
  (.seq (.asg 9 (.call 8 (.cons (.bin .Add (.bin .FloorDiv (.var 5) (.cint 144)) (.bin .Mult (.var 8) (.bin .Add (.cint 1) (.bin .Mod (.var 5) (.cint 4))))) .nil)))
  .skip)
  .skip)
  (.seq (.ite (.and (.cmp .Eq (.bin .Mod (.bin .FloorDiv (.var 5) (.cint 36)) (.cint 4)) (.cint 2)) (.cmp .Gt (.bin .Mod (.bin .Add (.bin .FloorDiv (.var 5) (.cint 144)) (.var 8)) (.cint 3)) (.cint 0)))
  (.seq (.asg 6 (.tupD (.cons (.var 4) (.cons (.tupD (.cons (.cstr (Str.ofString "num")) (.cons (.var 9) .nil))) (.cons (.var 6) .nil)))))
  .skip)
  (.seq (.asg 6 (.tupD (.cons (.var 4) (.cons (.var 6) (.cons (.tupD (.cons (.cstr (Str.ofString "num")) (.cons (.var 9) .nil))) .nil)))))
  .skip))
  .skip))))
  (.seq (.ret (.var 6))
  .skip))))))))))))))) }
noncomputable def F_law_size : MFn := { name := (Str.ofString "_law_size"), slots := [(Str.ofString "_law_expr"), (Str.ofString "_law_count"), (Str.ofString "_law_part")], args := 1, body :=
  (.seq (.ite (.or (.cmp .Eq (.idx (.var 0) (.cint 0)) (.cstr (Str.ofString "num"))) (.cmp .Eq (.idx (.var 0) (.cint 0)) (.cstr (Str.ofString "name"))))
  (.seq (.ret (.cint 1))
  .skip)
  .skip)
  (.seq (.asg 1 (.cint 1))
  (.seq (.forL 2 (.slice (.var 0) (.some (.bin .Add (.cint 1) (.bi1 .int (.cmp .Eq (.idx (.var 0) (.cint 0)) (.cstr (Str.ofString "let")))))) .none)
  (.seq (.asg 1 (.bin .Add (.var 1) (.call 15 (.cons (.var 2) .nil))))
  .skip))
  (.seq (.ret (.var 1))
  .skip)))) }
noncomputable def F_law_needs : MFn := { name := (Str.ofString "_law_needs"), slots := [(Str.ofString "_law_expr"), (Str.ofString "_law_found"), (Str.ofString "_law_first"), (Str.ofString "_law_k"), (Str.ofString "_law_name"), (Str.ofString "_law_own")], args := 1, body :=
  (.seq (.ite (.cmp .Eq (.idx (.var 0) (.cint 0)) (.cstr (Str.ofString "name")))
  (.seq (.ret (.lstD (.cons (.idx (.var 0) (.cint 1)) .nil)))
  .skip)
  .skip)
  (.seq (.asgOwn 1 (.lstD .nil))
  (.seq (.ite (.cmp .Eq (.idx (.var 0) (.cint 0)) (.cstr (Str.ofString "num")))
  (.seq (.ret (.own 1))
  .skip)
  .skip)
  (.seq (.asg 2 (.bin .Add (.cint 1) (.bi1 .int (.cmp .Eq (.idx (.var 0) (.cint 0)) (.cstr (Str.ofString "let"))))))
  (.seq (.forR 3 (.var 2) (.bi1 .len (.var 0))
  (.seq (.forL 4 (.call 16 (.cons (.idx (.var 0) (.var 3)) .nil))
  (.seq (.asg 5 (.and (.cmp .Eq (.idx (.var 0) (.cint 0)) (.cstr (Str.ofString "let"))) (.and (.cmp .Eq (.var 3) (.cint 3)) (.cmp .Eq (.var 4) (.idx (.var 0) (.cint 1))))))
  (.seq (.ite (.and (.cmp .NotIn (.var 4) (.own 1)) (.nt (.var 5)))
  (.seq (.append 1 (.var 4))
  .skip)
  .skip)
  .skip)))
  .skip))
  (.seq (.ret (.own 1))
  .skip)))))) }
noncomputable def F_law_deep : MFn := { name := (Str.ofString "_law_deep"), slots := [(Str.ofString "_law_expr"), (Str.ofString "_law_most"), (Str.ofString "_law_part")], args := 1, body :=
  (.seq (.ite (.or (.cmp .Eq (.idx (.var 0) (.cint 0)) (.cstr (Str.ofString "num"))) (.cmp .Eq (.idx (.var 0) (.cint 0)) (.cstr (Str.ofString "name"))))
  (.seq (.ret (.cint 1))
  .skip)
  .skip)
  (.seq (.asg 1 (.cint 0))
  (.seq (.forL 2 (.slice (.var 0) (.some (.bin .Add (.cint 1) (.bi1 .int (.cmp .Eq (.idx (.var 0) (.cint 0)) (.cstr (Str.ofString "let")))))) .none)
  (.seq (.asg 1 (.bi2 .max (.var 1) (.call 17 (.cons (.var 2) .nil))))
  .skip))
  (.seq (.ret (.bin .Add (.var 1) (.cint 1)))
  .skip)))) }
noncomputable def F_law : MFn := { name := (Str.ofString "law"), slots := [(Str.ofString "_law_script"), (Str.ofString "_law_expr"), (Str.ofString "_law_count"), (Str.ofString "_law_depth"), (Str.ofString "_law_found"), (Str.ofString "_law_name")], args := 1, body :=
  (.seq (.asg 0 (.call 5 (.cons (.var 0) .nil)))
  (.seq (.ite (.or (.nt (.call 7 (.cons (.glob 0) .nil))) (.or (.cmp .NotEq (.glob 0) (.cint 1000000000)) (.or (.nt (.call 7 (.cons (.glob 1) .nil))) (.cmp .NotEq (.glob 1) (.cint 60)))))
  (.seq (.ret (.cbool false))
  .skip)
  .skip)
  (.seq (.asg 1 (.call 14 (.cons (.var 0) .nil)))
  (.seq (.asg 2 (.call 1 (.cons (.var 1) .nil)))
  (.seq (.asg 3 (.call 2 (.cons (.var 1) .nil)))
  (.seq (.asgFresh 4 4 (.cons (.var 1) .nil))
  (.seq (.ite (.or (.nt (.call 7 (.cons (.var 2) .nil))) (.cmp .NotEq (.var 2) (.call 15 (.cons (.var 1) .nil))))
  (.seq (.ret (.cbool false))
  .skip)
  .skip)
  (.seq (.ite (.or (.nt (.call 7 (.cons (.var 3) .nil))) (.cmp .NotEq (.var 3) (.call 17 (.cons (.var 1) .nil))))
  (.seq (.ret (.cbool false))
  .skip)
  .skip)
  (.seq (.ite (.nt (.isi (.own 4) .list))
  (.seq (.ret (.cbool false))
  .skip)
  .skip)
  (.seq (.forO 5 4 (.nt (.isi (.var 5) .str)) false)
  (.seq (.ite (.cmp .NotEq (.own 4) (.call 16 (.cons (.var 1) .nil)))
  (.seq (.ret (.cbool false))
  .skip)
  .skip)
  (.seq (.append 4 (.cstr (Str.ofString "x")))
  (.seq (.ret (.and (.cmp .Eq (.call 4 (.cons (.var 1) .nil)) (.call 16 (.cons (.var 1) .nil))) (.and (.cmp .Eq (.call 1 (.cons (.var 1) .nil)) (.var 2)) (.cmp .Eq (.call 2 (.cons (.var 1) .nil)) (.var 3)))))
  .skip))))))))))))) }
noncomputable def fns : List MFn := [F_parts_of, F_size, F_deep, F_gather, F_needs, F_law_mixed, F_law_cell_at, F_law_whole, F_law_number_by, F_law_name_by, F_law_step, F_law_tree_by, F_law_link, F_law_many_by, F_law_expr_by, F_law_size, F_law_needs, F_law_deep, F_law]
noncomputable def gnames : List Str := [(Str.ofString "LIMIT"), (Str.ofString "DEEPEST")]
noncomputable def globs : List D := [.int 1000000000, .int 60]
end L02
end Mine
-- P02
set_option autoImplicit false
set_option linter.all false
set_option maxRecDepth 10000
namespace Mine
open PySem
namespace L02
theorem cell_at_i (n : Nat) (ys : List Int) (k : Int) (hk : Ki k) (hl : ys.length ≤ 1000) (hy : ∀ y ∈ ys, Sm y) :
    ∃ z, (orc fns globs (n + 1)).fn 6 [.list (ys.map PyData.int), .int k] = .ok (.int z, false) ∧ Sm z := by
  rw [orc_fn (F := F_law_cell_at) rfl rfl]
  show ∃ z, fin (ex _ _ F_law_cell_at.body [.fr _, .fr _]) = _ ∧ _
  unfold F_law_cell_at
  obtain ⟨h0, h1⟩ := hk
  have hm : (ys.map PyData.int).length = ys.length := List.length_map ..
  have hlen : b1D .len (.list (ys.map PyData.int)) = .ok (.int ys.length) := by rw [len_list_ok (by omega), hm]
  by_cases h : k < ys.length
  · have hi : idxD (.list (ys.map PyData.int)) (.int k) = .ok (.int ys[k.toNat]) := pidx_list h0 (by omega) (by rw [List.getElem?_map, List.getElem?_eq_getElem (by omega)]; rfl)
    have hb := decide_eq_true h
    exact ⟨ys[k.toNat], by simp (disch := (first | assumption | decide | exact Zbp _ | (refine Sm.div ?_ ?_ <;> first | assumption | decide) | omega | (simp only [List.length_append, List.length_cons, List.length_nil, slen_sone, Zb7, slen_empty]; omega))) only [Za0, ZbH, ZbN, ZbI, ZbL, Za3, ZaC, Zb3, Zai, Zaw, ZbP, ZaN, ZbZ, Zb0, Zbv, ZbD, ZaU, ZbY, Zb4, Zb9, ZbT, Zcd, Zb5, ZbG, Zb2, Zb6, ZbQ, ZbE, ZbV, ZaJ, Zbz, Zbw, Zca, Zcb, Zcc, Zce, Zcf, Zb8, Zbh, Za9, Zbr, Zbt, ZaF, ZaG, ZaK, optInt_int, ZaR, ZaQ, ZbA, Zbk, mul_ok, Zbq, ZbX, ZaY, addl_ok, Zag, Zak, Zal, Zb1, ZbR, Zan, Zar, Zah, Zaq, getk, Int.reduceToNat, Int.toNat_natCast, len_list_ok, len_tuple_ok, len_str_ok, Zad, ZbK, ZbW, ZbO, Zbx, ZaT, List.getElem?_cons_zero, List.getElem?_cons_succ, Zch, Zcg, Zau, Zbj, ZaB, ZaV, Zaj, ZaD, ZaI, Zac, Zat, Zbe, Zba, Zav, Zbn, Za1, ZaM, Zax, Zbf, Zay, Zby, Zaz, Zap, ZaW, Zao, ZaH, Zbi, ZaP, Zaf, Zab, Zae, Zaa, aliasOk, Za5, Bool.false_eq_true, Bool.or_false, Bool.false_or, Bool.or_self, Bool.or_true, Bool.true_or, Bool.and_true, Bool.true_and, Bool.and_self, Bool.not_false, Bool.not_true, Bool.and_false, Bool.false_and, if_false, if_true, reduceIte, List.length_append, List.length_cons, List.length_nil, ZaZ, ZbJ, String.reduceBEq, String.reduceBNe, String.reduceEq, ZbM, Za2, Zbl, Zbb, ZaS, ZaE, ZaL, ZbC, Zbu, forS_list, ZaO, ZaA, Zam, Zas, ZbS, Za7, Zbs, Za8, Zbm, Za4, ZbB, Za6, Zbo, Zbd, ZbF, Zbc, slice_hi, slice_lo, slice_both, slice_tup1, slice_tup2, Zbg, ZbU, ZaX, decide_eq_true, decide_eq_false, int_beq_t, int_beq_f, Bool.and_eq_false_iff, Bool.or_eq_false_iff, beq_iff_eq, bne_iff_ne, decide_eq_true_eq, Bool.and_eq_true, Bool.or_eq_true, Bool.not_eq_true', decide_eq_false_iff_not, beq_eq_false_iff_ne, if_pos, if_neg, hlen, hb, hi], hy _ (List.getElem_mem _)⟩
  · have hb := decide_eq_false h
    exact ⟨0, by simp (disch := (first | assumption | decide | exact Zbp _ | (refine Sm.div ?_ ?_ <;> first | assumption | decide) | omega | (simp only [List.length_append, List.length_cons, List.length_nil, slen_sone, Zb7, slen_empty]; omega))) only [Za0, ZbH, ZbN, ZbI, ZbL, Za3, ZaC, Zb3, Zai, Zaw, ZbP, ZaN, ZbZ, Zb0, Zbv, ZbD, ZaU, ZbY, Zb4, Zb9, ZbT, Zcd, Zb5, ZbG, Zb2, Zb6, ZbQ, ZbE, ZbV, ZaJ, Zbz, Zbw, Zca, Zcb, Zcc, Zce, Zcf, Zb8, Zbh, Za9, Zbr, Zbt, ZaF, ZaG, ZaK, optInt_int, ZaR, ZaQ, ZbA, Zbk, mul_ok, Zbq, ZbX, ZaY, addl_ok, Zag, Zak, Zal, Zb1, ZbR, Zan, Zar, Zah, Zaq, getk, Int.reduceToNat, Int.toNat_natCast, len_list_ok, len_tuple_ok, len_str_ok, Zad, ZbK, ZbW, ZbO, Zbx, ZaT, List.getElem?_cons_zero, List.getElem?_cons_succ, Zch, Zcg, Zau, Zbj, ZaB, ZaV, Zaj, ZaD, ZaI, Zac, Zat, Zbe, Zba, Zav, Zbn, Za1, ZaM, Zax, Zbf, Zay, Zby, Zaz, Zap, ZaW, Zao, ZaH, Zbi, ZaP, Zaf, Zab, Zae, Zaa, aliasOk, Za5, Bool.false_eq_true, Bool.or_false, Bool.false_or, Bool.or_self, Bool.or_true, Bool.true_or, Bool.and_true, Bool.true_and, Bool.and_self, Bool.not_false, Bool.not_true, Bool.and_false, Bool.false_and, if_false, if_true, reduceIte, List.length_append, List.length_cons, List.length_nil, ZaZ, ZbJ, String.reduceBEq, String.reduceBNe, String.reduceEq, ZbM, Za2, Zbl, Zbb, ZaS, ZaE, ZaL, ZbC, Zbu, forS_list, ZaO, ZaA, Zam, Zas, ZbS, Za7, Zbs, Za8, Zbm, Za4, ZbB, Za6, Zbo, Zbd, ZbF, Zbc, slice_hi, slice_lo, slice_both, slice_tup1, slice_tup2, Zbg, ZbU, ZaX, decide_eq_true, decide_eq_false, int_beq_t, int_beq_f, Bool.and_eq_false_iff, Bool.or_eq_false_iff, beq_iff_eq, bne_iff_ne, decide_eq_true_eq, Bool.and_eq_true, Bool.or_eq_true, Bool.not_eq_true', decide_eq_false_iff_not, beq_eq_false_iff_ne, if_pos, if_neg, hlen, hb], by decide, by decide⟩
theorem number_by_ok (n : Nat) (c : Int) (hc : Sm c) :
    ∃ z, (orc fns globs (n + 1)).fn 8 [.int c] = .ok (.int z, false) ∧ -1000000000 ≤ z ∧ z ≤ 1000000000 := by
  rw [orc_fn (F := F_law_number_by) rfl rfl]
  show ∃ z, fin (ex _ _ F_law_number_by.body [.fr _, .unset, .unset]) = _ ∧ _
  unfold F_law_number_by
  obtain ⟨z1, e1, l1, u1⟩ := pick_intm (-1000000000) 1000000000 [1000000000, -1000000000, 999999999, -999999999] (by decide) 4 rfl (by decide) (c / 8)
  obtain ⟨z2, e2, l2, u2⟩ := pick_intm (-1000000000) 1000000000 [0, 1, -1, 2, 3, 4, 6, 8, 12, 24, -2, -1, 5, 1, 50000, 30000, 2000] (by decide) 17 rfl (by decide) (c / 8)
  simp only [List.map_cons, List.map_nil] at e1 e2
  rw [peel_asg (d := .int (c % 8)) (by simp (disch := (first | assumption | decide | exact Zbp _ | (refine Sm.div ?_ ?_ <;> first | assumption | decide))) only [Za0, ZbH, ZbN, ZbI, ZbL, Za3, ZaC, Zb3, Zai, Zaw, ZbP, ZaN, ZbZ, Zb0, Zbv, ZbD, ZaU, ZbY, Zb4, Zb9, ZbT, Zcd, Zb5, ZbG, Zb2, Zb6, ZbQ, ZbE, ZbV, ZaJ, Zbz, Zbw, Zca, Zcb, Zcc, Zce, Zcf, Zb8, Zbh, Za9, Zbr, Zbt, ZaF, ZaG, ZaK, optInt_int, ZaR, ZaQ, ZbA, Zbk, Zbq, ZbX, ZaY, Zag, Zak, Zal, Zb1, ZbR, Zan, Zar, Zah, Zaq, Int.reduceToNat, Int.toNat_natCast, Zad, ZbK, ZbW, ZbO, Zbx, ZaT, List.getElem?_cons_zero, List.getElem?_cons_succ, Zch, Zcg, Zau, Zbj, ZaB, ZaV, Zaj, ZaD, ZaI, Zac, Zat, Zbe, Zba, Zav, Zbn, Za1, ZaM, Zax, Zbf, Zay, Zby, Zaz, Zap, ZaW, Zao, ZaH, Zbi, ZaP, Zaf, Zab, Zae, Zaa, aliasOk, Za5, Bool.false_eq_true, Bool.or_false, Bool.false_or, Bool.or_self, Bool.or_true, Bool.true_or, Bool.and_true, Bool.true_and, Bool.and_self, Bool.not_false, Bool.not_true, Bool.and_false, Bool.false_and, if_false, if_true, reduceIte, ZaZ, ZbJ, String.reduceBEq, String.reduceBNe, String.reduceEq, ZbM, Za2, Zbl, Zbb, ZaS, ZaE, ZaL, ZbC, Zbu, ZaO, ZaA, Zam, Zas, ZbS, Za7, Zbs, Za8, Zbm, Za4, ZbB, Za6, Zbo, Zbd, ZbF, Zbc, Zbg, ZbU, ZaX, Bool.not_eq_true']) rfl, Zcg, Zch, peel_asg (d := .int (c / 8)) (by simp (disch := (first | assumption | decide | exact Zbp _ | (refine Sm.div ?_ ?_ <;> first | assumption | decide))) only [Za0, ZbH, ZbN, ZbI, ZbL, Za3, ZaC, Zb3, Zai, Zaw, ZbP, ZaN, ZbZ, Zb0, Zbv, ZbD, ZaU, ZbY, Zb4, Zb9, ZbT, Zcd, Zb5, ZbG, Zb2, Zb6, ZbQ, ZbE, ZbV, ZaJ, Zbz, Zbw, Zca, Zcb, Zcc, Zce, Zcf, Zb8, Zbh, Za9, Zbr, Zbt, ZaF, ZaG, ZaK, optInt_int, ZaR, ZaQ, ZbA, Zbk, Zbq, ZbX, ZaY, Zag, Zak, Zal, Zb1, ZbR, Zan, Zar, Zah, Zaq, Int.reduceToNat, Int.toNat_natCast, Zad, ZbK, ZbW, ZbO, Zbx, ZaT, List.getElem?_cons_zero, List.getElem?_cons_succ, Zch, Zcg, Zau, Zbj, ZaB, ZaV, Zaj, ZaD, ZaI, Zac, Zat, Zbe, Zba, Zav, Zbn, Za1, ZaM, Zax, Zbf, Zay, Zby, Zaz, Zap, ZaW, Zao, ZaH, Zbi, ZaP, Zaf, Zab, Zae, Zaa, aliasOk, Za5, Bool.false_eq_true, Bool.or_false, Bool.false_or, Bool.or_self, Bool.or_true, Bool.true_or, Bool.and_true, Bool.true_and, Bool.and_self, Bool.not_false, Bool.not_true, Bool.and_false, Bool.false_and, if_false, if_true, reduceIte, ZaZ, ZbJ, String.reduceBEq, String.reduceBNe, String.reduceEq, ZbM, Za2, Zbl, Zbb, ZaS, ZaE, ZaL, ZbC, Zbu, ZaO, ZaA, Zam, Zas, ZbS, Za7, Zbs, Za8, Zbm, Za4, ZbB, Za6, Zbo, Zbd, ZbF, Zbc, Zbg, ZbU, ZaX, Bool.not_eq_true']) rfl, Zcg, Zcg, Zch]
  by_cases q0 : (c % 8 == 0) = true
  · rw [peel_t (by simp (disch := (first | assumption | decide | exact Zbp _ | (refine Sm.div ?_ ?_ <;> first | assumption | decide))) only [Za0, ZbH, ZbN, ZbI, ZbL, Za3, ZaC, Zb3, Zai, Zaw, ZbP, ZaN, ZbZ, Zb0, Zbv, ZbD, ZaU, ZbY, Zb4, Zb9, ZbT, Zcd, Zb5, ZbG, Zb2, Zb6, ZbQ, ZbE, ZbV, ZaJ, Zbz, Zbw, Zca, Zcb, Zcc, Zce, Zcf, Zb8, Zbh, Za9, Zbr, Zbt, ZaF, ZaG, ZaK, optInt_int, ZaR, ZaQ, ZbA, Zbk, Zbq, ZbX, ZaY, Zag, Zak, Zal, Zb1, ZbR, Zan, Zar, Zah, Zaq, Int.reduceToNat, Int.toNat_natCast, Zad, ZbK, ZbW, ZbO, Zbx, ZaT, List.getElem?_cons_zero, List.getElem?_cons_succ, Zch, Zcg, Zau, Zbj, ZaB, ZaV, Zaj, ZaD, ZaI, Zac, Zat, Zbe, Zba, Zav, Zbn, Za1, ZaM, Zax, Zbf, Zay, Zby, Zaz, Zap, ZaW, Zao, ZaH, Zbi, ZaP, Zaf, Zab, Zae, Zaa, aliasOk, Za5, Bool.false_eq_true, Bool.or_false, Bool.false_or, Bool.or_self, Bool.or_true, Bool.true_or, Bool.and_true, Bool.true_and, Bool.and_self, Bool.not_false, Bool.not_true, Bool.and_false, Bool.false_and, if_false, if_true, reduceIte, ZaZ, ZbJ, String.reduceBEq, String.reduceBNe, String.reduceEq, ZbM, Za2, Zbl, Zbb, ZaS, ZaE, ZaL, ZbC, Zbu, ZaO, ZaA, Zam, Zas, ZbS, Za7, Zbs, Za8, Zbm, Za4, ZbB, Za6, Zbo, Zbd, ZbF, Zbc, Zbg, ZbU, ZaX, Bool.not_eq_true', q0]) (peel_ret (d := .int (c / 8 % 2000000001 - 1000000000)) (by simp (disch := (first | assumption | decide | exact Zbp _ | (refine Sm.div ?_ ?_ <;> first | assumption | decide))) only [Za0, ZbH, ZbN, ZbI, ZbL, Za3, ZaC, Zb3, Zai, Zaw, ZbP, ZaN, ZbZ, Zb0, Zbv, ZbD, ZaU, ZbY, Zb4, Zb9, ZbT, Zcd, Zb5, ZbG, Zb2, Zb6, ZbQ, ZbE, ZbV, ZaJ, Zbz, Zbw, Zca, Zcb, Zcc, Zce, Zcf, Zb8, Zbh, Za9, Zbr, Zbt, ZaF, ZaG, ZaK, optInt_int, ZaR, ZaQ, ZbA, Zbk, Zbq, ZbX, ZaY, Zag, Zak, Zal, Zb1, ZbR, Zan, Zar, Zah, Zaq, Int.reduceToNat, Int.toNat_natCast, Zad, ZbK, ZbW, ZbO, Zbx, ZaT, List.getElem?_cons_zero, List.getElem?_cons_succ, Zch, Zcg, Zau, Zbj, ZaB, ZaV, Zaj, ZaD, ZaI, Zac, Zat, Zbe, Zba, Zav, Zbn, Za1, ZaM, Zax, Zbf, Zay, Zby, Zaz, Zap, ZaW, Zao, ZaH, Zbi, ZaP, Zaf, Zab, Zae, Zaa, aliasOk, Za5, Bool.false_eq_true, Bool.or_false, Bool.false_or, Bool.or_self, Bool.or_true, Bool.true_or, Bool.and_true, Bool.true_and, Bool.and_self, Bool.not_false, Bool.not_true, Bool.and_false, Bool.false_and, if_false, if_true, reduceIte, ZaZ, ZbJ, String.reduceBEq, String.reduceBNe, String.reduceEq, ZbM, Za2, Zbl, Zbb, ZaS, ZaE, ZaL, ZbC, Zbu, ZaO, ZaA, Zam, Zas, ZbS, Za7, Zbs, Za8, Zbm, Za4, ZbB, Za6, Zbo, Zbd, ZbF, Zbc, Zbg, ZbU, ZaX, Bool.not_eq_true']))]
    exact ⟨_, rfl, by omega, by omega⟩
  rw [peel_f (by simp (disch := (first | assumption | decide | exact Zbp _ | (refine Sm.div ?_ ?_ <;> first | assumption | decide))) only [Za0, ZbH, ZbN, ZbI, ZbL, Za3, ZaC, Zb3, Zai, Zaw, ZbP, ZaN, ZbZ, Zb0, Zbv, ZbD, ZaU, ZbY, Zb4, Zb9, ZbT, Zcd, Zb5, ZbG, Zb2, Zb6, ZbQ, ZbE, ZbV, ZaJ, Zbz, Zbw, Zca, Zcb, Zcc, Zce, Zcf, Zb8, Zbh, Za9, Zbr, Zbt, ZaF, ZaG, ZaK, optInt_int, ZaR, ZaQ, ZbA, Zbk, Zbq, ZbX, ZaY, Zag, Zak, Zal, Zb1, ZbR, Zan, Zar, Zah, Zaq, Int.reduceToNat, Int.toNat_natCast, Zad, ZbK, ZbW, ZbO, Zbx, ZaT, List.getElem?_cons_zero, List.getElem?_cons_succ, Zch, Zcg, Zau, Zbj, ZaB, ZaV, Zaj, ZaD, ZaI, Zac, Zat, Zbe, Zba, Zav, Zbn, Za1, ZaM, Zax, Zbf, Zay, Zby, Zaz, Zap, ZaW, Zao, ZaH, Zbi, ZaP, Zaf, Zab, Zae, Zaa, aliasOk, Za5, Bool.false_eq_true, Bool.or_false, Bool.false_or, Bool.or_self, Bool.or_true, Bool.true_or, Bool.and_true, Bool.true_and, Bool.and_self, Bool.not_false, Bool.not_true, Bool.and_false, Bool.false_and, if_false, if_true, reduceIte, ZaZ, ZbJ, String.reduceBEq, String.reduceBNe, String.reduceEq, ZbM, Za2, Zbl, Zbb, ZaS, ZaE, ZaL, ZbC, Zbu, ZaO, ZaA, Zam, Zas, ZbS, Za7, Zbs, Za8, Zbm, Za4, ZbB, Za6, Zbo, Zbd, ZbF, Zbc, Zbg, ZbU, ZaX, Bool.not_eq_true', Bool.eq_false_iff.mpr q0])]
  by_cases q1 : (c % 8 == 1) = true
  · rw [peel_t (by simp (disch := (first | assumption | decide | exact Zbp _ | (refine Sm.div ?_ ?_ <;> first | assumption | decide))) only [Za0, ZbH, ZbN, ZbI, ZbL, Za3, ZaC, Zb3, Zai, Zaw, ZbP, ZaN, ZbZ, Zb0, Zbv, ZbD, ZaU, ZbY, Zb4, Zb9, ZbT, Zcd, Zb5, ZbG, Zb2, Zb6, ZbQ, ZbE, ZbV, ZaJ, Zbz, Zbw, Zca, Zcb, Zcc, Zce, Zcf, Zb8, Zbh, Za9, Zbr, Zbt, ZaF, ZaG, ZaK, optInt_int, ZaR, ZaQ, ZbA, Zbk, Zbq, ZbX, ZaY, Zag, Zak, Zal, Zb1, ZbR, Zan, Zar, Zah, Zaq, Int.reduceToNat, Int.toNat_natCast, Zad, ZbK, ZbW, ZbO, Zbx, ZaT, List.getElem?_cons_zero, List.getElem?_cons_succ, Zch, Zcg, Zau, Zbj, ZaB, ZaV, Zaj, ZaD, ZaI, Zac, Zat, Zbe, Zba, Zav, Zbn, Za1, ZaM, Zax, Zbf, Zay, Zby, Zaz, Zap, ZaW, Zao, ZaH, Zbi, ZaP, Zaf, Zab, Zae, Zaa, aliasOk, Za5, Bool.false_eq_true, Bool.or_false, Bool.false_or, Bool.or_self, Bool.or_true, Bool.true_or, Bool.and_true, Bool.true_and, Bool.and_self, Bool.not_false, Bool.not_true, Bool.and_false, Bool.false_and, if_false, if_true, reduceIte, ZaZ, ZbJ, String.reduceBEq, String.reduceBNe, String.reduceEq, ZbM, Za2, Zbl, Zbb, ZaS, ZaE, ZaL, ZbC, Zbu, ZaO, ZaA, Zam, Zas, ZbS, Za7, Zbs, Za8, Zbm, Za4, ZbB, Za6, Zbo, Zbd, ZbF, Zbc, Zbg, ZbU, ZaX, Bool.not_eq_true', q1]) (peel_ret (d := .int z1) (by simp (disch := (first | assumption | decide | exact Zbp _ | (refine Sm.div ?_ ?_ <;> first | assumption | decide))) only [Za0, ZbH, ZbN, ZbI, ZbL, Za3, ZaC, Zb3, Zai, Zaw, ZbP, ZaN, ZbZ, Zb0, Zbv, ZbD, ZaU, ZbY, Zb4, Zb9, ZbT, Zcd, Zb5, ZbG, Zb2, Zb6, ZbQ, ZbE, ZbV, ZaJ, Zbz, Zbw, Zca, Zcb, Zcc, Zce, Zcf, Zb8, Zbh, Za9, Zbr, Zbt, ZaF, ZaG, ZaK, optInt_int, ZaR, ZaQ, ZbA, Zbk, Zbq, ZbX, ZaY, Zag, Zak, Zal, Zb1, ZbR, Zan, Zar, Zah, Zaq, Int.reduceToNat, Int.toNat_natCast, Zad, ZbK, ZbW, ZbO, Zbx, ZaT, List.getElem?_cons_zero, List.getElem?_cons_succ, Zch, Zcg, Zau, Zbj, ZaB, ZaV, Zaj, ZaD, ZaI, Zac, Zat, Zbe, Zba, Zav, Zbn, Za1, ZaM, Zax, Zbf, Zay, Zby, Zaz, Zap, ZaW, Zao, ZaH, Zbi, ZaP, Zaf, Zab, Zae, Zaa, aliasOk, Za5, Bool.false_eq_true, Bool.or_false, Bool.false_or, Bool.or_self, Bool.or_true, Bool.true_or, Bool.and_true, Bool.true_and, Bool.and_self, Bool.not_false, Bool.not_true, Bool.and_false, Bool.false_and, if_false, if_true, reduceIte, ZaZ, ZbJ, String.reduceBEq, String.reduceBNe, String.reduceEq, ZbM, Za2, Zbl, Zbb, ZaS, ZaE, ZaL, ZbC, Zbu, ZaO, ZaA, Zam, Zas, ZbS, Za7, Zbs, Za8, Zbm, Za4, ZbB, Za6, Zbo, Zbd, ZbF, Zbc, Zbg, ZbU, ZaX, Bool.not_eq_true', e1]))]
    exact ⟨_, rfl, l1, u1⟩
  rw [peel_f (by simp (disch := (first | assumption | decide | exact Zbp _ | (refine Sm.div ?_ ?_ <;> first | assumption | decide))) only [Za0, ZbH, ZbN, ZbI, ZbL, Za3, ZaC, Zb3, Zai, Zaw, ZbP, ZaN, ZbZ, Zb0, Zbv, ZbD, ZaU, ZbY, Zb4, Zb9, ZbT, Zcd, Zb5, ZbG, Zb2, Zb6, ZbQ, ZbE, ZbV, ZaJ, Zbz, Zbw, Zca, Zcb, Zcc, Zce, Zcf, Zb8, Zbh, Za9, Zbr, Zbt, ZaF, ZaG, ZaK, optInt_int, ZaR, ZaQ, ZbA, Zbk, Zbq, ZbX, ZaY, Zag, Zak, Zal, Zb1, ZbR, Zan, Zar, Zah, Zaq, Int.reduceToNat, Int.toNat_natCast, Zad, ZbK, ZbW, ZbO, Zbx, ZaT, List.getElem?_cons_zero, List.getElem?_cons_succ, Zch, Zcg, Zau, Zbj, ZaB, ZaV, Zaj, ZaD, ZaI, Zac, Zat, Zbe, Zba, Zav, Zbn, Za1, ZaM, Zax, Zbf, Zay, Zby, Zaz, Zap, ZaW, Zao, ZaH, Zbi, ZaP, Zaf, Zab, Zae, Zaa, aliasOk, Za5, Bool.false_eq_true, Bool.or_false, Bool.false_or, Bool.or_self, Bool.or_true, Bool.true_or, Bool.and_true, Bool.true_and, Bool.and_self, Bool.not_false, Bool.not_true, Bool.and_false, Bool.false_and, if_false, if_true, reduceIte, ZaZ, ZbJ, String.reduceBEq, String.reduceBNe, String.reduceEq, ZbM, Za2, Zbl, Zbb, ZaS, ZaE, ZaL, ZbC, Zbu, ZaO, ZaA, Zam, Zas, ZbS, Za7, Zbs, Za8, Zbm, Za4, ZbB, Za6, Zbo, Zbd, ZbF, Zbc, Zbg, ZbU, ZaX, Bool.not_eq_true', Bool.eq_false_iff.mpr q1])]
  by_cases q2 : (c % 8 == 2) = true
  · rw [peel_t (by simp (disch := (first | assumption | decide | exact Zbp _ | (refine Sm.div ?_ ?_ <;> first | assumption | decide))) only [Za0, ZbH, ZbN, ZbI, ZbL, Za3, ZaC, Zb3, Zai, Zaw, ZbP, ZaN, ZbZ, Zb0, Zbv, ZbD, ZaU, ZbY, Zb4, Zb9, ZbT, Zcd, Zb5, ZbG, Zb2, Zb6, ZbQ, ZbE, ZbV, ZaJ, Zbz, Zbw, Zca, Zcb, Zcc, Zce, Zcf, Zb8, Zbh, Za9, Zbr, Zbt, ZaF, ZaG, ZaK, optInt_int, ZaR, ZaQ, ZbA, Zbk, Zbq, ZbX, ZaY, Zag, Zak, Zal, Zb1, ZbR, Zan, Zar, Zah, Zaq, Int.reduceToNat, Int.toNat_natCast, Zad, ZbK, ZbW, ZbO, Zbx, ZaT, List.getElem?_cons_zero, List.getElem?_cons_succ, Zch, Zcg, Zau, Zbj, ZaB, ZaV, Zaj, ZaD, ZaI, Zac, Zat, Zbe, Zba, Zav, Zbn, Za1, ZaM, Zax, Zbf, Zay, Zby, Zaz, Zap, ZaW, Zao, ZaH, Zbi, ZaP, Zaf, Zab, Zae, Zaa, aliasOk, Za5, Bool.false_eq_true, Bool.or_false, Bool.false_or, Bool.or_self, Bool.or_true, Bool.true_or, Bool.and_true, Bool.true_and, Bool.and_self, Bool.not_false, Bool.not_true, Bool.and_false, Bool.false_and, if_false, if_true, reduceIte, ZaZ, ZbJ, String.reduceBEq, String.reduceBNe, String.reduceEq, ZbM, Za2, Zbl, Zbb, ZaS, ZaE, ZaL, ZbC, Zbu, ZaO, ZaA, Zam, Zas, ZbS, Za7, Zbs, Za8, Zbm, Za4, ZbB, Za6, Zbo, Zbd, ZbF, Zbc, Zbg, ZbU, ZaX, Bool.not_eq_true', q2]) (peel_ret (d := .int (c / 8 % 60001 - 30000)) (by simp (disch := (first | assumption | decide | exact Zbp _ | (refine Sm.div ?_ ?_ <;> first | assumption | decide))) only [Za0, ZbH, ZbN, ZbI, ZbL, Za3, ZaC, Zb3, Zai, Zaw, ZbP, ZaN, ZbZ, Zb0, Zbv, ZbD, ZaU, ZbY, Zb4, Zb9, ZbT, Zcd, Zb5, ZbG, Zb2, Zb6, ZbQ, ZbE, ZbV, ZaJ, Zbz, Zbw, Zca, Zcb, Zcc, Zce, Zcf, Zb8, Zbh, Za9, Zbr, Zbt, ZaF, ZaG, ZaK, optInt_int, ZaR, ZaQ, ZbA, Zbk, Zbq, ZbX, ZaY, Zag, Zak, Zal, Zb1, ZbR, Zan, Zar, Zah, Zaq, Int.reduceToNat, Int.toNat_natCast, Zad, ZbK, ZbW, ZbO, Zbx, ZaT, List.getElem?_cons_zero, List.getElem?_cons_succ, Zch, Zcg, Zau, Zbj, ZaB, ZaV, Zaj, ZaD, ZaI, Zac, Zat, Zbe, Zba, Zav, Zbn, Za1, ZaM, Zax, Zbf, Zay, Zby, Zaz, Zap, ZaW, Zao, ZaH, Zbi, ZaP, Zaf, Zab, Zae, Zaa, aliasOk, Za5, Bool.false_eq_true, Bool.or_false, Bool.false_or, Bool.or_self, Bool.or_true, Bool.true_or, Bool.and_true, Bool.true_and, Bool.and_self, Bool.not_false, Bool.not_true, Bool.and_false, Bool.false_and, if_false, if_true, reduceIte, ZaZ, ZbJ, String.reduceBEq, String.reduceBNe, String.reduceEq, ZbM, Za2, Zbl, Zbb, ZaS, ZaE, ZaL, ZbC, Zbu, ZaO, ZaA, Zam, Zas, ZbS, Za7, Zbs, Za8, Zbm, Za4, ZbB, Za6, Zbo, Zbd, ZbF, Zbc, Zbg, ZbU, ZaX, Bool.not_eq_true']))]
    exact ⟨_, rfl, by omega, by omega⟩
  rw [peel_f (by simp (disch := (first | assumption | decide | exact Zbp _ | (refine Sm.div ?_ ?_ <;> first | assumption | decide))) only [Za0, ZbH, ZbN, ZbI, ZbL, Za3, ZaC, Zb3, Zai, Zaw, ZbP, ZaN, ZbZ, Zb0, Zbv, ZbD, ZaU, ZbY, Zb4, Zb9, ZbT, Zcd, Zb5, ZbG, Zb2, Zb6, ZbQ, ZbE, ZbV, ZaJ, Zbz, Zbw, Zca, Zcb, Zcc, Zce, Zcf, Zb8, Zbh, Za9, Zbr, Zbt, ZaF, ZaG, ZaK, optInt_int, ZaR, ZaQ, ZbA, Zbk, Zbq, ZbX, ZaY, Zag, Zak, Zal, Zb1, ZbR, Zan, Zar, Zah, Zaq, Int.reduceToNat, Int.toNat_natCast, Zad, ZbK, ZbW, ZbO, Zbx, ZaT, List.getElem?_cons_zero, List.getElem?_cons_succ, Zch, Zcg, Zau, Zbj, ZaB, ZaV, Zaj, ZaD, ZaI, Zac, Zat, Zbe, Zba, Zav, Zbn, Za1, ZaM, Zax, Zbf, Zay, Zby, Zaz, Zap, ZaW, Zao, ZaH, Zbi, ZaP, Zaf, Zab, Zae, Zaa, aliasOk, Za5, Bool.false_eq_true, Bool.or_false, Bool.false_or, Bool.or_self, Bool.or_true, Bool.true_or, Bool.and_true, Bool.true_and, Bool.and_self, Bool.not_false, Bool.not_true, Bool.and_false, Bool.false_and, if_false, if_true, reduceIte, ZaZ, ZbJ, String.reduceBEq, String.reduceBNe, String.reduceEq, ZbM, Za2, Zbl, Zbb, ZaS, ZaE, ZaL, ZbC, Zbu, ZaO, ZaA, Zam, Zas, ZbS, Za7, Zbs, Za8, Zbm, Za4, ZbB, Za6, Zbo, Zbd, ZbF, Zbc, Zbg, ZbU, ZaX, Bool.not_eq_true', Bool.eq_false_iff.mpr q2])]
  by_cases q3 : decide (c % 8 < 5) = true
  · rw [peel_t (by simp (disch := (first | assumption | decide | exact Zbp _ | (refine Sm.div ?_ ?_ <;> first | assumption | decide))) only [Za0, ZbH, ZbN, ZbI, ZbL, Za3, ZaC, Zb3, Zai, Zaw, ZbP, ZaN, ZbZ, Zb0, Zbv, ZbD, ZaU, ZbY, Zb4, Zb9, ZbT, Zcd, Zb5, ZbG, Zb2, Zb6, ZbQ, ZbE, ZbV, ZaJ, Zbz, Zbw, Zca, Zcb, Zcc, Zce, Zcf, Zb8, Zbh, Za9, Zbr, Zbt, ZaF, ZaG, ZaK, optInt_int, ZaR, ZaQ, ZbA, Zbk, Zbq, ZbX, ZaY, Zag, Zak, Zal, Zb1, ZbR, Zan, Zar, Zah, Zaq, Int.reduceToNat, Int.toNat_natCast, Zad, ZbK, ZbW, ZbO, Zbx, ZaT, List.getElem?_cons_zero, List.getElem?_cons_succ, Zch, Zcg, Zau, Zbj, ZaB, ZaV, Zaj, ZaD, ZaI, Zac, Zat, Zbe, Zba, Zav, Zbn, Za1, ZaM, Zax, Zbf, Zay, Zby, Zaz, Zap, ZaW, Zao, ZaH, Zbi, ZaP, Zaf, Zab, Zae, Zaa, aliasOk, Za5, Bool.false_eq_true, Bool.or_false, Bool.false_or, Bool.or_self, Bool.or_true, Bool.true_or, Bool.and_true, Bool.true_and, Bool.and_self, Bool.not_false, Bool.not_true, Bool.and_false, Bool.false_and, if_false, if_true, reduceIte, ZaZ, ZbJ, String.reduceBEq, String.reduceBNe, String.reduceEq, ZbM, Za2, Zbl, Zbb, ZaS, ZaE, ZaL, ZbC, Zbu, ZaO, ZaA, Zam, Zas, ZbS, Za7, Zbs, Za8, Zbm, Za4, ZbB, Za6, Zbo, Zbd, ZbF, Zbc, Zbg, ZbU, ZaX, Bool.not_eq_true', q3]) (peel_ret (d := .int z2) (by simp (disch := (first | assumption | decide | exact Zbp _ | (refine Sm.div ?_ ?_ <;> first | assumption | decide))) only [Za0, ZbH, ZbN, ZbI, ZbL, Za3, ZaC, Zb3, Zai, Zaw, ZbP, ZaN, ZbZ, Zb0, Zbv, ZbD, ZaU, ZbY, Zb4, Zb9, ZbT, Zcd, Zb5, ZbG, Zb2, Zb6, ZbQ, ZbE, ZbV, ZaJ, Zbz, Zbw, Zca, Zcb, Zcc, Zce, Zcf, Zb8, Zbh, Za9, Zbr, Zbt, ZaF, ZaG, ZaK, optInt_int, ZaR, ZaQ, ZbA, Zbk, Zbq, ZbX, ZaY, Zag, Zak, Zal, Zb1, ZbR, Zan, Zar, Zah, Zaq, Int.reduceToNat, Int.toNat_natCast, Zad, ZbK, ZbW, ZbO, Zbx, ZaT, List.getElem?_cons_zero, List.getElem?_cons_succ, Zch, Zcg, Zau, Zbj, ZaB, ZaV, Zaj, ZaD, ZaI, Zac, Zat, Zbe, Zba, Zav, Zbn, Za1, ZaM, Zax, Zbf, Zay, Zby, Zaz, Zap, ZaW, Zao, ZaH, Zbi, ZaP, Zaf, Zab, Zae, Zaa, aliasOk, Za5, Bool.false_eq_true, Bool.or_false, Bool.false_or, Bool.or_self, Bool.or_true, Bool.true_or, Bool.and_true, Bool.true_and, Bool.and_self, Bool.not_false, Bool.not_true, Bool.and_false, Bool.false_and, if_false, if_true, reduceIte, ZaZ, ZbJ, String.reduceBEq, String.reduceBNe, String.reduceEq, ZbM, Za2, Zbl, Zbb, ZaS, ZaE, ZaL, ZbC, Zbu, ZaO, ZaA, Zam, Zas, ZbS, Za7, Zbs, Za8, Zbm, Za4, ZbB, Za6, Zbo, Zbd, ZbF, Zbc, Zbg, ZbU, ZaX, Bool.not_eq_true', e2]))]
    exact ⟨_, rfl, l2, u2⟩
  rw [peel_f (by simp (disch := (first | assumption | decide | exact Zbp _ | (refine Sm.div ?_ ?_ <;> first | assumption | decide))) only [Za0, ZbH, ZbN, ZbI, ZbL, Za3, ZaC, Zb3, Zai, Zaw, ZbP, ZaN, ZbZ, Zb0, Zbv, ZbD, ZaU, ZbY, Zb4, Zb9, ZbT, Zcd, Zb5, ZbG, Zb2, Zb6, ZbQ, ZbE, ZbV, ZaJ, Zbz, Zbw, Zca, Zcb, Zcc, Zce, Zcf, Zb8, Zbh, Za9, Zbr, Zbt, ZaF, ZaG, ZaK, optInt_int, ZaR, ZaQ, ZbA, Zbk, Zbq, ZbX, ZaY, Zag, Zak, Zal, Zb1, ZbR, Zan, Zar, Zah, Zaq, Int.reduceToNat, Int.toNat_natCast, Zad, ZbK, ZbW, ZbO, Zbx, ZaT, List.getElem?_cons_zero, List.getElem?_cons_succ, Zch, Zcg, Zau, Zbj, ZaB, ZaV, Zaj, ZaD, ZaI, Zac, Zat, Zbe, Zba, Zav, Zbn, Za1, ZaM, Zax, Zbf, Zay, Zby, Zaz, Zap, ZaW, Zao, ZaH, Zbi, ZaP, Zaf, Zab, Zae, Zaa, aliasOk, Za5, Bool.false_eq_true, Bool.or_false, Bool.false_or, Bool.or_self, Bool.or_true, Bool.true_or, Bool.and_true, Bool.true_and, Bool.and_self, Bool.not_false, Bool.not_true, Bool.and_false, Bool.false_and, if_false, if_true, reduceIte, ZaZ, ZbJ, String.reduceBEq, String.reduceBNe, String.reduceEq, ZbM, Za2, Zbl, Zbb, ZaS, ZaE, ZaL, ZbC, Zbu, ZaO, ZaA, Zam, Zas, ZbS, Za7, Zbs, Za8, Zbm, Za4, ZbB, Za6, Zbo, Zbd, ZbF, Zbc, Zbg, ZbU, ZaX, Bool.not_eq_true', Bool.eq_false_iff.mpr q3]), peel_ret (d := .int (c / 8 % 13 - 6)) (by simp (disch := (first | assumption | decide | exact Zbp _ | (refine Sm.div ?_ ?_ <;> first | assumption | decide))) only [Za0, ZbH, ZbN, ZbI, ZbL, Za3, ZaC, Zb3, Zai, Zaw, ZbP, ZaN, ZbZ, Zb0, Zbv, ZbD, ZaU, ZbY, Zb4, Zb9, ZbT, Zcd, Zb5, ZbG, Zb2, Zb6, ZbQ, ZbE, ZbV, ZaJ, Zbz, Zbw, Zca, Zcb, Zcc, Zce, Zcf, Zb8, Zbh, Za9, Zbr, Zbt, ZaF, ZaG, ZaK, optInt_int, ZaR, ZaQ, ZbA, Zbk, Zbq, ZbX, ZaY, Zag, Zak, Zal, Zb1, ZbR, Zan, Zar, Zah, Zaq, Int.reduceToNat, Int.toNat_natCast, Zad, ZbK, ZbW, ZbO, Zbx, ZaT, List.getElem?_cons_zero, List.getElem?_cons_succ, Zch, Zcg, Zau, Zbj, ZaB, ZaV, Zaj, ZaD, ZaI, Zac, Zat, Zbe, Zba, Zav, Zbn, Za1, ZaM, Zax, Zbf, Zay, Zby, Zaz, Zap, ZaW, Zao, ZaH, Zbi, ZaP, Zaf, Zab, Zae, Zaa, aliasOk, Za5, Bool.false_eq_true, Bool.or_false, Bool.false_or, Bool.or_self, Bool.or_true, Bool.true_or, Bool.and_true, Bool.true_and, Bool.and_self, Bool.not_false, Bool.not_true, Bool.and_false, Bool.false_and, if_false, if_true, reduceIte, ZaZ, ZbJ, String.reduceBEq, String.reduceBNe, String.reduceEq, ZbM, Za2, Zbl, Zbb, ZaS, ZaE, ZaL, ZbC, Zbu, ZaO, ZaA, Zam, Zas, ZbS, Za7, Zbs, Za8, Zbm, Za4, ZbB, Za6, Zbo, Zbd, ZbF, Zbc, Zbg, ZbU, ZaX, Bool.not_eq_true'])]
  exact ⟨_, rfl, by omega, by omega⟩
theorem mixed_loop (n : Nat) (sc : D) : ∀ (xs : List Int) (acc : List Int) (m : Int) (c : Slot), Sm m → acc.length + xs.length ≤ 1000 → (∀ y ∈ acc, Sm y) →
    ∃ (ys : List Int) (m' : Int) (c' : Slot), forLoop (bodyS (orc fns globs n) globs 3 (.seq (.asg 2 (.bin .Mod (.bin .Add (.bin .Add (.bin .Mult (.var 2) (.cint 6364136223846793005)) (.var 3)) (.cint 1442695040888963407)) (.cint 1000000000000000003))) (.seq (.append 1 (.var 2)) .skip)))
      (xs.map PyData.int) [.fr sc, .own (.list (acc.map PyData.int)), .fr (.int m), c] = .next [.fr sc, .own (.list (ys.map PyData.int)), .fr (.int m'), c'] ∧ ys.length = acc.length + xs.length ∧ ∀ y ∈ ys, Sm y
  | [], acc, m, c, _, _, ha => ⟨acc, m, c, by simp (disch := (first | assumption | decide | exact Zbp _ | (refine Sm.div ?_ ?_ <;> first | assumption | decide) | omega | (simp only [List.length_append, List.length_cons, List.length_nil, slen_sone, Zb7, slen_empty]; omega))) only [Za0, ZbH, ZbN, ZbI, ZbL, Za3, ZaC, Zb3, Zai, Zaw, ZbP, ZaN, ZbZ, Zb0, Zbv, ZbD, ZaU, ZbY, Zb4, Zb9, ZbT, Zcd, Zb5, ZbG, Zb2, Zb6, ZbQ, ZbE, ZbV, ZaJ, Zbz, Zbw, Zca, Zcb, Zcc, Zce, Zcf, Zb8, Zbh, Za9, Zbr, Zbt, ZaF, ZaG, ZaK, optInt_int, ZaR, ZaQ, ZbA, Zbk, mul_ok, Zbq, ZbX, ZaY, addl_ok, Zag, Zak, Zal, Zb1, ZbR, Zan, Zar, Zah, Zaq, getk, Int.reduceToNat, Int.toNat_natCast, len_list_ok, len_tuple_ok, len_str_ok, Zad, ZbK, ZbW, ZbO, Zbx, ZaT, List.getElem?_cons_zero, List.getElem?_cons_succ, Zch, Zcg, Zau, Zbj, ZaB, ZaV, Zaj, ZaD, ZaI, Zac, Zat, Zbe, Zba, Zav, Zbn, Za1, ZaM, Zax, Zbf, Zay, Zby, Zaz, Zap, ZaW, Zao, ZaH, Zbi, ZaP, Zaf, Zab, Zae, Zaa, aliasOk, Za5, Bool.false_eq_true, Bool.or_false, Bool.false_or, Bool.or_self, Bool.or_true, Bool.true_or, Bool.and_true, Bool.true_and, Bool.and_self, Bool.not_false, Bool.not_true, Bool.and_false, Bool.false_and, if_false, if_true, reduceIte, List.length_append, List.length_cons, List.length_nil, ZaZ, ZbJ, String.reduceBEq, String.reduceBNe, String.reduceEq, ZbM, Za2, Zbl, Zbb, ZaS, ZaE, ZaL, ZbC, Zbu, forS_list, ZaO, ZaA, Zam, Zas, ZbS, Za7, Zbs, Za8, Zbm, Za4, ZbB, Za6, Zbo, Zbd, ZbF, Zbc, slice_hi, slice_lo, slice_both, slice_tup1, slice_tup2, Zbg, ZbU, ZaX, decide_eq_true, decide_eq_false, int_beq_t, int_beq_f, Bool.and_eq_false_iff, Bool.or_eq_false_iff, beq_iff_eq, bne_iff_ne, decide_eq_true_eq, Bool.and_eq_true, Bool.or_eq_true, Bool.not_eq_true', decide_eq_false_iff_not, beq_eq_false_iff_ne, if_pos, if_neg, List.map_nil], by simp, ha⟩
  | x :: xs, acc, m, c, hm0, hl, ha => by
    obtain ⟨h0, h1⟩ := hm0
    simp only [List.length_cons] at hl
    have hm : (acc.map PyData.int).length = acc.length := List.length_map ..
    obtain ⟨ys, m', c', e, h2, h3⟩ := mixed_loop n sc xs (acc ++ [(m * 6364136223846793005 + x + 1442695040888963407) % 1000000000000000003]) ((m * 6364136223846793005 + x + 1442695040888963407) % 1000000000000000003) (.fr (.int x)) ⟨by omega, by omega⟩ (by simp; omega)
      (fun y hy => by
        rcases List.mem_append.mp hy with hy | hy
        · exact ha y hy
        · rw [List.mem_singleton.mp hy]; exact ⟨by omega, by omega⟩)
    refine ⟨ys, m', c', ?_, by rw [h2]; simp; omega, h3⟩
    rw [← e]
    simp only [List.map_append]
    simp (disch := (first | assumption | decide | exact Zbp _ | (refine Sm.div ?_ ?_ <;> first | assumption | decide) | omega | (simp only [List.length_append, List.length_cons, List.length_nil, slen_sone, Zb7, slen_empty]; omega))) only [Za0, ZbH, ZbN, ZbI, ZbL, Za3, ZaC, Zb3, Zai, Zaw, ZbP, ZaN, ZbZ, Zb0, Zbv, ZbD, ZaU, ZbY, Zb4, Zb9, ZbT, Zcd, Zb5, ZbG, Zb2, Zb6, ZbQ, ZbE, ZbV, ZaJ, Zbz, Zbw, Zca, Zcb, Zcc, Zce, Zcf, Zb8, Zbh, Za9, Zbr, Zbt, ZaF, ZaG, ZaK, optInt_int, ZaR, ZaQ, ZbA, Zbk, mul_ok, Zbq, ZbX, ZaY, addl_ok, Zag, Zak, Zal, Zb1, ZbR, Zan, Zar, Zah, Zaq, getk, Int.reduceToNat, Int.toNat_natCast, len_list_ok, len_tuple_ok, len_str_ok, Zad, ZbK, ZbW, ZbO, Zbx, ZaT, List.getElem?_cons_zero, List.getElem?_cons_succ, Zch, Zcg, Zau, Zbj, ZaB, ZaV, Zaj, ZaD, ZaI, Zac, Zat, Zbe, Zba, Zav, Zbn, Za1, ZaM, Zax, Zbf, Zay, Zby, Zaz, Zap, ZaW, Zao, ZaH, Zbi, ZaP, Zaf, Zab, Zae, Zaa, aliasOk, Za5, Bool.false_eq_true, Bool.or_false, Bool.false_or, Bool.or_self, Bool.or_true, Bool.true_or, Bool.and_true, Bool.true_and, Bool.and_self, Bool.not_false, Bool.not_true, Bool.and_false, Bool.false_and, if_false, if_true, reduceIte, List.length_append, List.length_cons, List.length_nil, ZaZ, ZbJ, String.reduceBEq, String.reduceBNe, String.reduceEq, ZbM, Za2, Zbl, Zbb, ZaS, ZaE, ZaL, ZbC, Zbu, forS_list, ZaO, ZaA, Zam, Zas, ZbS, Za7, Zbs, Za8, Zbm, Za4, ZbB, Za6, Zbo, Zbd, ZbF, Zbc, slice_hi, slice_lo, slice_both, slice_tup1, slice_tup2, Zbg, ZbU, ZaX, decide_eq_true, decide_eq_false, int_beq_t, int_beq_f, Bool.and_eq_false_iff, Bool.or_eq_false_iff, beq_iff_eq, bne_iff_ne, decide_eq_true_eq, Bool.and_eq_true, Bool.or_eq_true, Bool.not_eq_true', decide_eq_false_iff_not, beq_eq_false_iff_ne, if_pos, if_neg, List.map_cons, List.map_nil]
theorem mixed_ok (n : Nat) (xs : List Int) (hx : xs.length ≤ 1000) : ∃ ys : List Int, (orc fns globs (n + 1)).fn 5 [.list (xs.map PyData.int)] = .ok (.list (ys.map PyData.int), true) ∧ ys.length = xs.length ∧ ∀ y ∈ ys, Sm y := by
  rw [orc_fn (F := F_law_mixed) rfl rfl]
  show ∃ ys, fin (ex _ _ F_law_mixed.body [.fr _, .unset, .unset, .unset]) = _ ∧ _
  unfold F_law_mixed
  obtain ⟨ys, m', c', e, h2, h3⟩ := mixed_loop n (.list (xs.map PyData.int)) xs [] 1 .unset ⟨by decide, by decide⟩ (by simpa using hx) (fun y hy => by cases hy)
  have hm : (xs.map PyData.int).length = xs.length := List.length_map ..
  simp only [List.map_nil] at e
  refine ⟨ys, ?_, by simpa using h2, h3⟩
  simp (disch := (first | assumption | decide | exact Zbp _ | (refine Sm.div ?_ ?_ <;> first | assumption | decide) | omega | (simp only [List.length_append, List.length_cons, List.length_nil, slen_sone, Zb7, slen_empty]; omega))) only [Za0, ZbH, ZbN, ZbI, ZbL, Za3, ZaC, Zb3, Zai, Zaw, ZbP, ZaN, ZbZ, Zb0, Zbv, ZbD, ZaU, ZbY, Zb4, Zb9, ZbT, Zcd, Zb5, ZbG, Zb2, Zb6, ZbQ, ZbE, ZbV, ZaJ, Zbz, Zbw, Zca, Zcb, Zcc, Zce, Zcf, Zb8, Zbh, Za9, Zbr, Zbt, ZaF, ZaG, ZaK, optInt_int, ZaR, ZaQ, ZbA, Zbk, mul_ok, Zbq, ZbX, ZaY, addl_ok, Zag, Zak, Zal, Zb1, ZbR, Zan, Zar, Zah, Zaq, getk, Int.reduceToNat, Int.toNat_natCast, len_list_ok, len_tuple_ok, len_str_ok, Zad, ZbK, ZbW, ZbO, Zbx, ZaT, List.getElem?_cons_zero, List.getElem?_cons_succ, Zch, Zcg, Zau, Zbj, ZaB, ZaV, Zaj, ZaD, ZaI, Zac, Zat, Zbe, Zba, Zav, Zbn, Za1, ZaM, Zax, Zbf, Zay, Zby, Zaz, Zap, ZaW, Zao, ZaH, Zbi, ZaP, Zaf, Zab, Zae, Zaa, aliasOk, Za5, Bool.false_eq_true, Bool.or_false, Bool.false_or, Bool.or_self, Bool.or_true, Bool.true_or, Bool.and_true, Bool.true_and, Bool.and_self, Bool.not_false, Bool.not_true, Bool.and_false, Bool.false_and, if_false, if_true, reduceIte, List.length_append, List.length_cons, List.length_nil, ZaZ, ZbJ, String.reduceBEq, String.reduceBNe, String.reduceEq, ZbM, Za2, Zbl, Zbb, ZaS, ZaE, ZaL, ZbC, Zbu, forS_list, ZaO, ZaA, Zam, Zas, ZbS, Za7, Zbs, Za8, Zbm, Za4, ZbB, Za6, Zbo, Zbd, ZbF, Zbc, slice_hi, slice_lo, slice_both, slice_tup1, slice_tup2, Zbg, ZbU, ZaX, decide_eq_true, decide_eq_false, int_beq_t, int_beq_f, Bool.and_eq_false_iff, Bool.or_eq_false_iff, beq_iff_eq, bne_iff_ne, decide_eq_true_eq, Bool.and_eq_true, Bool.or_eq_true, Bool.not_eq_true', decide_eq_false_iff_not, beq_eq_false_iff_ne, if_pos, if_neg, e]
theorem name_loop (n : Nat) (a0 a1 a3 : Slot) (more : Int) (hm : Sm more) : ∀ (l : List D) (x : Str) (at' : Int) (t : Slot), Letters x → slen x + l.length ≤ 100 →
    ∃ (y : Str) (at2 : Int) (t' : Slot), forLoop (bodyS (orc fns globs n) globs 7 (.seq (.asg 6 (.bin .Add (.bin .Add (.var 6) (.cint 1)) (.bin .Mod (.bin .FloorDiv (.var 4) (.cint 182)) (.cint 25)))) (.seq (.asg 5 (.bin .Add (.var 5) (.idx (.var 2) (.bin .Mod (.var 6) (.cint 26))))) .skip))) l [a0, a1, .fr (.str abc), a3, .fr (.int more), .fr (.str x), .fr (.int at'), t, .unset, .unset, .unset]
      = .next [a0, a1, .fr (.str abc), a3, .fr (.int more), .fr (.str y), .fr (.int at2), t', .unset, .unset, .unset] ∧ Letters y ∧ slen y = slen x + l.length
  | [], x, at', t, hx, _ => ⟨x, at', t, by simp (disch := (first | assumption | decide | exact Zbp _ | (refine Sm.div ?_ ?_ <;> first | assumption | decide) | omega | (simp only [List.length_append, List.length_cons, List.length_nil, slen_sone, Zb7, slen_empty]; omega))) only [Za0, ZbH, ZbN, ZbI, ZbL, Za3, ZaC, Zb3, Zai, Zaw, ZbP, ZaN, ZbZ, Zb0, Zbv, ZbD, ZaU, ZbY, Zb4, Zb9, ZbT, Zcd, Zb5, ZbG, Zb2, Zb6, ZbQ, ZbE, ZbV, ZaJ, Zbz, Zbw, Zca, Zcb, Zcc, Zce, Zcf, Zb8, Zbh, Za9, Zbr, Zbt, ZaF, ZaG, ZaK, optInt_int, ZaR, ZaQ, ZbA, Zbk, mul_ok, Zbq, ZbX, ZaY, addl_ok, Zag, Zak, Zal, Zb1, ZbR, Zan, Zar, Zah, Zaq, getk, Int.reduceToNat, Int.toNat_natCast, len_list_ok, len_tuple_ok, len_str_ok, Zad, ZbK, ZbW, ZbO, Zbx, ZaT, List.getElem?_cons_zero, List.getElem?_cons_succ, Zch, Zcg, Zau, Zbj, ZaB, ZaV, Zaj, ZaD, ZaI, Zac, Zat, Zbe, Zba, Zav, Zbn, Za1, ZaM, Zax, Zbf, Zay, Zby, Zaz, Zap, ZaW, Zao, ZaH, Zbi, ZaP, Zaf, Zab, Zae, Zaa, aliasOk, Za5, Bool.false_eq_true, Bool.or_false, Bool.false_or, Bool.or_self, Bool.or_true, Bool.true_or, Bool.and_true, Bool.true_and, Bool.and_self, Bool.not_false, Bool.not_true, Bool.and_false, Bool.false_and, if_false, if_true, reduceIte, List.length_append, List.length_cons, List.length_nil, ZaZ, ZbJ, String.reduceBEq, String.reduceBNe, String.reduceEq, ZbM, Za2, Zbl, Zbb, ZaS, ZaE, ZaL, ZbC, Zbu, forS_list, ZaO, ZaA, Zam, Zas, ZbS, Za7, Zbs, Za8, Zbm, Za4, ZbB, Za6, Zbo, Zbd, ZbF, Zbc, slice_hi, slice_lo, slice_both, slice_tup1, slice_tup2, Zbg, ZbU, ZaX, decide_eq_true, decide_eq_false, int_beq_t, int_beq_f, Bool.and_eq_false_iff, Bool.or_eq_false_iff, beq_iff_eq, bne_iff_ne, decide_eq_true_eq, Bool.and_eq_true, Bool.or_eq_true, Bool.not_eq_true', decide_eq_false_iff_not, beq_eq_false_iff_ne, if_pos, if_neg], hx, by simp⟩
  | d :: l, x, at', t, hx, hl => by
    simp only [List.length_cons] at hl
    have hs := slen_sone (97 + ((at' + 1 + more / 182 % 25) % 26).toNat)
    have h5 : slen x ≤ 500000 := by omega
    obtain ⟨y, at2, t', e, h2, h3⟩ := name_loop n a0 a1 a3 more hm l (sapp x (sone (97 + ((at' + 1 + more / 182 % 25) % 26).toNat))) (at' + 1 + more / 182 % 25) (.fr d) (letters_sapp hx (letters_mod _)) (by rw [Zb7, hs]; omega)
    refine ⟨y, at2, t', ?_, h2, by rw [h3, Zb7, hs, List.length_cons]; omega⟩
    rw [← e]
    simp (disch := (first | assumption | decide | exact Zbp _ | (refine Sm.div ?_ ?_ <;> first | assumption | decide) | omega | (simp only [List.length_append, List.length_cons, List.length_nil, slen_sone, Zb7, slen_empty]; omega))) only [Za0, ZbH, ZbN, ZbI, ZbL, Za3, ZaC, Zb3, Zai, Zaw, ZbP, ZaN, ZbZ, Zb0, Zbv, ZbD, ZaU, ZbY, Zb4, Zb9, ZbT, Zcd, Zb5, ZbG, Zb2, Zb6, ZbQ, ZbE, ZbV, ZaJ, Zbz, Zbw, Zca, Zcb, Zcc, Zce, Zcf, Zb8, Zbh, Za9, Zbr, Zbt, ZaF, ZaG, ZaK, optInt_int, ZaR, ZaQ, ZbA, Zbk, mul_ok, Zbq, ZbX, ZaY, addl_ok, Zag, Zak, Zal, Zb1, ZbR, Zan, Zar, Zah, Zaq, getk, Int.reduceToNat, Int.toNat_natCast, len_list_ok, len_tuple_ok, len_str_ok, Zad, ZbK, ZbW, ZbO, Zbx, ZaT, List.getElem?_cons_zero, List.getElem?_cons_succ, Zch, Zcg, Zau, Zbj, ZaB, ZaV, Zaj, ZaD, ZaI, Zac, Zat, Zbe, Zba, Zav, Zbn, Za1, ZaM, Zax, Zbf, Zay, Zby, Zaz, Zap, ZaW, Zao, ZaH, Zbi, ZaP, Zaf, Zab, Zae, Zaa, aliasOk, Za5, Bool.false_eq_true, Bool.or_false, Bool.false_or, Bool.or_self, Bool.or_true, Bool.true_or, Bool.and_true, Bool.true_and, Bool.and_self, Bool.not_false, Bool.not_true, Bool.and_false, Bool.false_and, if_false, if_true, reduceIte, List.length_append, List.length_cons, List.length_nil, ZaZ, ZbJ, String.reduceBEq, String.reduceBNe, String.reduceEq, ZbM, Za2, Zbl, Zbb, ZaS, ZaE, ZaL, ZbC, Zbu, forS_list, ZaO, ZaA, Zam, Zas, ZbS, Za7, Zbs, Za8, Zbm, Za4, ZbB, Za6, Zbo, Zbd, ZbF, Zbc, slice_hi, slice_lo, slice_both, slice_tup1, slice_tup2, Zbg, ZbU, ZaX, decide_eq_true, decide_eq_false, int_beq_t, int_beq_f, Bool.and_eq_false_iff, Bool.or_eq_false_iff, beq_iff_eq, bne_iff_ne, decide_eq_true_eq, Bool.and_eq_true, Bool.or_eq_true, Bool.not_eq_true', decide_eq_false_iff_not, beq_eq_false_iff_ne, if_pos, if_neg, abc_mod]
theorem name_rest (n : Nat) (c k m at2 : Int) (y : Str) (t' w3 : Slot) (hm : Sm m) (hk : Ki k) (hc : k < 4 → c % 6 ≠ 0) (h2 : Letters y) (l1 : 1 ≤ slen y) (l2 : slen y ≤ 7) :
    ∃ x, fin (ex (orc fns globs n) globs (.seq (.asg 8 (.bin .Mod (.bin .FloorDiv (.var 4) (.cint 4550)) (.bi1 .len (.var 5)))) (.seq (.ite (.cmp .Gt (.var 1) (.cint 3)) (.seq (.asg 8 (.bi2 .min (.var 8) (.cint 6))) (.seq (.asg 9 (.bin .Add (.idx (.var 2) (.bin .Mod (.bin .Add (.var 6) (.bin .FloorDiv (.var 1) (.cint 26))) (.cint 26))) (.idx (.var 2) (.bin .Mod (.var 1) (.cint 26))))) (.seq (.ret (.bin .Add (.bin .Add (.slice (.var 5) .none (.some (.var 8))) (.var 9)) (.slice (.var 5) (.some (.var 8)) (.some (.cint 6))))) .skip))) .skip) (.seq (.ite (.cmp .Gt (.bin .Mod (.var 0) (.cint 6)) (.cint 3)) (.seq (.ret (.bin .Add (.idx (.var 2) (.bin .Mod (.bin .Add (.bin .FloorDiv (.var 4) (.cint 7)) (.var 1)) (.cint 26))) (.var 5))) .skip) .skip) (.seq (.ite (.cmp .Eq (.var 1) (.cint 1)) (.seq (.asg 10 (.idx (.var 2) (.bin .Mod (.bin .Add (.find (.var 2) (.idx (.var 5) (.var 8))) (.cint 1)) (.cint 26)))) (.seq (.ret (.bin .Add (.bin .Add (.slice (.var 5) .none (.some (.var 8))) (.var 10)) (.slice (.var 5) (.some (.bin .Add (.var 8) (.cint 1))) .none))) .skip)) .skip) (.seq (.ret (.bin .Add (.var 5) (.idx (.lstD (.cons (.cstr (Str.ofString "")) (.cons (.cstr (Str.ofString "")) (.cons (.idx (.var 2) (.bin .Mod (.var 6) (.cint 26))) (.cons (.idx (.var 2) (.bin .Mod (.bin .Add (.var 6) (.cint 1)) (.cint 26))) .nil))))) (.var 1)))) .skip))))) [.fr (.int c), .fr (.int k), .fr (.str abc), w3, .fr (.int m), .fr (.str y), .fr (.int at2), t', .unset, .unset, .unset]) = .ok (.str x, false) ∧ Nm x := by
  obtain ⟨hk0, hk1⟩ := hk
  have hks : Sm k := ⟨hk0, by omega⟩
  obtain ⟨sp, e1, s0, s1⟩ : ∃ sp : Int, binD .Mod (.int (m / 4550)) (.int (slen y)) = .ok (.int sp) ∧ 0 ≤ sp ∧ sp < slen y := ⟨_, mod_ok (by omega), Int.emod_nonneg _ (by omega), Int.emod_lt_of_pos _ (by omega)⟩
  have hlen : b1D .len (.str y) = .ok (.int (slen y)) := len_str_ok (by omega)
  have y5 : slen y ≤ 500000 := by omega
  obtain ⟨P, eP, hP, lP⟩ := pre_ok h2 (by omega) s0 (by omega)
  have p5 : slen P ≤ 500000 := by omega
  rw [peel_asg (d := .int sp) (by simp (disch := (first | assumption | decide | exact Zbp _ | (refine Sm.div ?_ ?_ <;> first | assumption | decide))) only [Za0, ZbH, ZbN, ZbI, ZbL, Za3, ZaC, Zb3, Zai, Zaw, ZbP, ZaN, ZbZ, Zb0, Zbv, ZbD, ZaU, ZbY, Zb4, Zb9, ZbT, Zcd, Zb5, ZbG, Zb2, Zb6, ZbQ, ZbE, ZbV, ZaJ, Zbz, Zbw, Zca, Zcb, Zcc, Zce, Zcf, Zb8, Zbh, Za9, Zbr, Zbt, ZaF, ZaG, ZaK, optInt_int, ZaR, ZaQ, ZbA, Zbk, Zbq, ZbX, ZaY, Zag, Zak, Zal, Zb1, ZbR, Zan, Zar, Zah, Zaq, Int.reduceToNat, Int.toNat_natCast, Zad, ZbK, ZbW, ZbO, Zbx, ZaT, List.getElem?_cons_zero, List.getElem?_cons_succ, Zch, Zcg, Zau, Zbj, ZaB, ZaV, Zaj, ZaD, ZaI, Zac, Zat, Zbe, Zba, Zav, Zbn, Za1, ZaM, Zax, Zbf, Zay, Zby, Zaz, Zap, ZaW, Zao, ZaH, Zbi, ZaP, Zaf, Zab, Zae, Zaa, aliasOk, Za5, Bool.false_eq_true, Bool.or_false, Bool.false_or, Bool.or_self, Bool.or_true, Bool.true_or, Bool.and_true, Bool.true_and, Bool.and_self, Bool.not_false, Bool.not_true, Bool.and_false, Bool.false_and, if_false, if_true, reduceIte, ZaZ, ZbJ, String.reduceBEq, String.reduceBNe, String.reduceEq, ZbM, Za2, Zbl, Zbb, ZaS, ZaE, ZaL, ZbC, Zbu, ZaO, ZaA, Zam, Zas, ZbS, Za7, Zbs, Za8, Zbm, Za4, ZbB, Za6, Zbo, Zbd, ZbF, Zbc, Zbg, ZbU, ZaX, Bool.not_eq_true', hlen, e1]) rfl, Zcg, Zcg, Zcg, Zcg, Zcg, Zcg, Zcg, Zcg, Zch]
  by_cases k3 : 3 < k
  · obtain ⟨S, eS, hS, lS1, lS2⟩ := mid_ok (j := 6) h2 (by omega) s0 (by omega) (by decide) (by decide)
    have hmin : b2D .min (.int sp) (.int 6) = .ok (.int sp) := by rw [ZbK, if_neg (by omega)]
    have s5 : slen S ≤ 500000 := by omega
    have t5 : slen (sapp (sone (97 + ((at2 + k / 26) % 26).toNat)) (sone (97 + (k % 26).toNat))) ≤ 500000 := by rw [Zb7, slen_sone, slen_sone]; decide
    have q5 : slen (sapp P (sapp (sone (97 + ((at2 + k / 26) % 26).toNat)) (sone (97 + (k % 26).toNat)))) ≤ 500000 := by rw [Zb7, Zb7, slen_sone, slen_sone]; omega
    rw [peel_t (by simp (disch := (first | assumption | decide | exact Zbp _ | (refine Sm.div ?_ ?_ <;> first | assumption | decide))) only [Za0, ZbH, ZbN, ZbI, ZbL, Za3, ZaC, Zb3, Zai, Zaw, ZbP, ZaN, ZbZ, Zb0, Zbv, ZbD, ZaU, ZbY, Zb4, Zb9, ZbT, Zcd, Zb5, ZbG, Zb2, Zb6, ZbQ, ZbE, ZbV, ZaJ, Zbz, Zbw, Zca, Zcb, Zcc, Zce, Zcf, Zb8, Zbh, Za9, Zbr, Zbt, ZaF, ZaG, ZaK, optInt_int, ZaR, ZaQ, ZbA, Zbk, Zbq, ZbX, ZaY, Zag, Zak, Zal, Zb1, ZbR, Zan, Zar, Zah, Zaq, Int.reduceToNat, Int.toNat_natCast, Zad, ZbK, ZbW, ZbO, Zbx, ZaT, List.getElem?_cons_zero, List.getElem?_cons_succ, Zch, Zcg, Zau, Zbj, ZaB, ZaV, Zaj, ZaD, ZaI, Zac, Zat, Zbe, Zba, Zav, Zbn, Za1, ZaM, Zax, Zbf, Zay, Zby, Zaz, Zap, ZaW, Zao, ZaH, Zbi, ZaP, Zaf, Zab, Zae, Zaa, aliasOk, Za5, Bool.false_eq_true, Bool.or_false, Bool.false_or, Bool.or_self, Bool.or_true, Bool.true_or, Bool.and_true, Bool.true_and, Bool.and_self, Bool.not_false, Bool.not_true, Bool.and_false, Bool.false_and, if_false, if_true, reduceIte, ZaZ, ZbJ, String.reduceBEq, String.reduceBNe, String.reduceEq, ZbM, Za2, Zbl, Zbb, ZaS, ZaE, ZaL, ZbC, Zbu, ZaO, ZaA, Zam, Zas, ZbS, Za7, Zbs, Za8, Zbm, Za4, ZbB, Za6, Zbo, Zbd, ZbF, Zbc, Zbg, ZbU, ZaX, Bool.not_eq_true', decide_eq_true k3]) ((peel_asg (d := .int sp) (by simp (disch := (first | assumption | decide | exact Zbp _ | (refine Sm.div ?_ ?_ <;> first | assumption | decide))) only [Za0, ZbH, ZbN, ZbI, ZbL, Za3, ZaC, Zb3, Zai, Zaw, ZbP, ZaN, ZbZ, Zb0, Zbv, ZbD, ZaU, ZbY, Zb4, Zb9, ZbT, Zcd, Zb5, ZbG, Zb2, Zb6, ZbQ, ZbE, ZbV, ZaJ, Zbz, Zbw, Zca, Zcb, Zcc, Zce, Zcf, Zb8, Zbh, Za9, Zbr, Zbt, ZaF, ZaG, ZaK, optInt_int, ZaR, ZaQ, ZbA, Zbk, Zbq, ZbX, ZaY, Zag, Zak, Zal, Zb1, ZbR, Zan, Zar, Zah, Zaq, Int.reduceToNat, Int.toNat_natCast, Zad, ZbK, ZbW, ZbO, Zbx, ZaT, List.getElem?_cons_zero, List.getElem?_cons_succ, Zch, Zcg, Zau, Zbj, ZaB, ZaV, Zaj, ZaD, ZaI, Zac, Zat, Zbe, Zba, Zav, Zbn, Za1, ZaM, Zax, Zbf, Zay, Zby, Zaz, Zap, ZaW, Zao, ZaH, Zbi, ZaP, Zaf, Zab, Zae, Zaa, aliasOk, Za5, Bool.false_eq_true, Bool.or_false, Bool.false_or, Bool.or_self, Bool.or_true, Bool.true_or, Bool.and_true, Bool.true_and, Bool.and_self, Bool.not_false, Bool.not_true, Bool.and_false, Bool.false_and, if_false, if_true, reduceIte, ZaZ, ZbJ, String.reduceBEq, String.reduceBNe, String.reduceEq, ZbM, Za2, Zbl, Zbb, ZaS, ZaE, ZaL, ZbC, Zbu, ZaO, ZaA, Zam, Zas, ZbS, Za7, Zbs, Za8, Zbm, Za4, ZbB, Za6, Zbo, Zbd, ZbF, Zbc, Zbg, ZbU, ZaX, Bool.not_eq_true', hmin]) rfl).trans ((peel_asg (d := .str (sapp (sone (97 + ((at2 + k / 26) % 26).toNat)) (sone (97 + (k % 26).toNat)))) (by simp (disch := (first | assumption | decide | exact Zbp _ | (refine Sm.div ?_ ?_ <;> first | assumption | decide))) only [Za0, ZbH, ZbN, ZbI, ZbL, Za3, ZaC, Zb3, Zai, Zaw, ZbP, ZaN, ZbZ, Zb0, Zbv, ZbD, ZaU, ZbY, Zb4, Zb9, ZbT, Zcd, Zb5, ZbG, Zb2, Zb6, ZbQ, ZbE, ZbV, ZaJ, Zbz, Zbw, Zca, Zcb, Zcc, Zce, Zcf, Zb8, Zbh, Za9, Zbr, Zbt, ZaF, ZaG, ZaK, optInt_int, ZaR, ZaQ, ZbA, Zbk, Zbq, ZbX, ZaY, Zag, Zak, Zal, Zb1, ZbR, Zan, Zar, Zah, Zaq, Int.reduceToNat, Int.toNat_natCast, Zad, ZbK, ZbW, ZbO, Zbx, ZaT, List.getElem?_cons_zero, List.getElem?_cons_succ, Zch, Zcg, Zau, Zbj, ZaB, ZaV, Zaj, ZaD, ZaI, Zac, Zat, Zbe, Zba, Zav, Zbn, Za1, ZaM, Zax, Zbf, Zay, Zby, Zaz, Zap, ZaW, Zao, ZaH, Zbi, ZaP, Zaf, Zab, Zae, Zaa, aliasOk, Za5, Bool.false_eq_true, Bool.or_false, Bool.false_or, Bool.or_self, Bool.or_true, Bool.true_or, Bool.and_true, Bool.true_and, Bool.and_self, Bool.not_false, Bool.not_true, Bool.and_false, Bool.false_and, if_false, if_true, reduceIte, ZaZ, ZbJ, String.reduceBEq, String.reduceBNe, String.reduceEq, ZbM, Za2, Zbl, Zbb, ZaS, ZaE, ZaL, ZbC, Zbu, ZaO, ZaA, Zam, Zas, ZbS, Za7, Zbs, Za8, Zbm, Za4, ZbB, Za6, Zbo, Zbd, ZbF, Zbc, Zbg, ZbU, ZaX, Bool.not_eq_true', abc_mod]) rfl).trans (peel_ret (d := .str (sapp (sapp P (sapp (sone (97 + ((at2 + k / 26) % 26).toNat)) (sone (97 + (k % 26).toNat)))) S)) (by simp (disch := (first | assumption | decide | exact Zbp _ | (refine Sm.div ?_ ?_ <;> first | assumption | decide))) only [Za0, ZbH, ZbN, ZbI, ZbL, Za3, ZaC, Zb3, Zai, Zaw, ZbP, ZaN, ZbZ, Zb0, Zbv, ZbD, ZaU, ZbY, Zb4, Zb9, ZbT, Zcd, Zb5, ZbG, Zb2, Zb6, ZbQ, ZbE, ZbV, ZaJ, Zbz, Zbw, Zca, Zcb, Zcc, Zce, Zcf, Zb8, Zbh, Za9, Zbr, Zbt, ZaF, ZaG, ZaK, optInt_int, ZaR, ZaQ, ZbA, Zbk, Zbq, ZbX, ZaY, Zag, Zak, Zal, Zb1, ZbR, Zan, Zar, Zah, Zaq, Int.reduceToNat, Int.toNat_natCast, Zad, ZbK, ZbW, ZbO, Zbx, ZaT, List.getElem?_cons_zero, List.getElem?_cons_succ, Zch, Zcg, Zau, Zbj, ZaB, ZaV, Zaj, ZaD, ZaI, Zac, Zat, Zbe, Zba, Zav, Zbn, Za1, ZaM, Zax, Zbf, Zay, Zby, Zaz, Zap, ZaW, Zao, ZaH, Zbi, ZaP, Zaf, Zab, Zae, Zaa, aliasOk, Za5, Bool.false_eq_true, Bool.or_false, Bool.false_or, Bool.or_self, Bool.or_true, Bool.true_or, Bool.and_true, Bool.true_and, Bool.and_self, Bool.not_false, Bool.not_true, Bool.and_false, Bool.false_and, if_false, if_true, reduceIte, ZaZ, ZbJ, String.reduceBEq, String.reduceBNe, String.reduceEq, ZbM, Za2, Zbl, Zbb, ZaS, ZaE, ZaL, ZbC, Zbu, ZaO, ZaA, Zam, Zas, ZbS, Za7, Zbs, Za8, Zbm, Za4, ZbB, Za6, Zbo, Zbd, ZbF, Zbc, Zbg, ZbU, ZaX, Bool.not_eq_true', eP, eS]))))]
    refine ⟨_, rfl, letters_sapp (letters_sapp hP (letters_sapp (letters_mod _) (letters_mod _))) hS, ?_, ?_⟩
    · simp only [Zb7, slen_sone]; omega
    · simp only [Zb7, slen_sone]; omega
  rw [peel_f (by simp (disch := (first | assumption | decide | exact Zbp _ | (refine Sm.div ?_ ?_ <;> first | assumption | decide))) only [Za0, ZbH, ZbN, ZbI, ZbL, Za3, ZaC, Zb3, Zai, Zaw, ZbP, ZaN, ZbZ, Zb0, Zbv, ZbD, ZaU, ZbY, Zb4, Zb9, ZbT, Zcd, Zb5, ZbG, Zb2, Zb6, ZbQ, ZbE, ZbV, ZaJ, Zbz, Zbw, Zca, Zcb, Zcc, Zce, Zcf, Zb8, Zbh, Za9, Zbr, Zbt, ZaF, ZaG, ZaK, optInt_int, ZaR, ZaQ, ZbA, Zbk, Zbq, ZbX, ZaY, Zag, Zak, Zal, Zb1, ZbR, Zan, Zar, Zah, Zaq, Int.reduceToNat, Int.toNat_natCast, Zad, ZbK, ZbW, ZbO, Zbx, ZaT, List.getElem?_cons_zero, List.getElem?_cons_succ, Zch, Zcg, Zau, Zbj, ZaB, ZaV, Zaj, ZaD, ZaI, Zac, Zat, Zbe, Zba, Zav, Zbn, Za1, ZaM, Zax, Zbf, Zay, Zby, Zaz, Zap, ZaW, Zao, ZaH, Zbi, ZaP, Zaf, Zab, Zae, Zaa, aliasOk, Za5, Bool.false_eq_true, Bool.or_false, Bool.false_or, Bool.or_self, Bool.or_true, Bool.true_or, Bool.and_true, Bool.true_and, Bool.and_self, Bool.not_false, Bool.not_true, Bool.and_false, Bool.false_and, if_false, if_true, reduceIte, ZaZ, ZbJ, String.reduceBEq, String.reduceBNe, String.reduceEq, ZbM, Za2, Zbl, Zbb, ZaS, ZaE, ZaL, ZbC, Zbu, ZaO, ZaA, Zam, Zas, ZbS, Za7, Zbs, Za8, Zbm, Za4, ZbB, Za6, Zbo, Zbd, ZbF, Zbc, Zbg, ZbU, ZaX, Bool.not_eq_true', decide_eq_false k3])]
  by_cases c3 : 3 < c % 6
  · rw [peel_t (by simp (disch := (first | assumption | decide | exact Zbp _ | (refine Sm.div ?_ ?_ <;> first | assumption | decide))) only [Za0, ZbH, ZbN, ZbI, ZbL, Za3, ZaC, Zb3, Zai, Zaw, ZbP, ZaN, ZbZ, Zb0, Zbv, ZbD, ZaU, ZbY, Zb4, Zb9, ZbT, Zcd, Zb5, ZbG, Zb2, Zb6, ZbQ, ZbE, ZbV, ZaJ, Zbz, Zbw, Zca, Zcb, Zcc, Zce, Zcf, Zb8, Zbh, Za9, Zbr, Zbt, ZaF, ZaG, ZaK, optInt_int, ZaR, ZaQ, ZbA, Zbk, Zbq, ZbX, ZaY, Zag, Zak, Zal, Zb1, ZbR, Zan, Zar, Zah, Zaq, Int.reduceToNat, Int.toNat_natCast, Zad, ZbK, ZbW, ZbO, Zbx, ZaT, List.getElem?_cons_zero, List.getElem?_cons_succ, Zch, Zcg, Zau, Zbj, ZaB, ZaV, Zaj, ZaD, ZaI, Zac, Zat, Zbe, Zba, Zav, Zbn, Za1, ZaM, Zax, Zbf, Zay, Zby, Zaz, Zap, ZaW, Zao, ZaH, Zbi, ZaP, Zaf, Zab, Zae, Zaa, aliasOk, Za5, Bool.false_eq_true, Bool.or_false, Bool.false_or, Bool.or_self, Bool.or_true, Bool.true_or, Bool.and_true, Bool.true_and, Bool.and_self, Bool.not_false, Bool.not_true, Bool.and_false, Bool.false_and, if_false, if_true, reduceIte, ZaZ, ZbJ, String.reduceBEq, String.reduceBNe, String.reduceEq, ZbM, Za2, Zbl, Zbb, ZaS, ZaE, ZaL, ZbC, Zbu, ZaO, ZaA, Zam, Zas, ZbS, Za7, Zbs, Za8, Zbm, Za4, ZbB, Za6, Zbo, Zbd, ZbF, Zbc, Zbg, ZbU, ZaX, Bool.not_eq_true', decide_eq_true c3]) (peel_ret (d := .str (sapp (sone (97 + ((m / 7 + k) % 26).toNat)) y)) (by simp (disch := (first | assumption | decide | exact Zbp _ | (refine Sm.div ?_ ?_ <;> first | assumption | decide))) only [Za0, ZbH, ZbN, ZbI, ZbL, Za3, ZaC, Zb3, Zai, Zaw, ZbP, ZaN, ZbZ, Zb0, Zbv, ZbD, ZaU, ZbY, Zb4, Zb9, ZbT, Zcd, Zb5, ZbG, Zb2, Zb6, ZbQ, ZbE, ZbV, ZaJ, Zbz, Zbw, Zca, Zcb, Zcc, Zce, Zcf, Zb8, Zbh, Za9, Zbr, Zbt, ZaF, ZaG, ZaK, optInt_int, ZaR, ZaQ, ZbA, Zbk, Zbq, ZbX, ZaY, Zag, Zak, Zal, Zb1, ZbR, Zan, Zar, Zah, Zaq, Int.reduceToNat, Int.toNat_natCast, Zad, ZbK, ZbW, ZbO, Zbx, ZaT, List.getElem?_cons_zero, List.getElem?_cons_succ, Zch, Zcg, Zau, Zbj, ZaB, ZaV, Zaj, ZaD, ZaI, Zac, Zat, Zbe, Zba, Zav, Zbn, Za1, ZaM, Zax, Zbf, Zay, Zby, Zaz, Zap, ZaW, Zao, ZaH, Zbi, ZaP, Zaf, Zab, Zae, Zaa, aliasOk, Za5, Bool.false_eq_true, Bool.or_false, Bool.false_or, Bool.or_self, Bool.or_true, Bool.true_or, Bool.and_true, Bool.true_and, Bool.and_self, Bool.not_false, Bool.not_true, Bool.and_false, Bool.false_and, if_false, if_true, reduceIte, ZaZ, ZbJ, String.reduceBEq, String.reduceBNe, String.reduceEq, ZbM, Za2, Zbl, Zbb, ZaS, ZaE, ZaL, ZbC, Zbu, ZaO, ZaA, Zam, Zas, ZbS, Za7, Zbs, Za8, Zbm, Za4, ZbB, Za6, Zbo, Zbd, ZbF, Zbc, Zbg, ZbU, ZaX, Bool.not_eq_true', abc_mod]))]
    refine ⟨_, rfl, letters_sapp (letters_mod _) h2, ?_, ?_⟩
    · rw [Zb7, slen_sone]; omega
    · rw [Zb7, slen_sone]; omega
  rw [peel_f (by simp (disch := (first | assumption | decide | exact Zbp _ | (refine Sm.div ?_ ?_ <;> first | assumption | decide))) only [Za0, ZbH, ZbN, ZbI, ZbL, Za3, ZaC, Zb3, Zai, Zaw, ZbP, ZaN, ZbZ, Zb0, Zbv, ZbD, ZaU, ZbY, Zb4, Zb9, ZbT, Zcd, Zb5, ZbG, Zb2, Zb6, ZbQ, ZbE, ZbV, ZaJ, Zbz, Zbw, Zca, Zcb, Zcc, Zce, Zcf, Zb8, Zbh, Za9, Zbr, Zbt, ZaF, ZaG, ZaK, optInt_int, ZaR, ZaQ, ZbA, Zbk, Zbq, ZbX, ZaY, Zag, Zak, Zal, Zb1, ZbR, Zan, Zar, Zah, Zaq, Int.reduceToNat, Int.toNat_natCast, Zad, ZbK, ZbW, ZbO, Zbx, ZaT, List.getElem?_cons_zero, List.getElem?_cons_succ, Zch, Zcg, Zau, Zbj, ZaB, ZaV, Zaj, ZaD, ZaI, Zac, Zat, Zbe, Zba, Zav, Zbn, Za1, ZaM, Zax, Zbf, Zay, Zby, Zaz, Zap, ZaW, Zao, ZaH, Zbi, ZaP, Zaf, Zab, Zae, Zaa, aliasOk, Za5, Bool.false_eq_true, Bool.or_false, Bool.false_or, Bool.or_self, Bool.or_true, Bool.true_or, Bool.and_true, Bool.true_and, Bool.and_self, Bool.not_false, Bool.not_true, Bool.and_false, Bool.false_and, if_false, if_true, reduceIte, ZaZ, ZbJ, String.reduceBEq, String.reduceBNe, String.reduceEq, ZbM, Za2, Zbl, Zbb, ZaS, ZaE, ZaL, ZbC, Zbu, ZaO, ZaA, Zam, Zas, ZbS, Za7, Zbs, Za8, Zbm, Za4, ZbB, Za6, Zbo, Zbd, ZbF, Zbc, Zbg, ZbU, ZaX, Bool.not_eq_true', decide_eq_false c3])]
  by_cases k1 : k = 1
  · subst k1
    obtain ⟨S, eS, hS, lS⟩ := suf_ok (i := sp + 1) h2 (by omega) (by omega) (by omega)
    have hi := pidx_str (x := y) s0 s1 (by simp only [big]; omega)
    have s5 : slen S ≤ 500000 := by omega
    have q5 : ∀ z, slen (sapp P (sone z)) ≤ 500000 := fun z => by rw [Zb7, slen_sone]; omega
    rw [peel_t (by simp (disch := (first | assumption | decide | exact Zbp _ | (refine Sm.div ?_ ?_ <;> first | assumption | decide))) only [Za0, ZbH, ZbN, ZbI, ZbL, Za3, ZaC, Zb3, Zai, Zaw, ZbP, ZaN, ZbZ, Zb0, Zbv, ZbD, ZaU, ZbY, Zb4, Zb9, ZbT, Zcd, Zb5, ZbG, Zb2, Zb6, ZbQ, ZbE, ZbV, ZaJ, Zbz, Zbw, Zca, Zcb, Zcc, Zce, Zcf, Zb8, Zbh, Za9, Zbr, Zbt, ZaF, ZaG, ZaK, optInt_int, ZaR, ZaQ, ZbA, Zbk, Zbq, ZbX, ZaY, Zag, Zak, Zal, Zb1, ZbR, Zan, Zar, Zah, Zaq, Int.reduceToNat, Int.toNat_natCast, Zad, ZbK, ZbW, ZbO, Zbx, ZaT, List.getElem?_cons_zero, List.getElem?_cons_succ, Zch, Zcg, Zau, Zbj, ZaB, ZaV, Zaj, ZaD, ZaI, Zac, Zat, Zbe, Zba, Zav, Zbn, Za1, ZaM, Zax, Zbf, Zay, Zby, Zaz, Zap, ZaW, Zao, ZaH, Zbi, ZaP, Zaf, Zab, Zae, Zaa, aliasOk, Za5, Bool.false_eq_true, Bool.or_false, Bool.false_or, Bool.or_self, Bool.or_true, Bool.true_or, Bool.and_true, Bool.true_and, Bool.and_self, Bool.not_false, Bool.not_true, Bool.and_false, Bool.false_and, if_false, if_true, reduceIte, ZaZ, ZbJ, String.reduceBEq, String.reduceBNe, String.reduceEq, ZbM, Za2, Zbl, Zbb, ZaS, ZaE, ZaL, ZbC, Zbu, ZaO, ZaA, Zam, Zas, ZbS, Za7, Zbs, Za8, Zbm, Za4, ZbB, Za6, Zbo, Zbd, ZbF, Zbc, Zbg, ZbU, ZaX, Bool.not_eq_true', int_beq_t (rfl : (1 : Int) = 1)]) ((peel_asg (d := .str (sone (97 + ((Txt.find abc (sone (y.cps.toList.getD sp.toNat 0)) + 1) % 26).toNat))) (by simp (disch := (first | assumption | decide | exact Zbp _ | (refine Sm.div ?_ ?_ <;> first | assumption | decide))) only [Za0, ZbH, ZbN, ZbI, ZbL, Za3, ZaC, Zb3, Zai, Zaw, ZbP, ZaN, ZbZ, Zb0, Zbv, ZbD, ZaU, ZbY, Zb4, Zb9, ZbT, Zcd, Zb5, ZbG, Zb2, Zb6, ZbQ, ZbE, ZbV, ZaJ, Zbz, Zbw, Zca, Zcb, Zcc, Zce, Zcf, Zb8, Zbh, Za9, Zbr, Zbt, ZaF, ZaG, ZaK, optInt_int, ZaR, ZaQ, ZbA, Zbk, Zbq, ZbX, ZaY, Zag, Zak, Zal, Zb1, ZbR, Zan, Zar, Zah, Zaq, Int.reduceToNat, Int.toNat_natCast, Zad, ZbK, ZbW, ZbO, Zbx, ZaT, List.getElem?_cons_zero, List.getElem?_cons_succ, Zch, Zcg, Zau, Zbj, ZaB, ZaV, Zaj, ZaD, ZaI, Zac, Zat, Zbe, Zba, Zav, Zbn, Za1, ZaM, Zax, Zbf, Zay, Zby, Zaz, Zap, ZaW, Zao, ZaH, Zbi, ZaP, Zaf, Zab, Zae, Zaa, aliasOk, Za5, Bool.false_eq_true, Bool.or_false, Bool.false_or, Bool.or_self, Bool.or_true, Bool.true_or, Bool.and_true, Bool.true_and, Bool.and_self, Bool.not_false, Bool.not_true, Bool.and_false, Bool.false_and, if_false, if_true, reduceIte, ZaZ, ZbJ, String.reduceBEq, String.reduceBNe, String.reduceEq, ZbM, Za2, Zbl, Zbb, ZaS, ZaE, ZaL, ZbC, Zbu, ZaO, ZaA, Zam, Zas, ZbS, Za7, Zbs, Za8, Zbm, Za4, ZbB, Za6, Zbo, Zbd, ZbF, Zbc, Zbg, ZbU, ZaX, Bool.not_eq_true', hi, abc_mod]) rfl).trans (peel_ret (d := .str (sapp (sapp P (sone (97 + ((Txt.find abc (sone (y.cps.toList.getD sp.toNat 0)) + 1) % 26).toNat))) S)) (by simp (disch := (first | assumption | decide | exact Zbp _ | (refine Sm.div ?_ ?_ <;> first | assumption | decide))) only [Za0, ZbH, ZbN, ZbI, ZbL, Za3, ZaC, Zb3, Zai, Zaw, ZbP, ZaN, ZbZ, Zb0, Zbv, ZbD, ZaU, ZbY, Zb4, Zb9, ZbT, Zcd, Zb5, ZbG, Zb2, Zb6, ZbQ, ZbE, ZbV, ZaJ, Zbz, Zbw, Zca, Zcb, Zcc, Zce, Zcf, Zb8, Zbh, Za9, Zbr, Zbt, ZaF, ZaG, ZaK, optInt_int, ZaR, ZaQ, ZbA, Zbk, Zbq, ZbX, ZaY, Zag, Zak, Zal, Zb1, ZbR, Zan, Zar, Zah, Zaq, Int.reduceToNat, Int.toNat_natCast, Zad, ZbK, ZbW, ZbO, Zbx, ZaT, List.getElem?_cons_zero, List.getElem?_cons_succ, Zch, Zcg, Zau, Zbj, ZaB, ZaV, Zaj, ZaD, ZaI, Zac, Zat, Zbe, Zba, Zav, Zbn, Za1, ZaM, Zax, Zbf, Zay, Zby, Zaz, Zap, ZaW, Zao, ZaH, Zbi, ZaP, Zaf, Zab, Zae, Zaa, aliasOk, Za5, Bool.false_eq_true, Bool.or_false, Bool.false_or, Bool.or_self, Bool.or_true, Bool.true_or, Bool.and_true, Bool.true_and, Bool.and_self, Bool.not_false, Bool.not_true, Bool.and_false, Bool.false_and, if_false, if_true, reduceIte, ZaZ, ZbJ, String.reduceBEq, String.reduceBNe, String.reduceEq, ZbM, Za2, Zbl, Zbb, ZaS, ZaE, ZaL, ZbC, Zbu, ZaO, ZaA, Zam, Zas, ZbS, Za7, Zbs, Za8, Zbm, Za4, ZbB, Za6, Zbo, Zbd, ZbF, Zbc, Zbg, ZbU, ZaX, Bool.not_eq_true', eP, eS, ZaY (q5 _) s5])))]
    refine ⟨_, rfl, letters_sapp (letters_sapp hP (letters_mod _)) hS, ?_, ?_⟩
    · simp only [Zb7, slen_sone]; omega
    · simp only [Zb7, slen_sone]; omega
  rw [peel_f (by simp (disch := (first | assumption | decide | exact Zbp _ | (refine Sm.div ?_ ?_ <;> first | assumption | decide))) only [Za0, ZbH, ZbN, ZbI, ZbL, Za3, ZaC, Zb3, Zai, Zaw, ZbP, ZaN, ZbZ, Zb0, Zbv, ZbD, ZaU, ZbY, Zb4, Zb9, ZbT, Zcd, Zb5, ZbG, Zb2, Zb6, ZbQ, ZbE, ZbV, ZaJ, Zbz, Zbw, Zca, Zcb, Zcc, Zce, Zcf, Zb8, Zbh, Za9, Zbr, Zbt, ZaF, ZaG, ZaK, optInt_int, ZaR, ZaQ, ZbA, Zbk, Zbq, ZbX, ZaY, Zag, Zak, Zal, Zb1, ZbR, Zan, Zar, Zah, Zaq, Int.reduceToNat, Int.toNat_natCast, Zad, ZbK, ZbW, ZbO, Zbx, ZaT, List.getElem?_cons_zero, List.getElem?_cons_succ, Zch, Zcg, Zau, Zbj, ZaB, ZaV, Zaj, ZaD, ZaI, Zac, Zat, Zbe, Zba, Zav, Zbn, Za1, ZaM, Zax, Zbf, Zay, Zby, Zaz, Zap, ZaW, Zao, ZaH, Zbi, ZaP, Zaf, Zab, Zae, Zaa, aliasOk, Za5, Bool.false_eq_true, Bool.or_false, Bool.false_or, Bool.or_self, Bool.or_true, Bool.true_or, Bool.and_true, Bool.true_and, Bool.and_self, Bool.not_false, Bool.not_true, Bool.and_false, Bool.false_and, if_false, if_true, reduceIte, ZaZ, ZbJ, String.reduceBEq, String.reduceBNe, String.reduceEq, ZbM, Za2, Zbl, Zbb, ZaS, ZaE, ZaL, ZbC, Zbu, ZaO, ZaA, Zam, Zas, ZbS, Za7, Zbs, Za8, Zbm, Za4, ZbB, Za6, Zbo, Zbd, ZbF, Zbc, Zbg, ZbU, ZaX, Bool.not_eq_true', int_beq_f k1])]
  have hz : slen (Str.ofString "") ≤ 500000 := by rw [slen_empty]; decide
  have q : k = 0 ∨ k = 2 ∨ k = 3 := by omega
  have e4 : ∀ i : Int, 0 ≤ i → i < 1073741824 → ∀ a b c d : D, idxD (.list [a, b, c, d]) (.int i) = globD [a, b, c, d][i.toNat]? := fun i h0 h1 a b c d => getk h0 h1
  rcases q with rfl | rfl | rfl
  · rw [peel_ret (d := .str (sapp y (Str.ofString ""))) (by simp (disch := (first | assumption | decide | exact Zbp _ | (refine Sm.div ?_ ?_ <;> first | assumption | decide))) only [Za0, ZbH, ZbN, ZbI, ZbL, Za3, ZaC, Zb3, Zai, Zaw, ZbP, ZaN, ZbZ, Zb0, Zbv, ZbD, ZaU, ZbY, Zb4, Zb9, ZbT, Zcd, Zb5, ZbG, Zb2, Zb6, ZbQ, ZbE, ZbV, ZaJ, Zbz, Zbw, Zca, Zcb, Zcc, Zce, Zcf, Zb8, Zbh, Za9, Zbr, Zbt, ZaF, ZaG, ZaK, optInt_int, ZaR, ZaQ, ZbA, Zbk, Zbq, ZbX, ZaY, Zag, Zak, Zal, Zb1, ZbR, Zan, Zar, Zah, Zaq, Int.reduceToNat, Int.toNat_natCast, Zad, ZbK, ZbW, ZbO, Zbx, ZaT, List.getElem?_cons_zero, List.getElem?_cons_succ, Zch, Zcg, Zau, Zbj, ZaB, ZaV, Zaj, ZaD, ZaI, Zac, Zat, Zbe, Zba, Zav, Zbn, Za1, ZaM, Zax, Zbf, Zay, Zby, Zaz, Zap, ZaW, Zao, ZaH, Zbi, ZaP, Zaf, Zab, Zae, Zaa, aliasOk, Za5, Bool.false_eq_true, Bool.or_false, Bool.false_or, Bool.or_self, Bool.or_true, Bool.true_or, Bool.and_true, Bool.true_and, Bool.and_self, Bool.not_false, Bool.not_true, Bool.and_false, Bool.false_and, if_false, if_true, reduceIte, ZaZ, ZbJ, String.reduceBEq, String.reduceBNe, String.reduceEq, ZbM, Za2, Zbl, Zbb, ZaS, ZaE, ZaL, ZbC, Zbu, ZaO, ZaA, Zam, Zas, ZbS, Za7, Zbs, Za8, Zbm, Za4, ZbB, Za6, Zbo, Zbd, ZbF, Zbc, Zbg, ZbU, ZaX, Bool.not_eq_true', abc_mod, e4])]
    refine ⟨_, rfl, letters_sapp h2 letters_empty, ?_, ?_⟩
    · rw [Zb7, slen_empty]; omega
    · rw [Zb7, slen_empty]; omega
  · rw [peel_ret (d := .str (sapp y (sone (97 + (at2 % 26).toNat)))) (by simp (disch := (first | assumption | decide | exact Zbp _ | (refine Sm.div ?_ ?_ <;> first | assumption | decide))) only [Za0, ZbH, ZbN, ZbI, ZbL, Za3, ZaC, Zb3, Zai, Zaw, ZbP, ZaN, ZbZ, Zb0, Zbv, ZbD, ZaU, ZbY, Zb4, Zb9, ZbT, Zcd, Zb5, ZbG, Zb2, Zb6, ZbQ, ZbE, ZbV, ZaJ, Zbz, Zbw, Zca, Zcb, Zcc, Zce, Zcf, Zb8, Zbh, Za9, Zbr, Zbt, ZaF, ZaG, ZaK, optInt_int, ZaR, ZaQ, ZbA, Zbk, Zbq, ZbX, ZaY, Zag, Zak, Zal, Zb1, ZbR, Zan, Zar, Zah, Zaq, Int.reduceToNat, Int.toNat_natCast, Zad, ZbK, ZbW, ZbO, Zbx, ZaT, List.getElem?_cons_zero, List.getElem?_cons_succ, Zch, Zcg, Zau, Zbj, ZaB, ZaV, Zaj, ZaD, ZaI, Zac, Zat, Zbe, Zba, Zav, Zbn, Za1, ZaM, Zax, Zbf, Zay, Zby, Zaz, Zap, ZaW, Zao, ZaH, Zbi, ZaP, Zaf, Zab, Zae, Zaa, aliasOk, Za5, Bool.false_eq_true, Bool.or_false, Bool.false_or, Bool.or_self, Bool.or_true, Bool.true_or, Bool.and_true, Bool.true_and, Bool.and_self, Bool.not_false, Bool.not_true, Bool.and_false, Bool.false_and, if_false, if_true, reduceIte, ZaZ, ZbJ, String.reduceBEq, String.reduceBNe, String.reduceEq, ZbM, Za2, Zbl, Zbb, ZaS, ZaE, ZaL, ZbC, Zbu, ZaO, ZaA, Zam, Zas, ZbS, Za7, Zbs, Za8, Zbm, Za4, ZbB, Za6, Zbo, Zbd, ZbF, Zbc, Zbg, ZbU, ZaX, Bool.not_eq_true', abc_mod, e4])]
    refine ⟨_, rfl, letters_sapp h2 (letters_mod _), ?_, ?_⟩
    · rw [Zb7, slen_sone]; omega
    · rw [Zb7, slen_sone]; omega
  · rw [peel_ret (d := .str (sapp y (sone (97 + ((at2 + 1) % 26).toNat)))) (by simp (disch := (first | assumption | decide | exact Zbp _ | (refine Sm.div ?_ ?_ <;> first | assumption | decide))) only [Za0, ZbH, ZbN, ZbI, ZbL, Za3, ZaC, Zb3, Zai, Zaw, ZbP, ZaN, ZbZ, Zb0, Zbv, ZbD, ZaU, ZbY, Zb4, Zb9, ZbT, Zcd, Zb5, ZbG, Zb2, Zb6, ZbQ, ZbE, ZbV, ZaJ, Zbz, Zbw, Zca, Zcb, Zcc, Zce, Zcf, Zb8, Zbh, Za9, Zbr, Zbt, ZaF, ZaG, ZaK, optInt_int, ZaR, ZaQ, ZbA, Zbk, Zbq, ZbX, ZaY, Zag, Zak, Zal, Zb1, ZbR, Zan, Zar, Zah, Zaq, Int.reduceToNat, Int.toNat_natCast, Zad, ZbK, ZbW, ZbO, Zbx, ZaT, List.getElem?_cons_zero, List.getElem?_cons_succ, Zch, Zcg, Zau, Zbj, ZaB, ZaV, Zaj, ZaD, ZaI, Zac, Zat, Zbe, Zba, Zav, Zbn, Za1, ZaM, Zax, Zbf, Zay, Zby, Zaz, Zap, ZaW, Zao, ZaH, Zbi, ZaP, Zaf, Zab, Zae, Zaa, aliasOk, Za5, Bool.false_eq_true, Bool.or_false, Bool.false_or, Bool.or_self, Bool.or_true, Bool.true_or, Bool.and_true, Bool.true_and, Bool.and_self, Bool.not_false, Bool.not_true, Bool.and_false, Bool.false_and, if_false, if_true, reduceIte, ZaZ, ZbJ, String.reduceBEq, String.reduceBNe, String.reduceEq, ZbM, Za2, Zbl, Zbb, ZaS, ZaE, ZaL, ZbC, Zbu, ZaO, ZaA, Zam, Zas, ZbS, Za7, Zbs, Za8, Zbm, Za4, ZbB, Za6, Zbo, Zbd, ZbF, Zbc, Zbg, ZbU, ZaX, Bool.not_eq_true', abc_mod, e4])]
    refine ⟨_, rfl, letters_sapp h2 (letters_mod _), ?_, ?_⟩
    · rw [Zb7, slen_sone]; omega
    · rw [Zb7, slen_sone]; omega
theorem name_by_i (n : Nat) (c k : Int) (hc : Sm c) (hk : Ki k) :
    ∃ x, (orc fns globs (n + 1)).fn 9 [.int c, .int k] = .ok (.str x, false) ∧ Nm x := by
  rw [orc_fn (F := F_law_name_by) rfl rfl]
  show ∃ x, fin (ex _ _ F_law_name_by.body [.fr _, .fr _, .unset, .unset, .unset, .unset, .unset, .unset, .unset, .unset, .unset]) = _ ∧ _
  unfold F_law_name_by
  have hm : Sm (c / 6) := hc.div (by decide)
  by_cases hw : c % 6 = 0 ∧ k < 4
  · obtain ⟨w, hw1, hw2⟩ := pick_strm nameWords 11 rfl (by decide) (c / 6 + k)
    simp only [nameWords, List.map_cons, List.map_nil] at hw2
    have b1 : (c % 6 == 0) = true := beq_iff_eq.mpr hw.1
    have b2 := decide_eq_true hw.2
    exact ⟨_, by simp (disch := (first | assumption | decide | exact Zbp _ | (refine Sm.div ?_ ?_ <;> first | assumption | decide) | omega | (simp only [List.length_append, List.length_cons, List.length_nil, slen_sone, Zb7, slen_empty]; omega))) only [Za0, ZbH, ZbN, ZbI, ZbL, Za3, ZaC, Zb3, Zai, Zaw, ZbP, ZaN, ZbZ, Zb0, Zbv, ZbD, ZaU, ZbY, Zb4, Zb9, ZbT, Zcd, Zb5, ZbG, Zb2, Zb6, ZbQ, ZbE, ZbV, ZaJ, Zbz, Zbw, Zca, Zcb, Zcc, Zce, Zcf, Zb8, Zbh, Za9, Zbr, Zbt, ZaF, ZaG, ZaK, optInt_int, ZaR, ZaQ, ZbA, Zbk, mul_ok, Zbq, ZbX, ZaY, addl_ok, Zag, Zak, Zal, Zb1, ZbR, Zan, Zar, Zah, Zaq, getk, Int.reduceToNat, Int.toNat_natCast, len_list_ok, len_tuple_ok, len_str_ok, Zad, ZbK, ZbW, ZbO, Zbx, ZaT, List.getElem?_cons_zero, List.getElem?_cons_succ, Zch, Zcg, Zau, Zbj, ZaB, ZaV, Zaj, ZaD, ZaI, Zac, Zat, Zbe, Zba, Zav, Zbn, Za1, ZaM, Zax, Zbf, Zay, Zby, Zaz, Zap, ZaW, Zao, ZaH, Zbi, ZaP, Zaf, Zab, Zae, Zaa, aliasOk, Za5, Bool.false_eq_true, Bool.or_false, Bool.false_or, Bool.or_self, Bool.or_true, Bool.true_or, Bool.and_true, Bool.true_and, Bool.and_self, Bool.not_false, Bool.not_true, Bool.and_false, Bool.false_and, if_false, if_true, reduceIte, List.length_append, List.length_cons, List.length_nil, ZaZ, ZbJ, String.reduceBEq, String.reduceBNe, String.reduceEq, ZbM, Za2, Zbl, Zbb, ZaS, ZaE, ZaL, ZbC, Zbu, forS_list, ZaO, ZaA, Zam, Zas, ZbS, Za7, Zbs, Za8, Zbm, Za4, ZbB, Za6, Zbo, Zbd, ZbF, Zbc, slice_hi, slice_lo, slice_both, slice_tup1, slice_tup2, Zbg, ZbU, ZaX, decide_eq_true, decide_eq_false, int_beq_t, int_beq_f, Bool.and_eq_false_iff, Bool.or_eq_false_iff, beq_iff_eq, bne_iff_ne, decide_eq_true_eq, Bool.and_eq_true, Bool.or_eq_true, Bool.not_eq_true', decide_eq_false_iff_not, beq_eq_false_iff_ne, if_pos, if_neg, b1, b2, hw2], nameWords_ok hw1⟩
  · obtain ⟨y, at2, t', e, h2, h3⟩ := name_loop n (.fr (.int c)) (.fr (.int k)) (.fr (.list [.str (Str.ofString "num"), .str (Str.ofString "name"), .str (Str.ofString "sum"), .str (Str.ofString "less"), .str (Str.ofString "times"), .str (Str.ofString "part"), .str (Str.ofString "rest"), .str (Str.ofString "below"), .str (Str.ofString "same"), .str (Str.ofString "when"), .str (Str.ofString "let")]))
      (c / 6) hm (rangeD 0 (1 + c / 6 % 7)) (Str.ofString "") (c / 6 / 7) .unset letters_empty (by rw [slen_empty, range_length]; omega)
    rw [slen_empty, range_length] at h3
    obtain ⟨x, ex', hx⟩ := name_rest n c k (c / 6) at2 y t' (.fr (.list [.str (Str.ofString "num"), .str (Str.ofString "name"), .str (Str.ofString "sum"), .str (Str.ofString "less"), .str (Str.ofString "times"), .str (Str.ofString "part"), .str (Str.ofString "rest"), .str (Str.ofString "below"), .str (Str.ofString "same"), .str (Str.ofString "when"), .str (Str.ofString "let")])) hm hk (fun h q => hw ⟨q, h⟩) h2 (by omega) (by omega)
    generalize hR : ((.seq (.asg 8 (.bin .Mod (.bin .FloorDiv (.var 4) (.cint 4550)) (.bi1 .len (.var 5)))) (.seq (.ite (.cmp .Gt (.var 1) (.cint 3)) (.seq (.asg 8 (.bi2 .min (.var 8) (.cint 6))) (.seq (.asg 9 (.bin .Add (.idx (.var 2) (.bin .Mod (.bin .Add (.var 6) (.bin .FloorDiv (.var 1) (.cint 26))) (.cint 26))) (.idx (.var 2) (.bin .Mod (.var 1) (.cint 26))))) (.seq (.ret (.bin .Add (.bin .Add (.slice (.var 5) .none (.some (.var 8))) (.var 9)) (.slice (.var 5) (.some (.var 8)) (.some (.cint 6))))) .skip))) .skip) (.seq (.ite (.cmp .Gt (.bin .Mod (.var 0) (.cint 6)) (.cint 3)) (.seq (.ret (.bin .Add (.idx (.var 2) (.bin .Mod (.bin .Add (.bin .FloorDiv (.var 4) (.cint 7)) (.var 1)) (.cint 26))) (.var 5))) .skip) .skip) (.seq (.ite (.cmp .Eq (.var 1) (.cint 1)) (.seq (.asg 10 (.idx (.var 2) (.bin .Mod (.bin .Add (.find (.var 2) (.idx (.var 5) (.var 8))) (.cint 1)) (.cint 26)))) (.seq (.ret (.bin .Add (.bin .Add (.slice (.var 5) .none (.some (.var 8))) (.var 10)) (.slice (.var 5) (.some (.bin .Add (.var 8) (.cint 1))) .none))) .skip)) .skip) (.seq (.ret (.bin .Add (.var 5) (.idx (.lstD (.cons (.cstr (Str.ofString "")) (.cons (.cstr (Str.ofString "")) (.cons (.idx (.var 2) (.bin .Mod (.var 6) (.cint 26))) (.cons (.idx (.var 2) (.bin .Mod (.bin .Add (.var 6) (.cint 1)) (.cint 26))) .nil))))) (.var 1)))) .skip))))) : MS) = RR at ex' ⊢
    have b12 : andR (.ok (.bool (c % 6 == 0))) (.ok (.bool (decide (k < 4)))) = .ok (.bool false) := by
      rw [ZaC]
      by_cases h6 : c % 6 = 0
      · rw [decide_eq_false (fun q => hw ⟨h6, q⟩), Bool.and_false]
      · rw [beq_eq_false_iff_ne.mpr h6, Bool.false_and]
    have r1 : rngS (orc fns globs n) globs 7 (.seq (.asg 6 (.bin .Add (.bin .Add (.var 6) (.cint 1)) (.bin .Mod (.bin .FloorDiv (.var 4) (.cint 182)) (.cint 25)))) (.seq (.asg 5 (.bin .Add (.var 5) (.idx (.var 2) (.bin .Mod (.var 6) (.cint 26))))) .skip)) [.fr (.int c), .fr (.int k), .fr (.str abc), .fr (.list [.str (Str.ofString "num"), .str (Str.ofString "name"), .str (Str.ofString "sum"), .str (Str.ofString "less"), .str (Str.ofString "times"), .str (Str.ofString "part"), .str (Str.ofString "rest"), .str (Str.ofString "below"), .str (Str.ofString "same"), .str (Str.ofString "when"), .str (Str.ofString "let")]), .fr (.int (c / 6)), .fr (.str (Str.ofString "")), .fr (.int (c / 6 / 7)), .unset, .unset, .unset, .unset] (.ok (.int 0)) (.ok (.int (1 + c / 6 % 7))) = _ := (ZaX (by decide) (by decide) (by omega) (by omega)).trans e
    exact ⟨x, by simp (disch := (first | assumption | decide | exact Zbp _ | (refine Sm.div ?_ ?_ <;> first | assumption | decide) | omega | (simp only [List.length_append, List.length_cons, List.length_nil, slen_sone, Zb7, slen_empty]; omega))) only [Za0, ZbH, ZbN, ZbI, ZbL, Za3, ZaC, Zb3, Zai, Zaw, ZbP, ZaN, ZbZ, Zb0, Zbv, ZbD, ZaU, ZbY, Zb4, Zb9, ZbT, Zcd, Zb5, ZbG, Zb2, Zb6, ZbQ, ZbE, ZbV, ZaJ, Zbz, Zbw, Zca, Zcb, Zcc, Zce, Zcf, Zb8, Zbh, Za9, Zbr, Zbt, ZaF, ZaG, ZaK, optInt_int, ZaR, ZaQ, ZbA, Zbk, mul_ok, Zbq, ZbX, ZaY, addl_ok, Zag, Zak, Zal, Zb1, ZbR, Zan, Zar, Zah, Zaq, getk, Int.reduceToNat, Int.toNat_natCast, len_list_ok, len_tuple_ok, len_str_ok, Zad, ZbK, ZbW, ZbO, Zbx, ZaT, List.getElem?_cons_zero, List.getElem?_cons_succ, Zch, Zcg, Zau, Zbj, ZaB, ZaV, Zaj, ZaD, ZaI, Zac, Zat, Zbe, Zba, Zav, Zbn, Za1, ZaM, Zax, Zbf, Zay, Zby, Zaz, Zap, ZaW, Zao, ZaH, Zbi, ZaP, Zaf, Zab, Zae, Zaa, aliasOk, Za5, Bool.false_eq_true, Bool.or_false, Bool.false_or, Bool.or_self, Bool.or_true, Bool.true_or, Bool.and_true, Bool.true_and, Bool.and_self, Bool.not_false, Bool.not_true, Bool.and_false, Bool.false_and, if_false, if_true, reduceIte, List.length_append, List.length_cons, List.length_nil, ZaZ, ZbJ, String.reduceBEq, String.reduceBNe, String.reduceEq, ZbM, Za2, Zbl, Zbb, ZaS, ZaE, ZaL, ZbC, Zbu, forS_list, ZaO, ZaA, Zam, Zas, ZbS, Za7, Zbs, Za8, Zbm, Za4, ZbB, Za6, Zbo, Zbd, ZbF, Zbc, slice_hi, slice_lo, slice_both, slice_tup1, slice_tup2, Zbg, ZbU, ZaX, decide_eq_true, decide_eq_false, int_beq_t, int_beq_f, Bool.and_eq_false_iff, Bool.or_eq_false_iff, beq_iff_eq, bne_iff_ne, decide_eq_true_eq, Bool.and_eq_true, Bool.or_eq_true, Bool.not_eq_true', decide_eq_false_iff_not, beq_eq_false_iff_ne, if_pos, if_neg, abc_fold, b12, r1, ex'], hx⟩
theorem link_ok (n : Nat) {w : String} (c : Int) :
    ∃ z, (orc fns globs (n + 1)).fn 12 [.str (Str.ofString w), .int c] = .ok (.int z, false) ∧ -1000000000 ≤ z ∧ z ≤ 1000000000 := by
  rw [orc_fn (F := F_law_link) rfl rfl]
  show ∃ z, fin (ex _ _ F_law_link.body [.fr _, .fr _, .unset]) = _ ∧ _
  unfold F_law_link
  have row : ∀ l : List Int, (l.all fun z => decide (-1000000000 ≤ z) && decide (z ≤ 1000000000)) = true ∧ l.length = 9 → ∃ z, fin (ex (orc fns globs n) globs (.seq (.ret (.idx (.var 2) (.bin .Mod (.var 1) (.cint 9)))) .skip) [.fr (.str (Str.ofString w)), .fr (.int c), .fr (.list (l.map PyData.int))]) = .ok (.int z, false) ∧ -1000000000 ≤ z ∧ z ≤ 1000000000 := fun l hl => by
    obtain ⟨z, e, b⟩ := pick_intm (-1000000000) 1000000000 l hl.1 9 (by rw [hl.2]; rfl) (by decide) c
    rw [peel_ret (d := .int z) (by simp (disch := (first | assumption | decide | exact Zbp _ | (refine Sm.div ?_ ?_ <;> first | assumption | decide))) only [Za0, ZbH, ZbN, ZbI, ZbL, Za3, ZaC, Zb3, Zai, Zaw, ZbP, ZaN, ZbZ, Zb0, Zbv, ZbD, ZaU, ZbY, Zb4, Zb9, ZbT, Zcd, Zb5, ZbG, Zb2, Zb6, ZbQ, ZbE, ZbV, ZaJ, Zbz, Zbw, Zca, Zcb, Zcc, Zce, Zcf, Zb8, Zbh, Za9, Zbr, Zbt, ZaF, ZaG, ZaK, optInt_int, ZaR, ZaQ, ZbA, Zbk, Zbq, ZbX, ZaY, Zag, Zak, Zal, Zb1, ZbR, Zan, Zar, Zah, Zaq, Int.reduceToNat, Int.toNat_natCast, Zad, ZbK, ZbW, ZbO, Zbx, ZaT, List.getElem?_cons_zero, List.getElem?_cons_succ, Zch, Zcg, Zau, Zbj, ZaB, ZaV, Zaj, ZaD, ZaI, Zac, Zat, Zbe, Zba, Zav, Zbn, Za1, ZaM, Zax, Zbf, Zay, Zby, Zaz, Zap, ZaW, Zao, ZaH, Zbi, ZaP, Zaf, Zab, Zae, Zaa, aliasOk, Za5, Bool.false_eq_true, Bool.or_false, Bool.false_or, Bool.or_self, Bool.or_true, Bool.true_or, Bool.and_true, Bool.true_and, Bool.and_self, Bool.not_false, Bool.not_true, Bool.and_false, Bool.false_and, if_false, if_true, reduceIte, ZaZ, ZbJ, String.reduceBEq, String.reduceBNe, String.reduceEq, ZbM, Za2, Zbl, Zbb, ZaS, ZaE, ZaL, ZbC, Zbu, ZaO, ZaA, Zam, Zas, ZbS, Za7, Zbs, Za8, Zbm, Za4, ZbB, Za6, Zbo, Zbd, ZbF, Zbc, Zbg, ZbU, ZaX, Bool.not_eq_true', e])]
    exact ⟨z, rfl, b⟩
  rw [peel_asg (d := .list [.int 0, .int 1, .int (-1), .int 500000000, .int (-500000000), .int 3, .int 999999999, .int 7, .int (-2)]) (by simp (disch := (first | assumption | decide | exact Zbp _ | (refine Sm.div ?_ ?_ <;> first | assumption | decide))) only [Za0, ZbH, ZbN, ZbI, ZbL, Za3, ZaC, Zb3, Zai, Zaw, ZbP, ZaN, ZbZ, Zb0, Zbv, ZbD, ZaU, ZbY, Zb4, Zb9, ZbT, Zcd, Zb5, ZbG, Zb2, Zb6, ZbQ, ZbE, ZbV, ZaJ, Zbz, Zbw, Zca, Zcb, Zcc, Zce, Zcf, Zb8, Zbh, Za9, Zbr, Zbt, ZaF, ZaG, ZaK, optInt_int, ZaR, ZaQ, ZbA, Zbk, Zbq, ZbX, ZaY, Zag, Zak, Zal, Zb1, ZbR, Zan, Zar, Zah, Zaq, Int.reduceToNat, Int.toNat_natCast, Zad, ZbK, ZbW, ZbO, Zbx, ZaT, List.getElem?_cons_zero, List.getElem?_cons_succ, Zch, Zcg, Zau, Zbj, ZaB, ZaV, Zaj, ZaD, ZaI, Zac, Zat, Zbe, Zba, Zav, Zbn, Za1, ZaM, Zax, Zbf, Zay, Zby, Zaz, Zap, ZaW, Zao, ZaH, Zbi, ZaP, Zaf, Zab, Zae, Zaa, aliasOk, Za5, Bool.false_eq_true, Bool.or_false, Bool.false_or, Bool.or_self, Bool.or_true, Bool.true_or, Bool.and_true, Bool.true_and, Bool.and_self, Bool.not_false, Bool.not_true, Bool.and_false, Bool.false_and, if_false, if_true, reduceIte, ZaZ, ZbJ, String.reduceBEq, String.reduceBNe, String.reduceEq, ZbM, Za2, Zbl, Zbb, ZaS, ZaE, ZaL, ZbC, Zbu, ZaO, ZaA, Zam, Zas, ZbS, Za7, Zbs, Za8, Zbm, Za4, ZbB, Za6, Zbo, Zbd, ZbF, Zbc, Zbg, ZbU, ZaX, Bool.not_eq_true']) rfl, Zcg, Zcg, Zch]
  by_cases w3 : w = "rest"
  · subst w3
    rw [peel_f (by simp (disch := (first | assumption | decide | exact Zbp _ | (refine Sm.div ?_ ?_ <;> first | assumption | decide))) only [Za0, ZbH, ZbN, ZbI, ZbL, Za3, ZaC, Zb3, Zai, Zaw, ZbP, ZaN, ZbZ, Zb0, Zbv, ZbD, ZaU, ZbY, Zb4, Zb9, ZbT, Zcd, Zb5, ZbG, Zb2, Zb6, ZbQ, ZbE, ZbV, ZaJ, Zbz, Zbw, Zca, Zcb, Zcc, Zce, Zcf, Zb8, Zbh, Za9, Zbr, Zbt, ZaF, ZaG, ZaK, optInt_int, ZaR, ZaQ, ZbA, Zbk, Zbq, ZbX, ZaY, Zag, Zak, Zal, Zb1, ZbR, Zan, Zar, Zah, Zaq, Int.reduceToNat, Int.toNat_natCast, Zad, ZbK, ZbW, ZbO, Zbx, ZaT, List.getElem?_cons_zero, List.getElem?_cons_succ, Zch, Zcg, Zau, Zbj, ZaB, ZaV, Zaj, ZaD, ZaI, Zac, Zat, Zbe, Zba, Zav, Zbn, Za1, ZaM, Zax, Zbf, Zay, Zby, Zaz, Zap, ZaW, Zao, ZaH, Zbi, ZaP, Zaf, Zab, Zae, Zaa, aliasOk, Za5, Bool.false_eq_true, Bool.or_false, Bool.false_or, Bool.or_self, Bool.or_true, Bool.true_or, Bool.and_true, Bool.true_and, Bool.and_self, Bool.not_false, Bool.not_true, Bool.and_false, Bool.false_and, if_false, if_true, reduceIte, ZaZ, ZbJ, String.reduceBEq, String.reduceBNe, String.reduceEq, ZbM, Za2, Zbl, Zbb, ZaS, ZaE, ZaL, ZbC, Zbu, ZaO, ZaA, Zam, Zas, ZbS, Za7, Zbs, Za8, Zbm, Za4, ZbB, Za6, Zbo, Zbd, ZbF, Zbc, Zbg, ZbU, ZaX, Bool.not_eq_true']), peel_f (by simp (disch := (first | assumption | decide | exact Zbp _ | (refine Sm.div ?_ ?_ <;> first | assumption | decide))) only [Za0, ZbH, ZbN, ZbI, ZbL, Za3, ZaC, Zb3, Zai, Zaw, ZbP, ZaN, ZbZ, Zb0, Zbv, ZbD, ZaU, ZbY, Zb4, Zb9, ZbT, Zcd, Zb5, ZbG, Zb2, Zb6, ZbQ, ZbE, ZbV, ZaJ, Zbz, Zbw, Zca, Zcb, Zcc, Zce, Zcf, Zb8, Zbh, Za9, Zbr, Zbt, ZaF, ZaG, ZaK, optInt_int, ZaR, ZaQ, ZbA, Zbk, Zbq, ZbX, ZaY, Zag, Zak, Zal, Zb1, ZbR, Zan, Zar, Zah, Zaq, Int.reduceToNat, Int.toNat_natCast, Zad, ZbK, ZbW, ZbO, Zbx, ZaT, List.getElem?_cons_zero, List.getElem?_cons_succ, Zch, Zcg, Zau, Zbj, ZaB, ZaV, Zaj, ZaD, ZaI, Zac, Zat, Zbe, Zba, Zav, Zbn, Za1, ZaM, Zax, Zbf, Zay, Zby, Zaz, Zap, ZaW, Zao, ZaH, Zbi, ZaP, Zaf, Zab, Zae, Zaa, aliasOk, Za5, Bool.false_eq_true, Bool.or_false, Bool.false_or, Bool.or_self, Bool.or_true, Bool.true_or, Bool.and_true, Bool.true_and, Bool.and_self, Bool.not_false, Bool.not_true, Bool.and_false, Bool.false_and, if_false, if_true, reduceIte, ZaZ, ZbJ, String.reduceBEq, String.reduceBNe, String.reduceEq, ZbM, Za2, Zbl, Zbb, ZaS, ZaE, ZaL, ZbC, Zbu, ZaO, ZaA, Zam, Zas, ZbS, Za7, Zbs, Za8, Zbm, Za4, ZbB, Za6, Zbo, Zbd, ZbF, Zbc, Zbg, ZbU, ZaX, Bool.not_eq_true']), peel_tn (ρ' := [.fr (.str (Str.ofString "rest")), .fr (.int c), .fr (.list [.int 12, .int 8, .int 4, .int 18, .int 12, .int 6, .int 9, .int 6, .int 3])]) (by simp (disch := (first | assumption | decide | exact Zbp _ | (refine Sm.div ?_ ?_ <;> first | assumption | decide))) only [Za0, ZbH, ZbN, ZbI, ZbL, Za3, ZaC, Zb3, Zai, Zaw, ZbP, ZaN, ZbZ, Zb0, Zbv, ZbD, ZaU, ZbY, Zb4, Zb9, ZbT, Zcd, Zb5, ZbG, Zb2, Zb6, ZbQ, ZbE, ZbV, ZaJ, Zbz, Zbw, Zca, Zcb, Zcc, Zce, Zcf, Zb8, Zbh, Za9, Zbr, Zbt, ZaF, ZaG, ZaK, optInt_int, ZaR, ZaQ, ZbA, Zbk, Zbq, ZbX, ZaY, Zag, Zak, Zal, Zb1, ZbR, Zan, Zar, Zah, Zaq, Int.reduceToNat, Int.toNat_natCast, Zad, ZbK, ZbW, ZbO, Zbx, ZaT, List.getElem?_cons_zero, List.getElem?_cons_succ, Zch, Zcg, Zau, Zbj, ZaB, ZaV, Zaj, ZaD, ZaI, Zac, Zat, Zbe, Zba, Zav, Zbn, Za1, ZaM, Zax, Zbf, Zay, Zby, Zaz, Zap, ZaW, Zao, ZaH, Zbi, ZaP, Zaf, Zab, Zae, Zaa, aliasOk, Za5, Bool.false_eq_true, Bool.or_false, Bool.false_or, Bool.or_self, Bool.or_true, Bool.true_or, Bool.and_true, Bool.true_and, Bool.and_self, Bool.not_false, Bool.not_true, Bool.and_false, Bool.false_and, if_false, if_true, reduceIte, ZaZ, ZbJ, String.reduceBEq, String.reduceBNe, String.reduceEq, ZbM, Za2, Zbl, Zbb, ZaS, ZaE, ZaL, ZbC, Zbu, ZaO, ZaA, Zam, Zas, ZbS, Za7, Zbs, Za8, Zbm, Za4, ZbB, Za6, Zbo, Zbd, ZbF, Zbc, Zbg, ZbU, ZaX, Bool.not_eq_true']) (by simp (disch := (first | assumption | decide | exact Zbp _ | (refine Sm.div ?_ ?_ <;> first | assumption | decide))) only [Za0, ZbH, ZbN, ZbI, ZbL, Za3, ZaC, Zb3, Zai, Zaw, ZbP, ZaN, ZbZ, Zb0, Zbv, ZbD, ZaU, ZbY, Zb4, Zb9, ZbT, Zcd, Zb5, ZbG, Zb2, Zb6, ZbQ, ZbE, ZbV, ZaJ, Zbz, Zbw, Zca, Zcb, Zcc, Zce, Zcf, Zb8, Zbh, Za9, Zbr, Zbt, ZaF, ZaG, ZaK, optInt_int, ZaR, ZaQ, ZbA, Zbk, Zbq, ZbX, ZaY, Zag, Zak, Zal, Zb1, ZbR, Zan, Zar, Zah, Zaq, Int.reduceToNat, Int.toNat_natCast, Zad, ZbK, ZbW, ZbO, Zbx, ZaT, List.getElem?_cons_zero, List.getElem?_cons_succ, Zch, Zcg, Zau, Zbj, ZaB, ZaV, Zaj, ZaD, ZaI, Zac, Zat, Zbe, Zba, Zav, Zbn, Za1, ZaM, Zax, Zbf, Zay, Zby, Zaz, Zap, ZaW, Zao, ZaH, Zbi, ZaP, Zaf, Zab, Zae, Zaa, aliasOk, Za5, Bool.false_eq_true, Bool.or_false, Bool.false_or, Bool.or_self, Bool.or_true, Bool.true_or, Bool.and_true, Bool.true_and, Bool.and_self, Bool.not_false, Bool.not_true, Bool.and_false, Bool.false_and, if_false, if_true, reduceIte, ZaZ, ZbJ, String.reduceBEq, String.reduceBNe, String.reduceEq, ZbM, Za2, Zbl, Zbb, ZaS, ZaE, ZaL, ZbC, Zbu, ZaO, ZaA, Zam, Zas, ZbS, Za7, Zbs, Za8, Zbm, Za4, ZbB, Za6, Zbo, Zbd, ZbF, Zbc, Zbg, ZbU, ZaX, Bool.not_eq_true'])]
    exact row [12, 8, 4, 18, 12, 6, 9, 6, 3] (by decide)
  replace w3 : (w == "rest") = false := beq_eq_false_iff_ne.mpr w3
  by_cases w2 : w = "part"
  · subst w2
    rw [peel_f (by simp (disch := (first | assumption | decide | exact Zbp _ | (refine Sm.div ?_ ?_ <;> first | assumption | decide))) only [Za0, ZbH, ZbN, ZbI, ZbL, Za3, ZaC, Zb3, Zai, Zaw, ZbP, ZaN, ZbZ, Zb0, Zbv, ZbD, ZaU, ZbY, Zb4, Zb9, ZbT, Zcd, Zb5, ZbG, Zb2, Zb6, ZbQ, ZbE, ZbV, ZaJ, Zbz, Zbw, Zca, Zcb, Zcc, Zce, Zcf, Zb8, Zbh, Za9, Zbr, Zbt, ZaF, ZaG, ZaK, optInt_int, ZaR, ZaQ, ZbA, Zbk, Zbq, ZbX, ZaY, Zag, Zak, Zal, Zb1, ZbR, Zan, Zar, Zah, Zaq, Int.reduceToNat, Int.toNat_natCast, Zad, ZbK, ZbW, ZbO, Zbx, ZaT, List.getElem?_cons_zero, List.getElem?_cons_succ, Zch, Zcg, Zau, Zbj, ZaB, ZaV, Zaj, ZaD, ZaI, Zac, Zat, Zbe, Zba, Zav, Zbn, Za1, ZaM, Zax, Zbf, Zay, Zby, Zaz, Zap, ZaW, Zao, ZaH, Zbi, ZaP, Zaf, Zab, Zae, Zaa, aliasOk, Za5, Bool.false_eq_true, Bool.or_false, Bool.false_or, Bool.or_self, Bool.or_true, Bool.true_or, Bool.and_true, Bool.true_and, Bool.and_self, Bool.not_false, Bool.not_true, Bool.and_false, Bool.false_and, if_false, if_true, reduceIte, ZaZ, ZbJ, String.reduceBEq, String.reduceBNe, String.reduceEq, ZbM, Za2, Zbl, Zbb, ZaS, ZaE, ZaL, ZbC, Zbu, ZaO, ZaA, Zam, Zas, ZbS, Za7, Zbs, Za8, Zbm, Za4, ZbB, Za6, Zbo, Zbd, ZbF, Zbc, Zbg, ZbU, ZaX, Bool.not_eq_true']), peel_tn (ρ' := [.fr (.str (Str.ofString "part")), .fr (.int c), .fr (.list [.int 2, .int (-1), .int 3, .int 5, .int 40000, .int (-2), .int 30000, .int 7, .int 0])]) (by simp (disch := (first | assumption | decide | exact Zbp _ | (refine Sm.div ?_ ?_ <;> first | assumption | decide))) only [Za0, ZbH, ZbN, ZbI, ZbL, Za3, ZaC, Zb3, Zai, Zaw, ZbP, ZaN, ZbZ, Zb0, Zbv, ZbD, ZaU, ZbY, Zb4, Zb9, ZbT, Zcd, Zb5, ZbG, Zb2, Zb6, ZbQ, ZbE, ZbV, ZaJ, Zbz, Zbw, Zca, Zcb, Zcc, Zce, Zcf, Zb8, Zbh, Za9, Zbr, Zbt, ZaF, ZaG, ZaK, optInt_int, ZaR, ZaQ, ZbA, Zbk, Zbq, ZbX, ZaY, Zag, Zak, Zal, Zb1, ZbR, Zan, Zar, Zah, Zaq, Int.reduceToNat, Int.toNat_natCast, Zad, ZbK, ZbW, ZbO, Zbx, ZaT, List.getElem?_cons_zero, List.getElem?_cons_succ, Zch, Zcg, Zau, Zbj, ZaB, ZaV, Zaj, ZaD, ZaI, Zac, Zat, Zbe, Zba, Zav, Zbn, Za1, ZaM, Zax, Zbf, Zay, Zby, Zaz, Zap, ZaW, Zao, ZaH, Zbi, ZaP, Zaf, Zab, Zae, Zaa, aliasOk, Za5, Bool.false_eq_true, Bool.or_false, Bool.false_or, Bool.or_self, Bool.or_true, Bool.true_or, Bool.and_true, Bool.true_and, Bool.and_self, Bool.not_false, Bool.not_true, Bool.and_false, Bool.false_and, if_false, if_true, reduceIte, ZaZ, ZbJ, String.reduceBEq, String.reduceBNe, String.reduceEq, ZbM, Za2, Zbl, Zbb, ZaS, ZaE, ZaL, ZbC, Zbu, ZaO, ZaA, Zam, Zas, ZbS, Za7, Zbs, Za8, Zbm, Za4, ZbB, Za6, Zbo, Zbd, ZbF, Zbc, Zbg, ZbU, ZaX, Bool.not_eq_true']) (by simp (disch := (first | assumption | decide | exact Zbp _ | (refine Sm.div ?_ ?_ <;> first | assumption | decide))) only [Za0, ZbH, ZbN, ZbI, ZbL, Za3, ZaC, Zb3, Zai, Zaw, ZbP, ZaN, ZbZ, Zb0, Zbv, ZbD, ZaU, ZbY, Zb4, Zb9, ZbT, Zcd, Zb5, ZbG, Zb2, Zb6, ZbQ, ZbE, ZbV, ZaJ, Zbz, Zbw, Zca, Zcb, Zcc, Zce, Zcf, Zb8, Zbh, Za9, Zbr, Zbt, ZaF, ZaG, ZaK, optInt_int, ZaR, ZaQ, ZbA, Zbk, Zbq, ZbX, ZaY, Zag, Zak, Zal, Zb1, ZbR, Zan, Zar, Zah, Zaq, Int.reduceToNat, Int.toNat_natCast, Zad, ZbK, ZbW, ZbO, Zbx, ZaT, List.getElem?_cons_zero, List.getElem?_cons_succ, Zch, Zcg, Zau, Zbj, ZaB, ZaV, Zaj, ZaD, ZaI, Zac, Zat, Zbe, Zba, Zav, Zbn, Za1, ZaM, Zax, Zbf, Zay, Zby, Zaz, Zap, ZaW, Zao, ZaH, Zbi, ZaP, Zaf, Zab, Zae, Zaa, aliasOk, Za5, Bool.false_eq_true, Bool.or_false, Bool.false_or, Bool.or_self, Bool.or_true, Bool.true_or, Bool.and_true, Bool.true_and, Bool.and_self, Bool.not_false, Bool.not_true, Bool.and_false, Bool.false_and, if_false, if_true, reduceIte, ZaZ, ZbJ, String.reduceBEq, String.reduceBNe, String.reduceEq, ZbM, Za2, Zbl, Zbb, ZaS, ZaE, ZaL, ZbC, Zbu, ZaO, ZaA, Zam, Zas, ZbS, Za7, Zbs, Za8, Zbm, Za4, ZbB, Za6, Zbo, Zbd, ZbF, Zbc, Zbg, ZbU, ZaX, Bool.not_eq_true']), peel_f (by simp (disch := (first | assumption | decide | exact Zbp _ | (refine Sm.div ?_ ?_ <;> first | assumption | decide))) only [Za0, ZbH, ZbN, ZbI, ZbL, Za3, ZaC, Zb3, Zai, Zaw, ZbP, ZaN, ZbZ, Zb0, Zbv, ZbD, ZaU, ZbY, Zb4, Zb9, ZbT, Zcd, Zb5, ZbG, Zb2, Zb6, ZbQ, ZbE, ZbV, ZaJ, Zbz, Zbw, Zca, Zcb, Zcc, Zce, Zcf, Zb8, Zbh, Za9, Zbr, Zbt, ZaF, ZaG, ZaK, optInt_int, ZaR, ZaQ, ZbA, Zbk, Zbq, ZbX, ZaY, Zag, Zak, Zal, Zb1, ZbR, Zan, Zar, Zah, Zaq, Int.reduceToNat, Int.toNat_natCast, Zad, ZbK, ZbW, ZbO, Zbx, ZaT, List.getElem?_cons_zero, List.getElem?_cons_succ, Zch, Zcg, Zau, Zbj, ZaB, ZaV, Zaj, ZaD, ZaI, Zac, Zat, Zbe, Zba, Zav, Zbn, Za1, ZaM, Zax, Zbf, Zay, Zby, Zaz, Zap, ZaW, Zao, ZaH, Zbi, ZaP, Zaf, Zab, Zae, Zaa, aliasOk, Za5, Bool.false_eq_true, Bool.or_false, Bool.false_or, Bool.or_self, Bool.or_true, Bool.true_or, Bool.and_true, Bool.true_and, Bool.and_self, Bool.not_false, Bool.not_true, Bool.and_false, Bool.false_and, if_false, if_true, reduceIte, ZaZ, ZbJ, String.reduceBEq, String.reduceBNe, String.reduceEq, ZbM, Za2, Zbl, Zbb, ZaS, ZaE, ZaL, ZbC, Zbu, ZaO, ZaA, Zam, Zas, ZbS, Za7, Zbs, Za8, Zbm, Za4, ZbB, Za6, Zbo, Zbd, ZbF, Zbc, Zbg, ZbU, ZaX, Bool.not_eq_true'])]
    exact row [2, -1, 3, 5, 40000, -2, 30000, 7, 0] (by decide)
  replace w2 : (w == "part") = false := beq_eq_false_iff_ne.mpr w2
  by_cases w1 : w = "times"
  · subst w1
    rw [peel_tn (ρ' := [.fr (.str (Str.ofString "times")), .fr (.int c), .fr (.list [.int (-1), .int 2, .int (-1), .int 1000, .int 1, .int 0, .int 31622, .int (-3), .int (-1)])]) (by simp (disch := (first | assumption | decide | exact Zbp _ | (refine Sm.div ?_ ?_ <;> first | assumption | decide))) only [Za0, ZbH, ZbN, ZbI, ZbL, Za3, ZaC, Zb3, Zai, Zaw, ZbP, ZaN, ZbZ, Zb0, Zbv, ZbD, ZaU, ZbY, Zb4, Zb9, ZbT, Zcd, Zb5, ZbG, Zb2, Zb6, ZbQ, ZbE, ZbV, ZaJ, Zbz, Zbw, Zca, Zcb, Zcc, Zce, Zcf, Zb8, Zbh, Za9, Zbr, Zbt, ZaF, ZaG, ZaK, optInt_int, ZaR, ZaQ, ZbA, Zbk, Zbq, ZbX, ZaY, Zag, Zak, Zal, Zb1, ZbR, Zan, Zar, Zah, Zaq, Int.reduceToNat, Int.toNat_natCast, Zad, ZbK, ZbW, ZbO, Zbx, ZaT, List.getElem?_cons_zero, List.getElem?_cons_succ, Zch, Zcg, Zau, Zbj, ZaB, ZaV, Zaj, ZaD, ZaI, Zac, Zat, Zbe, Zba, Zav, Zbn, Za1, ZaM, Zax, Zbf, Zay, Zby, Zaz, Zap, ZaW, Zao, ZaH, Zbi, ZaP, Zaf, Zab, Zae, Zaa, aliasOk, Za5, Bool.false_eq_true, Bool.or_false, Bool.false_or, Bool.or_self, Bool.or_true, Bool.true_or, Bool.and_true, Bool.true_and, Bool.and_self, Bool.not_false, Bool.not_true, Bool.and_false, Bool.false_and, if_false, if_true, reduceIte, ZaZ, ZbJ, String.reduceBEq, String.reduceBNe, String.reduceEq, ZbM, Za2, Zbl, Zbb, ZaS, ZaE, ZaL, ZbC, Zbu, ZaO, ZaA, Zam, Zas, ZbS, Za7, Zbs, Za8, Zbm, Za4, ZbB, Za6, Zbo, Zbd, ZbF, Zbc, Zbg, ZbU, ZaX, Bool.not_eq_true']) (by simp (disch := (first | assumption | decide | exact Zbp _ | (refine Sm.div ?_ ?_ <;> first | assumption | decide))) only [Za0, ZbH, ZbN, ZbI, ZbL, Za3, ZaC, Zb3, Zai, Zaw, ZbP, ZaN, ZbZ, Zb0, Zbv, ZbD, ZaU, ZbY, Zb4, Zb9, ZbT, Zcd, Zb5, ZbG, Zb2, Zb6, ZbQ, ZbE, ZbV, ZaJ, Zbz, Zbw, Zca, Zcb, Zcc, Zce, Zcf, Zb8, Zbh, Za9, Zbr, Zbt, ZaF, ZaG, ZaK, optInt_int, ZaR, ZaQ, ZbA, Zbk, Zbq, ZbX, ZaY, Zag, Zak, Zal, Zb1, ZbR, Zan, Zar, Zah, Zaq, Int.reduceToNat, Int.toNat_natCast, Zad, ZbK, ZbW, ZbO, Zbx, ZaT, List.getElem?_cons_zero, List.getElem?_cons_succ, Zch, Zcg, Zau, Zbj, ZaB, ZaV, Zaj, ZaD, ZaI, Zac, Zat, Zbe, Zba, Zav, Zbn, Za1, ZaM, Zax, Zbf, Zay, Zby, Zaz, Zap, ZaW, Zao, ZaH, Zbi, ZaP, Zaf, Zab, Zae, Zaa, aliasOk, Za5, Bool.false_eq_true, Bool.or_false, Bool.false_or, Bool.or_self, Bool.or_true, Bool.true_or, Bool.and_true, Bool.true_and, Bool.and_self, Bool.not_false, Bool.not_true, Bool.and_false, Bool.false_and, if_false, if_true, reduceIte, ZaZ, ZbJ, String.reduceBEq, String.reduceBNe, String.reduceEq, ZbM, Za2, Zbl, Zbb, ZaS, ZaE, ZaL, ZbC, Zbu, ZaO, ZaA, Zam, Zas, ZbS, Za7, Zbs, Za8, Zbm, Za4, ZbB, Za6, Zbo, Zbd, ZbF, Zbc, Zbg, ZbU, ZaX, Bool.not_eq_true']), peel_f (by simp (disch := (first | assumption | decide | exact Zbp _ | (refine Sm.div ?_ ?_ <;> first | assumption | decide))) only [Za0, ZbH, ZbN, ZbI, ZbL, Za3, ZaC, Zb3, Zai, Zaw, ZbP, ZaN, ZbZ, Zb0, Zbv, ZbD, ZaU, ZbY, Zb4, Zb9, ZbT, Zcd, Zb5, ZbG, Zb2, Zb6, ZbQ, ZbE, ZbV, ZaJ, Zbz, Zbw, Zca, Zcb, Zcc, Zce, Zcf, Zb8, Zbh, Za9, Zbr, Zbt, ZaF, ZaG, ZaK, optInt_int, ZaR, ZaQ, ZbA, Zbk, Zbq, ZbX, ZaY, Zag, Zak, Zal, Zb1, ZbR, Zan, Zar, Zah, Zaq, Int.reduceToNat, Int.toNat_natCast, Zad, ZbK, ZbW, ZbO, Zbx, ZaT, List.getElem?_cons_zero, List.getElem?_cons_succ, Zch, Zcg, Zau, Zbj, ZaB, ZaV, Zaj, ZaD, ZaI, Zac, Zat, Zbe, Zba, Zav, Zbn, Za1, ZaM, Zax, Zbf, Zay, Zby, Zaz, Zap, ZaW, Zao, ZaH, Zbi, ZaP, Zaf, Zab, Zae, Zaa, aliasOk, Za5, Bool.false_eq_true, Bool.or_false, Bool.false_or, Bool.or_self, Bool.or_true, Bool.true_or, Bool.and_true, Bool.true_and, Bool.and_self, Bool.not_false, Bool.not_true, Bool.and_false, Bool.false_and, if_false, if_true, reduceIte, ZaZ, ZbJ, String.reduceBEq, String.reduceBNe, String.reduceEq, ZbM, Za2, Zbl, Zbb, ZaS, ZaE, ZaL, ZbC, Zbu, ZaO, ZaA, Zam, Zas, ZbS, Za7, Zbs, Za8, Zbm, Za4, ZbB, Za6, Zbo, Zbd, ZbF, Zbc, Zbg, ZbU, ZaX, Bool.not_eq_true']), peel_f (by simp (disch := (first | assumption | decide | exact Zbp _ | (refine Sm.div ?_ ?_ <;> first | assumption | decide))) only [Za0, ZbH, ZbN, ZbI, ZbL, Za3, ZaC, Zb3, Zai, Zaw, ZbP, ZaN, ZbZ, Zb0, Zbv, ZbD, ZaU, ZbY, Zb4, Zb9, ZbT, Zcd, Zb5, ZbG, Zb2, Zb6, ZbQ, ZbE, ZbV, ZaJ, Zbz, Zbw, Zca, Zcb, Zcc, Zce, Zcf, Zb8, Zbh, Za9, Zbr, Zbt, ZaF, ZaG, ZaK, optInt_int, ZaR, ZaQ, ZbA, Zbk, Zbq, ZbX, ZaY, Zag, Zak, Zal, Zb1, ZbR, Zan, Zar, Zah, Zaq, Int.reduceToNat, Int.toNat_natCast, Zad, ZbK, ZbW, ZbO, Zbx, ZaT, List.getElem?_cons_zero, List.getElem?_cons_succ, Zch, Zcg, Zau, Zbj, ZaB, ZaV, Zaj, ZaD, ZaI, Zac, Zat, Zbe, Zba, Zav, Zbn, Za1, ZaM, Zax, Zbf, Zay, Zby, Zaz, Zap, ZaW, Zao, ZaH, Zbi, ZaP, Zaf, Zab, Zae, Zaa, aliasOk, Za5, Bool.false_eq_true, Bool.or_false, Bool.false_or, Bool.or_self, Bool.or_true, Bool.true_or, Bool.and_true, Bool.true_and, Bool.and_self, Bool.not_false, Bool.not_true, Bool.and_false, Bool.false_and, if_false, if_true, reduceIte, ZaZ, ZbJ, String.reduceBEq, String.reduceBNe, String.reduceEq, ZbM, Za2, Zbl, Zbb, ZaS, ZaE, ZaL, ZbC, Zbu, ZaO, ZaA, Zam, Zas, ZbS, Za7, Zbs, Za8, Zbm, Za4, ZbB, Za6, Zbo, Zbd, ZbF, Zbc, Zbg, ZbU, ZaX, Bool.not_eq_true'])]
    exact row [-1, 2, -1, 1000, 1, 0, 31622, -3, -1] (by decide)
  replace w1 : (w == "times") = false := beq_eq_false_iff_ne.mpr w1
  rw [peel_f (by simp (disch := (first | assumption | decide | exact Zbp _ | (refine Sm.div ?_ ?_ <;> first | assumption | decide))) only [Za0, ZbH, ZbN, ZbI, ZbL, Za3, ZaC, Zb3, Zai, Zaw, ZbP, ZaN, ZbZ, Zb0, Zbv, ZbD, ZaU, ZbY, Zb4, Zb9, ZbT, Zcd, Zb5, ZbG, Zb2, Zb6, ZbQ, ZbE, ZbV, ZaJ, Zbz, Zbw, Zca, Zcb, Zcc, Zce, Zcf, Zb8, Zbh, Za9, Zbr, Zbt, ZaF, ZaG, ZaK, optInt_int, ZaR, ZaQ, ZbA, Zbk, Zbq, ZbX, ZaY, Zag, Zak, Zal, Zb1, ZbR, Zan, Zar, Zah, Zaq, Int.reduceToNat, Int.toNat_natCast, Zad, ZbK, ZbW, ZbO, Zbx, ZaT, List.getElem?_cons_zero, List.getElem?_cons_succ, Zch, Zcg, Zau, Zbj, ZaB, ZaV, Zaj, ZaD, ZaI, Zac, Zat, Zbe, Zba, Zav, Zbn, Za1, ZaM, Zax, Zbf, Zay, Zby, Zaz, Zap, ZaW, Zao, ZaH, Zbi, ZaP, Zaf, Zab, Zae, Zaa, aliasOk, Za5, Bool.false_eq_true, Bool.or_false, Bool.false_or, Bool.or_self, Bool.or_true, Bool.true_or, Bool.and_true, Bool.true_and, Bool.and_self, Bool.not_false, Bool.not_true, Bool.and_false, Bool.false_and, if_false, if_true, reduceIte, ZaZ, ZbJ, String.reduceBEq, String.reduceBNe, String.reduceEq, ZbM, Za2, Zbl, Zbb, ZaS, ZaE, ZaL, ZbC, Zbu, ZaO, ZaA, Zam, Zas, ZbS, Za7, Zbs, Za8, Zbm, Za4, ZbB, Za6, Zbo, Zbd, ZbF, Zbc, Zbg, ZbU, ZaX, Bool.not_eq_true', w1]), peel_f (by simp (disch := (first | assumption | decide | exact Zbp _ | (refine Sm.div ?_ ?_ <;> first | assumption | decide))) only [Za0, ZbH, ZbN, ZbI, ZbL, Za3, ZaC, Zb3, Zai, Zaw, ZbP, ZaN, ZbZ, Zb0, Zbv, ZbD, ZaU, ZbY, Zb4, Zb9, ZbT, Zcd, Zb5, ZbG, Zb2, Zb6, ZbQ, ZbE, ZbV, ZaJ, Zbz, Zbw, Zca, Zcb, Zcc, Zce, Zcf, Zb8, Zbh, Za9, Zbr, Zbt, ZaF, ZaG, ZaK, optInt_int, ZaR, ZaQ, ZbA, Zbk, Zbq, ZbX, ZaY, Zag, Zak, Zal, Zb1, ZbR, Zan, Zar, Zah, Zaq, Int.reduceToNat, Int.toNat_natCast, Zad, ZbK, ZbW, ZbO, Zbx, ZaT, List.getElem?_cons_zero, List.getElem?_cons_succ, Zch, Zcg, Zau, Zbj, ZaB, ZaV, Zaj, ZaD, ZaI, Zac, Zat, Zbe, Zba, Zav, Zbn, Za1, ZaM, Zax, Zbf, Zay, Zby, Zaz, Zap, ZaW, Zao, ZaH, Zbi, ZaP, Zaf, Zab, Zae, Zaa, aliasOk, Za5, Bool.false_eq_true, Bool.or_false, Bool.false_or, Bool.or_self, Bool.or_true, Bool.true_or, Bool.and_true, Bool.true_and, Bool.and_self, Bool.not_false, Bool.not_true, Bool.and_false, Bool.false_and, if_false, if_true, reduceIte, ZaZ, ZbJ, String.reduceBEq, String.reduceBNe, String.reduceEq, ZbM, Za2, Zbl, Zbb, ZaS, ZaE, ZaL, ZbC, Zbu, ZaO, ZaA, Zam, Zas, ZbS, Za7, Zbs, Za8, Zbm, Za4, ZbB, Za6, Zbo, Zbd, ZbF, Zbc, Zbg, ZbU, ZaX, Bool.not_eq_true', w2]), peel_f (by simp (disch := (first | assumption | decide | exact Zbp _ | (refine Sm.div ?_ ?_ <;> first | assumption | decide))) only [Za0, ZbH, ZbN, ZbI, ZbL, Za3, ZaC, Zb3, Zai, Zaw, ZbP, ZaN, ZbZ, Zb0, Zbv, ZbD, ZaU, ZbY, Zb4, Zb9, ZbT, Zcd, Zb5, ZbG, Zb2, Zb6, ZbQ, ZbE, ZbV, ZaJ, Zbz, Zbw, Zca, Zcb, Zcc, Zce, Zcf, Zb8, Zbh, Za9, Zbr, Zbt, ZaF, ZaG, ZaK, optInt_int, ZaR, ZaQ, ZbA, Zbk, Zbq, ZbX, ZaY, Zag, Zak, Zal, Zb1, ZbR, Zan, Zar, Zah, Zaq, Int.reduceToNat, Int.toNat_natCast, Zad, ZbK, ZbW, ZbO, Zbx, ZaT, List.getElem?_cons_zero, List.getElem?_cons_succ, Zch, Zcg, Zau, Zbj, ZaB, ZaV, Zaj, ZaD, ZaI, Zac, Zat, Zbe, Zba, Zav, Zbn, Za1, ZaM, Zax, Zbf, Zay, Zby, Zaz, Zap, ZaW, Zao, ZaH, Zbi, ZaP, Zaf, Zab, Zae, Zaa, aliasOk, Za5, Bool.false_eq_true, Bool.or_false, Bool.false_or, Bool.or_self, Bool.or_true, Bool.true_or, Bool.and_true, Bool.true_and, Bool.and_self, Bool.not_false, Bool.not_true, Bool.and_false, Bool.false_and, if_false, if_true, reduceIte, ZaZ, ZbJ, String.reduceBEq, String.reduceBNe, String.reduceEq, ZbM, Za2, Zbl, Zbb, ZaS, ZaE, ZaL, ZbC, Zbu, ZaO, ZaA, Zam, Zas, ZbS, Za7, Zbs, Za8, Zbm, Za4, ZbB, Za6, Zbo, Zbd, ZbF, Zbc, Zbg, ZbU, ZaX, Bool.not_eq_true', w3])]
  exact row [0, 1, -1, 500000000, -500000000, 3, 999999999, 7, -2] (by decide)
theorem cond_loop (n : Nat) (p k m s w v u : Slot) : ∀ (l : List D) (c : D) (t : Slot) (d : Nat), Ex d c →
    ∃ c' t', forLoop (bodyS (orc fns globs n) globs 8 (.seq (.asg 7 (.tupD (.cons (.cstr (Str.ofString "same")) (.cons (.var 7) (.cons (.tupD (.cons (.cstr (Str.ofString "num")) (.cons (.cint 0) .nil))) .nil))))) .skip)) l [p, k, m, s, w, v, u, .fr c, t] = .next [p, k, m, s, w, v, u, .fr c', t'] ∧ Ex (d + l.length) c' ∧ wt c' = wt c + 2 * l.length
  | [], c, t, d, h => ⟨c, t, by simp (disch := (first | assumption | decide | exact Zbp _ | (refine Sm.div ?_ ?_ <;> first | assumption | decide) | omega | (simp only [List.length_append, List.length_cons, List.length_nil, slen_sone, Zb7, slen_empty]; omega))) only [Za0, ZbH, ZbN, ZbI, ZbL, Za3, ZaC, Zb3, Zai, Zaw, ZbP, ZaN, ZbZ, Zb0, Zbv, ZbD, ZaU, ZbY, Zb4, Zb9, ZbT, Zcd, Zb5, ZbG, Zb2, Zb6, ZbQ, ZbE, ZbV, ZaJ, Zbz, Zbw, Zca, Zcb, Zcc, Zce, Zcf, Zb8, Zbh, Za9, Zbr, Zbt, ZaF, ZaG, ZaK, optInt_int, ZaR, ZaQ, ZbA, Zbk, mul_ok, Zbq, ZbX, ZaY, addl_ok, Zag, Zak, Zal, Zb1, ZbR, Zan, Zar, Zah, Zaq, getk, Int.reduceToNat, Int.toNat_natCast, len_list_ok, len_tuple_ok, len_str_ok, Zad, ZbK, ZbW, ZbO, Zbx, ZaT, List.getElem?_cons_zero, List.getElem?_cons_succ, Zch, Zcg, Zau, Zbj, ZaB, ZaV, Zaj, ZaD, ZaI, Zac, Zat, Zbe, Zba, Zav, Zbn, Za1, ZaM, Zax, Zbf, Zay, Zby, Zaz, Zap, ZaW, Zao, ZaH, Zbi, ZaP, Zaf, Zab, Zae, Zaa, aliasOk, Za5, Bool.false_eq_true, Bool.or_false, Bool.false_or, Bool.or_self, Bool.or_true, Bool.true_or, Bool.and_true, Bool.true_and, Bool.and_self, Bool.not_false, Bool.not_true, Bool.and_false, Bool.false_and, if_false, if_true, reduceIte, List.length_append, List.length_cons, List.length_nil, ZaZ, ZbJ, String.reduceBEq, String.reduceBNe, String.reduceEq, ZbM, Za2, Zbl, Zbb, ZaS, ZaE, ZaL, ZbC, Zbu, forS_list, ZaO, ZaA, Zam, Zas, ZbS, Za7, Zbs, Za8, Zbm, Za4, ZbB, Za6, Zbo, Zbd, ZbF, Zbc, slice_hi, slice_lo, slice_both, slice_tup1, slice_tup2, Zbg, ZbU, ZaX, decide_eq_true, decide_eq_false, int_beq_t, int_beq_f, Bool.and_eq_false_iff, Bool.or_eq_false_iff, beq_iff_eq, bne_iff_ne, decide_eq_true_eq, Bool.and_eq_true, Bool.or_eq_true, Bool.not_eq_true', decide_eq_false_iff_not, beq_eq_false_iff_ne, if_pos, if_neg], h, rfl⟩
  | x :: l, c, t, d, h => by
    obtain ⟨c', t', e, h2, h3⟩ := cond_loop n p k m s w v u l (twoE "same" c (numE 0)) (.fr x) (d + 1) (.two (by decide) h (.num (by omega) (by omega)))
    refine ⟨c', t', ?_, h2.mono (by simp; omega), by rw [h3, wt_two, wt_num, List.length_cons]; omega⟩
    rw [← e]
    simp (disch := (first | assumption | decide | exact Zbp _ | (refine Sm.div ?_ ?_ <;> first | assumption | decide) | omega | (simp only [List.length_append, List.length_cons, List.length_nil, slen_sone, Zb7, slen_empty]; omega))) only [Za0, ZbH, ZbN, ZbI, ZbL, Za3, ZaC, Zb3, Zai, Zaw, ZbP, ZaN, ZbZ, Zb0, Zbv, ZbD, ZaU, ZbY, Zb4, Zb9, ZbT, Zcd, Zb5, ZbG, Zb2, Zb6, ZbQ, ZbE, ZbV, ZaJ, Zbz, Zbw, Zca, Zcb, Zcc, Zce, Zcf, Zb8, Zbh, Za9, Zbr, Zbt, ZaF, ZaG, ZaK, optInt_int, ZaR, ZaQ, ZbA, Zbk, mul_ok, Zbq, ZbX, ZaY, addl_ok, Zag, Zak, Zal, Zb1, ZbR, Zan, Zar, Zah, Zaq, getk, Int.reduceToNat, Int.toNat_natCast, len_list_ok, len_tuple_ok, len_str_ok, Zad, ZbK, ZbW, ZbO, Zbx, ZaT, List.getElem?_cons_zero, List.getElem?_cons_succ, Zch, Zcg, Zau, Zbj, ZaB, ZaV, Zaj, ZaD, ZaI, Zac, Zat, Zbe, Zba, Zav, Zbn, Za1, ZaM, Zax, Zbf, Zay, Zby, Zaz, Zap, ZaW, Zao, ZaH, Zbi, ZaP, Zaf, Zab, Zae, Zaa, aliasOk, Za5, Bool.false_eq_true, Bool.or_false, Bool.false_or, Bool.or_self, Bool.or_true, Bool.true_or, Bool.and_true, Bool.true_and, Bool.and_self, Bool.not_false, Bool.not_true, Bool.and_false, Bool.false_and, if_false, if_true, reduceIte, List.length_append, List.length_cons, List.length_nil, ZaZ, ZbJ, String.reduceBEq, String.reduceBNe, String.reduceEq, ZbM, Za2, Zbl, Zbb, ZaS, ZaE, ZaL, ZbC, Zbu, forS_list, ZaO, ZaA, Zam, Zas, ZbS, Za7, Zbs, Za8, Zbm, Za4, ZbB, Za6, Zbo, Zbd, ZbF, Zbc, slice_hi, slice_lo, slice_both, slice_tup1, slice_tup2, Zbg, ZbU, ZaX, decide_eq_true, decide_eq_false, int_beq_t, int_beq_f, Bool.and_eq_false_iff, Bool.or_eq_false_iff, beq_iff_eq, bne_iff_ne, decide_eq_true_eq, Bool.and_eq_true, Bool.or_eq_true, Bool.not_eq_true', decide_eq_false_iff_not, beq_eq_false_iff_ne, if_pos, if_neg]
theorem step_ok (n : Nat) (pile : List D) (d : Nat) (kind more seed : Int) (hm : Sm more) (hs : Sm seed) (hp : Pile d pile) (hl : pile.length ≤ 100) :
    ∃ pile' d', (orc fns globs (n + 2)).fn 10 [.list pile, .int kind, .int more, .int seed] = .ok (.list pile', false) ∧ Pile d' pile' ∧ d' + pile'.length ≤ d + pile.length + 1 ∧ pile'.length ≤ pile.length + 1 ∧ wts pile' ≤ wts pile + 6 := by
  rw [orc_fn (F := F_law_step) rfl rfl]
  show ∃ pile' d', fin (ex _ _ F_law_step.body [.fr _, .fr _, .fr _, .fr _, .unset, .unset, .unset, .unset, .unset]) = _ ∧ _
  unfold F_law_step
  obtain ⟨w, hw, ew⟩ := pick_twom more
  obtain ⟨x, ex, hx⟩ := name_by_i n seed (more % 3) hs (.mod (by decide) (by decide))
  obtain ⟨N, hN⟩ : ∃ N : Int, N = pile.length := ⟨_, rfl⟩
  have hlen : b1D .len (.list pile) = .ok (.int N) := by rw [hN]; exact len_list_ok (by omega)
  have hadd : ∀ (r : List D) (y : D), r.length ≤ 200 → binD .Add (.list r) (.list [y]) = .ok (.list (r ++ [y])) := fun r y h => addl_ok (by simp only [List.length_cons, List.length_nil]; omega)
  rw [peel_asg (d := .list sevenD) (by simp (disch := (first | assumption | decide | exact Zbp _ | (refine Sm.div ?_ ?_ <;> first | assumption | decide))) only [Za0, ZbH, ZbN, ZbI, ZbL, Za3, ZaC, Zb3, Zai, Zaw, ZbP, ZaN, ZbZ, Zb0, Zbv, ZbD, ZaU, ZbY, Zb4, Zb9, ZbT, Zcd, Zb5, ZbG, Zb2, Zb6, ZbQ, ZbE, ZbV, ZaJ, Zbz, Zbw, Zca, Zcb, Zcc, Zce, Zcf, Zb8, Zbh, Za9, Zbr, Zbt, ZaF, ZaG, ZaK, optInt_int, ZaR, ZaQ, ZbA, Zbk, Zbq, ZbX, ZaY, Zag, Zak, Zal, Zb1, ZbR, Zan, Zar, Zah, Zaq, Int.reduceToNat, Int.toNat_natCast, Zad, ZbK, ZbW, ZbO, Zbx, ZaT, List.getElem?_cons_zero, List.getElem?_cons_succ, Zch, Zcg, Zau, Zbj, ZaB, ZaV, Zaj, ZaD, ZaI, Zac, Zat, Zbe, Zba, Zav, Zbn, Za1, ZaM, Zax, Zbf, Zay, Zby, Zaz, Zap, ZaW, Zao, ZaH, Zbi, ZaP, Zaf, Zab, Zae, Zaa, aliasOk, Za5, Bool.false_eq_true, Bool.or_false, Bool.false_or, Bool.or_self, Bool.or_true, Bool.true_or, Bool.and_true, Bool.true_and, Bool.and_self, Bool.not_false, Bool.not_true, Bool.and_false, Bool.false_and, if_false, if_true, reduceIte, ZaZ, ZbJ, String.reduceBEq, String.reduceBNe, String.reduceEq, ZbM, Za2, Zbl, Zbb, ZaS, ZaE, ZaL, ZbC, Zbu, ZaO, ZaA, Zam, Zas, ZbS, Za7, Zbs, Za8, Zbm, Za4, ZbB, Za6, Zbo, Zbd, ZbF, Zbc, Zbg, ZbU, ZaX, Bool.not_eq_true']) rfl, Zcg, Zcg, Zcg, Zcg, Zch, peel_asg (d := .str (Str.ofString w)) (by simp (disch := (first | assumption | decide | exact Zbp _ | (refine Sm.div ?_ ?_ <;> first | assumption | decide))) only [Za0, ZbH, ZbN, ZbI, ZbL, Za3, ZaC, Zb3, Zai, Zaw, ZbP, ZaN, ZbZ, Zb0, Zbv, ZbD, ZaU, ZbY, Zb4, Zb9, ZbT, Zcd, Zb5, ZbG, Zb2, Zb6, ZbQ, ZbE, ZbV, ZaJ, Zbz, Zbw, Zca, Zcb, Zcc, Zce, Zcf, Zb8, Zbh, Za9, Zbr, Zbt, ZaF, ZaG, ZaK, optInt_int, ZaR, ZaQ, ZbA, Zbk, Zbq, ZbX, ZaY, Zag, Zak, Zal, Zb1, ZbR, Zan, Zar, Zah, Zaq, Int.reduceToNat, Int.toNat_natCast, Zad, ZbK, ZbW, ZbO, Zbx, ZaT, List.getElem?_cons_zero, List.getElem?_cons_succ, Zch, Zcg, Zau, Zbj, ZaB, ZaV, Zaj, ZaD, ZaI, Zac, Zat, Zbe, Zba, Zav, Zbn, Za1, ZaM, Zax, Zbf, Zay, Zby, Zaz, Zap, ZaW, Zao, ZaH, Zbi, ZaP, Zaf, Zab, Zae, Zaa, aliasOk, Za5, Bool.false_eq_true, Bool.or_false, Bool.false_or, Bool.or_self, Bool.or_true, Bool.true_or, Bool.and_true, Bool.true_and, Bool.and_self, Bool.not_false, Bool.not_true, Bool.and_false, Bool.false_and, if_false, if_true, reduceIte, ZaZ, ZbJ, String.reduceBEq, String.reduceBNe, String.reduceEq, ZbM, Za2, Zbl, Zbb, ZaS, ZaE, ZaL, ZbC, Zbu, ZaO, ZaA, Zam, Zas, ZbS, Za7, Zbs, Za8, Zbm, Za4, ZbB, Za6, Zbo, Zbd, ZbF, Zbc, Zbg, ZbU, ZaX, Bool.not_eq_true', ew]) rfl, Zcg, Zcg, Zcg, Zcg, Zcg, Zch]
  by_cases t1 : ((kind == 12 || decide (16 < kind)) && decide (1 < N)) = true
  · have hA := of_decide_eq_true (Bool.and_eq_true_iff.mp t1).2
    obtain ⟨r, a, b, rfl⟩ := from_end2 (l := pile) (by omega)
    simp only [List.length_append, List.length_cons, List.length_nil] at hl ⊢
    have hr : r.length < 900000 := by omega
    have ha := hadd r (letE x a b) (by omega)
    rw [peel_t (by simp (disch := (first | assumption | decide | exact Zbp _ | (refine Sm.div ?_ ?_ <;> first | assumption | decide))) only [Za0, ZbH, ZbN, ZbI, ZbL, Za3, ZaC, Zb3, Zai, Zaw, ZbP, ZaN, ZbZ, Zb0, Zbv, ZbD, ZaU, ZbY, Zb4, Zb9, ZbT, Zcd, Zb5, ZbG, Zb2, Zb6, ZbQ, ZbE, ZbV, ZaJ, Zbz, Zbw, Zca, Zcb, Zcc, Zce, Zcf, Zb8, Zbh, Za9, Zbr, Zbt, ZaF, ZaG, ZaK, optInt_int, ZaR, ZaQ, ZbA, Zbk, Zbq, ZbX, ZaY, Zag, Zak, Zal, Zb1, ZbR, Zan, Zar, Zah, Zaq, Int.reduceToNat, Int.toNat_natCast, Zad, ZbK, ZbW, ZbO, Zbx, ZaT, List.getElem?_cons_zero, List.getElem?_cons_succ, Zch, Zcg, Zau, Zbj, ZaB, ZaV, Zaj, ZaD, ZaI, Zac, Zat, Zbe, Zba, Zav, Zbn, Za1, ZaM, Zax, Zbf, Zay, Zby, Zaz, Zap, ZaW, Zao, ZaH, Zbi, ZaP, Zaf, Zab, Zae, Zaa, aliasOk, Za5, Bool.false_eq_true, Bool.or_false, Bool.false_or, Bool.or_self, Bool.or_true, Bool.true_or, Bool.and_true, Bool.true_and, Bool.and_self, Bool.not_false, Bool.not_true, Bool.and_false, Bool.false_and, if_false, if_true, reduceIte, ZaZ, ZbJ, String.reduceBEq, String.reduceBNe, String.reduceEq, ZbM, Za2, Zbl, Zbb, ZaS, ZaE, ZaL, ZbC, Zbu, ZaO, ZaA, Zam, Zas, ZbS, Za7, Zbs, Za8, Zbm, Za4, ZbB, Za6, Zbo, Zbd, ZbF, Zbc, Zbg, ZbU, ZaX, Bool.not_eq_true', hlen, t1]) (peel_ret (d := .list (r ++ [letE x a b])) (by simp (disch := (first | assumption | decide | exact Zbp _ | (refine Sm.div ?_ ?_ <;> first | assumption | decide))) only [Za0, ZbH, ZbN, ZbI, ZbL, Za3, ZaC, Zb3, Zai, Zaw, ZbP, ZaN, ZbZ, Zb0, Zbv, ZbD, ZaU, ZbY, Zb4, Zb9, ZbT, Zcd, Zb5, ZbG, Zb2, Zb6, ZbQ, ZbE, ZbV, ZaJ, Zbz, Zbw, Zca, Zcb, Zcc, Zce, Zcf, Zb8, Zbh, Za9, Zbr, Zbt, ZaF, ZaG, ZaK, optInt_int, ZaR, ZaQ, ZbA, Zbk, Zbq, ZbX, ZaY, Zag, Zak, Zal, Zb1, ZbR, Zan, Zar, Zah, Zaq, Int.reduceToNat, Int.toNat_natCast, Zad, ZbK, ZbW, ZbO, Zbx, ZaT, List.getElem?_cons_zero, List.getElem?_cons_succ, Zch, Zcg, Zau, Zbj, ZaB, ZaV, Zaj, ZaD, ZaI, Zac, Zat, Zbe, Zba, Zav, Zbn, Za1, ZaM, Zax, Zbf, Zay, Zby, Zaz, Zap, ZaW, Zao, ZaH, Zbi, ZaP, Zaf, Zab, Zae, Zaa, aliasOk, Za5, Bool.false_eq_true, Bool.or_false, Bool.false_or, Bool.or_self, Bool.or_true, Bool.true_or, Bool.and_true, Bool.true_and, Bool.and_self, Bool.not_false, Bool.not_true, Bool.and_false, Bool.false_and, if_false, if_true, reduceIte, ZaZ, ZbJ, String.reduceBEq, String.reduceBNe, String.reduceEq, ZbM, Za2, Zbl, Zbb, ZaS, ZaE, ZaL, ZbC, Zbu, ZaO, ZaA, Zam, Zas, ZbS, Za7, Zbs, Za8, Zbm, Za4, ZbB, Za6, Zbo, Zbd, ZbF, Zbc, Zbg, ZbU, ZaX, Bool.not_eq_true', ex, ha]))]
    exact ⟨_, d + 1, rfl, (hp.left.mono (by omega)).app (.one (.lett hx hp.at2.1 hp.at2.2)), by simp; omega, by simp, by simp only [wts_app, wts_cons, wts_nil, wt_let]; omega⟩
  replace t1 := Bool.eq_false_iff.mpr t1
  rw [peel_f (by simp (disch := (first | assumption | decide | exact Zbp _ | (refine Sm.div ?_ ?_ <;> first | assumption | decide))) only [Za0, ZbH, ZbN, ZbI, ZbL, Za3, ZaC, Zb3, Zai, Zaw, ZbP, ZaN, ZbZ, Zb0, Zbv, ZbD, ZaU, ZbY, Zb4, Zb9, ZbT, Zcd, Zb5, ZbG, Zb2, Zb6, ZbQ, ZbE, ZbV, ZaJ, Zbz, Zbw, Zca, Zcb, Zcc, Zce, Zcf, Zb8, Zbh, Za9, Zbr, Zbt, ZaF, ZaG, ZaK, optInt_int, ZaR, ZaQ, ZbA, Zbk, Zbq, ZbX, ZaY, Zag, Zak, Zal, Zb1, ZbR, Zan, Zar, Zah, Zaq, Int.reduceToNat, Int.toNat_natCast, Zad, ZbK, ZbW, ZbO, Zbx, ZaT, List.getElem?_cons_zero, List.getElem?_cons_succ, Zch, Zcg, Zau, Zbj, ZaB, ZaV, Zaj, ZaD, ZaI, Zac, Zat, Zbe, Zba, Zav, Zbn, Za1, ZaM, Zax, Zbf, Zay, Zby, Zaz, Zap, ZaW, Zao, ZaH, Zbi, ZaP, Zaf, Zab, Zae, Zaa, aliasOk, Za5, Bool.false_eq_true, Bool.or_false, Bool.false_or, Bool.or_self, Bool.or_true, Bool.true_or, Bool.and_true, Bool.true_and, Bool.and_self, Bool.not_false, Bool.not_true, Bool.and_false, Bool.false_and, if_false, if_true, reduceIte, ZaZ, ZbJ, String.reduceBEq, String.reduceBNe, String.reduceEq, ZbM, Za2, Zbl, Zbb, ZaS, ZaE, ZaL, ZbC, Zbu, ZaO, ZaA, Zam, Zas, ZbS, Za7, Zbs, Za8, Zbm, Za4, ZbB, Za6, Zbo, Zbd, ZbF, Zbc, Zbg, ZbU, ZaX, Bool.not_eq_true', hlen, t1])]
  by_cases t2 : (decide (12 < kind) && decide (0 < N)) = true
  · have hB := of_decide_eq_true (Bool.and_eq_true_iff.mp t2).2
    obtain ⟨v, ev, v1, v2⟩ := number_by_ok n (more / 7) (hm.div (by decide))
    obtain ⟨r, a, rfl⟩ := from_end1 (l := pile) (by omega)
    simp only [List.length_append, List.length_cons, List.length_nil] at hl ⊢
    obtain ⟨t, tl, rfl, ht⟩ := hp.at1.tag
    have hr : r.length < 900000 := by omega
    have fin1 : ∀ (wd : String) (y : D), wd ∈ twoWords → (y = twoE wd (numE v) (.tuple (.str (Str.ofString t) :: tl)) ∨ y = twoE wd (.tuple (.str (Str.ofString t) :: tl)) (numE v)) → Pile (d + 1) (r ++ [y]) ∧ d + 1 + (r ++ [y]).length ≤ d + (r.length + 1) + 1 ∧ (r ++ [y]).length ≤ r.length + 1 + 1 ∧ wts (r ++ [y]) ≤ wts (r ++ [.tuple (.str (Str.ofString t) :: tl)]) + 6 := fun wd y hwd hy => by
      rcases hy with rfl | rfl
      · exact ⟨(hp.left.mono (by omega)).app (.one (.two hwd (.num v1 v2) hp.at1)), by simp; omega, by simp, by simp only [wts_app, wts_cons, wts_nil, wt_two, wt_num]; omega⟩
      · exact ⟨(hp.left.mono (by omega)).app (.one (.two hwd hp.at1 (.num v1 v2))), by simp; omega, by simp, by simp only [wts_app, wts_cons, wts_nil, wt_two, wt_num]; omega⟩
    have ins := in_seven ht
    have tail : ∀ wd : String, wd ∈ twoWords → ∃ y, Mine.ex (orc fns globs (n + 1)) globs (.seq (.asg 6 (.tupD (.cons (.cstr (Str.ofString "num")) (.cons (.call 8 (.cons (.bin .FloorDiv (.var 2) (.cint 7)) .nil)) .nil)))) (.seq (.ite (.cmp .Eq (.var 1) (.cint 16)) (.seq (.ret (.bin .Add (.slice (.var 0) .none (.some (.neg (.cint 1)))) (.lstD (.cons (.tupD (.cons (.var 5) (.cons (.var 6) (.cons (.idx (.var 0) (.neg (.cint 1))) .nil)))) .nil)))) .skip) .skip) (.seq (.ret (.bin .Add (.slice (.var 0) .none (.some (.neg (.cint 1)))) (.lstD (.cons (.tupD (.cons (.var 5) (.cons (.idx (.var 0) (.neg (.cint 1))) (.cons (.var 6) .nil)))) .nil)))) .skip))) [.fr (.list (r ++ [.tuple (.str (Str.ofString t) :: tl)])), .fr (.int kind), .fr (.int more), .fr (.int seed), .fr (.list sevenD), .fr (.str (Str.ofString wd)), .unset, .unset, .unset]
        = .ret (.list (r ++ [y])) false [.fr (.list (r ++ [.tuple (.str (Str.ofString t) :: tl)])), .fr (.int kind), .fr (.int more), .fr (.int seed), .fr (.list sevenD), .fr (.str (Str.ofString wd)), .fr (numE v), .unset, .unset] ∧ (y = twoE wd (numE v) (.tuple (.str (Str.ofString t) :: tl)) ∨ y = twoE wd (.tuple (.str (Str.ofString t) :: tl)) (numE v)) := fun wd hwd => by
      rw [peel_asg (d := numE v) (by simp (disch := (first | assumption | decide | exact Zbp _ | (refine Sm.div ?_ ?_ <;> first | assumption | decide))) only [Za0, ZbH, ZbN, ZbI, ZbL, Za3, ZaC, Zb3, Zai, Zaw, ZbP, ZaN, ZbZ, Zb0, Zbv, ZbD, ZaU, ZbY, Zb4, Zb9, ZbT, Zcd, Zb5, ZbG, Zb2, Zb6, ZbQ, ZbE, ZbV, ZaJ, Zbz, Zbw, Zca, Zcb, Zcc, Zce, Zcf, Zb8, Zbh, Za9, Zbr, Zbt, ZaF, ZaG, ZaK, optInt_int, ZaR, ZaQ, ZbA, Zbk, Zbq, ZbX, ZaY, Zag, Zak, Zal, Zb1, ZbR, Zan, Zar, Zah, Zaq, Int.reduceToNat, Int.toNat_natCast, Zad, ZbK, ZbW, ZbO, Zbx, ZaT, List.getElem?_cons_zero, List.getElem?_cons_succ, Zch, Zcg, Zau, Zbj, ZaB, ZaV, Zaj, ZaD, ZaI, Zac, Zat, Zbe, Zba, Zav, Zbn, Za1, ZaM, Zax, Zbf, Zay, Zby, Zaz, Zap, ZaW, Zao, ZaH, Zbi, ZaP, Zaf, Zab, Zae, Zaa, aliasOk, Za5, Bool.false_eq_true, Bool.or_false, Bool.false_or, Bool.or_self, Bool.or_true, Bool.true_or, Bool.and_true, Bool.true_and, Bool.and_self, Bool.not_false, Bool.not_true, Bool.and_false, Bool.false_and, if_false, if_true, reduceIte, ZaZ, ZbJ, String.reduceBEq, String.reduceBNe, String.reduceEq, ZbM, Za2, Zbl, Zbb, ZaS, ZaE, ZaL, ZbC, Zbu, ZaO, ZaA, Zam, Zas, ZbS, Za7, Zbs, Za8, Zbm, Za4, ZbB, Za6, Zbo, Zbd, ZbF, Zbc, Zbg, ZbU, ZaX, Bool.not_eq_true', ev]) rfl, Zcg, Zcg, Zcg, Zcg, Zcg, Zcg, Zch]
      by_cases t16 : (kind == 16) = true
      · have ha := hadd r (twoE wd (numE v) (.tuple (.str (Str.ofString t) :: tl))) (by omega)
        exact ⟨_, peel_t (by simp (disch := (first | assumption | decide | exact Zbp _ | (refine Sm.div ?_ ?_ <;> first | assumption | decide))) only [Za0, ZbH, ZbN, ZbI, ZbL, Za3, ZaC, Zb3, Zai, Zaw, ZbP, ZaN, ZbZ, Zb0, Zbv, ZbD, ZaU, ZbY, Zb4, Zb9, ZbT, Zcd, Zb5, ZbG, Zb2, Zb6, ZbQ, ZbE, ZbV, ZaJ, Zbz, Zbw, Zca, Zcb, Zcc, Zce, Zcf, Zb8, Zbh, Za9, Zbr, Zbt, ZaF, ZaG, ZaK, optInt_int, ZaR, ZaQ, ZbA, Zbk, Zbq, ZbX, ZaY, Zag, Zak, Zal, Zb1, ZbR, Zan, Zar, Zah, Zaq, Int.reduceToNat, Int.toNat_natCast, Zad, ZbK, ZbW, ZbO, Zbx, ZaT, List.getElem?_cons_zero, List.getElem?_cons_succ, Zch, Zcg, Zau, Zbj, ZaB, ZaV, Zaj, ZaD, ZaI, Zac, Zat, Zbe, Zba, Zav, Zbn, Za1, ZaM, Zax, Zbf, Zay, Zby, Zaz, Zap, ZaW, Zao, ZaH, Zbi, ZaP, Zaf, Zab, Zae, Zaa, aliasOk, Za5, Bool.false_eq_true, Bool.or_false, Bool.false_or, Bool.or_self, Bool.or_true, Bool.true_or, Bool.and_true, Bool.true_and, Bool.and_self, Bool.not_false, Bool.not_true, Bool.and_false, Bool.false_and, if_false, if_true, reduceIte, ZaZ, ZbJ, String.reduceBEq, String.reduceBNe, String.reduceEq, ZbM, Za2, Zbl, Zbb, ZaS, ZaE, ZaL, ZbC, Zbu, ZaO, ZaA, Zam, Zas, ZbS, Za7, Zbs, Za8, Zbm, Za4, ZbB, Za6, Zbo, Zbd, ZbF, Zbc, Zbg, ZbU, ZaX, Bool.not_eq_true', t16]) (peel_ret (by simp (disch := (first | assumption | decide | exact Zbp _ | (refine Sm.div ?_ ?_ <;> first | assumption | decide))) only [Za0, ZbH, ZbN, ZbI, ZbL, Za3, ZaC, Zb3, Zai, Zaw, ZbP, ZaN, ZbZ, Zb0, Zbv, ZbD, ZaU, ZbY, Zb4, Zb9, ZbT, Zcd, Zb5, ZbG, Zb2, Zb6, ZbQ, ZbE, ZbV, ZaJ, Zbz, Zbw, Zca, Zcb, Zcc, Zce, Zcf, Zb8, Zbh, Za9, Zbr, Zbt, ZaF, ZaG, ZaK, optInt_int, ZaR, ZaQ, ZbA, Zbk, Zbq, ZbX, ZaY, Zag, Zak, Zal, Zb1, ZbR, Zan, Zar, Zah, Zaq, Int.reduceToNat, Int.toNat_natCast, Zad, ZbK, ZbW, ZbO, Zbx, ZaT, List.getElem?_cons_zero, List.getElem?_cons_succ, Zch, Zcg, Zau, Zbj, ZaB, ZaV, Zaj, ZaD, ZaI, Zac, Zat, Zbe, Zba, Zav, Zbn, Za1, ZaM, Zax, Zbf, Zay, Zby, Zaz, Zap, ZaW, Zao, ZaH, Zbi, ZaP, Zaf, Zab, Zae, Zaa, aliasOk, Za5, Bool.false_eq_true, Bool.or_false, Bool.false_or, Bool.or_self, Bool.or_true, Bool.true_or, Bool.and_true, Bool.true_and, Bool.and_self, Bool.not_false, Bool.not_true, Bool.and_false, Bool.false_and, if_false, if_true, reduceIte, ZaZ, ZbJ, String.reduceBEq, String.reduceBNe, String.reduceEq, ZbM, Za2, Zbl, Zbb, ZaS, ZaE, ZaL, ZbC, Zbu, ZaO, ZaA, Zam, Zas, ZbS, Za7, Zbs, Za8, Zbm, Za4, ZbB, Za6, Zbo, Zbd, ZbF, Zbc, Zbg, ZbU, ZaX, Bool.not_eq_true', ha])), .inl rfl⟩
      · replace t16 := Bool.eq_false_iff.mpr t16
        have ha := hadd r (twoE wd (.tuple (.str (Str.ofString t) :: tl)) (numE v)) (by omega)
        rw [peel_f (by simp (disch := (first | assumption | decide | exact Zbp _ | (refine Sm.div ?_ ?_ <;> first | assumption | decide))) only [Za0, ZbH, ZbN, ZbI, ZbL, Za3, ZaC, Zb3, Zai, Zaw, ZbP, ZaN, ZbZ, Zb0, Zbv, ZbD, ZaU, ZbY, Zb4, Zb9, ZbT, Zcd, Zb5, ZbG, Zb2, Zb6, ZbQ, ZbE, ZbV, ZaJ, Zbz, Zbw, Zca, Zcb, Zcc, Zce, Zcf, Zb8, Zbh, Za9, Zbr, Zbt, ZaF, ZaG, ZaK, optInt_int, ZaR, ZaQ, ZbA, Zbk, Zbq, ZbX, ZaY, Zag, Zak, Zal, Zb1, ZbR, Zan, Zar, Zah, Zaq, Int.reduceToNat, Int.toNat_natCast, Zad, ZbK, ZbW, ZbO, Zbx, ZaT, List.getElem?_cons_zero, List.getElem?_cons_succ, Zch, Zcg, Zau, Zbj, ZaB, ZaV, Zaj, ZaD, ZaI, Zac, Zat, Zbe, Zba, Zav, Zbn, Za1, ZaM, Zax, Zbf, Zay, Zby, Zaz, Zap, ZaW, Zao, ZaH, Zbi, ZaP, Zaf, Zab, Zae, Zaa, aliasOk, Za5, Bool.false_eq_true, Bool.or_false, Bool.false_or, Bool.or_self, Bool.or_true, Bool.true_or, Bool.and_true, Bool.true_and, Bool.and_self, Bool.not_false, Bool.not_true, Bool.and_false, Bool.false_and, if_false, if_true, reduceIte, ZaZ, ZbJ, String.reduceBEq, String.reduceBNe, String.reduceEq, ZbM, Za2, Zbl, Zbb, ZaS, ZaE, ZaL, ZbC, Zbu, ZaO, ZaA, Zam, Zas, ZbS, Za7, Zbs, Za8, Zbm, Za4, ZbB, Za6, Zbo, Zbd, ZbF, Zbc, Zbg, ZbU, ZaX, Bool.not_eq_true', t16])]
        exact ⟨_, peel_ret (by simp (disch := (first | assumption | decide | exact Zbp _ | (refine Sm.div ?_ ?_ <;> first | assumption | decide))) only [Za0, ZbH, ZbN, ZbI, ZbL, Za3, ZaC, Zb3, Zai, Zaw, ZbP, ZaN, ZbZ, Zb0, Zbv, ZbD, ZaU, ZbY, Zb4, Zb9, ZbT, Zcd, Zb5, ZbG, Zb2, Zb6, ZbQ, ZbE, ZbV, ZaJ, Zbz, Zbw, Zca, Zcb, Zcc, Zce, Zcf, Zb8, Zbh, Za9, Zbr, Zbt, ZaF, ZaG, ZaK, optInt_int, ZaR, ZaQ, ZbA, Zbk, Zbq, ZbX, ZaY, Zag, Zak, Zal, Zb1, ZbR, Zan, Zar, Zah, Zaq, Int.reduceToNat, Int.toNat_natCast, Zad, ZbK, ZbW, ZbO, Zbx, ZaT, List.getElem?_cons_zero, List.getElem?_cons_succ, Zch, Zcg, Zau, Zbj, ZaB, ZaV, Zaj, ZaD, ZaI, Zac, Zat, Zbe, Zba, Zav, Zbn, Za1, ZaM, Zax, Zbf, Zay, Zby, Zaz, Zap, ZaW, Zao, ZaH, Zbi, ZaP, Zaf, Zab, Zae, Zaa, aliasOk, Za5, Bool.false_eq_true, Bool.or_false, Bool.false_or, Bool.or_self, Bool.or_true, Bool.true_or, Bool.and_true, Bool.true_and, Bool.and_self, Bool.not_false, Bool.not_true, Bool.and_false, Bool.false_and, if_false, if_true, reduceIte, ZaZ, ZbJ, String.reduceBEq, String.reduceBNe, String.reduceEq, ZbM, Za2, Zbl, Zbb, ZaS, ZaE, ZaL, ZbC, Zbu, ZaO, ZaA, Zam, Zas, ZbS, Za7, Zbs, Za8, Zbm, Za4, ZbB, Za6, Zbo, Zbd, ZbF, Zbc, Zbg, ZbU, ZaX, Bool.not_eq_true', ha]), .inr rfl⟩
    by_cases t14 : (kind == 14 && twoWords.contains t) = true
    · have hwt : t ∈ twoWords := List.contains_iff_mem.mp (Bool.and_eq_true_iff.mp t14).2
      obtain ⟨y, ey, hy⟩ := tail t hwt
      rw [peel_t (by simp (disch := (first | assumption | decide | exact Zbp _ | (refine Sm.div ?_ ?_ <;> first | assumption | decide))) only [Za0, ZbH, ZbN, ZbI, ZbL, Za3, ZaC, Zb3, Zai, Zaw, ZbP, ZaN, ZbZ, Zb0, Zbv, ZbD, ZaU, ZbY, Zb4, Zb9, ZbT, Zcd, Zb5, ZbG, Zb2, Zb6, ZbQ, ZbE, ZbV, ZaJ, Zbz, Zbw, Zca, Zcb, Zcc, Zce, Zcf, Zb8, Zbh, Za9, Zbr, Zbt, ZaF, ZaG, ZaK, optInt_int, ZaR, ZaQ, ZbA, Zbk, Zbq, ZbX, ZaY, Zag, Zak, Zal, Zb1, ZbR, Zan, Zar, Zah, Zaq, Int.reduceToNat, Int.toNat_natCast, Zad, ZbK, ZbW, ZbO, Zbx, ZaT, List.getElem?_cons_zero, List.getElem?_cons_succ, Zch, Zcg, Zau, Zbj, ZaB, ZaV, Zaj, ZaD, ZaI, Zac, Zat, Zbe, Zba, Zav, Zbn, Za1, ZaM, Zax, Zbf, Zay, Zby, Zaz, Zap, ZaW, Zao, ZaH, Zbi, ZaP, Zaf, Zab, Zae, Zaa, aliasOk, Za5, Bool.false_eq_true, Bool.or_false, Bool.false_or, Bool.or_self, Bool.or_true, Bool.true_or, Bool.and_true, Bool.true_and, Bool.and_self, Bool.not_false, Bool.not_true, Bool.and_false, Bool.false_and, if_false, if_true, reduceIte, ZaZ, ZbJ, String.reduceBEq, String.reduceBNe, String.reduceEq, ZbM, Za2, Zbl, Zbb, ZaS, ZaE, ZaL, ZbC, Zbu, ZaO, ZaA, Zam, Zas, ZbS, Za7, Zbs, Za8, Zbm, Za4, ZbB, Za6, Zbo, Zbd, ZbF, Zbc, Zbg, ZbU, ZaX, Bool.not_eq_true', hlen, t2]) ((peel_tn (by simp (disch := (first | assumption | decide | exact Zbp _ | (refine Sm.div ?_ ?_ <;> first | assumption | decide))) only [Za0, ZbH, ZbN, ZbI, ZbL, Za3, ZaC, Zb3, Zai, Zaw, ZbP, ZaN, ZbZ, Zb0, Zbv, ZbD, ZaU, ZbY, Zb4, Zb9, ZbT, Zcd, Zb5, ZbG, Zb2, Zb6, ZbQ, ZbE, ZbV, ZaJ, Zbz, Zbw, Zca, Zcb, Zcc, Zce, Zcf, Zb8, Zbh, Za9, Zbr, Zbt, ZaF, ZaG, ZaK, optInt_int, ZaR, ZaQ, ZbA, Zbk, Zbq, ZbX, ZaY, Zag, Zak, Zal, Zb1, ZbR, Zan, Zar, Zah, Zaq, Int.reduceToNat, Int.toNat_natCast, Zad, ZbK, ZbW, ZbO, Zbx, ZaT, List.getElem?_cons_zero, List.getElem?_cons_succ, Zch, Zcg, Zau, Zbj, ZaB, ZaV, Zaj, ZaD, ZaI, Zac, Zat, Zbe, Zba, Zav, Zbn, Za1, ZaM, Zax, Zbf, Zay, Zby, Zaz, Zap, ZaW, Zao, ZaH, Zbi, ZaP, Zaf, Zab, Zae, Zaa, aliasOk, Za5, Bool.false_eq_true, Bool.or_false, Bool.false_or, Bool.or_self, Bool.or_true, Bool.true_or, Bool.and_true, Bool.true_and, Bool.and_self, Bool.not_false, Bool.not_true, Bool.and_false, Bool.false_and, if_false, if_true, reduceIte, ZaZ, ZbJ, String.reduceBEq, String.reduceBNe, String.reduceEq, ZbM, Za2, Zbl, Zbb, ZaS, ZaE, ZaL, ZbC, Zbu, ZaO, ZaA, Zam, Zas, ZbS, Za7, Zbs, Za8, Zbm, Za4, ZbB, Za6, Zbo, Zbd, ZbF, Zbc, Zbg, ZbU, ZaX, Bool.not_eq_true', ins, t14]) (by simp (disch := (first | assumption | decide | exact Zbp _ | (refine Sm.div ?_ ?_ <;> first | assumption | decide))) only [Za0, ZbH, ZbN, ZbI, ZbL, Za3, ZaC, Zb3, Zai, Zaw, ZbP, ZaN, ZbZ, Zb0, Zbv, ZbD, ZaU, ZbY, Zb4, Zb9, ZbT, Zcd, Zb5, ZbG, Zb2, Zb6, ZbQ, ZbE, ZbV, ZaJ, Zbz, Zbw, Zca, Zcb, Zcc, Zce, Zcf, Zb8, Zbh, Za9, Zbr, Zbt, ZaF, ZaG, ZaK, optInt_int, ZaR, ZaQ, ZbA, Zbk, Zbq, ZbX, ZaY, Zag, Zak, Zal, Zb1, ZbR, Zan, Zar, Zah, Zaq, Int.reduceToNat, Int.toNat_natCast, Zad, ZbK, ZbW, ZbO, Zbx, ZaT, List.getElem?_cons_zero, List.getElem?_cons_succ, Zch, Zcg, Zau, Zbj, ZaB, ZaV, Zaj, ZaD, ZaI, Zac, Zat, Zbe, Zba, Zav, Zbn, Za1, ZaM, Zax, Zbf, Zay, Zby, Zaz, Zap, ZaW, Zao, ZaH, Zbi, ZaP, Zaf, Zab, Zae, Zaa, aliasOk, Za5, Bool.false_eq_true, Bool.or_false, Bool.false_or, Bool.or_self, Bool.or_true, Bool.true_or, Bool.and_true, Bool.true_and, Bool.and_self, Bool.not_false, Bool.not_true, Bool.and_false, Bool.false_and, if_false, if_true, reduceIte, ZaZ, ZbJ, String.reduceBEq, String.reduceBNe, String.reduceEq, ZbM, Za2, Zbl, Zbb, ZaS, ZaE, ZaL, ZbC, Zbu, ZaO, ZaA, Zam, Zas, ZbS, Za7, Zbs, Za8, Zbm, Za4, ZbB, Za6, Zbo, Zbd, ZbF, Zbc, Zbg, ZbU, ZaX, Bool.not_eq_true'])).trans ey)]
      exact ⟨_, _, rfl, fin1 t y hwt hy⟩
    · replace t14 := Bool.eq_false_iff.mpr t14
      obtain ⟨y, ey, hy⟩ := tail w hw
      rw [peel_t (by simp (disch := (first | assumption | decide | exact Zbp _ | (refine Sm.div ?_ ?_ <;> first | assumption | decide))) only [Za0, ZbH, ZbN, ZbI, ZbL, Za3, ZaC, Zb3, Zai, Zaw, ZbP, ZaN, ZbZ, Zb0, Zbv, ZbD, ZaU, ZbY, Zb4, Zb9, ZbT, Zcd, Zb5, ZbG, Zb2, Zb6, ZbQ, ZbE, ZbV, ZaJ, Zbz, Zbw, Zca, Zcb, Zcc, Zce, Zcf, Zb8, Zbh, Za9, Zbr, Zbt, ZaF, ZaG, ZaK, optInt_int, ZaR, ZaQ, ZbA, Zbk, Zbq, ZbX, ZaY, Zag, Zak, Zal, Zb1, ZbR, Zan, Zar, Zah, Zaq, Int.reduceToNat, Int.toNat_natCast, Zad, ZbK, ZbW, ZbO, Zbx, ZaT, List.getElem?_cons_zero, List.getElem?_cons_succ, Zch, Zcg, Zau, Zbj, ZaB, ZaV, Zaj, ZaD, ZaI, Zac, Zat, Zbe, Zba, Zav, Zbn, Za1, ZaM, Zax, Zbf, Zay, Zby, Zaz, Zap, ZaW, Zao, ZaH, Zbi, ZaP, Zaf, Zab, Zae, Zaa, aliasOk, Za5, Bool.false_eq_true, Bool.or_false, Bool.false_or, Bool.or_self, Bool.or_true, Bool.true_or, Bool.and_true, Bool.true_and, Bool.and_self, Bool.not_false, Bool.not_true, Bool.and_false, Bool.false_and, if_false, if_true, reduceIte, ZaZ, ZbJ, String.reduceBEq, String.reduceBNe, String.reduceEq, ZbM, Za2, Zbl, Zbb, ZaS, ZaE, ZaL, ZbC, Zbu, ZaO, ZaA, Zam, Zas, ZbS, Za7, Zbs, Za8, Zbm, Za4, ZbB, Za6, Zbo, Zbd, ZbF, Zbc, Zbg, ZbU, ZaX, Bool.not_eq_true', hlen, t2]) ((peel_f (by simp (disch := (first | assumption | decide | exact Zbp _ | (refine Sm.div ?_ ?_ <;> first | assumption | decide))) only [Za0, ZbH, ZbN, ZbI, ZbL, Za3, ZaC, Zb3, Zai, Zaw, ZbP, ZaN, ZbZ, Zb0, Zbv, ZbD, ZaU, ZbY, Zb4, Zb9, ZbT, Zcd, Zb5, ZbG, Zb2, Zb6, ZbQ, ZbE, ZbV, ZaJ, Zbz, Zbw, Zca, Zcb, Zcc, Zce, Zcf, Zb8, Zbh, Za9, Zbr, Zbt, ZaF, ZaG, ZaK, optInt_int, ZaR, ZaQ, ZbA, Zbk, Zbq, ZbX, ZaY, Zag, Zak, Zal, Zb1, ZbR, Zan, Zar, Zah, Zaq, Int.reduceToNat, Int.toNat_natCast, Zad, ZbK, ZbW, ZbO, Zbx, ZaT, List.getElem?_cons_zero, List.getElem?_cons_succ, Zch, Zcg, Zau, Zbj, ZaB, ZaV, Zaj, ZaD, ZaI, Zac, Zat, Zbe, Zba, Zav, Zbn, Za1, ZaM, Zax, Zbf, Zay, Zby, Zaz, Zap, ZaW, Zao, ZaH, Zbi, ZaP, Zaf, Zab, Zae, Zaa, aliasOk, Za5, Bool.false_eq_true, Bool.or_false, Bool.false_or, Bool.or_self, Bool.or_true, Bool.true_or, Bool.and_true, Bool.true_and, Bool.and_self, Bool.not_false, Bool.not_true, Bool.and_false, Bool.false_and, if_false, if_true, reduceIte, ZaZ, ZbJ, String.reduceBEq, String.reduceBNe, String.reduceEq, ZbM, Za2, Zbl, Zbb, ZaS, ZaE, ZaL, ZbC, Zbu, ZaO, ZaA, Zam, Zas, ZbS, Za7, Zbs, Za8, Zbm, Za4, ZbB, Za6, Zbo, Zbd, ZbF, Zbc, Zbg, ZbU, ZaX, Bool.not_eq_true', ins, t14])).trans ey)]
      exact ⟨_, _, rfl, fin1 w y hw hy⟩
  replace t2 := Bool.eq_false_iff.mpr t2
  rw [peel_f (by simp (disch := (first | assumption | decide | exact Zbp _ | (refine Sm.div ?_ ?_ <;> first | assumption | decide))) only [Za0, ZbH, ZbN, ZbI, ZbL, Za3, ZaC, Zb3, Zai, Zaw, ZbP, ZaN, ZbZ, Zb0, Zbv, ZbD, ZaU, ZbY, Zb4, Zb9, ZbT, Zcd, Zb5, ZbG, Zb2, Zb6, ZbQ, ZbE, ZbV, ZaJ, Zbz, Zbw, Zca, Zcb, Zcc, Zce, Zcf, Zb8, Zbh, Za9, Zbr, Zbt, ZaF, ZaG, ZaK, optInt_int, ZaR, ZaQ, ZbA, Zbk, Zbq, ZbX, ZaY, Zag, Zak, Zal, Zb1, ZbR, Zan, Zar, Zah, Zaq, Int.reduceToNat, Int.toNat_natCast, Zad, ZbK, ZbW, ZbO, Zbx, ZaT, List.getElem?_cons_zero, List.getElem?_cons_succ, Zch, Zcg, Zau, Zbj, ZaB, ZaV, Zaj, ZaD, ZaI, Zac, Zat, Zbe, Zba, Zav, Zbn, Za1, ZaM, Zax, Zbf, Zay, Zby, Zaz, Zap, ZaW, Zao, ZaH, Zbi, ZaP, Zaf, Zab, Zae, Zaa, aliasOk, Za5, Bool.false_eq_true, Bool.or_false, Bool.false_or, Bool.or_self, Bool.or_true, Bool.true_or, Bool.and_true, Bool.true_and, Bool.and_self, Bool.not_false, Bool.not_true, Bool.and_false, Bool.false_and, if_false, if_true, reduceIte, ZaZ, ZbJ, String.reduceBEq, String.reduceBNe, String.reduceEq, ZbM, Za2, Zbl, Zbb, ZaS, ZaE, ZaL, ZbC, Zbu, ZaO, ZaA, Zam, Zas, ZbS, Za7, Zbs, Za8, Zbm, Za4, ZbB, Za6, Zbo, Zbd, ZbF, Zbc, Zbg, ZbU, ZaX, Bool.not_eq_true', hlen, t2])]
  by_cases t3 : (kind == 10 && decide (0 < N)) = true
  · have hC := of_decide_eq_true (Bool.and_eq_true_iff.mp t3).2
    obtain ⟨r, a, rfl⟩ := from_end1 (l := pile) (by omega)
    obtain ⟨v, ev, v1, v2⟩ := number_by_ok n (more / 3) (hm.div (by decide))
    simp only [List.length_append, List.length_cons, List.length_nil] at hl ⊢
    have hr : r.length < 900000 := by omega
    have ha := hadd r (letE x (numE v) a) (by omega)
    rw [peel_t (by simp (disch := (first | assumption | decide | exact Zbp _ | (refine Sm.div ?_ ?_ <;> first | assumption | decide))) only [Za0, ZbH, ZbN, ZbI, ZbL, Za3, ZaC, Zb3, Zai, Zaw, ZbP, ZaN, ZbZ, Zb0, Zbv, ZbD, ZaU, ZbY, Zb4, Zb9, ZbT, Zcd, Zb5, ZbG, Zb2, Zb6, ZbQ, ZbE, ZbV, ZaJ, Zbz, Zbw, Zca, Zcb, Zcc, Zce, Zcf, Zb8, Zbh, Za9, Zbr, Zbt, ZaF, ZaG, ZaK, optInt_int, ZaR, ZaQ, ZbA, Zbk, Zbq, ZbX, ZaY, Zag, Zak, Zal, Zb1, ZbR, Zan, Zar, Zah, Zaq, Int.reduceToNat, Int.toNat_natCast, Zad, ZbK, ZbW, ZbO, Zbx, ZaT, List.getElem?_cons_zero, List.getElem?_cons_succ, Zch, Zcg, Zau, Zbj, ZaB, ZaV, Zaj, ZaD, ZaI, Zac, Zat, Zbe, Zba, Zav, Zbn, Za1, ZaM, Zax, Zbf, Zay, Zby, Zaz, Zap, ZaW, Zao, ZaH, Zbi, ZaP, Zaf, Zab, Zae, Zaa, aliasOk, Za5, Bool.false_eq_true, Bool.or_false, Bool.false_or, Bool.or_self, Bool.or_true, Bool.true_or, Bool.and_true, Bool.true_and, Bool.and_self, Bool.not_false, Bool.not_true, Bool.and_false, Bool.false_and, if_false, if_true, reduceIte, ZaZ, ZbJ, String.reduceBEq, String.reduceBNe, String.reduceEq, ZbM, Za2, Zbl, Zbb, ZaS, ZaE, ZaL, ZbC, Zbu, ZaO, ZaA, Zam, Zas, ZbS, Za7, Zbs, Za8, Zbm, Za4, ZbB, Za6, Zbo, Zbd, ZbF, Zbc, Zbg, ZbU, ZaX, Bool.not_eq_true', hlen, t3]) ((peel_asg (d := numE v) (by simp (disch := (first | assumption | decide | exact Zbp _ | (refine Sm.div ?_ ?_ <;> first | assumption | decide))) only [Za0, ZbH, ZbN, ZbI, ZbL, Za3, ZaC, Zb3, Zai, Zaw, ZbP, ZaN, ZbZ, Zb0, Zbv, ZbD, ZaU, ZbY, Zb4, Zb9, ZbT, Zcd, Zb5, ZbG, Zb2, Zb6, ZbQ, ZbE, ZbV, ZaJ, Zbz, Zbw, Zca, Zcb, Zcc, Zce, Zcf, Zb8, Zbh, Za9, Zbr, Zbt, ZaF, ZaG, ZaK, optInt_int, ZaR, ZaQ, ZbA, Zbk, Zbq, ZbX, ZaY, Zag, Zak, Zal, Zb1, ZbR, Zan, Zar, Zah, Zaq, Int.reduceToNat, Int.toNat_natCast, Zad, ZbK, ZbW, ZbO, Zbx, ZaT, List.getElem?_cons_zero, List.getElem?_cons_succ, Zch, Zcg, Zau, Zbj, ZaB, ZaV, Zaj, ZaD, ZaI, Zac, Zat, Zbe, Zba, Zav, Zbn, Za1, ZaM, Zax, Zbf, Zay, Zby, Zaz, Zap, ZaW, Zao, ZaH, Zbi, ZaP, Zaf, Zab, Zae, Zaa, aliasOk, Za5, Bool.false_eq_true, Bool.or_false, Bool.false_or, Bool.or_self, Bool.or_true, Bool.true_or, Bool.and_true, Bool.true_and, Bool.and_self, Bool.not_false, Bool.not_true, Bool.and_false, Bool.false_and, if_false, if_true, reduceIte, ZaZ, ZbJ, String.reduceBEq, String.reduceBNe, String.reduceEq, ZbM, Za2, Zbl, Zbb, ZaS, ZaE, ZaL, ZbC, Zbu, ZaO, ZaA, Zam, Zas, ZbS, Za7, Zbs, Za8, Zbm, Za4, ZbB, Za6, Zbo, Zbd, ZbF, Zbc, Zbg, ZbU, ZaX, Bool.not_eq_true', ev]) rfl).trans (peel_ret (d := .list (r ++ [letE x (numE v) a])) (by simp (disch := (first | assumption | decide | exact Zbp _ | (refine Sm.div ?_ ?_ <;> first | assumption | decide))) only [Za0, ZbH, ZbN, ZbI, ZbL, Za3, ZaC, Zb3, Zai, Zaw, ZbP, ZaN, ZbZ, Zb0, Zbv, ZbD, ZaU, ZbY, Zb4, Zb9, ZbT, Zcd, Zb5, ZbG, Zb2, Zb6, ZbQ, ZbE, ZbV, ZaJ, Zbz, Zbw, Zca, Zcb, Zcc, Zce, Zcf, Zb8, Zbh, Za9, Zbr, Zbt, ZaF, ZaG, ZaK, optInt_int, ZaR, ZaQ, ZbA, Zbk, Zbq, ZbX, ZaY, Zag, Zak, Zal, Zb1, ZbR, Zan, Zar, Zah, Zaq, Int.reduceToNat, Int.toNat_natCast, Zad, ZbK, ZbW, ZbO, Zbx, ZaT, List.getElem?_cons_zero, List.getElem?_cons_succ, Zch, Zcg, Zau, Zbj, ZaB, ZaV, Zaj, ZaD, ZaI, Zac, Zat, Zbe, Zba, Zav, Zbn, Za1, ZaM, Zax, Zbf, Zay, Zby, Zaz, Zap, ZaW, Zao, ZaH, Zbi, ZaP, Zaf, Zab, Zae, Zaa, aliasOk, Za5, Bool.false_eq_true, Bool.or_false, Bool.false_or, Bool.or_self, Bool.or_true, Bool.true_or, Bool.and_true, Bool.true_and, Bool.and_self, Bool.not_false, Bool.not_true, Bool.and_false, Bool.false_and, if_false, if_true, reduceIte, ZaZ, ZbJ, String.reduceBEq, String.reduceBNe, String.reduceEq, ZbM, Za2, Zbl, Zbb, ZaS, ZaE, ZaL, ZbC, Zbu, ZaO, ZaA, Zam, Zas, ZbS, Za7, Zbs, Za8, Zbm, Za4, ZbB, Za6, Zbo, Zbd, ZbF, Zbc, Zbg, ZbU, ZaX, Bool.not_eq_true', ex, ha])))]
    exact ⟨_, d + 1, rfl, (hp.left.mono (by omega)).app (.one (.lett hx (.num v1 v2) hp.at1)), by simp; omega, by simp, by simp only [wts_app, wts_cons, wts_nil, wt_let, wt_num]; omega⟩
  replace t3 := Bool.eq_false_iff.mpr t3
  rw [peel_f (by simp (disch := (first | assumption | decide | exact Zbp _ | (refine Sm.div ?_ ?_ <;> first | assumption | decide))) only [Za0, ZbH, ZbN, ZbI, ZbL, Za3, ZaC, Zb3, Zai, Zaw, ZbP, ZaN, ZbZ, Zb0, Zbv, ZbD, ZaU, ZbY, Zb4, Zb9, ZbT, Zcd, Zb5, ZbG, Zb2, Zb6, ZbQ, ZbE, ZbV, ZaJ, Zbz, Zbw, Zca, Zcb, Zcc, Zce, Zcf, Zb8, Zbh, Za9, Zbr, Zbt, ZaF, ZaG, ZaK, optInt_int, ZaR, ZaQ, ZbA, Zbk, Zbq, ZbX, ZaY, Zag, Zak, Zal, Zb1, ZbR, Zan, Zar, Zah, Zaq, Int.reduceToNat, Int.toNat_natCast, Zad, ZbK, ZbW, ZbO, Zbx, ZaT, List.getElem?_cons_zero, List.getElem?_cons_succ, Zch, Zcg, Zau, Zbj, ZaB, ZaV, Zaj, ZaD, ZaI, Zac, Zat, Zbe, Zba, Zav, Zbn, Za1, ZaM, Zax, Zbf, Zay, Zby, Zaz, Zap, ZaW, Zao, ZaH, Zbi, ZaP, Zaf, Zab, Zae, Zaa, aliasOk, Za5, Bool.false_eq_true, Bool.or_false, Bool.false_or, Bool.or_self, Bool.or_true, Bool.true_or, Bool.and_true, Bool.true_and, Bool.and_self, Bool.not_false, Bool.not_true, Bool.and_false, Bool.false_and, if_false, if_true, reduceIte, ZaZ, ZbJ, String.reduceBEq, String.reduceBNe, String.reduceEq, ZbM, Za2, Zbl, Zbb, ZaS, ZaE, ZaL, ZbC, Zbu, ZaO, ZaA, Zam, Zas, ZbS, Za7, Zbs, Za8, Zbm, Za4, ZbB, Za6, Zbo, Zbd, ZbF, Zbc, Zbg, ZbU, ZaX, Bool.not_eq_true', hlen, t3])]
  by_cases t4 : (kind == 11 && decide (2 < N)) = true
  · have hD := of_decide_eq_true (Bool.and_eq_true_iff.mp t4).2
    obtain ⟨r, a, b, c, rfl⟩ := from_end3 (l := pile) (by omega)
    simp only [List.length_append, List.length_cons, List.length_nil] at hl ⊢
    have hr : r.length < 900000 := by omega
    obtain ⟨a', t', e, ha', wa⟩ := cond_loop (n + 1) (.fr (.list (r ++ [a, b, c]))) (.fr (.int kind)) (.fr (.int more)) (.fr (.int seed)) (.fr (.list sevenD)) (.fr (.str (Str.ofString w))) .unset (rangeD 0 (more % 3)) a .unset d hp.at3.1
    rw [range_length] at ha' wa
    have ha := hadd r (whenE a' b c) (by omega)
    have m0 : -1073741824 < more % 3 := by omega
    have m1 : more % 3 < 1073741824 := by omega
    exact ⟨r ++ [whenE a' b c], d + 3, by simp (disch := (first | assumption | decide | exact Zbp _ | (refine Sm.div ?_ ?_ <;> first | assumption | decide))) only [Za0, ZbH, ZbN, ZbI, ZbL, Za3, ZaC, Zb3, Zai, Zaw, ZbP, ZaN, ZbZ, Zb0, Zbv, ZbD, ZaU, ZbY, Zb4, Zb9, ZbT, Zcd, Zb5, ZbG, Zb2, Zb6, ZbQ, ZbE, ZbV, ZaJ, Zbz, Zbw, Zca, Zcb, Zcc, Zce, Zcf, Zb8, Zbh, Za9, Zbr, Zbt, ZaF, ZaG, ZaK, optInt_int, ZaR, ZaQ, ZbA, Zbk, Zbq, ZbX, ZaY, Zag, Zak, Zal, Zb1, ZbR, Zan, Zar, Zah, Zaq, Int.reduceToNat, Int.toNat_natCast, Zad, ZbK, ZbW, ZbO, Zbx, ZaT, List.getElem?_cons_zero, List.getElem?_cons_succ, Zch, Zcg, Zau, Zbj, ZaB, ZaV, Zaj, ZaD, ZaI, Zac, Zat, Zbe, Zba, Zav, Zbn, Za1, ZaM, Zax, Zbf, Zay, Zby, Zaz, Zap, ZaW, Zao, ZaH, Zbi, ZaP, Zaf, Zab, Zae, Zaa, aliasOk, Za5, Bool.false_eq_true, Bool.or_false, Bool.false_or, Bool.or_self, Bool.or_true, Bool.true_or, Bool.and_true, Bool.true_and, Bool.and_self, Bool.not_false, Bool.not_true, Bool.and_false, Bool.false_and, if_false, if_true, reduceIte, ZaZ, ZbJ, String.reduceBEq, String.reduceBNe, String.reduceEq, ZbM, Za2, Zbl, Zbb, ZaS, ZaE, ZaL, ZbC, Zbu, ZaO, ZaA, Zam, Zas, ZbS, Za7, Zbs, Za8, Zbm, Za4, ZbB, Za6, Zbo, Zbd, ZbF, Zbc, Zbg, ZbU, ZaX, Bool.not_eq_true', hlen, t4, e, ha], (hp.left.mono (by omega)).app (.one (.when (ha'.mono (by omega)) (hp.at3.2.1.mono (by omega)) (hp.at3.2.2.mono (by omega)))), by simp; omega, by simp, by simp only [wts_app, wts_cons, wts_nil, wt_when]; omega⟩
  replace t4 := Bool.eq_false_iff.mpr t4
  rw [peel_f (by simp (disch := (first | assumption | decide | exact Zbp _ | (refine Sm.div ?_ ?_ <;> first | assumption | decide))) only [Za0, ZbH, ZbN, ZbI, ZbL, Za3, ZaC, Zb3, Zai, Zaw, ZbP, ZaN, ZbZ, Zb0, Zbv, ZbD, ZaU, ZbY, Zb4, Zb9, ZbT, Zcd, Zb5, ZbG, Zb2, Zb6, ZbQ, ZbE, ZbV, ZaJ, Zbz, Zbw, Zca, Zcb, Zcc, Zce, Zcf, Zb8, Zbh, Za9, Zbr, Zbt, ZaF, ZaG, ZaK, optInt_int, ZaR, ZaQ, ZbA, Zbk, Zbq, ZbX, ZaY, Zag, Zak, Zal, Zb1, ZbR, Zan, Zar, Zah, Zaq, Int.reduceToNat, Int.toNat_natCast, Zad, ZbK, ZbW, ZbO, Zbx, ZaT, List.getElem?_cons_zero, List.getElem?_cons_succ, Zch, Zcg, Zau, Zbj, ZaB, ZaV, Zaj, ZaD, ZaI, Zac, Zat, Zbe, Zba, Zav, Zbn, Za1, ZaM, Zax, Zbf, Zay, Zby, Zaz, Zap, ZaW, Zao, ZaH, Zbi, ZaP, Zaf, Zab, Zae, Zaa, aliasOk, Za5, Bool.false_eq_true, Bool.or_false, Bool.false_or, Bool.or_self, Bool.or_true, Bool.true_or, Bool.and_true, Bool.true_and, Bool.and_self, Bool.not_false, Bool.not_true, Bool.and_false, Bool.false_and, if_false, if_true, reduceIte, ZaZ, ZbJ, String.reduceBEq, String.reduceBNe, String.reduceEq, ZbM, Za2, Zbl, Zbb, ZaS, ZaE, ZaL, ZbC, Zbu, ZaO, ZaA, Zam, Zas, ZbS, Za7, Zbs, Za8, Zbm, Za4, ZbB, Za6, Zbo, Zbd, ZbF, Zbc, Zbg, ZbU, ZaX, Bool.not_eq_true', hlen, t4])]
  by_cases t5 : (decide (5 < kind) && decide (1 < N)) = true
  · have hE := of_decide_eq_true (Bool.and_eq_true_iff.mp t5).2
    obtain ⟨r, a, b, rfl⟩ := from_end2 (l := pile) (by omega)
    simp only [List.length_append, List.length_cons, List.length_nil] at hl ⊢
    have hr : r.length < 900000 := by omega
    have ha := hadd r (twoE w a b) (by omega)
    rw [peel_t (by simp (disch := (first | assumption | decide | exact Zbp _ | (refine Sm.div ?_ ?_ <;> first | assumption | decide))) only [Za0, ZbH, ZbN, ZbI, ZbL, Za3, ZaC, Zb3, Zai, Zaw, ZbP, ZaN, ZbZ, Zb0, Zbv, ZbD, ZaU, ZbY, Zb4, Zb9, ZbT, Zcd, Zb5, ZbG, Zb2, Zb6, ZbQ, ZbE, ZbV, ZaJ, Zbz, Zbw, Zca, Zcb, Zcc, Zce, Zcf, Zb8, Zbh, Za9, Zbr, Zbt, ZaF, ZaG, ZaK, optInt_int, ZaR, ZaQ, ZbA, Zbk, Zbq, ZbX, ZaY, Zag, Zak, Zal, Zb1, ZbR, Zan, Zar, Zah, Zaq, Int.reduceToNat, Int.toNat_natCast, Zad, ZbK, ZbW, ZbO, Zbx, ZaT, List.getElem?_cons_zero, List.getElem?_cons_succ, Zch, Zcg, Zau, Zbj, ZaB, ZaV, Zaj, ZaD, ZaI, Zac, Zat, Zbe, Zba, Zav, Zbn, Za1, ZaM, Zax, Zbf, Zay, Zby, Zaz, Zap, ZaW, Zao, ZaH, Zbi, ZaP, Zaf, Zab, Zae, Zaa, aliasOk, Za5, Bool.false_eq_true, Bool.or_false, Bool.false_or, Bool.or_self, Bool.or_true, Bool.true_or, Bool.and_true, Bool.true_and, Bool.and_self, Bool.not_false, Bool.not_true, Bool.and_false, Bool.false_and, if_false, if_true, reduceIte, ZaZ, ZbJ, String.reduceBEq, String.reduceBNe, String.reduceEq, ZbM, Za2, Zbl, Zbb, ZaS, ZaE, ZaL, ZbC, Zbu, ZaO, ZaA, Zam, Zas, ZbS, Za7, Zbs, Za8, Zbm, Za4, ZbB, Za6, Zbo, Zbd, ZbF, Zbc, Zbg, ZbU, ZaX, Bool.not_eq_true', hlen, t5]) (peel_ret (d := .list (r ++ [twoE w a b])) (by simp (disch := (first | assumption | decide | exact Zbp _ | (refine Sm.div ?_ ?_ <;> first | assumption | decide))) only [Za0, ZbH, ZbN, ZbI, ZbL, Za3, ZaC, Zb3, Zai, Zaw, ZbP, ZaN, ZbZ, Zb0, Zbv, ZbD, ZaU, ZbY, Zb4, Zb9, ZbT, Zcd, Zb5, ZbG, Zb2, Zb6, ZbQ, ZbE, ZbV, ZaJ, Zbz, Zbw, Zca, Zcb, Zcc, Zce, Zcf, Zb8, Zbh, Za9, Zbr, Zbt, ZaF, ZaG, ZaK, optInt_int, ZaR, ZaQ, ZbA, Zbk, Zbq, ZbX, ZaY, Zag, Zak, Zal, Zb1, ZbR, Zan, Zar, Zah, Zaq, Int.reduceToNat, Int.toNat_natCast, Zad, ZbK, ZbW, ZbO, Zbx, ZaT, List.getElem?_cons_zero, List.getElem?_cons_succ, Zch, Zcg, Zau, Zbj, ZaB, ZaV, Zaj, ZaD, ZaI, Zac, Zat, Zbe, Zba, Zav, Zbn, Za1, ZaM, Zax, Zbf, Zay, Zby, Zaz, Zap, ZaW, Zao, ZaH, Zbi, ZaP, Zaf, Zab, Zae, Zaa, aliasOk, Za5, Bool.false_eq_true, Bool.or_false, Bool.false_or, Bool.or_self, Bool.or_true, Bool.true_or, Bool.and_true, Bool.true_and, Bool.and_self, Bool.not_false, Bool.not_true, Bool.and_false, Bool.false_and, if_false, if_true, reduceIte, ZaZ, ZbJ, String.reduceBEq, String.reduceBNe, String.reduceEq, ZbM, Za2, Zbl, Zbb, ZaS, ZaE, ZaL, ZbC, Zbu, ZaO, ZaA, Zam, Zas, ZbS, Za7, Zbs, Za8, Zbm, Za4, ZbB, Za6, Zbo, Zbd, ZbF, Zbc, Zbg, ZbU, ZaX, Bool.not_eq_true', ha]))]
    exact ⟨_, d + 1, rfl, (hp.left.mono (by omega)).app (.one (.two hw hp.at2.1 hp.at2.2)), by simp; omega, by simp, by simp only [wts_app, wts_cons, wts_nil, wt_two]; omega⟩
  replace t5 := Bool.eq_false_iff.mpr t5
  rw [peel_f (by simp (disch := (first | assumption | decide | exact Zbp _ | (refine Sm.div ?_ ?_ <;> first | assumption | decide))) only [Za0, ZbH, ZbN, ZbI, ZbL, Za3, ZaC, Zb3, Zai, Zaw, ZbP, ZaN, ZbZ, Zb0, Zbv, ZbD, ZaU, ZbY, Zb4, Zb9, ZbT, Zcd, Zb5, ZbG, Zb2, Zb6, ZbQ, ZbE, ZbV, ZaJ, Zbz, Zbw, Zca, Zcb, Zcc, Zce, Zcf, Zb8, Zbh, Za9, Zbr, Zbt, ZaF, ZaG, ZaK, optInt_int, ZaR, ZaQ, ZbA, Zbk, Zbq, ZbX, ZaY, Zag, Zak, Zal, Zb1, ZbR, Zan, Zar, Zah, Zaq, Int.reduceToNat, Int.toNat_natCast, Zad, ZbK, ZbW, ZbO, Zbx, ZaT, List.getElem?_cons_zero, List.getElem?_cons_succ, Zch, Zcg, Zau, Zbj, ZaB, ZaV, Zaj, ZaD, ZaI, Zac, Zat, Zbe, Zba, Zav, Zbn, Za1, ZaM, Zax, Zbf, Zay, Zby, Zaz, Zap, ZaW, Zao, ZaH, Zbi, ZaP, Zaf, Zab, Zae, Zaa, aliasOk, Za5, Bool.false_eq_true, Bool.or_false, Bool.false_or, Bool.or_self, Bool.or_true, Bool.true_or, Bool.and_true, Bool.true_and, Bool.and_self, Bool.not_false, Bool.not_true, Bool.and_false, Bool.false_and, if_false, if_true, reduceIte, ZaZ, ZbJ, String.reduceBEq, String.reduceBNe, String.reduceEq, ZbM, Za2, Zbl, Zbb, ZaS, ZaE, ZaL, ZbC, Zbu, ZaO, ZaA, Zam, Zas, ZbS, Za7, Zbs, Za8, Zbm, Za4, ZbB, Za6, Zbo, Zbd, ZbF, Zbc, Zbg, ZbU, ZaX, Bool.not_eq_true', hlen, t5])]
  by_cases t6 : decide (kind < 2) = true
  · obtain ⟨v, ev, v1, v2⟩ := number_by_ok n more hm
    have ha := hadd pile (numE v) (by omega)
    rw [peel_t (by simp (disch := (first | assumption | decide | exact Zbp _ | (refine Sm.div ?_ ?_ <;> first | assumption | decide))) only [Za0, ZbH, ZbN, ZbI, ZbL, Za3, ZaC, Zb3, Zai, Zaw, ZbP, ZaN, ZbZ, Zb0, Zbv, ZbD, ZaU, ZbY, Zb4, Zb9, ZbT, Zcd, Zb5, ZbG, Zb2, Zb6, ZbQ, ZbE, ZbV, ZaJ, Zbz, Zbw, Zca, Zcb, Zcc, Zce, Zcf, Zb8, Zbh, Za9, Zbr, Zbt, ZaF, ZaG, ZaK, optInt_int, ZaR, ZaQ, ZbA, Zbk, Zbq, ZbX, ZaY, Zag, Zak, Zal, Zb1, ZbR, Zan, Zar, Zah, Zaq, Int.reduceToNat, Int.toNat_natCast, Zad, ZbK, ZbW, ZbO, Zbx, ZaT, List.getElem?_cons_zero, List.getElem?_cons_succ, Zch, Zcg, Zau, Zbj, ZaB, ZaV, Zaj, ZaD, ZaI, Zac, Zat, Zbe, Zba, Zav, Zbn, Za1, ZaM, Zax, Zbf, Zay, Zby, Zaz, Zap, ZaW, Zao, ZaH, Zbi, ZaP, Zaf, Zab, Zae, Zaa, aliasOk, Za5, Bool.false_eq_true, Bool.or_false, Bool.false_or, Bool.or_self, Bool.or_true, Bool.true_or, Bool.and_true, Bool.true_and, Bool.and_self, Bool.not_false, Bool.not_true, Bool.and_false, Bool.false_and, if_false, if_true, reduceIte, ZaZ, ZbJ, String.reduceBEq, String.reduceBNe, String.reduceEq, ZbM, Za2, Zbl, Zbb, ZaS, ZaE, ZaL, ZbC, Zbu, ZaO, ZaA, Zam, Zas, ZbS, Za7, Zbs, Za8, Zbm, Za4, ZbB, Za6, Zbo, Zbd, ZbF, Zbc, Zbg, ZbU, ZaX, Bool.not_eq_true', t6]) (peel_ret (d := .list (pile ++ [numE v])) (by simp (disch := (first | assumption | decide | exact Zbp _ | (refine Sm.div ?_ ?_ <;> first | assumption | decide))) only [Za0, ZbH, ZbN, ZbI, ZbL, Za3, ZaC, Zb3, Zai, Zaw, ZbP, ZaN, ZbZ, Zb0, Zbv, ZbD, ZaU, ZbY, Zb4, Zb9, ZbT, Zcd, Zb5, ZbG, Zb2, Zb6, ZbQ, ZbE, ZbV, ZaJ, Zbz, Zbw, Zca, Zcb, Zcc, Zce, Zcf, Zb8, Zbh, Za9, Zbr, Zbt, ZaF, ZaG, ZaK, optInt_int, ZaR, ZaQ, ZbA, Zbk, Zbq, ZbX, ZaY, Zag, Zak, Zal, Zb1, ZbR, Zan, Zar, Zah, Zaq, Int.reduceToNat, Int.toNat_natCast, Zad, ZbK, ZbW, ZbO, Zbx, ZaT, List.getElem?_cons_zero, List.getElem?_cons_succ, Zch, Zcg, Zau, Zbj, ZaB, ZaV, Zaj, ZaD, ZaI, Zac, Zat, Zbe, Zba, Zav, Zbn, Za1, ZaM, Zax, Zbf, Zay, Zby, Zaz, Zap, ZaW, Zao, ZaH, Zbi, ZaP, Zaf, Zab, Zae, Zaa, aliasOk, Za5, Bool.false_eq_true, Bool.or_false, Bool.false_or, Bool.or_self, Bool.or_true, Bool.true_or, Bool.and_true, Bool.true_and, Bool.and_self, Bool.not_false, Bool.not_true, Bool.and_false, Bool.false_and, if_false, if_true, reduceIte, ZaZ, ZbJ, String.reduceBEq, String.reduceBNe, String.reduceEq, ZbM, Za2, Zbl, Zbb, ZaS, ZaE, ZaL, ZbC, Zbu, ZaO, ZaA, Zam, Zas, ZbS, Za7, Zbs, Za8, Zbm, Za4, ZbB, Za6, Zbo, Zbd, ZbF, Zbc, Zbg, ZbU, ZaX, Bool.not_eq_true', ev, ha]))]
    exact ⟨_, d, rfl, hp.app (.one (.num v1 v2)), by simp; omega, by simp, by simp only [wts_app, wts_cons, wts_nil, wt_num]; omega⟩
  replace t6 := Bool.eq_false_iff.mpr t6
  have ha := hadd pile (nameE x) (by omega)
  rw [peel_f (by simp (disch := (first | assumption | decide | exact Zbp _ | (refine Sm.div ?_ ?_ <;> first | assumption | decide))) only [Za0, ZbH, ZbN, ZbI, ZbL, Za3, ZaC, Zb3, Zai, Zaw, ZbP, ZaN, ZbZ, Zb0, Zbv, ZbD, ZaU, ZbY, Zb4, Zb9, ZbT, Zcd, Zb5, ZbG, Zb2, Zb6, ZbQ, ZbE, ZbV, ZaJ, Zbz, Zbw, Zca, Zcb, Zcc, Zce, Zcf, Zb8, Zbh, Za9, Zbr, Zbt, ZaF, ZaG, ZaK, optInt_int, ZaR, ZaQ, ZbA, Zbk, Zbq, ZbX, ZaY, Zag, Zak, Zal, Zb1, ZbR, Zan, Zar, Zah, Zaq, Int.reduceToNat, Int.toNat_natCast, Zad, ZbK, ZbW, ZbO, Zbx, ZaT, List.getElem?_cons_zero, List.getElem?_cons_succ, Zch, Zcg, Zau, Zbj, ZaB, ZaV, Zaj, ZaD, ZaI, Zac, Zat, Zbe, Zba, Zav, Zbn, Za1, ZaM, Zax, Zbf, Zay, Zby, Zaz, Zap, ZaW, Zao, ZaH, Zbi, ZaP, Zaf, Zab, Zae, Zaa, aliasOk, Za5, Bool.false_eq_true, Bool.or_false, Bool.false_or, Bool.or_self, Bool.or_true, Bool.true_or, Bool.and_true, Bool.true_and, Bool.and_self, Bool.not_false, Bool.not_true, Bool.and_false, Bool.false_and, if_false, if_true, reduceIte, ZaZ, ZbJ, String.reduceBEq, String.reduceBNe, String.reduceEq, ZbM, Za2, Zbl, Zbb, ZaS, ZaE, ZaL, ZbC, Zbu, ZaO, ZaA, Zam, Zas, ZbS, Za7, Zbs, Za8, Zbm, Za4, ZbB, Za6, Zbo, Zbd, ZbF, Zbc, Zbg, ZbU, ZaX, Bool.not_eq_true', t6]), peel_ret (d := .list (pile ++ [nameE x])) (by simp (disch := (first | assumption | decide | exact Zbp _ | (refine Sm.div ?_ ?_ <;> first | assumption | decide))) only [Za0, ZbH, ZbN, ZbI, ZbL, Za3, ZaC, Zb3, Zai, Zaw, ZbP, ZaN, ZbZ, Zb0, Zbv, ZbD, ZaU, ZbY, Zb4, Zb9, ZbT, Zcd, Zb5, ZbG, Zb2, Zb6, ZbQ, ZbE, ZbV, ZaJ, Zbz, Zbw, Zca, Zcb, Zcc, Zce, Zcf, Zb8, Zbh, Za9, Zbr, Zbt, ZaF, ZaG, ZaK, optInt_int, ZaR, ZaQ, ZbA, Zbk, Zbq, ZbX, ZaY, Zag, Zak, Zal, Zb1, ZbR, Zan, Zar, Zah, Zaq, Int.reduceToNat, Int.toNat_natCast, Zad, ZbK, ZbW, ZbO, Zbx, ZaT, List.getElem?_cons_zero, List.getElem?_cons_succ, Zch, Zcg, Zau, Zbj, ZaB, ZaV, Zaj, ZaD, ZaI, Zac, Zat, Zbe, Zba, Zav, Zbn, Za1, ZaM, Zax, Zbf, Zay, Zby, Zaz, Zap, ZaW, Zao, ZaH, Zbi, ZaP, Zaf, Zab, Zae, Zaa, aliasOk, Za5, Bool.false_eq_true, Bool.or_false, Bool.false_or, Bool.or_self, Bool.or_true, Bool.true_or, Bool.and_true, Bool.true_and, Bool.and_self, Bool.not_false, Bool.not_true, Bool.and_false, Bool.false_and, if_false, if_true, reduceIte, ZaZ, ZbJ, String.reduceBEq, String.reduceBNe, String.reduceEq, ZbM, Za2, Zbl, Zbb, ZaS, ZaE, ZaL, ZbC, Zbu, ZaO, ZaA, Zam, Zas, ZbS, Za7, Zbs, Za8, Zbm, Za4, ZbB, Za6, Zbo, Zbd, ZbF, Zbc, Zbg, ZbU, ZaX, Bool.not_eq_true', ex, ha])]
  exact ⟨_, d, rfl, hp.app (.one (.name hx)), by simp; omega, by simp, by simp only [wts_app, wts_cons, wts_nil, wt_name]; omega⟩
theorem tree_loop (n : Nat) (cs : Slot) (seed : Int) (hs : Sm seed) : ∀ (ys : List Int) (pile : List D) (d : Nat) (t : Slot), Pile d pile → pile.length + ys.length ≤ 100 → (∀ y ∈ ys, Sm y) →
    ∃ pile' d' t', forLoop (bodyS (orc fns globs (n + 2)) globs 3 (.seq (.asg 2 (.call 10 (.cons (.var 2) (.cons (.bin .Mod (.var 3) (.cint 20)) (.cons (.bin .FloorDiv (.var 3) (.cint 20)) (.cons (.var 1) .nil)))))) .skip)) (ys.map PyData.int) [cs, .fr (.int seed), .fr (.list pile), t] = .next [cs, .fr (.int seed), .fr (.list pile'), t'] ∧ Pile d' pile' ∧ d' + pile'.length ≤ d + pile.length + ys.length ∧ pile'.length ≤ 100 ∧ wts pile' ≤ wts pile + 6 * ys.length
  | [], pile, d, t, hp, hl, _ => ⟨pile, d, t, by simp (disch := (first | assumption | decide | exact Zbp _ | (refine Sm.div ?_ ?_ <;> first | assumption | decide) | omega | (simp only [List.length_append, List.length_cons, List.length_nil, slen_sone, Zb7, slen_empty]; omega))) only [Za0, ZbH, ZbN, ZbI, ZbL, Za3, ZaC, Zb3, Zai, Zaw, ZbP, ZaN, ZbZ, Zb0, Zbv, ZbD, ZaU, ZbY, Zb4, Zb9, ZbT, Zcd, Zb5, ZbG, Zb2, Zb6, ZbQ, ZbE, ZbV, ZaJ, Zbz, Zbw, Zca, Zcb, Zcc, Zce, Zcf, Zb8, Zbh, Za9, Zbr, Zbt, ZaF, ZaG, ZaK, optInt_int, ZaR, ZaQ, ZbA, Zbk, mul_ok, Zbq, ZbX, ZaY, addl_ok, Zag, Zak, Zal, Zb1, ZbR, Zan, Zar, Zah, Zaq, getk, Int.reduceToNat, Int.toNat_natCast, len_list_ok, len_tuple_ok, len_str_ok, Zad, ZbK, ZbW, ZbO, Zbx, ZaT, List.getElem?_cons_zero, List.getElem?_cons_succ, Zch, Zcg, Zau, Zbj, ZaB, ZaV, Zaj, ZaD, ZaI, Zac, Zat, Zbe, Zba, Zav, Zbn, Za1, ZaM, Zax, Zbf, Zay, Zby, Zaz, Zap, ZaW, Zao, ZaH, Zbi, ZaP, Zaf, Zab, Zae, Zaa, aliasOk, Za5, Bool.false_eq_true, Bool.or_false, Bool.false_or, Bool.or_self, Bool.or_true, Bool.true_or, Bool.and_true, Bool.true_and, Bool.and_self, Bool.not_false, Bool.not_true, Bool.and_false, Bool.false_and, if_false, if_true, reduceIte, List.length_append, List.length_cons, List.length_nil, ZaZ, ZbJ, String.reduceBEq, String.reduceBNe, String.reduceEq, ZbM, Za2, Zbl, Zbb, ZaS, ZaE, ZaL, ZbC, Zbu, forS_list, ZaO, ZaA, Zam, Zas, ZbS, Za7, Zbs, Za8, Zbm, Za4, ZbB, Za6, Zbo, Zbd, ZbF, Zbc, slice_hi, slice_lo, slice_both, slice_tup1, slice_tup2, Zbg, ZbU, ZaX, decide_eq_true, decide_eq_false, int_beq_t, int_beq_f, Bool.and_eq_false_iff, Bool.or_eq_false_iff, beq_iff_eq, bne_iff_ne, decide_eq_true_eq, Bool.and_eq_true, Bool.or_eq_true, Bool.not_eq_true', decide_eq_false_iff_not, beq_eq_false_iff_ne, if_pos, if_neg, List.map_nil], hp, by simp, by simpa using hl, by simp⟩
  | y :: ys, pile, d, t, hp, hl, hy => by
    simp only [List.length_cons] at hl
    have h := hy y (.head _)
    obtain ⟨p1, d1, e1, hp1, q1, q2, q5⟩ := step_ok n pile d (y % 20) (y / 20) seed (h.div (by decide)) hs hp (by omega)
    obtain ⟨p2, d2, t2, e2, hp2, q3, q4, q6⟩ := tree_loop n cs seed hs ys p1 d1 (.fr (.int y)) hp1 (by omega) fun z hz => hy z (.tail _ hz)
    refine ⟨p2, d2, t2, ?_, hp2, by simp; omega, q4, by rw [List.length_cons]; omega⟩
    rw [← e2]
    simp (disch := (first | assumption | decide | exact Zbp _ | (refine Sm.div ?_ ?_ <;> first | assumption | decide))) only [Za0, ZbH, ZbN, ZbI, ZbL, Za3, ZaC, Zb3, Zai, Zaw, ZbP, ZaN, ZbZ, Zb0, Zbv, ZbD, ZaU, ZbY, Zb4, Zb9, ZbT, Zcd, Zb5, ZbG, Zb2, Zb6, ZbQ, ZbE, ZbV, ZaJ, Zbz, Zbw, Zca, Zcb, Zcc, Zce, Zcf, Zb8, Zbh, Za9, Zbr, Zbt, ZaF, ZaG, ZaK, optInt_int, ZaR, ZaQ, ZbA, Zbk, Zbq, ZbX, ZaY, Zag, Zak, Zal, Zb1, ZbR, Zan, Zar, Zah, Zaq, Int.reduceToNat, Int.toNat_natCast, Zad, ZbK, ZbW, ZbO, Zbx, ZaT, List.getElem?_cons_zero, List.getElem?_cons_succ, Zch, Zcg, Zau, Zbj, ZaB, ZaV, Zaj, ZaD, ZaI, Zac, Zat, Zbe, Zba, Zav, Zbn, Za1, ZaM, Zax, Zbf, Zay, Zby, Zaz, Zap, ZaW, Zao, ZaH, Zbi, ZaP, Zaf, Zab, Zae, Zaa, aliasOk, Za5, Bool.false_eq_true, Bool.or_false, Bool.false_or, Bool.or_self, Bool.or_true, Bool.true_or, Bool.and_true, Bool.true_and, Bool.and_self, Bool.not_false, Bool.not_true, Bool.and_false, Bool.false_and, if_false, if_true, reduceIte, ZaZ, ZbJ, String.reduceBEq, String.reduceBNe, String.reduceEq, ZbM, Za2, Zbl, Zbb, ZaS, ZaE, ZaL, ZbC, Zbu, ZaO, ZaA, Zam, Zas, ZbS, Za7, Zbs, Za8, Zbm, Za4, ZbB, Za6, Zbo, Zbd, ZbF, Zbc, Zbg, ZbU, ZaX, Bool.not_eq_true', List.map_cons, e1]
theorem tree_while (n : Nat) (cs sd t : Slot) : ∀ (k f : Nat) (pile : List D) (d : Nat), pile.length = k → k ≤ f → k ≤ 1000 → Pile d pile →
    ∃ pile', whileS (orc fns globs n) globs (.cmp .Gt (.bi1 .len (.var 2)) (.cint 1)) (.seq (.asg 2 (.bin .Add (.slice (.var 2) .none (.some (.neg (.cint 2)))) (.lstD (.cons (.tupD (.cons (.cstr (Str.ofString "sum")) (.cons (.idx (.var 2) (.neg (.cint 2))) (.cons (.idx (.var 2) (.neg (.cint 1))) .nil)))) .nil)))) .skip) (f + 1) [cs, sd, .fr (.list pile), t] = .next [cs, sd, .fr (.list pile'), t] ∧ pile'.length ≤ 1 ∧ Pile (d + k) pile' ∧ wts pile' ≤ wts pile + k := by
  intro k
  induction k with
  | zero =>
    intro f pile d hk _ _ hp
    obtain rfl := List.length_eq_zero_iff.mp hk
    refine ⟨[], ?_, by simp, hp, by simp⟩
    rw [whileS_step]
    simp (disch := (first | assumption | decide | exact Zbp _ | (refine Sm.div ?_ ?_ <;> first | assumption | decide) | omega | (simp only [List.length_append, List.length_cons, List.length_nil, slen_sone, Zb7, slen_empty]; omega))) only [Za0, ZbH, ZbN, ZbI, ZbL, Za3, ZaC, Zb3, Zai, Zaw, ZbP, ZaN, ZbZ, Zb0, Zbv, ZbD, ZaU, ZbY, Zb4, Zb9, ZbT, Zcd, Zb5, ZbG, Zb2, Zb6, ZbQ, ZbE, ZbV, ZaJ, Zbz, Zbw, Zca, Zcb, Zcc, Zce, Zcf, Zb8, Zbh, Za9, Zbr, Zbt, ZaF, ZaG, ZaK, optInt_int, ZaR, ZaQ, ZbA, Zbk, mul_ok, Zbq, ZbX, ZaY, addl_ok, Zag, Zak, Zal, Zb1, ZbR, Zan, Zar, Zah, Zaq, getk, Int.reduceToNat, Int.toNat_natCast, len_list_ok, len_tuple_ok, len_str_ok, Zad, ZbK, ZbW, ZbO, Zbx, ZaT, List.getElem?_cons_zero, List.getElem?_cons_succ, Zch, Zcg, Zau, Zbj, ZaB, ZaV, Zaj, ZaD, ZaI, Zac, Zat, Zbe, Zba, Zav, Zbn, Za1, ZaM, Zax, Zbf, Zay, Zby, Zaz, Zap, ZaW, Zao, ZaH, Zbi, ZaP, Zaf, Zab, Zae, Zaa, aliasOk, Za5, Bool.false_eq_true, Bool.or_false, Bool.false_or, Bool.or_self, Bool.or_true, Bool.true_or, Bool.and_true, Bool.true_and, Bool.and_self, Bool.not_false, Bool.not_true, Bool.and_false, Bool.false_and, if_false, if_true, reduceIte, List.length_append, List.length_cons, List.length_nil, ZaZ, ZbJ, String.reduceBEq, String.reduceBNe, String.reduceEq, ZbM, Za2, Zbl, Zbb, ZaS, ZaE, ZaL, ZbC, Zbu, forS_list, ZaO, ZaA, Zam, Zas, ZbS, Za7, Zbs, Za8, Zbm, Za4, ZbB, Za6, Zbo, Zbd, ZbF, Zbc, slice_hi, slice_lo, slice_both, slice_tup1, slice_tup2, Zbg, ZbU, ZaX, decide_eq_true, decide_eq_false, int_beq_t, int_beq_f, Bool.and_eq_false_iff, Bool.or_eq_false_iff, beq_iff_eq, bne_iff_ne, decide_eq_true_eq, Bool.and_eq_true, Bool.or_eq_true, Bool.not_eq_true', decide_eq_false_iff_not, beq_eq_false_iff_ne, if_pos, if_neg]
  | succ k ih =>
    intro f pile d hk hf hb hp
    by_cases h1 : pile.length = 1
    · refine ⟨pile, ?_, by omega, hp.mono (by omega), by omega⟩
      rw [whileS_step]
      simp (disch := (first | assumption | decide | exact Zbp _ | (refine Sm.div ?_ ?_ <;> first | assumption | decide) | omega | (simp only [List.length_append, List.length_cons, List.length_nil, slen_sone, Zb7, slen_empty]; omega))) only [Za0, ZbH, ZbN, ZbI, ZbL, Za3, ZaC, Zb3, Zai, Zaw, ZbP, ZaN, ZbZ, Zb0, Zbv, ZbD, ZaU, ZbY, Zb4, Zb9, ZbT, Zcd, Zb5, ZbG, Zb2, Zb6, ZbQ, ZbE, ZbV, ZaJ, Zbz, Zbw, Zca, Zcb, Zcc, Zce, Zcf, Zb8, Zbh, Za9, Zbr, Zbt, ZaF, ZaG, ZaK, optInt_int, ZaR, ZaQ, ZbA, Zbk, mul_ok, Zbq, ZbX, ZaY, addl_ok, Zag, Zak, Zal, Zb1, ZbR, Zan, Zar, Zah, Zaq, getk, Int.reduceToNat, Int.toNat_natCast, len_list_ok, len_tuple_ok, len_str_ok, Zad, ZbK, ZbW, ZbO, Zbx, ZaT, List.getElem?_cons_zero, List.getElem?_cons_succ, Zch, Zcg, Zau, Zbj, ZaB, ZaV, Zaj, ZaD, ZaI, Zac, Zat, Zbe, Zba, Zav, Zbn, Za1, ZaM, Zax, Zbf, Zay, Zby, Zaz, Zap, ZaW, Zao, ZaH, Zbi, ZaP, Zaf, Zab, Zae, Zaa, aliasOk, Za5, Bool.false_eq_true, Bool.or_false, Bool.false_or, Bool.or_self, Bool.or_true, Bool.true_or, Bool.and_true, Bool.true_and, Bool.and_self, Bool.not_false, Bool.not_true, Bool.and_false, Bool.false_and, if_false, if_true, reduceIte, List.length_append, List.length_cons, List.length_nil, ZaZ, ZbJ, String.reduceBEq, String.reduceBNe, String.reduceEq, ZbM, Za2, Zbl, Zbb, ZaS, ZaE, ZaL, ZbC, Zbu, forS_list, ZaO, ZaA, Zam, Zas, ZbS, Za7, Zbs, Za8, Zbm, Za4, ZbB, Za6, Zbo, Zbd, ZbF, Zbc, slice_hi, slice_lo, slice_both, slice_tup1, slice_tup2, Zbg, ZbU, ZaX, decide_eq_true, decide_eq_false, int_beq_t, int_beq_f, Bool.and_eq_false_iff, Bool.or_eq_false_iff, beq_iff_eq, bne_iff_ne, decide_eq_true_eq, Bool.and_eq_true, Bool.or_eq_true, Bool.not_eq_true', decide_eq_false_iff_not, beq_eq_false_iff_ne, if_pos, if_neg, h1]
    · obtain ⟨r, a, b, rfl⟩ := from_end2 (l := pile) (by omega)
      obtain ⟨f, rfl⟩ : ∃ f', f = f' + 1 := ⟨f - 1, by omega⟩
      simp only [List.length_append, List.length_cons, List.length_nil] at hk h1
      obtain ⟨p2, e2, h2, hp2, h6⟩ := ih f (r ++ [twoE "sum" a b]) (d + 1) (by simp; omega) (by omega) (by omega) ((hp.left.mono (by omega)).app (.one (.two (by decide) hp.at2.1 hp.at2.2)))
      refine ⟨p2, ?_, h2, hp2.mono (by omega), ?_⟩
      · rw [whileS_step, ← e2]
        simp (disch := (first | assumption | decide | exact Zbp _ | (refine Sm.div ?_ ?_ <;> first | assumption | decide) | omega | (simp only [List.length_append, List.length_cons, List.length_nil, slen_sone, Zb7, slen_empty]; omega))) only [Za0, ZbH, ZbN, ZbI, ZbL, Za3, ZaC, Zb3, Zai, Zaw, ZbP, ZaN, ZbZ, Zb0, Zbv, ZbD, ZaU, ZbY, Zb4, Zb9, ZbT, Zcd, Zb5, ZbG, Zb2, Zb6, ZbQ, ZbE, ZbV, ZaJ, Zbz, Zbw, Zca, Zcb, Zcc, Zce, Zcf, Zb8, Zbh, Za9, Zbr, Zbt, ZaF, ZaG, ZaK, optInt_int, ZaR, ZaQ, ZbA, Zbk, mul_ok, Zbq, ZbX, ZaY, addl_ok, Zag, Zak, Zal, Zb1, ZbR, Zan, Zar, Zah, Zaq, getk, Int.reduceToNat, Int.toNat_natCast, len_list_ok, len_tuple_ok, len_str_ok, Zad, ZbK, ZbW, ZbO, Zbx, ZaT, List.getElem?_cons_zero, List.getElem?_cons_succ, Zch, Zcg, Zau, Zbj, ZaB, ZaV, Zaj, ZaD, ZaI, Zac, Zat, Zbe, Zba, Zav, Zbn, Za1, ZaM, Zax, Zbf, Zay, Zby, Zaz, Zap, ZaW, Zao, ZaH, Zbi, ZaP, Zaf, Zab, Zae, Zaa, aliasOk, Za5, Bool.false_eq_true, Bool.or_false, Bool.false_or, Bool.or_self, Bool.or_true, Bool.true_or, Bool.and_true, Bool.true_and, Bool.and_self, Bool.not_false, Bool.not_true, Bool.and_false, Bool.false_and, if_false, if_true, reduceIte, List.length_append, List.length_cons, List.length_nil, ZaZ, ZbJ, String.reduceBEq, String.reduceBNe, String.reduceEq, ZbM, Za2, Zbl, Zbb, ZaS, ZaE, ZaL, ZbC, Zbu, forS_list, ZaO, ZaA, Zam, Zas, ZbS, Za7, Zbs, Za8, Zbm, Za4, ZbB, Za6, Zbo, Zbd, ZbF, Zbc, slice_hi, slice_lo, slice_both, slice_tup1, slice_tup2, Zbg, ZbU, ZaX, decide_eq_true, decide_eq_false, int_beq_t, int_beq_f, Bool.and_eq_false_iff, Bool.or_eq_false_iff, beq_iff_eq, bne_iff_ne, decide_eq_true_eq, Bool.and_eq_true, Bool.or_eq_true, Bool.not_eq_true', decide_eq_false_iff_not, beq_eq_false_iff_ne, if_pos, if_neg]
      · simp only [wts_app, wts_cons, wts_nil, wt_two] at h6 ⊢; omega
theorem tree_by_ok (n : Nat) (ys : List Int) (seed : Int) (hs : Sm seed) (hl : ys.length ≤ 60) (hy : ∀ y ∈ ys, Sm y) :
    ∃ e, (orc fns globs (n + 3)).fn 11 [.list (ys.map PyData.int), .int seed] = .ok (e, false) ∧ Ex ys.length e ∧ wt e ≤ 1 + 7 * ys.length := by
  rw [orc_fn (F := F_law_tree_by) rfl rfl]
  show ∃ e, fin (ex _ _ F_law_tree_by.body [.fr _, .fr _, .unset, .unset]) = _ ∧ _
  unfold F_law_tree_by
  have hm : (ys.map PyData.int).length = ys.length := List.length_map ..
  obtain ⟨p1, d1, t1, e1, hp1, q1, q2, q5⟩ := tree_loop n (.fr (.list (ys.map PyData.int))) seed hs ys [] 0 .unset (fun _ h => nomatch h) (by simp; omega) hy
  obtain ⟨p2, e2, q3, hp2, q6⟩ := tree_while (n + 2) (.fr (.list (ys.map PyData.int))) (.fr (.int seed)) t1 p1.length 999999 p1 d1 rfl (by omega) (by omega) hp1
  simp only [List.length_nil, Nat.add_zero, Nat.zero_add, wts_nil] at q1 q5 e2
  match p2, q3, hp2, e2, q6 with
  | [], _, _, e2, _ => exact ⟨numE 0, by simp (disch := (first | assumption | decide | exact Zbp _ | (refine Sm.div ?_ ?_ <;> first | assumption | decide) | omega | (simp only [List.length_append, List.length_cons, List.length_nil, slen_sone, Zb7, slen_empty]; omega))) only [Za0, ZbH, ZbN, ZbI, ZbL, Za3, ZaC, Zb3, Zai, Zaw, ZbP, ZaN, ZbZ, Zb0, Zbv, ZbD, ZaU, ZbY, Zb4, Zb9, ZbT, Zcd, Zb5, ZbG, Zb2, Zb6, ZbQ, ZbE, ZbV, ZaJ, Zbz, Zbw, Zca, Zcb, Zcc, Zce, Zcf, Zb8, Zbh, Za9, Zbr, Zbt, ZaF, ZaG, ZaK, optInt_int, ZaR, ZaQ, ZbA, Zbk, mul_ok, Zbq, ZbX, ZaY, addl_ok, Zag, Zak, Zal, Zb1, ZbR, Zan, Zar, Zah, Zaq, getk, Int.reduceToNat, Int.toNat_natCast, len_list_ok, len_tuple_ok, len_str_ok, Zad, ZbK, ZbW, ZbO, Zbx, ZaT, List.getElem?_cons_zero, List.getElem?_cons_succ, Zch, Zcg, Zau, Zbj, ZaB, ZaV, Zaj, ZaD, ZaI, Zac, Zat, Zbe, Zba, Zav, Zbn, Za1, ZaM, Zax, Zbf, Zay, Zby, Zaz, Zap, ZaW, Zao, ZaH, Zbi, ZaP, Zaf, Zab, Zae, Zaa, aliasOk, Za5, Bool.false_eq_true, Bool.or_false, Bool.false_or, Bool.or_self, Bool.or_true, Bool.true_or, Bool.and_true, Bool.true_and, Bool.and_self, Bool.not_false, Bool.not_true, Bool.and_false, Bool.false_and, if_false, if_true, reduceIte, List.length_append, List.length_cons, List.length_nil, ZaZ, ZbJ, String.reduceBEq, String.reduceBNe, String.reduceEq, ZbM, Za2, Zbl, Zbb, ZaS, ZaE, ZaL, ZbC, Zbu, forS_list, ZaO, ZaA, Zam, Zas, ZbS, Za7, Zbs, Za8, Zbm, Za4, ZbB, Za6, Zbo, Zbd, ZbF, Zbc, slice_hi, slice_lo, slice_both, slice_tup1, slice_tup2, Zbg, ZbU, ZaX, decide_eq_true, decide_eq_false, int_beq_t, int_beq_f, Bool.and_eq_false_iff, Bool.or_eq_false_iff, beq_iff_eq, bne_iff_ne, decide_eq_true_eq, Bool.and_eq_true, Bool.or_eq_true, Bool.not_eq_true', decide_eq_false_iff_not, beq_eq_false_iff_ne, if_pos, if_neg, e1, e2, eq_nil_nil], .num (by omega) (by omega), by rw [wt_num]; omega⟩
  | [e], _, hp2, e2, q6 =>
    have he : Ex ys.length e := (hp2 e (.head _)).mono (by omega)
    exact ⟨e, by simp (disch := (first | assumption | decide | exact Zbp _ | (refine Sm.div ?_ ?_ <;> first | assumption | decide) | omega | (simp only [List.length_append, List.length_cons, List.length_nil, slen_sone, Zb7, slen_empty]; omega))) only [Za0, ZbH, ZbN, ZbI, ZbL, Za3, ZaC, Zb3, Zai, Zaw, ZbP, ZaN, ZbZ, Zb0, Zbv, ZbD, ZaU, ZbY, Zb4, Zb9, ZbT, Zcd, Zb5, ZbG, Zb2, Zb6, ZbQ, ZbE, ZbV, ZaJ, Zbz, Zbw, Zca, Zcb, Zcc, Zce, Zcf, Zb8, Zbh, Za9, Zbr, Zbt, ZaF, ZaG, ZaK, optInt_int, ZaR, ZaQ, ZbA, Zbk, mul_ok, Zbq, ZbX, ZaY, addl_ok, Zag, Zak, Zal, Zb1, ZbR, Zan, Zar, Zah, Zaq, getk, Int.reduceToNat, Int.toNat_natCast, len_list_ok, len_tuple_ok, len_str_ok, Zad, ZbK, ZbW, ZbO, Zbx, ZaT, List.getElem?_cons_zero, List.getElem?_cons_succ, Zch, Zcg, Zau, Zbj, ZaB, ZaV, Zaj, ZaD, ZaI, Zac, Zat, Zbe, Zba, Zav, Zbn, Za1, ZaM, Zax, Zbf, Zay, Zby, Zaz, Zap, ZaW, Zao, ZaH, Zbi, ZaP, Zaf, Zab, Zae, Zaa, aliasOk, Za5, Bool.false_eq_true, Bool.or_false, Bool.false_or, Bool.or_self, Bool.or_true, Bool.true_or, Bool.and_true, Bool.true_and, Bool.and_self, Bool.not_false, Bool.not_true, Bool.and_false, Bool.false_and, if_false, if_true, reduceIte, List.length_append, List.length_cons, List.length_nil, ZaZ, ZbJ, String.reduceBEq, String.reduceBNe, String.reduceEq, ZbM, Za2, Zbl, Zbb, ZaS, ZaE, ZaL, ZbC, Zbu, forS_list, ZaO, ZaA, Zam, Zas, ZbS, Za7, Zbs, Za8, Zbm, Za4, ZbB, Za6, Zbo, Zbd, ZbF, Zbc, slice_hi, slice_lo, slice_both, slice_tup1, slice_tup2, Zbg, ZbU, ZaX, decide_eq_true, decide_eq_false, int_beq_t, int_beq_f, Bool.and_eq_false_iff, Bool.or_eq_false_iff, beq_iff_eq, bne_iff_ne, decide_eq_true_eq, Bool.and_eq_true, Bool.or_eq_true, Bool.not_eq_true', decide_eq_false_iff_not, beq_eq_false_iff_ne, if_pos, if_neg, e1, e2, eq_one_nil he (by omega)], he, by simp only [wts_cons, wts_nil] at q6; omega⟩
theorem many_loop (n : Nat) (seed cell : Int) (hs : Sm seed) (hc : Sm cell) : ∀ (l : List D) (c : D) (t u : Slot) (d : Nat), (∀ x ∈ l, ∃ k : Int, x = .int k ∧ Ki k) → Ex d c →
    ∃ c' t' u', forLoop (bodyS (orc fns globs (n + 1)) globs 4 (.seq (.asg 5 (.idx (.var 2) (.bin .Mod (.bin .FloorDiv (.var 1) (.cint 1440)) (.cint 7)))) (.seq (.ite (.cmp .Eq (.bin .Mod (.bin .FloorDiv (.var 1) (.cint 10080)) (.cint 2)) (.cint 1)) (.seq (.asg 5 (.idx (.var 2) (.bin .Mod (.bin .Add (.bin .FloorDiv (.var 1) (.cint 20160)) (.var 4)) (.cint 2)))) .skip) .skip) (.seq (.asg 3 (.tupD (.cons (.var 5) (.cons (.var 3) (.cons (.tupD (.cons (.cstr (Str.ofString "name")) (.cons (.call 9 (.cons (.var 0) (.cons (.var 4) .nil))) .nil))) .nil))))) .skip)))) l [.fr (.int seed), .fr (.int cell), .fr (.list sevenD), .fr c, t, u] = .next [.fr (.int seed), .fr (.int cell), .fr (.list sevenD), .fr c', t', u'] ∧ Ex (d + l.length) c' ∧ wt c' = wt c + 2 * l.length
  | [], c, t, u, d, _, h => ⟨c, t, u, by simp (disch := (first | assumption | decide | exact Zbp _ | (refine Sm.div ?_ ?_ <;> first | assumption | decide) | omega | (simp only [List.length_append, List.length_cons, List.length_nil, slen_sone, Zb7, slen_empty]; omega))) only [Za0, ZbH, ZbN, ZbI, ZbL, Za3, ZaC, Zb3, Zai, Zaw, ZbP, ZaN, ZbZ, Zb0, Zbv, ZbD, ZaU, ZbY, Zb4, Zb9, ZbT, Zcd, Zb5, ZbG, Zb2, Zb6, ZbQ, ZbE, ZbV, ZaJ, Zbz, Zbw, Zca, Zcb, Zcc, Zce, Zcf, Zb8, Zbh, Za9, Zbr, Zbt, ZaF, ZaG, ZaK, optInt_int, ZaR, ZaQ, ZbA, Zbk, mul_ok, Zbq, ZbX, ZaY, addl_ok, Zag, Zak, Zal, Zb1, ZbR, Zan, Zar, Zah, Zaq, getk, Int.reduceToNat, Int.toNat_natCast, len_list_ok, len_tuple_ok, len_str_ok, Zad, ZbK, ZbW, ZbO, Zbx, ZaT, List.getElem?_cons_zero, List.getElem?_cons_succ, Zch, Zcg, Zau, Zbj, ZaB, ZaV, Zaj, ZaD, ZaI, Zac, Zat, Zbe, Zba, Zav, Zbn, Za1, ZaM, Zax, Zbf, Zay, Zby, Zaz, Zap, ZaW, Zao, ZaH, Zbi, ZaP, Zaf, Zab, Zae, Zaa, aliasOk, Za5, Bool.false_eq_true, Bool.or_false, Bool.false_or, Bool.or_self, Bool.or_true, Bool.true_or, Bool.and_true, Bool.true_and, Bool.and_self, Bool.not_false, Bool.not_true, Bool.and_false, Bool.false_and, if_false, if_true, reduceIte, List.length_append, List.length_cons, List.length_nil, ZaZ, ZbJ, String.reduceBEq, String.reduceBNe, String.reduceEq, ZbM, Za2, Zbl, Zbb, ZaS, ZaE, ZaL, ZbC, Zbu, forS_list, ZaO, ZaA, Zam, Zas, ZbS, Za7, Zbs, Za8, Zbm, Za4, ZbB, Za6, Zbo, Zbd, ZbF, Zbc, slice_hi, slice_lo, slice_both, slice_tup1, slice_tup2, Zbg, ZbU, ZaX, decide_eq_true, decide_eq_false, int_beq_t, int_beq_f, Bool.and_eq_false_iff, Bool.or_eq_false_iff, beq_iff_eq, bne_iff_ne, decide_eq_true_eq, Bool.and_eq_true, Bool.or_eq_true, Bool.not_eq_true', decide_eq_false_iff_not, beq_eq_false_iff_ne, if_pos, if_neg], h, rfl⟩
  | x :: l, c, t, u, d, hl, h => by
    obtain ⟨k, rfl, hk⟩ := hl x (.head _)
    obtain ⟨w1, hw1, e1⟩ := pick_twom (cell / 1440)
    obtain ⟨w2, hw2, e2⟩ := pick_two (i := (cell / 20160 + k) % 2) (by omega) (by omega)
    obtain ⟨y, ey, hy⟩ := name_by_i n seed k hs hk
    by_cases hq : (cell / 10080 % 2 == 1) = true
    · obtain ⟨c', t', u', e, h2, h3⟩ := many_loop n seed cell hs hc l (twoE w2 c (nameE y)) (.fr (.int k)) (.fr (.str (Str.ofString w2))) (d + 1) (fun z hz => hl z (.tail _ hz)) (.two hw2 h (.name hy))
      refine ⟨c', t', u', ?_, h2.mono (by simp; omega), by rw [h3, wt_two, wt_name, List.length_cons]; omega⟩
      rw [← e]
      simp (disch := (first | assumption | decide | exact Zbp _ | (refine Sm.div ?_ ?_ <;> first | assumption | decide))) only [Za0, ZbH, ZbN, ZbI, ZbL, Za3, ZaC, Zb3, Zai, Zaw, ZbP, ZaN, ZbZ, Zb0, Zbv, ZbD, ZaU, ZbY, Zb4, Zb9, ZbT, Zcd, Zb5, ZbG, Zb2, Zb6, ZbQ, ZbE, ZbV, ZaJ, Zbz, Zbw, Zca, Zcb, Zcc, Zce, Zcf, Zb8, Zbh, Za9, Zbr, Zbt, ZaF, ZaG, ZaK, optInt_int, ZaR, ZaQ, ZbA, Zbk, Zbq, ZbX, ZaY, Zag, Zak, Zal, Zb1, ZbR, Zan, Zar, Zah, Zaq, Int.reduceToNat, Int.toNat_natCast, Zad, ZbK, ZbW, ZbO, Zbx, ZaT, List.getElem?_cons_zero, List.getElem?_cons_succ, Zch, Zcg, Zau, Zbj, ZaB, ZaV, Zaj, ZaD, ZaI, Zac, Zat, Zbe, Zba, Zav, Zbn, Za1, ZaM, Zax, Zbf, Zay, Zby, Zaz, Zap, ZaW, Zao, ZaH, Zbi, ZaP, Zaf, Zab, Zae, Zaa, aliasOk, Za5, Bool.false_eq_true, Bool.or_false, Bool.false_or, Bool.or_self, Bool.or_true, Bool.true_or, Bool.and_true, Bool.true_and, Bool.and_self, Bool.not_false, Bool.not_true, Bool.and_false, Bool.false_and, if_false, if_true, reduceIte, ZaZ, ZbJ, String.reduceBEq, String.reduceBNe, String.reduceEq, ZbM, Za2, Zbl, Zbb, ZaS, ZaE, ZaL, ZbC, Zbu, ZaO, ZaA, Zam, Zas, ZbS, Za7, Zbs, Za8, Zbm, Za4, ZbB, Za6, Zbo, Zbd, ZbF, Zbc, Zbg, ZbU, ZaX, Bool.not_eq_true', hq, e1, e2, ey]
    · replace hq := Bool.eq_false_iff.mpr hq
      obtain ⟨c', t', u', e, h2, h3⟩ := many_loop n seed cell hs hc l (twoE w1 c (nameE y)) (.fr (.int k)) (.fr (.str (Str.ofString w1))) (d + 1) (fun z hz => hl z (.tail _ hz)) (.two hw1 h (.name hy))
      refine ⟨c', t', u', ?_, h2.mono (by simp; omega), by rw [h3, wt_two, wt_name, List.length_cons]; omega⟩
      rw [← e]
      simp (disch := (first | assumption | decide | exact Zbp _ | (refine Sm.div ?_ ?_ <;> first | assumption | decide))) only [Za0, ZbH, ZbN, ZbI, ZbL, Za3, ZaC, Zb3, Zai, Zaw, ZbP, ZaN, ZbZ, Zb0, Zbv, ZbD, ZaU, ZbY, Zb4, Zb9, ZbT, Zcd, Zb5, ZbG, Zb2, Zb6, ZbQ, ZbE, ZbV, ZaJ, Zbz, Zbw, Zca, Zcb, Zcc, Zce, Zcf, Zb8, Zbh, Za9, Zbr, Zbt, ZaF, ZaG, ZaK, optInt_int, ZaR, ZaQ, ZbA, Zbk, Zbq, ZbX, ZaY, Zag, Zak, Zal, Zb1, ZbR, Zan, Zar, Zah, Zaq, Int.reduceToNat, Int.toNat_natCast, Zad, ZbK, ZbW, ZbO, Zbx, ZaT, List.getElem?_cons_zero, List.getElem?_cons_succ, Zch, Zcg, Zau, Zbj, ZaB, ZaV, Zaj, ZaD, ZaI, Zac, Zat, Zbe, Zba, Zav, Zbn, Za1, ZaM, Zax, Zbf, Zay, Zby, Zaz, Zap, ZaW, Zao, ZaH, Zbi, ZaP, Zaf, Zab, Zae, Zaa, aliasOk, Za5, Bool.false_eq_true, Bool.or_false, Bool.false_or, Bool.or_self, Bool.or_true, Bool.true_or, Bool.and_true, Bool.true_and, Bool.and_self, Bool.not_false, Bool.not_true, Bool.and_false, Bool.false_and, if_false, if_true, reduceIte, ZaZ, ZbJ, String.reduceBEq, String.reduceBNe, String.reduceEq, ZbM, Za2, Zbl, Zbb, ZaS, ZaE, ZaL, ZbC, Zbu, ZaO, ZaA, Zam, Zas, ZbS, Za7, Zbs, Za8, Zbm, Za4, ZbB, Za6, Zbo, Zbd, ZbF, Zbc, Zbg, ZbU, ZaX, Bool.not_eq_true', hq, e1, ey]
theorem many_by_ok (n : Nat) (seed cell : Int) (hs : Sm seed) (hc : Sm cell) :
    ∃ e, (orc fns globs (n + 2)).fn 13 [.int seed, .int cell] = .ok (e, false) ∧ Ex 40 e ∧ wt e ≤ 100 := by
  rw [orc_fn (F := F_law_many_by) rfl rfl]
  show ∃ e, fin (ex _ _ F_law_many_by.body [.fr _, .fr _, .unset, .unset, .unset, .unset]) = _ ∧ _
  unfold F_law_many_by
  obtain ⟨x, ex, hx⟩ := name_by_i n seed (cell % 40) hs (.mod (by decide) (by decide))
  obtain ⟨c, t, u, e, h, h3⟩ := many_loop n seed cell hs hc (rangeD 0 (5 + cell / 40 % 36)) (nameE x) .unset .unset 0 (fun x hx => by
    obtain ⟨k, q, q1, q2⟩ := range_mem hx
    exact ⟨k, q, q1, by omega⟩) (.name hx)
  rw [range_length] at h h3
  rw [wt_name] at h3
  have m0 : -1073741824 < 5 + cell / 40 % 36 := by omega
  have m1 : 5 + cell / 40 % 36 < 1073741824 := by omega
  exact ⟨c, by simp (disch := (first | assumption | decide | exact Zbp _ | (refine Sm.div ?_ ?_ <;> first | assumption | decide))) only [Za0, ZbH, ZbN, ZbI, ZbL, Za3, ZaC, Zb3, Zai, Zaw, ZbP, ZaN, ZbZ, Zb0, Zbv, ZbD, ZaU, ZbY, Zb4, Zb9, ZbT, Zcd, Zb5, ZbG, Zb2, Zb6, ZbQ, ZbE, ZbV, ZaJ, Zbz, Zbw, Zca, Zcb, Zcc, Zce, Zcf, Zb8, Zbh, Za9, Zbr, Zbt, ZaF, ZaG, ZaK, optInt_int, ZaR, ZaQ, ZbA, Zbk, Zbq, ZbX, ZaY, Zag, Zak, Zal, Zb1, ZbR, Zan, Zar, Zah, Zaq, Int.reduceToNat, Int.toNat_natCast, Zad, ZbK, ZbW, ZbO, Zbx, ZaT, List.getElem?_cons_zero, List.getElem?_cons_succ, Zch, Zcg, Zau, Zbj, ZaB, ZaV, Zaj, ZaD, ZaI, Zac, Zat, Zbe, Zba, Zav, Zbn, Za1, ZaM, Zax, Zbf, Zay, Zby, Zaz, Zap, ZaW, Zao, ZaH, Zbi, ZaP, Zaf, Zab, Zae, Zaa, aliasOk, Za5, Bool.false_eq_true, Bool.or_false, Bool.false_or, Bool.or_self, Bool.or_true, Bool.true_or, Bool.and_true, Bool.true_and, Bool.and_self, Bool.not_false, Bool.not_true, Bool.and_false, Bool.false_and, if_false, if_true, reduceIte, ZaZ, ZbJ, String.reduceBEq, String.reduceBNe, String.reduceEq, ZbM, Za2, Zbl, Zbb, ZaS, ZaE, ZaL, ZbC, Zbu, ZaO, ZaA, Zam, Zas, ZbS, Za7, Zbs, Za8, Zbm, Za4, ZbB, Za6, Zbo, Zbd, ZbF, Zbc, Zbg, ZbU, ZaX, Bool.not_eq_true', ex, e], h.mono (by omega), by omega⟩
end L02
end Mine
-- P02x
set_option autoImplicit false
set_option linter.all false
set_option maxRecDepth 10000
namespace Mine
open PySem
namespace L02
theorem expr_loop (n : Nat) (sc sd ce ro ma : Slot) {w : String} (hw : w ∈ twoWords) (code : Int) (hc : Sm code) (hc1 : code < 100000000000000) : ∀ (l : List D) (c : D) (t u : Slot) (d : Nat), (∀ x ∈ l, ∃ k : Int, x = .int k ∧ Ki k) → Ex d c →
    ∃ c' t' u', forLoop (bodyS (orc fns globs (n + 1)) globs 8 (.seq (.asg 9 (.call 12 (.cons (.var 4) (.cons (.bin .Add (.bin .FloorDiv (.var 5) (.cint 4)) (.bin .Mult (.var 8) (.bin .Add (.cint 1) (.bin .Mod (.var 5) (.cint 4))))) .nil)))) (.seq (.ite (.cmp .Eq (.bin .Mod (.bin .FloorDiv (.var 5) (.cint 36)) (.cint 4)) (.cint 1)) (.seq (.asg 9 (.call 8 (.cons (.bin .Add (.bin .FloorDiv (.var 5) (.cint 144)) (.bin .Mult (.var 8) (.bin .Add (.cint 1) (.bin .Mod (.var 5) (.cint 4))))) .nil))) .skip) .skip) (.seq (.ite (.and (.cmp .Eq (.bin .Mod (.bin .FloorDiv (.var 5) (.cint 36)) (.cint 4)) (.cint 2)) (.cmp .Gt (.bin .Mod (.bin .Add (.bin .FloorDiv (.var 5) (.cint 144)) (.var 8)) (.cint 3)) (.cint 0))) (.seq (.asg 6 (.tupD (.cons (.var 4) (.cons (.tupD (.cons (.cstr (Str.ofString "num")) (.cons (.var 9) .nil))) (.cons (.var 6) .nil))))) .skip) (.seq (.asg 6 (.tupD (.cons (.var 4) (.cons (.var 6) (.cons (.tupD (.cons (.cstr (Str.ofString "num")) (.cons (.var 9) .nil))) .nil))))) .skip)) .skip)))) l [sc, sd, ce, ro, .fr (.str (Str.ofString w)), .fr (.int code), .fr c, ma, t, u] = .next [sc, sd, ce, ro, .fr (.str (Str.ofString w)), .fr (.int code), .fr c', ma, t', u'] ∧ Ex (d + l.length) c' ∧ wt c' = wt c + 2 * l.length
  | [], c, t, u, d, _, h => ⟨c, t, u, by simp (disch := (first | assumption | decide | exact Zbp _ | (refine Sm.div ?_ ?_ <;> first | assumption | decide) | omega | (simp only [List.length_append, List.length_cons, List.length_nil, slen_sone, Zb7, slen_empty]; omega))) only [Za0, ZbH, ZbN, ZbI, ZbL, Za3, ZaC, Zb3, Zai, Zaw, ZbP, ZaN, ZbZ, Zb0, Zbv, ZbD, ZaU, ZbY, Zb4, Zb9, ZbT, Zcd, Zb5, ZbG, Zb2, Zb6, ZbQ, ZbE, ZbV, ZaJ, Zbz, Zbw, Zca, Zcb, Zcc, Zce, Zcf, Zb8, Zbh, Za9, Zbr, Zbt, ZaF, ZaG, ZaK, optInt_int, ZaR, ZaQ, ZbA, Zbk, mul_ok, Zbq, ZbX, ZaY, addl_ok, Zag, Zak, Zal, Zb1, ZbR, Zan, Zar, Zah, Zaq, getk, Int.reduceToNat, Int.toNat_natCast, len_list_ok, len_tuple_ok, len_str_ok, Zad, ZbK, ZbW, ZbO, Zbx, ZaT, List.getElem?_cons_zero, List.getElem?_cons_succ, Zch, Zcg, Zau, Zbj, ZaB, ZaV, Zaj, ZaD, ZaI, Zac, Zat, Zbe, Zba, Zav, Zbn, Za1, ZaM, Zax, Zbf, Zay, Zby, Zaz, Zap, ZaW, Zao, ZaH, Zbi, ZaP, Zaf, Zab, Zae, Zaa, aliasOk, Za5, Bool.false_eq_true, Bool.or_false, Bool.false_or, Bool.or_self, Bool.or_true, Bool.true_or, Bool.and_true, Bool.true_and, Bool.and_self, Bool.not_false, Bool.not_true, Bool.and_false, Bool.false_and, if_false, if_true, reduceIte, List.length_append, List.length_cons, List.length_nil, ZaZ, ZbJ, String.reduceBEq, String.reduceBNe, String.reduceEq, ZbM, Za2, Zbl, Zbb, ZaS, ZaE, ZaL, ZbC, Zbu, forS_list, ZaO, ZaA, Zam, Zas, ZbS, Za7, Zbs, Za8, Zbm, Za4, ZbB, Za6, Zbo, Zbd, ZbF, Zbc, slice_hi, slice_lo, slice_both, slice_tup1, slice_tup2, Zbg, ZbU, ZaX, decide_eq_true, decide_eq_false, int_beq_t, int_beq_f, Bool.and_eq_false_iff, Bool.or_eq_false_iff, beq_iff_eq, bne_iff_ne, decide_eq_true_eq, Bool.and_eq_true, Bool.or_eq_true, Bool.not_eq_true', decide_eq_false_iff_not, beq_eq_false_iff_ne, if_pos, if_neg], h, rfl⟩
  | x :: l, c, t, u, d, hl, h => by
    obtain ⟨k, rfl, hki⟩ := hl x (.head _)
    obtain ⟨k0, k1⟩ := hki
    have hk : 0 ≤ k * (1 + code % 4) ∧ k * (1 + code % 4) ≤ 4000 := by
      refine ⟨Int.mul_nonneg k0 (by omega), ?_⟩
      have := Int.mul_le_mul (show k ≤ 1000 by omega) (show 1 + code % 4 ≤ 4 by omega) (by omega) (by omega)
      omega
    obtain ⟨z, ez, z1, z2⟩ := link_ok n (w := w) (code / 4 + k * (1 + code % 4))
    have hcp := hc.1
    obtain ⟨v, ev, v1, v2⟩ := number_by_ok n (code / 144 + k * (1 + code % 4)) ⟨by omega, by omega⟩
    have hmul : binD .Mult (.int k) (.int (1 + code % 4)) = .ok (.int (k * (1 + code % 4))) := mul_ok (by omega) (by omega) (by omega) (by omega)
    by_cases q1 : (code / 36 % 4 == 1) = true
    · obtain ⟨c', t', u', e, h2, h3⟩ := expr_loop n sc sd ce ro ma hw code hc hc1 l (twoE w c (numE v)) (.fr (.int k)) (.fr (.int v)) (d + 1) (fun z hz => hl z (.tail _ hz)) (.two hw h (.num v1 v2))
      refine ⟨c', t', u', ?_, h2.mono (by simp; omega), by rw [h3, wt_two, wt_num, List.length_cons]; omega⟩
      rw [← e]
      have q2 : (code / 36 % 4 == 2) = false := beq_eq_false_iff_ne.mpr fun q => by rw [q] at q1; cases q1
      simp (disch := (first | assumption | decide | exact Zbp _ | (refine Sm.div ?_ ?_ <;> first | assumption | decide))) only [Za0, ZbH, ZbN, ZbI, ZbL, Za3, ZaC, Zb3, Zai, Zaw, ZbP, ZaN, ZbZ, Zb0, Zbv, ZbD, ZaU, ZbY, Zb4, Zb9, ZbT, Zcd, Zb5, ZbG, Zb2, Zb6, ZbQ, ZbE, ZbV, ZaJ, Zbz, Zbw, Zca, Zcb, Zcc, Zce, Zcf, Zb8, Zbh, Za9, Zbr, Zbt, ZaF, ZaG, ZaK, optInt_int, ZaR, ZaQ, ZbA, Zbk, Zbq, ZbX, ZaY, Zag, Zak, Zal, Zb1, ZbR, Zan, Zar, Zah, Zaq, Int.reduceToNat, Int.toNat_natCast, Zad, ZbK, ZbW, ZbO, Zbx, ZaT, List.getElem?_cons_zero, List.getElem?_cons_succ, Zch, Zcg, Zau, Zbj, ZaB, ZaV, Zaj, ZaD, ZaI, Zac, Zat, Zbe, Zba, Zav, Zbn, Za1, ZaM, Zax, Zbf, Zay, Zby, Zaz, Zap, ZaW, Zao, ZaH, Zbi, ZaP, Zaf, Zab, Zae, Zaa, aliasOk, Za5, Bool.false_eq_true, Bool.or_false, Bool.false_or, Bool.or_self, Bool.or_true, Bool.true_or, Bool.and_true, Bool.true_and, Bool.and_self, Bool.not_false, Bool.not_true, Bool.and_false, Bool.false_and, if_false, if_true, reduceIte, ZaZ, ZbJ, String.reduceBEq, String.reduceBNe, String.reduceEq, ZbM, Za2, Zbl, Zbb, ZaS, ZaE, ZaL, ZbC, Zbu, ZaO, ZaA, Zam, Zas, ZbS, Za7, Zbs, Za8, Zbm, Za4, ZbB, Za6, Zbo, Zbd, ZbF, Zbc, Zbg, ZbU, ZaX, Bool.not_eq_true', hmul, ez, ev, q1, q2]
    · replace q1 := Bool.eq_false_iff.mpr q1
      by_cases q2 : (code / 36 % 4 == 2 && decide (0 < (code / 144 + k) % 3)) = true
      · obtain ⟨c', t', u', e, h2, h3⟩ := expr_loop n sc sd ce ro ma hw code hc hc1 l (twoE w (numE z) c) (.fr (.int k)) (.fr (.int z)) (d + 1) (fun z hz => hl z (.tail _ hz)) (.two hw (.num z1 z2) h)
        refine ⟨c', t', u', ?_, h2.mono (by simp; omega), by rw [h3, wt_two, wt_num, List.length_cons]; omega⟩
        rw [← e]
        simp (disch := (first | assumption | decide | exact Zbp _ | (refine Sm.div ?_ ?_ <;> first | assumption | decide))) only [Za0, ZbH, ZbN, ZbI, ZbL, Za3, ZaC, Zb3, Zai, Zaw, ZbP, ZaN, ZbZ, Zb0, Zbv, ZbD, ZaU, ZbY, Zb4, Zb9, ZbT, Zcd, Zb5, ZbG, Zb2, Zb6, ZbQ, ZbE, ZbV, ZaJ, Zbz, Zbw, Zca, Zcb, Zcc, Zce, Zcf, Zb8, Zbh, Za9, Zbr, Zbt, ZaF, ZaG, ZaK, optInt_int, ZaR, ZaQ, ZbA, Zbk, Zbq, ZbX, ZaY, Zag, Zak, Zal, Zb1, ZbR, Zan, Zar, Zah, Zaq, Int.reduceToNat, Int.toNat_natCast, Zad, ZbK, ZbW, ZbO, Zbx, ZaT, List.getElem?_cons_zero, List.getElem?_cons_succ, Zch, Zcg, Zau, Zbj, ZaB, ZaV, Zaj, ZaD, ZaI, Zac, Zat, Zbe, Zba, Zav, Zbn, Za1, ZaM, Zax, Zbf, Zay, Zby, Zaz, Zap, ZaW, Zao, ZaH, Zbi, ZaP, Zaf, Zab, Zae, Zaa, aliasOk, Za5, Bool.false_eq_true, Bool.or_false, Bool.false_or, Bool.or_self, Bool.or_true, Bool.true_or, Bool.and_true, Bool.true_and, Bool.and_self, Bool.not_false, Bool.not_true, Bool.and_false, Bool.false_and, if_false, if_true, reduceIte, ZaZ, ZbJ, String.reduceBEq, String.reduceBNe, String.reduceEq, ZbM, Za2, Zbl, Zbb, ZaS, ZaE, ZaL, ZbC, Zbu, ZaO, ZaA, Zam, Zas, ZbS, Za7, Zbs, Za8, Zbm, Za4, ZbB, Za6, Zbo, Zbd, ZbF, Zbc, Zbg, ZbU, ZaX, Bool.not_eq_true', hmul, ez, q1, q2]
      · replace q2 := Bool.eq_false_iff.mpr q2
        obtain ⟨c', t', u', e, h2, h3⟩ := expr_loop n sc sd ce ro ma hw code hc hc1 l (twoE w c (numE z)) (.fr (.int k)) (.fr (.int z)) (d + 1) (fun z hz => hl z (.tail _ hz)) (.two hw h (.num z1 z2))
        refine ⟨c', t', u', ?_, h2.mono (by simp; omega), by rw [h3, wt_two, wt_num, List.length_cons]; omega⟩
        rw [← e]
        simp (disch := (first | assumption | decide | exact Zbp _ | (refine Sm.div ?_ ?_ <;> first | assumption | decide))) only [Za0, ZbH, ZbN, ZbI, ZbL, Za3, ZaC, Zb3, Zai, Zaw, ZbP, ZaN, ZbZ, Zb0, Zbv, ZbD, ZaU, ZbY, Zb4, Zb9, ZbT, Zcd, Zb5, ZbG, Zb2, Zb6, ZbQ, ZbE, ZbV, ZaJ, Zbz, Zbw, Zca, Zcb, Zcc, Zce, Zcf, Zb8, Zbh, Za9, Zbr, Zbt, ZaF, ZaG, ZaK, optInt_int, ZaR, ZaQ, ZbA, Zbk, Zbq, ZbX, ZaY, Zag, Zak, Zal, Zb1, ZbR, Zan, Zar, Zah, Zaq, Int.reduceToNat, Int.toNat_natCast, Zad, ZbK, ZbW, ZbO, Zbx, ZaT, List.getElem?_cons_zero, List.getElem?_cons_succ, Zch, Zcg, Zau, Zbj, ZaB, ZaV, Zaj, ZaD, ZaI, Zac, Zat, Zbe, Zba, Zav, Zbn, Za1, ZaM, Zax, Zbf, Zay, Zby, Zaz, Zap, ZaW, Zao, ZaH, Zbi, ZaP, Zaf, Zab, Zae, Zaa, aliasOk, Za5, Bool.false_eq_true, Bool.or_false, Bool.false_or, Bool.or_self, Bool.or_true, Bool.true_or, Bool.and_true, Bool.true_and, Bool.and_self, Bool.not_false, Bool.not_true, Bool.and_false, Bool.false_and, if_false, if_true, reduceIte, ZaZ, ZbJ, String.reduceBEq, String.reduceBNe, String.reduceEq, ZbM, Za2, Zbl, Zbb, ZaS, ZaE, ZaL, ZbC, Zbu, ZaO, ZaA, Zam, Zas, ZbS, Za7, Zbs, Za8, Zbm, Za4, ZbB, Za6, Zbo, Zbd, ZbF, Zbc, Zbg, ZbU, ZaX, Bool.not_eq_true', hmul, ez, q1, q2]
theorem expr_rest (n : Nat) (sc sd ro : Slot) {w : String} (hw : w ∈ twoWords) (cell : Int) (hcell : Sm cell) (c : D) (d : Nat) (hc : Ex d c) (hd : d ≤ 10) :
    ∃ c', fin (ex (orc fns globs (n + 1)) globs (.seq (.asg 7 (.bin .Mod (.bin .FloorDiv (.var 2) (.cint 168)) (.bin .Add (.cint 30) (.bin .Mult (.cint 30) (.bi1 .int (.cmp .Eq (.idx (.var 6) (.cint 0)) (.cstr (Str.ofString "name")))))))) (.seq (.ite (.cmp .Eq (.bin .Mod (.bin .FloorDiv (.var 2) (.cint 10080)) (.cint 2)) (.cint 1)) (.seq (.asg 7 (.bin .Add (.cint 1) (.bin .Mod (.var 7) (.cint 4)))) .skip) .skip) (.seq (.forR 8 (.cint 0) (.var 7) (.seq (.asg 9 (.call 12 (.cons (.var 4) (.cons (.bin .Add (.bin .FloorDiv (.var 5) (.cint 4)) (.bin .Mult (.var 8) (.bin .Add (.cint 1) (.bin .Mod (.var 5) (.cint 4))))) .nil)))) (.seq (.ite (.cmp .Eq (.bin .Mod (.bin .FloorDiv (.var 5) (.cint 36)) (.cint 4)) (.cint 1)) (.seq (.asg 9 (.call 8 (.cons (.bin .Add (.bin .FloorDiv (.var 5) (.cint 144)) (.bin .Mult (.var 8) (.bin .Add (.cint 1) (.bin .Mod (.var 5) (.cint 4))))) .nil))) .skip) .skip) (.seq (.ite (.and (.cmp .Eq (.bin .Mod (.bin .FloorDiv (.var 5) (.cint 36)) (.cint 4)) (.cint 2)) (.cmp .Gt (.bin .Mod (.bin .Add (.bin .FloorDiv (.var 5) (.cint 144)) (.var 8)) (.cint 3)) (.cint 0))) (.seq (.asg 6 (.tupD (.cons (.var 4) (.cons (.tupD (.cons (.cstr (Str.ofString "num")) (.cons (.var 9) .nil))) (.cons (.var 6) .nil))))) .skip) (.seq (.asg 6 (.tupD (.cons (.var 4) (.cons (.var 6) (.cons (.tupD (.cons (.cstr (Str.ofString "num")) (.cons (.var 9) .nil))) .nil))))) .skip)) .skip)))) (.seq (.ret (.var 6)) .skip)))) [sc, sd, .fr (.int cell), ro, .fr (.str (Str.ofString w)), .fr (.int (cell / 20160)), .fr c, .unset, .unset, .unset]) = .ok (c', false) ∧ Ex 60 c' ∧ wt c' ≤ wt c + 200 := by
  obtain ⟨t, tl, rfl, _, hn⟩ := hc.tagN
  obtain ⟨c0, c1⟩ := id hcell
  have key : ∀ (q m : Int), (q = 60 ∧ t = "name") ∨ q = 30 → (m = cell / 168 % q ∨ m = 1 + cell / 168 % q % 4) → ∃ c' t' u', forLoop (bodyS (orc fns globs (n + 1)) globs 8 (.seq (.asg 9 (.call 12 (.cons (.var 4) (.cons (.bin .Add (.bin .FloorDiv (.var 5) (.cint 4)) (.bin .Mult (.var 8) (.bin .Add (.cint 1) (.bin .Mod (.var 5) (.cint 4))))) .nil)))) (.seq (.ite (.cmp .Eq (.bin .Mod (.bin .FloorDiv (.var 5) (.cint 36)) (.cint 4)) (.cint 1)) (.seq (.asg 9 (.call 8 (.cons (.bin .Add (.bin .FloorDiv (.var 5) (.cint 144)) (.bin .Mult (.var 8) (.bin .Add (.cint 1) (.bin .Mod (.var 5) (.cint 4))))) .nil))) .skip) .skip) (.seq (.ite (.and (.cmp .Eq (.bin .Mod (.bin .FloorDiv (.var 5) (.cint 36)) (.cint 4)) (.cint 2)) (.cmp .Gt (.bin .Mod (.bin .Add (.bin .FloorDiv (.var 5) (.cint 144)) (.var 8)) (.cint 3)) (.cint 0))) (.seq (.asg 6 (.tupD (.cons (.var 4) (.cons (.tupD (.cons (.cstr (Str.ofString "num")) (.cons (.var 9) .nil))) (.cons (.var 6) .nil))))) .skip) (.seq (.asg 6 (.tupD (.cons (.var 4) (.cons (.var 6) (.cons (.tupD (.cons (.cstr (Str.ofString "num")) (.cons (.var 9) .nil))) .nil))))) .skip)) .skip)))) (rangeD 0 m) [sc, sd, .fr (.int cell), ro, .fr (.str (Str.ofString w)), .fr (.int (cell / 20160)), .fr (.tuple (.str (Str.ofString t) :: tl)), .fr (.int m), .unset, .unset] = .next [sc, sd, .fr (.int cell), ro, .fr (.str (Str.ofString w)), .fr (.int (cell / 20160)), .fr c', .fr (.int m), t', u'] ∧ (Ex 60 c' ∧ wt c' ≤ wt (.tuple (.str (Str.ofString t) :: tl)) + 200) ∧ 0 ≤ m ∧ m < 100 := by
    intro q m hq hm
    have hm2 : 0 ≤ m ∧ m ≤ q ∧ m < 60 := by
      rcases hq with ⟨rfl, _⟩ | rfl <;> rcases hm with hm | hm <;> omega
    have hr : ∀ x ∈ rangeD 0 m, ∃ k : Int, x = .int k ∧ Ki k := fun x hx => by
      obtain ⟨k, q, q1, q2⟩ := range_mem hx
      exact ⟨k, q, q1, by omega⟩
    rcases hq with ⟨_, ht⟩ | rfl
    · obtain ⟨c', t', u', e, h, h3⟩ := expr_loop n sc sd (.fr (.int cell)) ro (.fr (.int m)) hw (cell / 20160) (hcell.div (by decide)) (by omega) (rangeD 0 m) _ .unset .unset 0 hr (hn ht)
      rw [range_length] at h h3
      exact ⟨c', t', u', e, ⟨h.mono (by omega), by omega⟩, by omega, by omega⟩
    · obtain ⟨c', t', u', e, h, h3⟩ := expr_loop n sc sd (.fr (.int cell)) ro (.fr (.int m)) hw (cell / 20160) (hcell.div (by decide)) (by omega) (rangeD 0 m) _ .unset .unset d hr hc
      rw [range_length] at h h3
      exact ⟨c', t', u', e, ⟨h.mono (by omega), by omega⟩, by omega, by omega⟩
  have m301 := mul_ok (a := 30) (b := 1) (by decide) (by decide) (by decide) (by decide)
  have m300 := mul_ok (a := 30) (b := 0) (by decide) (by decide) (by decide) (by decide)
  have rg : ∀ (O : Orc) (b : MS) (s : Slot) (ρ : Env) (m : Int), 0 ≤ m → m < 100 → rngS O globs 8 b (s :: ρ) (.ok (.int 0)) (.ok (.int m)) = forLoop (bodyS O globs 8 b) (rangeD 0 m) (s :: ρ) := fun O b s ρ m h0 h1 => ZaX (by decide) (by decide) (by omega) (by omega)
  by_cases ht : t = "name"
  · by_cases q4 : (cell / 10080 % 2 == 1) = true
    · obtain ⟨c', t', u', e, h, m0, m1⟩ := key 60 (1 + cell / 168 % 60 % 4) (.inl ⟨rfl, ht⟩) (.inr rfl)
      subst ht
      exact ⟨c', by simp (disch := (first | assumption | decide | exact Zbp _ | (refine Sm.div ?_ ?_ <;> first | assumption | decide))) only [Za0, ZbH, ZbN, ZbI, ZbL, Za3, ZaC, Zb3, Zai, Zaw, ZbP, ZaN, ZbZ, Zb0, Zbv, ZbD, ZaU, ZbY, Zb4, Zb9, ZbT, Zcd, Zb5, ZbG, Zb2, Zb6, ZbQ, ZbE, ZbV, ZaJ, Zbz, Zbw, Zca, Zcb, Zcc, Zce, Zcf, Zb8, Zbh, Za9, Zbr, Zbt, ZaF, ZaG, ZaK, optInt_int, ZaR, ZaQ, ZbA, Zbk, Zbq, ZbX, ZaY, Zag, Zak, Zal, Zb1, ZbR, Zan, Zar, Zah, Zaq, Int.reduceToNat, Int.toNat_natCast, Zad, ZbK, ZbW, ZbO, Zbx, ZaT, List.getElem?_cons_zero, List.getElem?_cons_succ, Zch, Zcg, Zau, Zbj, ZaB, ZaV, Zaj, ZaD, ZaI, Zac, Zat, Zbe, Zba, Zav, Zbn, Za1, ZaM, Zax, Zbf, Zay, Zby, Zaz, Zap, ZaW, Zao, ZaH, Zbi, ZaP, Zaf, Zab, Zae, Zaa, aliasOk, Za5, Bool.false_eq_true, Bool.or_false, Bool.false_or, Bool.or_self, Bool.or_true, Bool.true_or, Bool.and_true, Bool.true_and, Bool.and_self, Bool.not_false, Bool.not_true, Bool.and_false, Bool.false_and, if_false, if_true, reduceIte, ZaZ, ZbJ, String.reduceBEq, String.reduceBNe, String.reduceEq, ZbM, Za2, Zbl, Zbb, ZaS, ZaE, ZaL, ZbC, Zbu, ZaO, ZaA, Zam, Zas, ZbS, Za7, Zbs, Za8, Zbm, Za4, ZbB, Za6, Zbo, Zbd, ZbF, Zbc, Zbg, ZbU, ZaX, Bool.not_eq_true', rg, q4, m301, m300, Int.reduceMul, Int.reduceAdd, e], h⟩
    · replace q4 := Bool.eq_false_iff.mpr q4
      obtain ⟨c', t', u', e, h, m0, m1⟩ := key 60 (cell / 168 % 60) (.inl ⟨rfl, ht⟩) (.inl rfl)
      subst ht
      exact ⟨c', by simp (disch := (first | assumption | decide | exact Zbp _ | (refine Sm.div ?_ ?_ <;> first | assumption | decide))) only [Za0, ZbH, ZbN, ZbI, ZbL, Za3, ZaC, Zb3, Zai, Zaw, ZbP, ZaN, ZbZ, Zb0, Zbv, ZbD, ZaU, ZbY, Zb4, Zb9, ZbT, Zcd, Zb5, ZbG, Zb2, Zb6, ZbQ, ZbE, ZbV, ZaJ, Zbz, Zbw, Zca, Zcb, Zcc, Zce, Zcf, Zb8, Zbh, Za9, Zbr, Zbt, ZaF, ZaG, ZaK, optInt_int, ZaR, ZaQ, ZbA, Zbk, Zbq, ZbX, ZaY, Zag, Zak, Zal, Zb1, ZbR, Zan, Zar, Zah, Zaq, Int.reduceToNat, Int.toNat_natCast, Zad, ZbK, ZbW, ZbO, Zbx, ZaT, List.getElem?_cons_zero, List.getElem?_cons_succ, Zch, Zcg, Zau, Zbj, ZaB, ZaV, Zaj, ZaD, ZaI, Zac, Zat, Zbe, Zba, Zav, Zbn, Za1, ZaM, Zax, Zbf, Zay, Zby, Zaz, Zap, ZaW, Zao, ZaH, Zbi, ZaP, Zaf, Zab, Zae, Zaa, aliasOk, Za5, Bool.false_eq_true, Bool.or_false, Bool.false_or, Bool.or_self, Bool.or_true, Bool.true_or, Bool.and_true, Bool.true_and, Bool.and_self, Bool.not_false, Bool.not_true, Bool.and_false, Bool.false_and, if_false, if_true, reduceIte, ZaZ, ZbJ, String.reduceBEq, String.reduceBNe, String.reduceEq, ZbM, Za2, Zbl, Zbb, ZaS, ZaE, ZaL, ZbC, Zbu, ZaO, ZaA, Zam, Zas, ZbS, Za7, Zbs, Za8, Zbm, Za4, ZbB, Za6, Zbo, Zbd, ZbF, Zbc, Zbg, ZbU, ZaX, Bool.not_eq_true', rg, q4, m301, m300, Int.reduceMul, Int.reduceAdd, e], h⟩
  · have hv : (t == "name") = false := beq_eq_false_iff_ne.mpr ht
    by_cases q4 : (cell / 10080 % 2 == 1) = true
    · obtain ⟨c', t', u', e, h, m0, m1⟩ := key 30 (1 + cell / 168 % 30 % 4) (.inr rfl) (.inr rfl)
      exact ⟨c', by simp (disch := (first | assumption | decide | exact Zbp _ | (refine Sm.div ?_ ?_ <;> first | assumption | decide))) only [Za0, ZbH, ZbN, ZbI, ZbL, Za3, ZaC, Zb3, Zai, Zaw, ZbP, ZaN, ZbZ, Zb0, Zbv, ZbD, ZaU, ZbY, Zb4, Zb9, ZbT, Zcd, Zb5, ZbG, Zb2, Zb6, ZbQ, ZbE, ZbV, ZaJ, Zbz, Zbw, Zca, Zcb, Zcc, Zce, Zcf, Zb8, Zbh, Za9, Zbr, Zbt, ZaF, ZaG, ZaK, optInt_int, ZaR, ZaQ, ZbA, Zbk, Zbq, ZbX, ZaY, Zag, Zak, Zal, Zb1, ZbR, Zan, Zar, Zah, Zaq, Int.reduceToNat, Int.toNat_natCast, Zad, ZbK, ZbW, ZbO, Zbx, ZaT, List.getElem?_cons_zero, List.getElem?_cons_succ, Zch, Zcg, Zau, Zbj, ZaB, ZaV, Zaj, ZaD, ZaI, Zac, Zat, Zbe, Zba, Zav, Zbn, Za1, ZaM, Zax, Zbf, Zay, Zby, Zaz, Zap, ZaW, Zao, ZaH, Zbi, ZaP, Zaf, Zab, Zae, Zaa, aliasOk, Za5, Bool.false_eq_true, Bool.or_false, Bool.false_or, Bool.or_self, Bool.or_true, Bool.true_or, Bool.and_true, Bool.true_and, Bool.and_self, Bool.not_false, Bool.not_true, Bool.and_false, Bool.false_and, if_false, if_true, reduceIte, ZaZ, ZbJ, String.reduceBEq, String.reduceBNe, String.reduceEq, ZbM, Za2, Zbl, Zbb, ZaS, ZaE, ZaL, ZbC, Zbu, ZaO, ZaA, Zam, Zas, ZbS, Za7, Zbs, Za8, Zbm, Za4, ZbB, Za6, Zbo, Zbd, ZbF, Zbc, Zbg, ZbU, ZaX, Bool.not_eq_true', rg, hv, q4, m301, m300, Int.reduceMul, Int.reduceAdd, e], h⟩
    · replace q4 := Bool.eq_false_iff.mpr q4
      obtain ⟨c', t', u', e, h, m0, m1⟩ := key 30 (cell / 168 % 30) (.inr rfl) (.inl rfl)
      exact ⟨c', by simp (disch := (first | assumption | decide | exact Zbp _ | (refine Sm.div ?_ ?_ <;> first | assumption | decide))) only [Za0, ZbH, ZbN, ZbI, ZbL, Za3, ZaC, Zb3, Zai, Zaw, ZbP, ZaN, ZbZ, Zb0, Zbv, ZbD, ZaU, ZbY, Zb4, Zb9, ZbT, Zcd, Zb5, ZbG, Zb2, Zb6, ZbQ, ZbE, ZbV, ZaJ, Zbz, Zbw, Zca, Zcb, Zcc, Zce, Zcf, Zb8, Zbh, Za9, Zbr, Zbt, ZaF, ZaG, ZaK, optInt_int, ZaR, ZaQ, ZbA, Zbk, Zbq, ZbX, ZaY, Zag, Zak, Zal, Zb1, ZbR, Zan, Zar, Zah, Zaq, Int.reduceToNat, Int.toNat_natCast, Zad, ZbK, ZbW, ZbO, Zbx, ZaT, List.getElem?_cons_zero, List.getElem?_cons_succ, Zch, Zcg, Zau, Zbj, ZaB, ZaV, Zaj, ZaD, ZaI, Zac, Zat, Zbe, Zba, Zav, Zbn, Za1, ZaM, Zax, Zbf, Zay, Zby, Zaz, Zap, ZaW, Zao, ZaH, Zbi, ZaP, Zaf, Zab, Zae, Zaa, aliasOk, Za5, Bool.false_eq_true, Bool.or_false, Bool.false_or, Bool.or_self, Bool.or_true, Bool.true_or, Bool.and_true, Bool.true_and, Bool.and_self, Bool.not_false, Bool.not_true, Bool.and_false, Bool.false_and, if_false, if_true, reduceIte, ZaZ, ZbJ, String.reduceBEq, String.reduceBNe, String.reduceEq, ZbM, Za2, Zbl, Zbb, ZaS, ZaE, ZaL, ZbC, Zbu, ZaO, ZaA, Zam, Zas, ZbS, Za7, Zbs, Za8, Zbm, Za4, ZbB, Za6, Zbo, Zbd, ZbF, Zbc, Zbg, ZbU, ZaX, Bool.not_eq_true', rg, hv, q4, m301, m300, Int.reduceMul, Int.reduceAdd, e], h⟩
theorem expr_by_ok (n : Nat) (ys : List Int) (hl : ys.length ≤ 63) (hy : ∀ y ∈ ys, Sm y) :
    ∃ e, (orc fns globs (n + 4)).fn 14 [.list (ys.map PyData.int)] = .ok (e, false) ∧ Ex 60 e ∧ wt e ≤ 400 := by
  rw [orc_fn (F := F_law_expr_by) rfl rfl]
  show ∃ e, fin (ex _ _ F_law_expr_by.body [.fr _, .unset, .unset, .unset, .unset, .unset, .unset, .unset, .unset, .unset]) = _ ∧ _
  unfold F_law_expr_by
  have hm : (ys.map PyData.int).length = ys.length := List.length_map ..
  obtain ⟨seed, e0, hs⟩ := cell_at_i (n + 2) ys 0 ⟨by decide, by decide⟩ (by omega) hy
  obtain ⟨cell, e1, hcell⟩ := cell_at_i (n + 2) ys 1 ⟨by decide, by decide⟩ (by omega) hy
  have f1 := slice_ints (ys := ys) (a := 2) (b := 28) (by omega) (by omega) (by omega) (by omega) (by omega)
  have f2 := slice_ints (ys := ys) (a := 2) (b := 8) (by omega) (by omega) (by omega) (by omega) (by omega)
  have l1 : (cut ys (some 2) (some 28)).length ≤ 26 := by rw [cut_both_len _ (by omega) (by omega)]; omega
  have l2 : (cut ys (some 2) (some 8)).length ≤ 6 := by rw [cut_both_len _ (by omega) (by omega)]; omega
  have hlen : b1D .len (.list (ys.map PyData.int)) = .ok (.int ys.length) := by rw [len_list_ok (by omega), hm]
  have h63 : decide (63 < (ys.length : Int)) = false := decide_eq_false (by omega)
  rw [peel_asg (d := .int seed) (by simp (disch := (first | assumption | decide | exact Zbp _ | (refine Sm.div ?_ ?_ <;> first | assumption | decide))) only [Za0, ZbH, ZbN, ZbI, ZbL, Za3, ZaC, Zb3, Zai, Zaw, ZbP, ZaN, ZbZ, Zb0, Zbv, ZbD, ZaU, ZbY, Zb4, Zb9, ZbT, Zcd, Zb5, ZbG, Zb2, Zb6, ZbQ, ZbE, ZbV, ZaJ, Zbz, Zbw, Zca, Zcb, Zcc, Zce, Zcf, Zb8, Zbh, Za9, Zbr, Zbt, ZaF, ZaG, ZaK, optInt_int, ZaR, ZaQ, ZbA, Zbk, Zbq, ZbX, ZaY, Zag, Zak, Zal, Zb1, ZbR, Zan, Zar, Zah, Zaq, Int.reduceToNat, Int.toNat_natCast, Zad, ZbK, ZbW, ZbO, Zbx, ZaT, List.getElem?_cons_zero, List.getElem?_cons_succ, Zch, Zcg, Zau, Zbj, ZaB, ZaV, Zaj, ZaD, ZaI, Zac, Zat, Zbe, Zba, Zav, Zbn, Za1, ZaM, Zax, Zbf, Zay, Zby, Zaz, Zap, ZaW, Zao, ZaH, Zbi, ZaP, Zaf, Zab, Zae, Zaa, aliasOk, Za5, Bool.false_eq_true, Bool.or_false, Bool.false_or, Bool.or_self, Bool.or_true, Bool.true_or, Bool.and_true, Bool.true_and, Bool.and_self, Bool.not_false, Bool.not_true, Bool.and_false, Bool.false_and, if_false, if_true, reduceIte, ZaZ, ZbJ, String.reduceBEq, String.reduceBNe, String.reduceEq, ZbM, Za2, Zbl, Zbb, ZaS, ZaE, ZaL, ZbC, Zbu, ZaO, ZaA, Zam, Zas, ZbS, Za7, Zbs, Za8, Zbm, Za4, ZbB, Za6, Zbo, Zbd, ZbF, Zbc, Zbg, ZbU, ZaX, Bool.not_eq_true', e0]) rfl, Zcg, Zch, peel_asg (d := .int cell) (by simp (disch := (first | assumption | decide | exact Zbp _ | (refine Sm.div ?_ ?_ <;> first | assumption | decide))) only [Za0, ZbH, ZbN, ZbI, ZbL, Za3, ZaC, Zb3, Zai, Zaw, ZbP, ZaN, ZbZ, Zb0, Zbv, ZbD, ZaU, ZbY, Zb4, Zb9, ZbT, Zcd, Zb5, ZbG, Zb2, Zb6, ZbQ, ZbE, ZbV, ZaJ, Zbz, Zbw, Zca, Zcb, Zcc, Zce, Zcf, Zb8, Zbh, Za9, Zbr, Zbt, ZaF, ZaG, ZaK, optInt_int, ZaR, ZaQ, ZbA, Zbk, Zbq, ZbX, ZaY, Zag, Zak, Zal, Zb1, ZbR, Zan, Zar, Zah, Zaq, Int.reduceToNat, Int.toNat_natCast, Zad, ZbK, ZbW, ZbO, Zbx, ZaT, List.getElem?_cons_zero, List.getElem?_cons_succ, Zch, Zcg, Zau, Zbj, ZaB, ZaV, Zaj, ZaD, ZaI, Zac, Zat, Zbe, Zba, Zav, Zbn, Za1, ZaM, Zax, Zbf, Zay, Zby, Zaz, Zap, ZaW, Zao, ZaH, Zbi, ZaP, Zaf, Zab, Zae, Zaa, aliasOk, Za5, Bool.false_eq_true, Bool.or_false, Bool.false_or, Bool.or_self, Bool.or_true, Bool.true_or, Bool.and_true, Bool.true_and, Bool.and_self, Bool.not_false, Bool.not_true, Bool.and_false, Bool.false_and, if_false, if_true, reduceIte, ZaZ, ZbJ, String.reduceBEq, String.reduceBNe, String.reduceEq, ZbM, Za2, Zbl, Zbb, ZaS, ZaE, ZaL, ZbC, Zbu, ZaO, ZaA, Zam, Zas, ZbS, Za7, Zbs, Za8, Zbm, Za4, ZbB, Za6, Zbo, Zbd, ZbF, Zbc, Zbg, ZbU, ZaX, Bool.not_eq_true', e1]) rfl, Zcg, Zcg, Zch, peel_asg (d := .int 26) (by simp (disch := (first | assumption | decide | exact Zbp _ | (refine Sm.div ?_ ?_ <;> first | assumption | decide))) only [Za0, ZbH, ZbN, ZbI, ZbL, Za3, ZaC, Zb3, Zai, Zaw, ZbP, ZaN, ZbZ, Zb0, Zbv, ZbD, ZaU, ZbY, Zb4, Zb9, ZbT, Zcd, Zb5, ZbG, Zb2, Zb6, ZbQ, ZbE, ZbV, ZaJ, Zbz, Zbw, Zca, Zcb, Zcc, Zce, Zcf, Zb8, Zbh, Za9, Zbr, Zbt, ZaF, ZaG, ZaK, optInt_int, ZaR, ZaQ, ZbA, Zbk, Zbq, ZbX, ZaY, Zag, Zak, Zal, Zb1, ZbR, Zan, Zar, Zah, Zaq, Int.reduceToNat, Int.toNat_natCast, Zad, ZbK, ZbW, ZbO, Zbx, ZaT, List.getElem?_cons_zero, List.getElem?_cons_succ, Zch, Zcg, Zau, Zbj, ZaB, ZaV, Zaj, ZaD, ZaI, Zac, Zat, Zbe, Zba, Zav, Zbn, Za1, ZaM, Zax, Zbf, Zay, Zby, Zaz, Zap, ZaW, Zao, ZaH, Zbi, ZaP, Zaf, Zab, Zae, Zaa, aliasOk, Za5, Bool.false_eq_true, Bool.or_false, Bool.false_or, Bool.or_self, Bool.or_true, Bool.true_or, Bool.and_true, Bool.true_and, Bool.and_self, Bool.not_false, Bool.not_true, Bool.and_false, Bool.false_and, if_false, if_true, reduceIte, ZaZ, ZbJ, String.reduceBEq, String.reduceBNe, String.reduceEq, ZbM, Za2, Zbl, Zbb, ZaS, ZaE, ZaL, ZbC, Zbu, ZaO, ZaA, Zam, Zas, ZbS, Za7, Zbs, Za8, Zbm, Za4, ZbB, Za6, Zbo, Zbd, ZbF, Zbc, Zbg, ZbU, ZaX, Bool.not_eq_true']) rfl, Zcg, Zcg, Zcg, Zch, peel_f (by simp (disch := (first | assumption | decide | exact Zbp _ | (refine Sm.div ?_ ?_ <;> first | assumption | decide))) only [Za0, ZbH, ZbN, ZbI, ZbL, Za3, ZaC, Zb3, Zai, Zaw, ZbP, ZaN, ZbZ, Zb0, Zbv, ZbD, ZaU, ZbY, Zb4, Zb9, ZbT, Zcd, Zb5, ZbG, Zb2, Zb6, ZbQ, ZbE, ZbV, ZaJ, Zbz, Zbw, Zca, Zcb, Zcc, Zce, Zcf, Zb8, Zbh, Za9, Zbr, Zbt, ZaF, ZaG, ZaK, optInt_int, ZaR, ZaQ, ZbA, Zbk, Zbq, ZbX, ZaY, Zag, Zak, Zal, Zb1, ZbR, Zan, Zar, Zah, Zaq, Int.reduceToNat, Int.toNat_natCast, Zad, ZbK, ZbW, ZbO, Zbx, ZaT, List.getElem?_cons_zero, List.getElem?_cons_succ, Zch, Zcg, Zau, Zbj, ZaB, ZaV, Zaj, ZaD, ZaI, Zac, Zat, Zbe, Zba, Zav, Zbn, Za1, ZaM, Zax, Zbf, Zay, Zby, Zaz, Zap, ZaW, Zao, ZaH, Zbi, ZaP, Zaf, Zab, Zae, Zaa, aliasOk, Za5, Bool.false_eq_true, Bool.or_false, Bool.false_or, Bool.or_self, Bool.or_true, Bool.true_or, Bool.and_true, Bool.true_and, Bool.and_self, Bool.not_false, Bool.not_true, Bool.and_false, Bool.false_and, if_false, if_true, reduceIte, ZaZ, ZbJ, String.reduceBEq, String.reduceBNe, String.reduceEq, ZbM, Za2, Zbl, Zbb, ZaS, ZaE, ZaL, ZbC, Zbu, ZaO, ZaA, Zam, Zas, ZbS, Za7, Zbs, Za8, Zbm, Za4, ZbB, Za6, Zbo, Zbd, ZbF, Zbc, Zbg, ZbU, ZaX, Bool.not_eq_true', hlen, h63])]
  by_cases q1 : decide (cell % 8 < 4) = true
  · obtain ⟨ea, fa, ha, wa⟩ := tree_by_ok n (cut ys (some 2) (some 28)) seed hs (by omega) fun y h => hy y (mem_cut h)
    rw [peel_t (by simp (disch := (first | assumption | decide | exact Zbp _ | (refine Sm.div ?_ ?_ <;> first | assumption | decide))) only [Za0, ZbH, ZbN, ZbI, ZbL, Za3, ZaC, Zb3, Zai, Zaw, ZbP, ZaN, ZbZ, Zb0, Zbv, ZbD, ZaU, ZbY, Zb4, Zb9, ZbT, Zcd, Zb5, ZbG, Zb2, Zb6, ZbQ, ZbE, ZbV, ZaJ, Zbz, Zbw, Zca, Zcb, Zcc, Zce, Zcf, Zb8, Zbh, Za9, Zbr, Zbt, ZaF, ZaG, ZaK, optInt_int, ZaR, ZaQ, ZbA, Zbk, Zbq, ZbX, ZaY, Zag, Zak, Zal, Zb1, ZbR, Zan, Zar, Zah, Zaq, Int.reduceToNat, Int.toNat_natCast, Zad, ZbK, ZbW, ZbO, Zbx, ZaT, List.getElem?_cons_zero, List.getElem?_cons_succ, Zch, Zcg, Zau, Zbj, ZaB, ZaV, Zaj, ZaD, ZaI, Zac, Zat, Zbe, Zba, Zav, Zbn, Za1, ZaM, Zax, Zbf, Zay, Zby, Zaz, Zap, ZaW, Zao, ZaH, Zbi, ZaP, Zaf, Zab, Zae, Zaa, aliasOk, Za5, Bool.false_eq_true, Bool.or_false, Bool.false_or, Bool.or_self, Bool.or_true, Bool.true_or, Bool.and_true, Bool.true_and, Bool.and_self, Bool.not_false, Bool.not_true, Bool.and_false, Bool.false_and, if_false, if_true, reduceIte, ZaZ, ZbJ, String.reduceBEq, String.reduceBNe, String.reduceEq, ZbM, Za2, Zbl, Zbb, ZaS, ZaE, ZaL, ZbC, Zbu, ZaO, ZaA, Zam, Zas, ZbS, Za7, Zbs, Za8, Zbm, Za4, ZbB, Za6, Zbo, Zbd, ZbF, Zbc, Zbg, ZbU, ZaX, Bool.not_eq_true', q1]) (peel_ret (d := ea) (by simp (disch := (first | assumption | decide | exact Zbp _ | (refine Sm.div ?_ ?_ <;> first | assumption | decide))) only [Za0, ZbH, ZbN, ZbI, ZbL, Za3, ZaC, Zb3, Zai, Zaw, ZbP, ZaN, ZbZ, Zb0, Zbv, ZbD, ZaU, ZbY, Zb4, Zb9, ZbT, Zcd, Zb5, ZbG, Zb2, Zb6, ZbQ, ZbE, ZbV, ZaJ, Zbz, Zbw, Zca, Zcb, Zcc, Zce, Zcf, Zb8, Zbh, Za9, Zbr, Zbt, ZaF, ZaG, ZaK, optInt_int, ZaR, ZaQ, ZbA, Zbk, Zbq, ZbX, ZaY, Zag, Zak, Zal, Zb1, ZbR, Zan, Zar, Zah, Zaq, Int.reduceToNat, Int.toNat_natCast, Zad, ZbK, ZbW, ZbO, Zbx, ZaT, List.getElem?_cons_zero, List.getElem?_cons_succ, Zch, Zcg, Zau, Zbj, ZaB, ZaV, Zaj, ZaD, ZaI, Zac, Zat, Zbe, Zba, Zav, Zbn, Za1, ZaM, Zax, Zbf, Zay, Zby, Zaz, Zap, ZaW, Zao, ZaH, Zbi, ZaP, Zaf, Zab, Zae, Zaa, aliasOk, Za5, Bool.false_eq_true, Bool.or_false, Bool.false_or, Bool.or_self, Bool.or_true, Bool.true_or, Bool.and_true, Bool.true_and, Bool.and_self, Bool.not_false, Bool.not_true, Bool.and_false, Bool.false_and, if_false, if_true, reduceIte, ZaZ, ZbJ, String.reduceBEq, String.reduceBNe, String.reduceEq, ZbM, Za2, Zbl, Zbb, ZaS, ZaE, ZaL, ZbC, Zbu, ZaO, ZaA, Zam, Zas, ZbS, Za7, Zbs, Za8, Zbm, Za4, ZbB, Za6, Zbo, Zbd, ZbF, Zbc, Zbg, ZbU, ZaX, Bool.not_eq_true', Int.reduceAdd, f1, fa]))]
    exact ⟨ea, rfl, ha.mono (by omega), by omega⟩
  rw [peel_f (by simp (disch := (first | assumption | decide | exact Zbp _ | (refine Sm.div ?_ ?_ <;> first | assumption | decide))) only [Za0, ZbH, ZbN, ZbI, ZbL, Za3, ZaC, Zb3, Zai, Zaw, ZbP, ZaN, ZbZ, Zb0, Zbv, ZbD, ZaU, ZbY, Zb4, Zb9, ZbT, Zcd, Zb5, ZbG, Zb2, Zb6, ZbQ, ZbE, ZbV, ZaJ, Zbz, Zbw, Zca, Zcb, Zcc, Zce, Zcf, Zb8, Zbh, Za9, Zbr, Zbt, ZaF, ZaG, ZaK, optInt_int, ZaR, ZaQ, ZbA, Zbk, Zbq, ZbX, ZaY, Zag, Zak, Zal, Zb1, ZbR, Zan, Zar, Zah, Zaq, Int.reduceToNat, Int.toNat_natCast, Zad, ZbK, ZbW, ZbO, Zbx, ZaT, List.getElem?_cons_zero, List.getElem?_cons_succ, Zch, Zcg, Zau, Zbj, ZaB, ZaV, Zaj, ZaD, ZaI, Zac, Zat, Zbe, Zba, Zav, Zbn, Za1, ZaM, Zax, Zbf, Zay, Zby, Zaz, Zap, ZaW, Zao, ZaH, Zbi, ZaP, Zaf, Zab, Zae, Zaa, aliasOk, Za5, Bool.false_eq_true, Bool.or_false, Bool.false_or, Bool.or_self, Bool.or_true, Bool.true_or, Bool.and_true, Bool.true_and, Bool.and_self, Bool.not_false, Bool.not_true, Bool.and_false, Bool.false_and, if_false, if_true, reduceIte, ZaZ, ZbJ, String.reduceBEq, String.reduceBNe, String.reduceEq, ZbM, Za2, Zbl, Zbb, ZaS, ZaE, ZaL, ZbC, Zbu, ZaO, ZaA, Zam, Zas, ZbS, Za7, Zbs, Za8, Zbm, Za4, ZbB, Za6, Zbo, Zbd, ZbF, Zbc, Zbg, ZbU, ZaX, Bool.not_eq_true', Bool.eq_false_iff.mpr q1])]
  by_cases q2 : (cell % 8 == 7) = true
  · obtain ⟨ec, fc, hc, wc⟩ := many_by_ok (n + 1) seed (cell / 8) hs (hcell.div (by decide))
    rw [peel_t (by simp (disch := (first | assumption | decide | exact Zbp _ | (refine Sm.div ?_ ?_ <;> first | assumption | decide))) only [Za0, ZbH, ZbN, ZbI, ZbL, Za3, ZaC, Zb3, Zai, Zaw, ZbP, ZaN, ZbZ, Zb0, Zbv, ZbD, ZaU, ZbY, Zb4, Zb9, ZbT, Zcd, Zb5, ZbG, Zb2, Zb6, ZbQ, ZbE, ZbV, ZaJ, Zbz, Zbw, Zca, Zcb, Zcc, Zce, Zcf, Zb8, Zbh, Za9, Zbr, Zbt, ZaF, ZaG, ZaK, optInt_int, ZaR, ZaQ, ZbA, Zbk, Zbq, ZbX, ZaY, Zag, Zak, Zal, Zb1, ZbR, Zan, Zar, Zah, Zaq, Int.reduceToNat, Int.toNat_natCast, Zad, ZbK, ZbW, ZbO, Zbx, ZaT, List.getElem?_cons_zero, List.getElem?_cons_succ, Zch, Zcg, Zau, Zbj, ZaB, ZaV, Zaj, ZaD, ZaI, Zac, Zat, Zbe, Zba, Zav, Zbn, Za1, ZaM, Zax, Zbf, Zay, Zby, Zaz, Zap, ZaW, Zao, ZaH, Zbi, ZaP, Zaf, Zab, Zae, Zaa, aliasOk, Za5, Bool.false_eq_true, Bool.or_false, Bool.false_or, Bool.or_self, Bool.or_true, Bool.true_or, Bool.and_true, Bool.true_and, Bool.and_self, Bool.not_false, Bool.not_true, Bool.and_false, Bool.false_and, if_false, if_true, reduceIte, ZaZ, ZbJ, String.reduceBEq, String.reduceBNe, String.reduceEq, ZbM, Za2, Zbl, Zbb, ZaS, ZaE, ZaL, ZbC, Zbu, ZaO, ZaA, Zam, Zas, ZbS, Za7, Zbs, Za8, Zbm, Za4, ZbB, Za6, Zbo, Zbd, ZbF, Zbc, Zbg, ZbU, ZaX, Bool.not_eq_true', q2]) (peel_ret (d := ec) (by simp (disch := (first | assumption | decide | exact Zbp _ | (refine Sm.div ?_ ?_ <;> first | assumption | decide))) only [Za0, ZbH, ZbN, ZbI, ZbL, Za3, ZaC, Zb3, Zai, Zaw, ZbP, ZaN, ZbZ, Zb0, Zbv, ZbD, ZaU, ZbY, Zb4, Zb9, ZbT, Zcd, Zb5, ZbG, Zb2, Zb6, ZbQ, ZbE, ZbV, ZaJ, Zbz, Zbw, Zca, Zcb, Zcc, Zce, Zcf, Zb8, Zbh, Za9, Zbr, Zbt, ZaF, ZaG, ZaK, optInt_int, ZaR, ZaQ, ZbA, Zbk, Zbq, ZbX, ZaY, Zag, Zak, Zal, Zb1, ZbR, Zan, Zar, Zah, Zaq, Int.reduceToNat, Int.toNat_natCast, Zad, ZbK, ZbW, ZbO, Zbx, ZaT, List.getElem?_cons_zero, List.getElem?_cons_succ, Zch, Zcg, Zau, Zbj, ZaB, ZaV, Zaj, ZaD, ZaI, Zac, Zat, Zbe, Zba, Zav, Zbn, Za1, ZaM, Zax, Zbf, Zay, Zby, Zaz, Zap, ZaW, Zao, ZaH, Zbi, ZaP, Zaf, Zab, Zae, Zaa, aliasOk, Za5, Bool.false_eq_true, Bool.or_false, Bool.false_or, Bool.or_self, Bool.or_true, Bool.true_or, Bool.and_true, Bool.true_and, Bool.and_self, Bool.not_false, Bool.not_true, Bool.and_false, Bool.false_and, if_false, if_true, reduceIte, ZaZ, ZbJ, String.reduceBEq, String.reduceBNe, String.reduceEq, ZbM, Za2, Zbl, Zbb, ZaS, ZaE, ZaL, ZbC, Zbu, ZaO, ZaA, Zam, Zas, ZbS, Za7, Zbs, Za8, Zbm, Za4, ZbB, Za6, Zbo, Zbd, ZbF, Zbc, Zbg, ZbU, ZaX, Bool.not_eq_true', fc]))]
    exact ⟨ec, rfl, hc.mono (by omega), by omega⟩
  obtain ⟨w, hw, ew⟩ := pick_fivem (cell / 8)
  obtain ⟨x, ex, hx⟩ := name_by_i (n + 2) seed 3 hs ⟨by decide, by decide⟩
  have hcd : Sm (cell / 20160) := hcell.div (by decide)
  rw [peel_f (by simp (disch := (first | assumption | decide | exact Zbp _ | (refine Sm.div ?_ ?_ <;> first | assumption | decide))) only [Za0, ZbH, ZbN, ZbI, ZbL, Za3, ZaC, Zb3, Zai, Zaw, ZbP, ZaN, ZbZ, Zb0, Zbv, ZbD, ZaU, ZbY, Zb4, Zb9, ZbT, Zcd, Zb5, ZbG, Zb2, Zb6, ZbQ, ZbE, ZbV, ZaJ, Zbz, Zbw, Zca, Zcb, Zcc, Zce, Zcf, Zb8, Zbh, Za9, Zbr, Zbt, ZaF, ZaG, ZaK, optInt_int, ZaR, ZaQ, ZbA, Zbk, Zbq, ZbX, ZaY, Zag, Zak, Zal, Zb1, ZbR, Zan, Zar, Zah, Zaq, Int.reduceToNat, Int.toNat_natCast, Zad, ZbK, ZbW, ZbO, Zbx, ZaT, List.getElem?_cons_zero, List.getElem?_cons_succ, Zch, Zcg, Zau, Zbj, ZaB, ZaV, Zaj, ZaD, ZaI, Zac, Zat, Zbe, Zba, Zav, Zbn, Za1, ZaM, Zax, Zbf, Zay, Zby, Zaz, Zap, ZaW, Zao, ZaH, Zbi, ZaP, Zaf, Zab, Zae, Zaa, aliasOk, Za5, Bool.false_eq_true, Bool.or_false, Bool.false_or, Bool.or_self, Bool.or_true, Bool.true_or, Bool.and_true, Bool.true_and, Bool.and_self, Bool.not_false, Bool.not_true, Bool.and_false, Bool.false_and, if_false, if_true, reduceIte, ZaZ, ZbJ, String.reduceBEq, String.reduceBNe, String.reduceEq, ZbM, Za2, Zbl, Zbb, ZaS, ZaE, ZaL, ZbC, Zbu, ZaO, ZaA, Zam, Zas, ZbS, Za7, Zbs, Za8, Zbm, Za4, ZbB, Za6, Zbo, Zbd, ZbF, Zbc, Zbg, ZbU, ZaX, Bool.not_eq_true', Bool.eq_false_iff.mpr q2]), peel_asg (d := .str (Str.ofString w)) (by simp (disch := (first | assumption | decide | exact Zbp _ | (refine Sm.div ?_ ?_ <;> first | assumption | decide))) only [Za0, ZbH, ZbN, ZbI, ZbL, Za3, ZaC, Zb3, Zai, Zaw, ZbP, ZaN, ZbZ, Zb0, Zbv, ZbD, ZaU, ZbY, Zb4, Zb9, ZbT, Zcd, Zb5, ZbG, Zb2, Zb6, ZbQ, ZbE, ZbV, ZaJ, Zbz, Zbw, Zca, Zcb, Zcc, Zce, Zcf, Zb8, Zbh, Za9, Zbr, Zbt, ZaF, ZaG, ZaK, optInt_int, ZaR, ZaQ, ZbA, Zbk, Zbq, ZbX, ZaY, Zag, Zak, Zal, Zb1, ZbR, Zan, Zar, Zah, Zaq, Int.reduceToNat, Int.toNat_natCast, Zad, ZbK, ZbW, ZbO, Zbx, ZaT, List.getElem?_cons_zero, List.getElem?_cons_succ, Zch, Zcg, Zau, Zbj, ZaB, ZaV, Zaj, ZaD, ZaI, Zac, Zat, Zbe, Zba, Zav, Zbn, Za1, ZaM, Zax, Zbf, Zay, Zby, Zaz, Zap, ZaW, Zao, ZaH, Zbi, ZaP, Zaf, Zab, Zae, Zaa, aliasOk, Za5, Bool.false_eq_true, Bool.or_false, Bool.false_or, Bool.or_self, Bool.or_true, Bool.true_or, Bool.and_true, Bool.true_and, Bool.and_self, Bool.not_false, Bool.not_true, Bool.and_false, Bool.false_and, if_false, if_true, reduceIte, ZaZ, ZbJ, String.reduceBEq, String.reduceBNe, String.reduceEq, ZbM, Za2, Zbl, Zbb, ZaS, ZaE, ZaL, ZbC, Zbu, ZaO, ZaA, Zam, Zas, ZbS, Za7, Zbs, Za8, Zbm, Za4, ZbB, Za6, Zbo, Zbd, ZbF, Zbc, Zbg, ZbU, ZaX, Bool.not_eq_true', ew]) rfl, Zcg, Zcg, Zcg, Zcg, Zch, peel_asg (d := .int (cell / 20160)) (by simp (disch := (first | assumption | decide | exact Zbp _ | (refine Sm.div ?_ ?_ <;> first | assumption | decide))) only [Za0, ZbH, ZbN, ZbI, ZbL, Za3, ZaC, Zb3, Zai, Zaw, ZbP, ZaN, ZbZ, Zb0, Zbv, ZbD, ZaU, ZbY, Zb4, Zb9, ZbT, Zcd, Zb5, ZbG, Zb2, Zb6, ZbQ, ZbE, ZbV, ZaJ, Zbz, Zbw, Zca, Zcb, Zcc, Zce, Zcf, Zb8, Zbh, Za9, Zbr, Zbt, ZaF, ZaG, ZaK, optInt_int, ZaR, ZaQ, ZbA, Zbk, Zbq, ZbX, ZaY, Zag, Zak, Zal, Zb1, ZbR, Zan, Zar, Zah, Zaq, Int.reduceToNat, Int.toNat_natCast, Zad, ZbK, ZbW, ZbO, Zbx, ZaT, List.getElem?_cons_zero, List.getElem?_cons_succ, Zch, Zcg, Zau, Zbj, ZaB, ZaV, Zaj, ZaD, ZaI, Zac, Zat, Zbe, Zba, Zav, Zbn, Za1, ZaM, Zax, Zbf, Zay, Zby, Zaz, Zap, ZaW, Zao, ZaH, Zbi, ZaP, Zaf, Zab, Zae, Zaa, aliasOk, Za5, Bool.false_eq_true, Bool.or_false, Bool.false_or, Bool.or_self, Bool.or_true, Bool.true_or, Bool.and_true, Bool.true_and, Bool.and_self, Bool.not_false, Bool.not_true, Bool.and_false, Bool.false_and, if_false, if_true, reduceIte, ZaZ, ZbJ, String.reduceBEq, String.reduceBNe, String.reduceEq, ZbM, Za2, Zbl, Zbb, ZaS, ZaE, ZaL, ZbC, Zbu, ZaO, ZaA, Zam, Zas, ZbS, Za7, Zbs, Za8, Zbm, Za4, ZbB, Za6, Zbo, Zbd, ZbF, Zbc, Zbg, ZbU, ZaX, Bool.not_eq_true']) rfl, Zcg, Zcg, Zcg, Zcg, Zcg, Zch, peel_asg (d := nameE x) (by simp (disch := (first | assumption | decide | exact Zbp _ | (refine Sm.div ?_ ?_ <;> first | assumption | decide))) only [Za0, ZbH, ZbN, ZbI, ZbL, Za3, ZaC, Zb3, Zai, Zaw, ZbP, ZaN, ZbZ, Zb0, Zbv, ZbD, ZaU, ZbY, Zb4, Zb9, ZbT, Zcd, Zb5, ZbG, Zb2, Zb6, ZbQ, ZbE, ZbV, ZaJ, Zbz, Zbw, Zca, Zcb, Zcc, Zce, Zcf, Zb8, Zbh, Za9, Zbr, Zbt, ZaF, ZaG, ZaK, optInt_int, ZaR, ZaQ, ZbA, Zbk, Zbq, ZbX, ZaY, Zag, Zak, Zal, Zb1, ZbR, Zan, Zar, Zah, Zaq, Int.reduceToNat, Int.toNat_natCast, Zad, ZbK, ZbW, ZbO, Zbx, ZaT, List.getElem?_cons_zero, List.getElem?_cons_succ, Zch, Zcg, Zau, Zbj, ZaB, ZaV, Zaj, ZaD, ZaI, Zac, Zat, Zbe, Zba, Zav, Zbn, Za1, ZaM, Zax, Zbf, Zay, Zby, Zaz, Zap, ZaW, Zao, ZaH, Zbi, ZaP, Zaf, Zab, Zae, Zaa, aliasOk, Za5, Bool.false_eq_true, Bool.or_false, Bool.false_or, Bool.or_self, Bool.or_true, Bool.true_or, Bool.and_true, Bool.true_and, Bool.and_self, Bool.not_false, Bool.not_true, Bool.and_false, Bool.false_and, if_false, if_true, reduceIte, ZaZ, ZbJ, String.reduceBEq, String.reduceBNe, String.reduceEq, ZbM, Za2, Zbl, Zbb, ZaS, ZaE, ZaL, ZbC, Zbu, ZaO, ZaA, Zam, Zas, ZbS, Za7, Zbs, Za8, Zbm, Za4, ZbB, Za6, Zbo, Zbd, ZbF, Zbc, Zbg, ZbU, ZaX, Bool.not_eq_true', ex]) rfl, Zcg, Zcg, Zcg, Zcg, Zcg, Zcg, Zch]
  have rest := expr_rest (n + 2) (.fr (.list (ys.map PyData.int))) (.fr (.int seed)) (.fr (.int 26)) hw cell hcell
  by_cases q3 : (cell / 56 % 3 == 1) = true
  · obtain ⟨eb, fb, hb, wb⟩ := tree_by_ok n (cut ys (some 2) (some 8)) seed hs (by omega) fun y h => hy y (mem_cut h)
    obtain ⟨c', e, h, hw'⟩ := rest eb _ hb (by omega)
    have q4 : (cell / 56 % 3 == 2) = false := beq_eq_false_iff_ne.mpr fun q => by rw [q] at q3; cases q3
    rw [peel_tn (ρ' := [.fr (.list (ys.map PyData.int)), .fr (.int seed), .fr (.int cell), .fr (.int 26), .fr (.str (Str.ofString w)), .fr (.int (cell / 20160)), .fr eb, .unset, .unset, .unset]) (by simp (disch := (first | assumption | decide | exact Zbp _ | (refine Sm.div ?_ ?_ <;> first | assumption | decide))) only [Za0, ZbH, ZbN, ZbI, ZbL, Za3, ZaC, Zb3, Zai, Zaw, ZbP, ZaN, ZbZ, Zb0, Zbv, ZbD, ZaU, ZbY, Zb4, Zb9, ZbT, Zcd, Zb5, ZbG, Zb2, Zb6, ZbQ, ZbE, ZbV, ZaJ, Zbz, Zbw, Zca, Zcb, Zcc, Zce, Zcf, Zb8, Zbh, Za9, Zbr, Zbt, ZaF, ZaG, ZaK, optInt_int, ZaR, ZaQ, ZbA, Zbk, Zbq, ZbX, ZaY, Zag, Zak, Zal, Zb1, ZbR, Zan, Zar, Zah, Zaq, Int.reduceToNat, Int.toNat_natCast, Zad, ZbK, ZbW, ZbO, Zbx, ZaT, List.getElem?_cons_zero, List.getElem?_cons_succ, Zch, Zcg, Zau, Zbj, ZaB, ZaV, Zaj, ZaD, ZaI, Zac, Zat, Zbe, Zba, Zav, Zbn, Za1, ZaM, Zax, Zbf, Zay, Zby, Zaz, Zap, ZaW, Zao, ZaH, Zbi, ZaP, Zaf, Zab, Zae, Zaa, aliasOk, Za5, Bool.false_eq_true, Bool.or_false, Bool.false_or, Bool.or_self, Bool.or_true, Bool.true_or, Bool.and_true, Bool.true_and, Bool.and_self, Bool.not_false, Bool.not_true, Bool.and_false, Bool.false_and, if_false, if_true, reduceIte, ZaZ, ZbJ, String.reduceBEq, String.reduceBNe, String.reduceEq, ZbM, Za2, Zbl, Zbb, ZaS, ZaE, ZaL, ZbC, Zbu, ZaO, ZaA, Zam, Zas, ZbS, Za7, Zbs, Za8, Zbm, Za4, ZbB, Za6, Zbo, Zbd, ZbF, Zbc, Zbg, ZbU, ZaX, Bool.not_eq_true', q3]) (by simp (disch := (first | assumption | decide | exact Zbp _ | (refine Sm.div ?_ ?_ <;> first | assumption | decide))) only [Za0, ZbH, ZbN, ZbI, ZbL, Za3, ZaC, Zb3, Zai, Zaw, ZbP, ZaN, ZbZ, Zb0, Zbv, ZbD, ZaU, ZbY, Zb4, Zb9, ZbT, Zcd, Zb5, ZbG, Zb2, Zb6, ZbQ, ZbE, ZbV, ZaJ, Zbz, Zbw, Zca, Zcb, Zcc, Zce, Zcf, Zb8, Zbh, Za9, Zbr, Zbt, ZaF, ZaG, ZaK, optInt_int, ZaR, ZaQ, ZbA, Zbk, Zbq, ZbX, ZaY, Zag, Zak, Zal, Zb1, ZbR, Zan, Zar, Zah, Zaq, Int.reduceToNat, Int.toNat_natCast, Zad, ZbK, ZbW, ZbO, Zbx, ZaT, List.getElem?_cons_zero, List.getElem?_cons_succ, Zch, Zcg, Zau, Zbj, ZaB, ZaV, Zaj, ZaD, ZaI, Zac, Zat, Zbe, Zba, Zav, Zbn, Za1, ZaM, Zax, Zbf, Zay, Zby, Zaz, Zap, ZaW, Zao, ZaH, Zbi, ZaP, Zaf, Zab, Zae, Zaa, aliasOk, Za5, Bool.false_eq_true, Bool.or_false, Bool.false_or, Bool.or_self, Bool.or_true, Bool.true_or, Bool.and_true, Bool.true_and, Bool.and_self, Bool.not_false, Bool.not_true, Bool.and_false, Bool.false_and, if_false, if_true, reduceIte, ZaZ, ZbJ, String.reduceBEq, String.reduceBNe, String.reduceEq, ZbM, Za2, Zbl, Zbb, ZaS, ZaE, ZaL, ZbC, Zbu, ZaO, ZaA, Zam, Zas, ZbS, Za7, Zbs, Za8, Zbm, Za4, ZbB, Za6, Zbo, Zbd, ZbF, Zbc, Zbg, ZbU, ZaX, Bool.not_eq_true', f2, fb]), peel_f (by simp (disch := (first | assumption | decide | exact Zbp _ | (refine Sm.div ?_ ?_ <;> first | assumption | decide))) only [Za0, ZbH, ZbN, ZbI, ZbL, Za3, ZaC, Zb3, Zai, Zaw, ZbP, ZaN, ZbZ, Zb0, Zbv, ZbD, ZaU, ZbY, Zb4, Zb9, ZbT, Zcd, Zb5, ZbG, Zb2, Zb6, ZbQ, ZbE, ZbV, ZaJ, Zbz, Zbw, Zca, Zcb, Zcc, Zce, Zcf, Zb8, Zbh, Za9, Zbr, Zbt, ZaF, ZaG, ZaK, optInt_int, ZaR, ZaQ, ZbA, Zbk, Zbq, ZbX, ZaY, Zag, Zak, Zal, Zb1, ZbR, Zan, Zar, Zah, Zaq, Int.reduceToNat, Int.toNat_natCast, Zad, ZbK, ZbW, ZbO, Zbx, ZaT, List.getElem?_cons_zero, List.getElem?_cons_succ, Zch, Zcg, Zau, Zbj, ZaB, ZaV, Zaj, ZaD, ZaI, Zac, Zat, Zbe, Zba, Zav, Zbn, Za1, ZaM, Zax, Zbf, Zay, Zby, Zaz, Zap, ZaW, Zao, ZaH, Zbi, ZaP, Zaf, Zab, Zae, Zaa, aliasOk, Za5, Bool.false_eq_true, Bool.or_false, Bool.false_or, Bool.or_self, Bool.or_true, Bool.true_or, Bool.and_true, Bool.true_and, Bool.and_self, Bool.not_false, Bool.not_true, Bool.and_false, Bool.false_and, if_false, if_true, reduceIte, ZaZ, ZbJ, String.reduceBEq, String.reduceBNe, String.reduceEq, ZbM, Za2, Zbl, Zbb, ZaS, ZaE, ZaL, ZbC, Zbu, ZaO, ZaA, Zam, Zas, ZbS, Za7, Zbs, Za8, Zbm, Za4, ZbB, Za6, Zbo, Zbd, ZbF, Zbc, Zbg, ZbU, ZaX, Bool.not_eq_true', q4])]
    exact ⟨c', e, h, by omega⟩
  rw [peel_f (by simp (disch := (first | assumption | decide | exact Zbp _ | (refine Sm.div ?_ ?_ <;> first | assumption | decide))) only [Za0, ZbH, ZbN, ZbI, ZbL, Za3, ZaC, Zb3, Zai, Zaw, ZbP, ZaN, ZbZ, Zb0, Zbv, ZbD, ZaU, ZbY, Zb4, Zb9, ZbT, Zcd, Zb5, ZbG, Zb2, Zb6, ZbQ, ZbE, ZbV, ZaJ, Zbz, Zbw, Zca, Zcb, Zcc, Zce, Zcf, Zb8, Zbh, Za9, Zbr, Zbt, ZaF, ZaG, ZaK, optInt_int, ZaR, ZaQ, ZbA, Zbk, Zbq, ZbX, ZaY, Zag, Zak, Zal, Zb1, ZbR, Zan, Zar, Zah, Zaq, Int.reduceToNat, Int.toNat_natCast, Zad, ZbK, ZbW, ZbO, Zbx, ZaT, List.getElem?_cons_zero, List.getElem?_cons_succ, Zch, Zcg, Zau, Zbj, ZaB, ZaV, Zaj, ZaD, ZaI, Zac, Zat, Zbe, Zba, Zav, Zbn, Za1, ZaM, Zax, Zbf, Zay, Zby, Zaz, Zap, ZaW, Zao, ZaH, Zbi, ZaP, Zaf, Zab, Zae, Zaa, aliasOk, Za5, Bool.false_eq_true, Bool.or_false, Bool.false_or, Bool.or_self, Bool.or_true, Bool.true_or, Bool.and_true, Bool.true_and, Bool.and_self, Bool.not_false, Bool.not_true, Bool.and_false, Bool.false_and, if_false, if_true, reduceIte, ZaZ, ZbJ, String.reduceBEq, String.reduceBNe, String.reduceEq, ZbM, Za2, Zbl, Zbb, ZaS, ZaE, ZaL, ZbC, Zbu, ZaO, ZaA, Zam, Zas, ZbS, Za7, Zbs, Za8, Zbm, Za4, ZbB, Za6, Zbo, Zbd, ZbF, Zbc, Zbg, ZbU, ZaX, Bool.not_eq_true', Bool.eq_false_iff.mpr q3])]
  by_cases q5 : (cell / 56 % 3 == 2 && (w == "sum" || w == "less")) = true
  · obtain ⟨z, ez, z1, z2⟩ := link_ok (n + 2) (w := w) (cell / 20160 / 4)
    obtain ⟨c', e, h, hw'⟩ := rest (twoE "less" (numE z) (nameE x)) 1 (.two (by decide) (.num z1 z2) (.name hx)) (by omega)
    rw [peel_tn (ρ' := [.fr (.list (ys.map PyData.int)), .fr (.int seed), .fr (.int cell), .fr (.int 26), .fr (.str (Str.ofString w)), .fr (.int (cell / 20160)), .fr (twoE "less" (numE z) (nameE x)), .unset, .unset, .unset]) (by simp (disch := (first | assumption | decide | exact Zbp _ | (refine Sm.div ?_ ?_ <;> first | assumption | decide))) only [Za0, ZbH, ZbN, ZbI, ZbL, Za3, ZaC, Zb3, Zai, Zaw, ZbP, ZaN, ZbZ, Zb0, Zbv, ZbD, ZaU, ZbY, Zb4, Zb9, ZbT, Zcd, Zb5, ZbG, Zb2, Zb6, ZbQ, ZbE, ZbV, ZaJ, Zbz, Zbw, Zca, Zcb, Zcc, Zce, Zcf, Zb8, Zbh, Za9, Zbr, Zbt, ZaF, ZaG, ZaK, optInt_int, ZaR, ZaQ, ZbA, Zbk, Zbq, ZbX, ZaY, Zag, Zak, Zal, Zb1, ZbR, Zan, Zar, Zah, Zaq, Int.reduceToNat, Int.toNat_natCast, Zad, ZbK, ZbW, ZbO, Zbx, ZaT, List.getElem?_cons_zero, List.getElem?_cons_succ, Zch, Zcg, Zau, Zbj, ZaB, ZaV, Zaj, ZaD, ZaI, Zac, Zat, Zbe, Zba, Zav, Zbn, Za1, ZaM, Zax, Zbf, Zay, Zby, Zaz, Zap, ZaW, Zao, ZaH, Zbi, ZaP, Zaf, Zab, Zae, Zaa, aliasOk, Za5, Bool.false_eq_true, Bool.or_false, Bool.false_or, Bool.or_self, Bool.or_true, Bool.true_or, Bool.and_true, Bool.true_and, Bool.and_self, Bool.not_false, Bool.not_true, Bool.and_false, Bool.false_and, if_false, if_true, reduceIte, ZaZ, ZbJ, String.reduceBEq, String.reduceBNe, String.reduceEq, ZbM, Za2, Zbl, Zbb, ZaS, ZaE, ZaL, ZbC, Zbu, ZaO, ZaA, Zam, Zas, ZbS, Za7, Zbs, Za8, Zbm, Za4, ZbB, Za6, Zbo, Zbd, ZbF, Zbc, Zbg, ZbU, ZaX, Bool.not_eq_true', q5]) (by simp (disch := (first | assumption | decide | exact Zbp _ | (refine Sm.div ?_ ?_ <;> first | assumption | decide))) only [Za0, ZbH, ZbN, ZbI, ZbL, Za3, ZaC, Zb3, Zai, Zaw, ZbP, ZaN, ZbZ, Zb0, Zbv, ZbD, ZaU, ZbY, Zb4, Zb9, ZbT, Zcd, Zb5, ZbG, Zb2, Zb6, ZbQ, ZbE, ZbV, ZaJ, Zbz, Zbw, Zca, Zcb, Zcc, Zce, Zcf, Zb8, Zbh, Za9, Zbr, Zbt, ZaF, ZaG, ZaK, optInt_int, ZaR, ZaQ, ZbA, Zbk, Zbq, ZbX, ZaY, Zag, Zak, Zal, Zb1, ZbR, Zan, Zar, Zah, Zaq, Int.reduceToNat, Int.toNat_natCast, Zad, ZbK, ZbW, ZbO, Zbx, ZaT, List.getElem?_cons_zero, List.getElem?_cons_succ, Zch, Zcg, Zau, Zbj, ZaB, ZaV, Zaj, ZaD, ZaI, Zac, Zat, Zbe, Zba, Zav, Zbn, Za1, ZaM, Zax, Zbf, Zay, Zby, Zaz, Zap, ZaW, Zao, ZaH, Zbi, ZaP, Zaf, Zab, Zae, Zaa, aliasOk, Za5, Bool.false_eq_true, Bool.or_false, Bool.false_or, Bool.or_self, Bool.or_true, Bool.true_or, Bool.and_true, Bool.true_and, Bool.and_self, Bool.not_false, Bool.not_true, Bool.and_false, Bool.false_and, if_false, if_true, reduceIte, ZaZ, ZbJ, String.reduceBEq, String.reduceBNe, String.reduceEq, ZbM, Za2, Zbl, Zbb, ZaS, ZaE, ZaL, ZbC, Zbu, ZaO, ZaA, Zam, Zas, ZbS, Za7, Zbs, Za8, Zbm, Za4, ZbB, Za6, Zbo, Zbd, ZbF, Zbc, Zbg, ZbU, ZaX, Bool.not_eq_true', ez])]
    exact ⟨c', e, h, by simp only [wt_two, wt_num, wt_name] at hw'; omega⟩
  obtain ⟨c', e, h, hw'⟩ := rest (nameE x) 0 (.name hx) (by omega)
  rw [peel_f (by simp (disch := (first | assumption | decide | exact Zbp _ | (refine Sm.div ?_ ?_ <;> first | assumption | decide))) only [Za0, ZbH, ZbN, ZbI, ZbL, Za3, ZaC, Zb3, Zai, Zaw, ZbP, ZaN, ZbZ, Zb0, Zbv, ZbD, ZaU, ZbY, Zb4, Zb9, ZbT, Zcd, Zb5, ZbG, Zb2, Zb6, ZbQ, ZbE, ZbV, ZaJ, Zbz, Zbw, Zca, Zcb, Zcc, Zce, Zcf, Zb8, Zbh, Za9, Zbr, Zbt, ZaF, ZaG, ZaK, optInt_int, ZaR, ZaQ, ZbA, Zbk, Zbq, ZbX, ZaY, Zag, Zak, Zal, Zb1, ZbR, Zan, Zar, Zah, Zaq, Int.reduceToNat, Int.toNat_natCast, Zad, ZbK, ZbW, ZbO, Zbx, ZaT, List.getElem?_cons_zero, List.getElem?_cons_succ, Zch, Zcg, Zau, Zbj, ZaB, ZaV, Zaj, ZaD, ZaI, Zac, Zat, Zbe, Zba, Zav, Zbn, Za1, ZaM, Zax, Zbf, Zay, Zby, Zaz, Zap, ZaW, Zao, ZaH, Zbi, ZaP, Zaf, Zab, Zae, Zaa, aliasOk, Za5, Bool.false_eq_true, Bool.or_false, Bool.false_or, Bool.or_self, Bool.or_true, Bool.true_or, Bool.and_true, Bool.true_and, Bool.and_self, Bool.not_false, Bool.not_true, Bool.and_false, Bool.false_and, if_false, if_true, reduceIte, ZaZ, ZbJ, String.reduceBEq, String.reduceBNe, String.reduceEq, ZbM, Za2, Zbl, Zbb, ZaS, ZaE, ZaL, ZbC, Zbu, ZaO, ZaA, Zam, Zas, ZbS, Za7, Zbs, Za8, Zbm, Za4, ZbB, Za6, Zbo, Zbd, ZbF, Zbc, Zbg, ZbU, ZaX, Bool.not_eq_true', Bool.eq_false_iff.mpr q5])]
  exact ⟨c', e, h, by rw [wt_name] at hw'; omega⟩
end L02
end Mine
-- P02a
set_option autoImplicit false
set_option linter.all false
set_option maxRecDepth 10000
namespace Mine
open PySem
namespace L02
theorem parts_leaf (n : Nat) {w : String} (l : List D) (h : w = "num" ∨ w = "name") : (orc fns globs (n + 1)).fn 0 [.tuple (.str (Str.ofString w) :: l)] = .ok (.list [], false) := by
  rw [orc_fn (F := F_parts_of) rfl rfl]
  show fin (ex _ _ F_parts_of.body [.fr _]) = _
  unfold F_parts_of
  rcases h with rfl | rfl <;> simp (disch := (first | assumption | decide | exact Zbp _ | (refine Sm.div ?_ ?_ <;> first | assumption | decide))) only [Za0, ZbH, ZbN, ZbI, ZbL, Za3, ZaC, Zb3, Zai, Zaw, ZbP, ZaN, ZbZ, Zb0, Zbv, ZbD, ZaU, ZbY, Zb4, Zb9, ZbT, Zcd, Zb5, ZbG, Zb2, Zb6, ZbQ, ZbE, ZbV, ZaJ, Zbz, Zbw, Zca, Zcb, Zcc, Zce, Zcf, Zb8, Zbh, Za9, Zbr, Zbt, ZaF, ZaG, ZaK, optInt_int, ZaR, ZaQ, ZbA, Zbk, Zbq, ZbX, ZaY, Zag, Zak, Zal, Zb1, ZbR, Zan, Zar, Zah, Zaq, Int.reduceToNat, Int.toNat_natCast, Zad, ZbK, ZbW, ZbO, Zbx, ZaT, List.getElem?_cons_zero, List.getElem?_cons_succ, Zch, Zcg, Zau, Zbj, ZaB, ZaV, Zaj, ZaD, ZaI, Zac, Zat, Zbe, Zba, Zav, Zbn, Za1, ZaM, Zax, Zbf, Zay, Zby, Zaz, Zap, ZaW, Zao, ZaH, Zbi, ZaP, Zaf, Zab, Zae, Zaa, aliasOk, Za5, Bool.false_eq_true, Bool.or_false, Bool.false_or, Bool.or_self, Bool.or_true, Bool.true_or, Bool.and_true, Bool.true_and, Bool.and_self, Bool.not_false, Bool.not_true, Bool.and_false, Bool.false_and, if_false, if_true, reduceIte, ZaZ, ZbJ, String.reduceBEq, String.reduceBNe, String.reduceEq, ZbM, Za2, Zbl, Zbb, ZaS, ZaE, ZaL, ZbC, Zbu, ZaO, ZaA, Zam, Zas, ZbS, Za7, Zbs, Za8, Zbm, Za4, ZbB, Za6, Zbo, Zbd, ZbF, Zbc, Zbg, ZbU, ZaX, Bool.not_eq_true']
theorem parts_two (n : Nat) {w : String} (a b : D) (h : w ∈ twoWords) : (orc fns globs (n + 1)).fn 0 [twoE w a b] = .ok (.list [a, b], false) := by
  rw [orc_fn (F := F_parts_of) rfl rfl]
  show fin (ex _ _ F_parts_of.body [.fr _]) = _
  unfold F_parts_of
  obtain ⟨w1, w2, w3, w4⟩ := two_ne h
  simp (disch := (first | assumption | decide | exact Zbp _ | (refine Sm.div ?_ ?_ <;> first | assumption | decide))) only [Za0, ZbH, ZbN, ZbI, ZbL, Za3, ZaC, Zb3, Zai, Zaw, ZbP, ZaN, ZbZ, Zb0, Zbv, ZbD, ZaU, ZbY, Zb4, Zb9, ZbT, Zcd, Zb5, ZbG, Zb2, Zb6, ZbQ, ZbE, ZbV, ZaJ, Zbz, Zbw, Zca, Zcb, Zcc, Zce, Zcf, Zb8, Zbh, Za9, Zbr, Zbt, ZaF, ZaG, ZaK, optInt_int, ZaR, ZaQ, ZbA, Zbk, Zbq, ZbX, ZaY, Zag, Zak, Zal, Zb1, ZbR, Zan, Zar, Zah, Zaq, Int.reduceToNat, Int.toNat_natCast, Zad, ZbK, ZbW, ZbO, Zbx, ZaT, List.getElem?_cons_zero, List.getElem?_cons_succ, Zch, Zcg, Zau, Zbj, ZaB, ZaV, Zaj, ZaD, ZaI, Zac, Zat, Zbe, Zba, Zav, Zbn, Za1, ZaM, Zax, Zbf, Zay, Zby, Zaz, Zap, ZaW, Zao, ZaH, Zbi, ZaP, Zaf, Zab, Zae, Zaa, aliasOk, Za5, Bool.false_eq_true, Bool.or_false, Bool.false_or, Bool.or_self, Bool.or_true, Bool.true_or, Bool.and_true, Bool.true_and, Bool.and_self, Bool.not_false, Bool.not_true, Bool.and_false, Bool.false_and, if_false, if_true, reduceIte, ZaZ, ZbJ, String.reduceBEq, String.reduceBNe, String.reduceEq, ZbM, Za2, Zbl, Zbb, ZaS, ZaE, ZaL, ZbC, Zbu, ZaO, ZaA, Zam, Zas, ZbS, Za7, Zbs, Za8, Zbm, Za4, ZbB, Za6, Zbo, Zbd, ZbF, Zbc, Zbg, ZbU, ZaX, Bool.not_eq_true', w1, w2, w3, w4]
theorem parts_when (n : Nat) (a b c : D) : (orc fns globs (n + 1)).fn 0 [whenE a b c] = .ok (.list [a, b, c], false) := by
  rw [orc_fn (F := F_parts_of) rfl rfl]
  show fin (ex _ _ F_parts_of.body [.fr _]) = _
  unfold F_parts_of
  simp (disch := (first | assumption | decide | exact Zbp _ | (refine Sm.div ?_ ?_ <;> first | assumption | decide))) only [Za0, ZbH, ZbN, ZbI, ZbL, Za3, ZaC, Zb3, Zai, Zaw, ZbP, ZaN, ZbZ, Zb0, Zbv, ZbD, ZaU, ZbY, Zb4, Zb9, ZbT, Zcd, Zb5, ZbG, Zb2, Zb6, ZbQ, ZbE, ZbV, ZaJ, Zbz, Zbw, Zca, Zcb, Zcc, Zce, Zcf, Zb8, Zbh, Za9, Zbr, Zbt, ZaF, ZaG, ZaK, optInt_int, ZaR, ZaQ, ZbA, Zbk, Zbq, ZbX, ZaY, Zag, Zak, Zal, Zb1, ZbR, Zan, Zar, Zah, Zaq, Int.reduceToNat, Int.toNat_natCast, Zad, ZbK, ZbW, ZbO, Zbx, ZaT, List.getElem?_cons_zero, List.getElem?_cons_succ, Zch, Zcg, Zau, Zbj, ZaB, ZaV, Zaj, ZaD, ZaI, Zac, Zat, Zbe, Zba, Zav, Zbn, Za1, ZaM, Zax, Zbf, Zay, Zby, Zaz, Zap, ZaW, Zao, ZaH, Zbi, ZaP, Zaf, Zab, Zae, Zaa, aliasOk, Za5, Bool.false_eq_true, Bool.or_false, Bool.false_or, Bool.or_self, Bool.or_true, Bool.true_or, Bool.and_true, Bool.true_and, Bool.and_self, Bool.not_false, Bool.not_true, Bool.and_false, Bool.false_and, if_false, if_true, reduceIte, ZaZ, ZbJ, String.reduceBEq, String.reduceBNe, String.reduceEq, ZbM, Za2, Zbl, Zbb, ZaS, ZaE, ZaL, ZbC, Zbu, ZaO, ZaA, Zam, Zas, ZbS, Za7, Zbs, Za8, Zbm, Za4, ZbB, Za6, Zbo, Zbd, ZbF, Zbc, Zbg, ZbU, ZaX, Bool.not_eq_true']
theorem parts_let (n : Nat) (x : Str) (b c : D) : (orc fns globs (n + 1)).fn 0 [letE x b c] = .ok (.list [b, c], false) := by
  rw [orc_fn (F := F_parts_of) rfl rfl]
  show fin (ex _ _ F_parts_of.body [.fr _]) = _
  unfold F_parts_of
  simp (disch := (first | assumption | decide | exact Zbp _ | (refine Sm.div ?_ ?_ <;> first | assumption | decide))) only [Za0, ZbH, ZbN, ZbI, ZbL, Za3, ZaC, Zb3, Zai, Zaw, ZbP, ZaN, ZbZ, Zb0, Zbv, ZbD, ZaU, ZbY, Zb4, Zb9, ZbT, Zcd, Zb5, ZbG, Zb2, Zb6, ZbQ, ZbE, ZbV, ZaJ, Zbz, Zbw, Zca, Zcb, Zcc, Zce, Zcf, Zb8, Zbh, Za9, Zbr, Zbt, ZaF, ZaG, ZaK, optInt_int, ZaR, ZaQ, ZbA, Zbk, Zbq, ZbX, ZaY, Zag, Zak, Zal, Zb1, ZbR, Zan, Zar, Zah, Zaq, Int.reduceToNat, Int.toNat_natCast, Zad, ZbK, ZbW, ZbO, Zbx, ZaT, List.getElem?_cons_zero, List.getElem?_cons_succ, Zch, Zcg, Zau, Zbj, ZaB, ZaV, Zaj, ZaD, ZaI, Zac, Zat, Zbe, Zba, Zav, Zbn, Za1, ZaM, Zax, Zbf, Zay, Zby, Zaz, Zap, ZaW, Zao, ZaH, Zbi, ZaP, Zaf, Zab, Zae, Zaa, aliasOk, Za5, Bool.false_eq_true, Bool.or_false, Bool.false_or, Bool.or_self, Bool.or_true, Bool.true_or, Bool.and_true, Bool.true_and, Bool.and_self, Bool.not_false, Bool.not_true, Bool.and_false, Bool.false_and, if_false, if_true, reduceIte, ZaZ, ZbJ, String.reduceBEq, String.reduceBNe, String.reduceEq, ZbM, Za2, Zbl, Zbb, ZaS, ZaE, ZaL, ZbC, Zbu, ZaO, ZaA, Zam, Zas, ZbS, Za7, Zbs, Za8, Zbm, Za4, ZbB, Za6, Zbo, Zbd, ZbF, Zbc, Zbg, ZbU, ZaX, Bool.not_eq_true']
theorem size_ok {k : Nat} {e : D} (h : Ex k e) : ∀ n, (orc fns globs (n + k + 2)).fn 1 [e] = .ok (.int (wt e), false) := by
  induction h with
  | num a b =>
    intro n
    rw [orc_fn (F := F_size) rfl rfl]
    show fin (ex _ _ F_size.body [.fr _]) = _
    unfold F_size
    simp (disch := (first | assumption | decide | exact Zbp _ | (refine Sm.div ?_ ?_ <;> first | assumption | decide))) only [Za0, ZbH, ZbN, ZbI, ZbL, Za3, ZaC, Zb3, Zai, Zaw, ZbP, ZaN, ZbZ, Zb0, Zbv, ZbD, ZaU, ZbY, Zb4, Zb9, ZbT, Zcd, Zb5, ZbG, Zb2, Zb6, ZbQ, ZbE, ZbV, ZaJ, Zbz, Zbw, Zca, Zcb, Zcc, Zce, Zcf, Zb8, Zbh, Za9, Zbr, Zbt, ZaF, ZaG, ZaK, optInt_int, ZaR, ZaQ, ZbA, Zbk, Zbq, ZbX, ZaY, Zag, Zak, Zal, Zb1, ZbR, Zan, Zar, Zah, Zaq, Int.reduceToNat, Int.toNat_natCast, Zad, ZbK, ZbW, ZbO, Zbx, ZaT, List.getElem?_cons_zero, List.getElem?_cons_succ, Zch, Zcg, Zau, Zbj, ZaB, ZaV, Zaj, ZaD, ZaI, Zac, Zat, Zbe, Zba, Zav, Zbn, Za1, ZaM, Zax, Zbf, Zay, Zby, Zaz, Zap, ZaW, Zao, ZaH, Zbi, ZaP, Zaf, Zab, Zae, Zaa, aliasOk, Za5, Bool.false_eq_true, Bool.or_false, Bool.false_or, Bool.or_self, Bool.or_true, Bool.true_or, Bool.and_true, Bool.true_and, Bool.and_self, Bool.not_false, Bool.not_true, Bool.and_false, Bool.false_and, if_false, if_true, reduceIte, ZaZ, ZbJ, String.reduceBEq, String.reduceBNe, String.reduceEq, ZbM, Za2, Zbl, Zbb, ZaS, ZaE, ZaL, ZbC, Zbu, ZaO, ZaA, Zam, Zas, ZbS, Za7, Zbs, Za8, Zbm, Za4, ZbB, Za6, Zbo, Zbd, ZbF, Zbc, Zbg, ZbU, ZaX, Bool.not_eq_true', comp_l0, comp_l2, comp_l3, ev_comp, mapCall_nil, mapCall_cons, mapR_int, ev_maxd, maxd_nil, maxd_cons, maxR_some, maxFrom_nil, maxFrom_cons, b1_sum, sumD_nil, sumD_cons, Option.map_some, ex_callRef, refS_own, ex_asgFresh, finR_next, parts_leaf _ _ (.inl rfl), wt_num]; rfl
  | name hx =>
    intro n
    rw [orc_fn (F := F_size) rfl rfl]
    show fin (ex _ _ F_size.body [.fr _]) = _
    unfold F_size
    simp (disch := (first | assumption | decide | exact Zbp _ | (refine Sm.div ?_ ?_ <;> first | assumption | decide))) only [Za0, ZbH, ZbN, ZbI, ZbL, Za3, ZaC, Zb3, Zai, Zaw, ZbP, ZaN, ZbZ, Zb0, Zbv, ZbD, ZaU, ZbY, Zb4, Zb9, ZbT, Zcd, Zb5, ZbG, Zb2, Zb6, ZbQ, ZbE, ZbV, ZaJ, Zbz, Zbw, Zca, Zcb, Zcc, Zce, Zcf, Zb8, Zbh, Za9, Zbr, Zbt, ZaF, ZaG, ZaK, optInt_int, ZaR, ZaQ, ZbA, Zbk, Zbq, ZbX, ZaY, Zag, Zak, Zal, Zb1, ZbR, Zan, Zar, Zah, Zaq, Int.reduceToNat, Int.toNat_natCast, Zad, ZbK, ZbW, ZbO, Zbx, ZaT, List.getElem?_cons_zero, List.getElem?_cons_succ, Zch, Zcg, Zau, Zbj, ZaB, ZaV, Zaj, ZaD, ZaI, Zac, Zat, Zbe, Zba, Zav, Zbn, Za1, ZaM, Zax, Zbf, Zay, Zby, Zaz, Zap, ZaW, Zao, ZaH, Zbi, ZaP, Zaf, Zab, Zae, Zaa, aliasOk, Za5, Bool.false_eq_true, Bool.or_false, Bool.false_or, Bool.or_self, Bool.or_true, Bool.true_or, Bool.and_true, Bool.true_and, Bool.and_self, Bool.not_false, Bool.not_true, Bool.and_false, Bool.false_and, if_false, if_true, reduceIte, ZaZ, ZbJ, String.reduceBEq, String.reduceBNe, String.reduceEq, ZbM, Za2, Zbl, Zbb, ZaS, ZaE, ZaL, ZbC, Zbu, ZaO, ZaA, Zam, Zas, ZbS, Za7, Zbs, Za8, Zbm, Za4, ZbB, Za6, Zbo, Zbd, ZbF, Zbc, Zbg, ZbU, ZaX, Bool.not_eq_true', comp_l0, comp_l2, comp_l3, ev_comp, mapCall_nil, mapCall_cons, mapR_int, ev_maxd, maxd_nil, maxd_cons, maxR_some, maxFrom_nil, maxFrom_cons, b1_sum, sumD_nil, sumD_cons, Option.map_some, ex_callRef, refS_own, ex_asgFresh, finR_next, parts_leaf _ _ (.inr rfl), wt_name]; rfl
  | @two k w a b hw _ _ ia ib =>
    intro n
    show (orc fns globs (n + k + 2 + 1)).fn _ _ = _
    rw [orc_fn (F := F_size) rfl rfl]
    show fin (ex _ _ F_size.body [.fr _]) = _
    unfold F_size
    simp (disch := (first | assumption | decide | exact Zbp _ | (refine Sm.div ?_ ?_ <;> first | assumption | decide))) only [Za0, ZbH, ZbN, ZbI, ZbL, Za3, ZaC, Zb3, Zai, Zaw, ZbP, ZaN, ZbZ, Zb0, Zbv, ZbD, ZaU, ZbY, Zb4, Zb9, ZbT, Zcd, Zb5, ZbG, Zb2, Zb6, ZbQ, ZbE, ZbV, ZaJ, Zbz, Zbw, Zca, Zcb, Zcc, Zce, Zcf, Zb8, Zbh, Za9, Zbr, Zbt, ZaF, ZaG, ZaK, optInt_int, ZaR, ZaQ, ZbA, Zbk, Zbq, ZbX, ZaY, Zag, Zak, Zal, Zb1, ZbR, Zan, Zar, Zah, Zaq, Int.reduceToNat, Int.toNat_natCast, Zad, ZbK, ZbW, ZbO, Zbx, ZaT, List.getElem?_cons_zero, List.getElem?_cons_succ, Zch, Zcg, Zau, Zbj, ZaB, ZaV, Zaj, ZaD, ZaI, Zac, Zat, Zbe, Zba, Zav, Zbn, Za1, ZaM, Zax, Zbf, Zay, Zby, Zaz, Zap, ZaW, Zao, ZaH, Zbi, ZaP, Zaf, Zab, Zae, Zaa, aliasOk, Za5, Bool.false_eq_true, Bool.or_false, Bool.false_or, Bool.or_self, Bool.or_true, Bool.true_or, Bool.and_true, Bool.true_and, Bool.and_self, Bool.not_false, Bool.not_true, Bool.and_false, Bool.false_and, if_false, if_true, reduceIte, ZaZ, ZbJ, String.reduceBEq, String.reduceBNe, String.reduceEq, ZbM, Za2, Zbl, Zbb, ZaS, ZaE, ZaL, ZbC, Zbu, ZaO, ZaA, Zam, Zas, ZbS, Za7, Zbs, Za8, Zbm, Za4, ZbB, Za6, Zbo, Zbd, ZbF, Zbc, Zbg, ZbU, ZaX, Bool.not_eq_true', comp_l0, comp_l2, comp_l3, ev_comp, mapCall_nil, mapCall_cons, mapR_int, ev_maxd, maxd_nil, maxd_cons, maxR_some, maxFrom_nil, maxFrom_cons, b1_sum, sumD_nil, sumD_cons, Option.map_some, ex_callRef, refS_own, ex_asgFresh, finR_next, parts_two _ _ _ hw, ia, ib, wt_two]
    congr 3 <;> omega
  | @when k a b c _ _ _ ia ib ic =>
    intro n
    show (orc fns globs (n + k + 2 + 1)).fn _ _ = _
    rw [orc_fn (F := F_size) rfl rfl]
    show fin (ex _ _ F_size.body [.fr _]) = _
    unfold F_size
    simp (disch := (first | assumption | decide | exact Zbp _ | (refine Sm.div ?_ ?_ <;> first | assumption | decide))) only [Za0, ZbH, ZbN, ZbI, ZbL, Za3, ZaC, Zb3, Zai, Zaw, ZbP, ZaN, ZbZ, Zb0, Zbv, ZbD, ZaU, ZbY, Zb4, Zb9, ZbT, Zcd, Zb5, ZbG, Zb2, Zb6, ZbQ, ZbE, ZbV, ZaJ, Zbz, Zbw, Zca, Zcb, Zcc, Zce, Zcf, Zb8, Zbh, Za9, Zbr, Zbt, ZaF, ZaG, ZaK, optInt_int, ZaR, ZaQ, ZbA, Zbk, Zbq, ZbX, ZaY, Zag, Zak, Zal, Zb1, ZbR, Zan, Zar, Zah, Zaq, Int.reduceToNat, Int.toNat_natCast, Zad, ZbK, ZbW, ZbO, Zbx, ZaT, List.getElem?_cons_zero, List.getElem?_cons_succ, Zch, Zcg, Zau, Zbj, ZaB, ZaV, Zaj, ZaD, ZaI, Zac, Zat, Zbe, Zba, Zav, Zbn, Za1, ZaM, Zax, Zbf, Zay, Zby, Zaz, Zap, ZaW, Zao, ZaH, Zbi, ZaP, Zaf, Zab, Zae, Zaa, aliasOk, Za5, Bool.false_eq_true, Bool.or_false, Bool.false_or, Bool.or_self, Bool.or_true, Bool.true_or, Bool.and_true, Bool.true_and, Bool.and_self, Bool.not_false, Bool.not_true, Bool.and_false, Bool.false_and, if_false, if_true, reduceIte, ZaZ, ZbJ, String.reduceBEq, String.reduceBNe, String.reduceEq, ZbM, Za2, Zbl, Zbb, ZaS, ZaE, ZaL, ZbC, Zbu, ZaO, ZaA, Zam, Zas, ZbS, Za7, Zbs, Za8, Zbm, Za4, ZbB, Za6, Zbo, Zbd, ZbF, Zbc, Zbg, ZbU, ZaX, Bool.not_eq_true', comp_l0, comp_l2, comp_l3, ev_comp, mapCall_nil, mapCall_cons, mapR_int, ev_maxd, maxd_nil, maxd_cons, maxR_some, maxFrom_nil, maxFrom_cons, b1_sum, sumD_nil, sumD_cons, Option.map_some, ex_callRef, refS_own, ex_asgFresh, finR_next, parts_when, ia, ib, ic, wt_when]
    congr 3 <;> omega
  | @lett k x b c hx _ _ ib ic =>
    intro n
    show (orc fns globs (n + k + 2 + 1)).fn _ _ = _
    rw [orc_fn (F := F_size) rfl rfl]
    show fin (ex _ _ F_size.body [.fr _]) = _
    unfold F_size
    simp (disch := (first | assumption | decide | exact Zbp _ | (refine Sm.div ?_ ?_ <;> first | assumption | decide))) only [Za0, ZbH, ZbN, ZbI, ZbL, Za3, ZaC, Zb3, Zai, Zaw, ZbP, ZaN, ZbZ, Zb0, Zbv, ZbD, ZaU, ZbY, Zb4, Zb9, ZbT, Zcd, Zb5, ZbG, Zb2, Zb6, ZbQ, ZbE, ZbV, ZaJ, Zbz, Zbw, Zca, Zcb, Zcc, Zce, Zcf, Zb8, Zbh, Za9, Zbr, Zbt, ZaF, ZaG, ZaK, optInt_int, ZaR, ZaQ, ZbA, Zbk, Zbq, ZbX, ZaY, Zag, Zak, Zal, Zb1, ZbR, Zan, Zar, Zah, Zaq, Int.reduceToNat, Int.toNat_natCast, Zad, ZbK, ZbW, ZbO, Zbx, ZaT, List.getElem?_cons_zero, List.getElem?_cons_succ, Zch, Zcg, Zau, Zbj, ZaB, ZaV, Zaj, ZaD, ZaI, Zac, Zat, Zbe, Zba, Zav, Zbn, Za1, ZaM, Zax, Zbf, Zay, Zby, Zaz, Zap, ZaW, Zao, ZaH, Zbi, ZaP, Zaf, Zab, Zae, Zaa, aliasOk, Za5, Bool.false_eq_true, Bool.or_false, Bool.false_or, Bool.or_self, Bool.or_true, Bool.true_or, Bool.and_true, Bool.true_and, Bool.and_self, Bool.not_false, Bool.not_true, Bool.and_false, Bool.false_and, if_false, if_true, reduceIte, ZaZ, ZbJ, String.reduceBEq, String.reduceBNe, String.reduceEq, ZbM, Za2, Zbl, Zbb, ZaS, ZaE, ZaL, ZbC, Zbu, ZaO, ZaA, Zam, Zas, ZbS, Za7, Zbs, Za8, Zbm, Za4, ZbB, Za6, Zbo, Zbd, ZbF, Zbc, Zbg, ZbU, ZaX, Bool.not_eq_true', comp_l0, comp_l2, comp_l3, ev_comp, mapCall_nil, mapCall_cons, mapR_int, ev_maxd, maxd_nil, maxd_cons, maxR_some, maxFrom_nil, maxFrom_cons, b1_sum, sumD_nil, sumD_cons, Option.map_some, ex_callRef, refS_own, ex_asgFresh, finR_next, parts_let, ib, ic, wt_let]
    congr 3 <;> omega
theorem law_size_ok {k : Nat} {e : D} (h : Ex k e) : ∀ n, (orc fns globs (n + k + 1)).fn 15 [e] = .ok (.int (wt e), false) := by
  induction h with
  | num a b =>
    intro n
    rw [orc_fn (F := F_law_size) rfl rfl]
    show fin (ex _ _ F_law_size.body [.fr _, .unset, .unset]) = _
    unfold F_law_size
    simp (disch := (first | assumption | decide | exact Zbp _ | (refine Sm.div ?_ ?_ <;> first | assumption | decide))) only [Za0, ZbH, ZbN, ZbI, ZbL, Za3, ZaC, Zb3, Zai, Zaw, ZbP, ZaN, ZbZ, Zb0, Zbv, ZbD, ZaU, ZbY, Zb4, Zb9, ZbT, Zcd, Zb5, ZbG, Zb2, Zb6, ZbQ, ZbE, ZbV, ZaJ, Zbz, Zbw, Zca, Zcb, Zcc, Zce, Zcf, Zb8, Zbh, Za9, Zbr, Zbt, ZaF, ZaG, ZaK, optInt_int, ZaR, ZaQ, ZbA, Zbk, Zbq, ZbX, ZaY, Zag, Zak, Zal, Zb1, ZbR, Zan, Zar, Zah, Zaq, Int.reduceToNat, Int.toNat_natCast, Zad, ZbK, ZbW, ZbO, Zbx, ZaT, List.getElem?_cons_zero, List.getElem?_cons_succ, Zch, Zcg, Zau, Zbj, ZaB, ZaV, Zaj, ZaD, ZaI, Zac, Zat, Zbe, Zba, Zav, Zbn, Za1, ZaM, Zax, Zbf, Zay, Zby, Zaz, Zap, ZaW, Zao, ZaH, Zbi, ZaP, Zaf, Zab, Zae, Zaa, aliasOk, Za5, Bool.false_eq_true, Bool.or_false, Bool.false_or, Bool.or_self, Bool.or_true, Bool.true_or, Bool.and_true, Bool.true_and, Bool.and_self, Bool.not_false, Bool.not_true, Bool.and_false, Bool.false_and, if_false, if_true, reduceIte, ZaZ, ZbJ, String.reduceBEq, String.reduceBNe, String.reduceEq, ZbM, Za2, Zbl, Zbb, ZaS, ZaE, ZaL, ZbC, Zbu, ZaO, ZaA, Zam, Zas, ZbS, Za7, Zbs, Za8, Zbm, Za4, ZbB, Za6, Zbo, Zbd, ZbF, Zbc, Zbg, ZbU, ZaX, Bool.not_eq_true', comp_l0, comp_l2, comp_l3, ev_comp, mapCall_nil, mapCall_cons, mapR_int, ev_maxd, maxd_nil, maxd_cons, maxR_some, maxFrom_nil, maxFrom_cons, b1_sum, sumD_nil, sumD_cons, Option.map_some, ex_callRef, refS_own, ex_asgFresh, finR_next, wt_num]; rfl
  | name hx =>
    intro n
    rw [orc_fn (F := F_law_size) rfl rfl]
    show fin (ex _ _ F_law_size.body [.fr _, .unset, .unset]) = _
    unfold F_law_size
    simp (disch := (first | assumption | decide | exact Zbp _ | (refine Sm.div ?_ ?_ <;> first | assumption | decide))) only [Za0, ZbH, ZbN, ZbI, ZbL, Za3, ZaC, Zb3, Zai, Zaw, ZbP, ZaN, ZbZ, Zb0, Zbv, ZbD, ZaU, ZbY, Zb4, Zb9, ZbT, Zcd, Zb5, ZbG, Zb2, Zb6, ZbQ, ZbE, ZbV, ZaJ, Zbz, Zbw, Zca, Zcb, Zcc, Zce, Zcf, Zb8, Zbh, Za9, Zbr, Zbt, ZaF, ZaG, ZaK, optInt_int, ZaR, ZaQ, ZbA, Zbk, Zbq, ZbX, ZaY, Zag, Zak, Zal, Zb1, ZbR, Zan, Zar, Zah, Zaq, Int.reduceToNat, Int.toNat_natCast, Zad, ZbK, ZbW, ZbO, Zbx, ZaT, List.getElem?_cons_zero, List.getElem?_cons_succ, Zch, Zcg, Zau, Zbj, ZaB, ZaV, Zaj, ZaD, ZaI, Zac, Zat, Zbe, Zba, Zav, Zbn, Za1, ZaM, Zax, Zbf, Zay, Zby, Zaz, Zap, ZaW, Zao, ZaH, Zbi, ZaP, Zaf, Zab, Zae, Zaa, aliasOk, Za5, Bool.false_eq_true, Bool.or_false, Bool.false_or, Bool.or_self, Bool.or_true, Bool.true_or, Bool.and_true, Bool.true_and, Bool.and_self, Bool.not_false, Bool.not_true, Bool.and_false, Bool.false_and, if_false, if_true, reduceIte, ZaZ, ZbJ, String.reduceBEq, String.reduceBNe, String.reduceEq, ZbM, Za2, Zbl, Zbb, ZaS, ZaE, ZaL, ZbC, Zbu, ZaO, ZaA, Zam, Zas, ZbS, Za7, Zbs, Za8, Zbm, Za4, ZbB, Za6, Zbo, Zbd, ZbF, Zbc, Zbg, ZbU, ZaX, Bool.not_eq_true', comp_l0, comp_l2, comp_l3, ev_comp, mapCall_nil, mapCall_cons, mapR_int, ev_maxd, maxd_nil, maxd_cons, maxR_some, maxFrom_nil, maxFrom_cons, b1_sum, sumD_nil, sumD_cons, Option.map_some, ex_callRef, refS_own, ex_asgFresh, finR_next, wt_name]; rfl
  | @two k w a b hw _ _ ia ib =>
    intro n
    show (orc fns globs (n + k + 1 + 1)).fn _ _ = _
    rw [orc_fn (F := F_law_size) rfl rfl]
    show fin (ex _ _ F_law_size.body [.fr _, .unset, .unset]) = _
    unfold F_law_size
    obtain ⟨w1, w2, w3, w4⟩ := two_ne hw
    simp (disch := (first | assumption | decide | exact Zbp _ | (refine Sm.div ?_ ?_ <;> first | assumption | decide))) only [Za0, ZbH, ZbN, ZbI, ZbL, Za3, ZaC, Zb3, Zai, Zaw, ZbP, ZaN, ZbZ, Zb0, Zbv, ZbD, ZaU, ZbY, Zb4, Zb9, ZbT, Zcd, Zb5, ZbG, Zb2, Zb6, ZbQ, ZbE, ZbV, ZaJ, Zbz, Zbw, Zca, Zcb, Zcc, Zce, Zcf, Zb8, Zbh, Za9, Zbr, Zbt, ZaF, ZaG, ZaK, optInt_int, ZaR, ZaQ, ZbA, Zbk, Zbq, ZbX, ZaY, Zag, Zak, Zal, Zb1, ZbR, Zan, Zar, Zah, Zaq, Int.reduceToNat, Int.toNat_natCast, Zad, ZbK, ZbW, ZbO, Zbx, ZaT, List.getElem?_cons_zero, List.getElem?_cons_succ, Zch, Zcg, Zau, Zbj, ZaB, ZaV, Zaj, ZaD, ZaI, Zac, Zat, Zbe, Zba, Zav, Zbn, Za1, ZaM, Zax, Zbf, Zay, Zby, Zaz, Zap, ZaW, Zao, ZaH, Zbi, ZaP, Zaf, Zab, Zae, Zaa, aliasOk, Za5, Bool.false_eq_true, Bool.or_false, Bool.false_or, Bool.or_self, Bool.or_true, Bool.true_or, Bool.and_true, Bool.true_and, Bool.and_self, Bool.not_false, Bool.not_true, Bool.and_false, Bool.false_and, if_false, if_true, reduceIte, ZaZ, ZbJ, String.reduceBEq, String.reduceBNe, String.reduceEq, ZbM, Za2, Zbl, Zbb, ZaS, ZaE, ZaL, ZbC, Zbu, ZaO, ZaA, Zam, Zas, ZbS, Za7, Zbs, Za8, Zbm, Za4, ZbB, Za6, Zbo, Zbd, ZbF, Zbc, Zbg, ZbU, ZaX, Bool.not_eq_true', comp_l0, comp_l2, comp_l3, ev_comp, mapCall_nil, mapCall_cons, mapR_int, ev_maxd, maxd_nil, maxd_cons, maxR_some, maxFrom_nil, maxFrom_cons, b1_sum, sumD_nil, sumD_cons, Option.map_some, ex_callRef, refS_own, ex_asgFresh, finR_next, w1, w2, w3, w4, ia, ib, wt_two, Int.reduceAdd]
    congr 3 <;> omega
  | @when k a b c _ _ _ ia ib ic =>
    intro n
    show (orc fns globs (n + k + 1 + 1)).fn _ _ = _
    rw [orc_fn (F := F_law_size) rfl rfl]
    show fin (ex _ _ F_law_size.body [.fr _, .unset, .unset]) = _
    unfold F_law_size
    simp (disch := (first | assumption | decide | exact Zbp _ | (refine Sm.div ?_ ?_ <;> first | assumption | decide))) only [Za0, ZbH, ZbN, ZbI, ZbL, Za3, ZaC, Zb3, Zai, Zaw, ZbP, ZaN, ZbZ, Zb0, Zbv, ZbD, ZaU, ZbY, Zb4, Zb9, ZbT, Zcd, Zb5, ZbG, Zb2, Zb6, ZbQ, ZbE, ZbV, ZaJ, Zbz, Zbw, Zca, Zcb, Zcc, Zce, Zcf, Zb8, Zbh, Za9, Zbr, Zbt, ZaF, ZaG, ZaK, optInt_int, ZaR, ZaQ, ZbA, Zbk, Zbq, ZbX, ZaY, Zag, Zak, Zal, Zb1, ZbR, Zan, Zar, Zah, Zaq, Int.reduceToNat, Int.toNat_natCast, Zad, ZbK, ZbW, ZbO, Zbx, ZaT, List.getElem?_cons_zero, List.getElem?_cons_succ, Zch, Zcg, Zau, Zbj, ZaB, ZaV, Zaj, ZaD, ZaI, Zac, Zat, Zbe, Zba, Zav, Zbn, Za1, ZaM, Zax, Zbf, Zay, Zby, Zaz, Zap, ZaW, Zao, ZaH, Zbi, ZaP, Zaf, Zab, Zae, Zaa, aliasOk, Za5, Bool.false_eq_true, Bool.or_false, Bool.false_or, Bool.or_self, Bool.or_true, Bool.true_or, Bool.and_true, Bool.true_and, Bool.and_self, Bool.not_false, Bool.not_true, Bool.and_false, Bool.false_and, if_false, if_true, reduceIte, ZaZ, ZbJ, String.reduceBEq, String.reduceBNe, String.reduceEq, ZbM, Za2, Zbl, Zbb, ZaS, ZaE, ZaL, ZbC, Zbu, ZaO, ZaA, Zam, Zas, ZbS, Za7, Zbs, Za8, Zbm, Za4, ZbB, Za6, Zbo, Zbd, ZbF, Zbc, Zbg, ZbU, ZaX, Bool.not_eq_true', comp_l0, comp_l2, comp_l3, ev_comp, mapCall_nil, mapCall_cons, mapR_int, ev_maxd, maxd_nil, maxd_cons, maxR_some, maxFrom_nil, maxFrom_cons, b1_sum, sumD_nil, sumD_cons, Option.map_some, ex_callRef, refS_own, ex_asgFresh, finR_next, ia, ib, ic, wt_when, Int.reduceAdd]
    congr 3 <;> omega
  | @lett k x b c hx _ _ ib ic =>
    intro n
    show (orc fns globs (n + k + 1 + 1)).fn _ _ = _
    rw [orc_fn (F := F_law_size) rfl rfl]
    show fin (ex _ _ F_law_size.body [.fr _, .unset, .unset]) = _
    unfold F_law_size
    simp (disch := (first | assumption | decide | exact Zbp _ | (refine Sm.div ?_ ?_ <;> first | assumption | decide))) only [Za0, ZbH, ZbN, ZbI, ZbL, Za3, ZaC, Zb3, Zai, Zaw, ZbP, ZaN, ZbZ, Zb0, Zbv, ZbD, ZaU, ZbY, Zb4, Zb9, ZbT, Zcd, Zb5, ZbG, Zb2, Zb6, ZbQ, ZbE, ZbV, ZaJ, Zbz, Zbw, Zca, Zcb, Zcc, Zce, Zcf, Zb8, Zbh, Za9, Zbr, Zbt, ZaF, ZaG, ZaK, optInt_int, ZaR, ZaQ, ZbA, Zbk, Zbq, ZbX, ZaY, Zag, Zak, Zal, Zb1, ZbR, Zan, Zar, Zah, Zaq, Int.reduceToNat, Int.toNat_natCast, Zad, ZbK, ZbW, ZbO, Zbx, ZaT, List.getElem?_cons_zero, List.getElem?_cons_succ, Zch, Zcg, Zau, Zbj, ZaB, ZaV, Zaj, ZaD, ZaI, Zac, Zat, Zbe, Zba, Zav, Zbn, Za1, ZaM, Zax, Zbf, Zay, Zby, Zaz, Zap, ZaW, Zao, ZaH, Zbi, ZaP, Zaf, Zab, Zae, Zaa, aliasOk, Za5, Bool.false_eq_true, Bool.or_false, Bool.false_or, Bool.or_self, Bool.or_true, Bool.true_or, Bool.and_true, Bool.true_and, Bool.and_self, Bool.not_false, Bool.not_true, Bool.and_false, Bool.false_and, if_false, if_true, reduceIte, ZaZ, ZbJ, String.reduceBEq, String.reduceBNe, String.reduceEq, ZbM, Za2, Zbl, Zbb, ZaS, ZaE, ZaL, ZbC, Zbu, ZaO, ZaA, Zam, Zas, ZbS, Za7, Zbs, Za8, Zbm, Za4, ZbB, Za6, Zbo, Zbd, ZbF, Zbc, Zbg, ZbU, ZaX, Bool.not_eq_true', comp_l0, comp_l2, comp_l3, ev_comp, mapCall_nil, mapCall_cons, mapR_int, ev_maxd, maxd_nil, maxd_cons, maxR_some, maxFrom_nil, maxFrom_cons, b1_sum, sumD_nil, sumD_cons, Option.map_some, ex_callRef, refS_own, ex_asgFresh, finR_next, ib, ic, wt_let, Int.reduceAdd]
    congr 3 <;> omega
end L02
end Mine
-- P02b
set_option autoImplicit false
set_option linter.all false
set_option maxRecDepth 10000
namespace Mine
open PySem
namespace L02
theorem deep_ok {k : Nat} {e : D} (h : Ex k e) : ∃ z : Int, 1 ≤ z ∧ (∀ n, (orc fns globs (n + k + 2)).fn 2 [e] = .ok (.int z, false)) ∧ ∀ n, (orc fns globs (n + k + 1)).fn 17 [e] = .ok (.int z, false) := by
  induction h with
  | num a b =>
    refine ⟨1, by omega, fun n => ?_, fun n => ?_⟩
    · rw [orc_fn (F := F_deep) rfl rfl]
      show fin (ex _ _ F_deep.body [.fr _]) = _
      unfold F_deep
      simp (disch := (first | assumption | decide | exact Zbp _ | (refine Sm.div ?_ ?_ <;> first | assumption | decide))) only [Za0, ZbH, ZbN, ZbI, ZbL, Za3, ZaC, Zb3, Zai, Zaw, ZbP, ZaN, ZbZ, Zb0, Zbv, ZbD, ZaU, ZbY, Zb4, Zb9, ZbT, Zcd, Zb5, ZbG, Zb2, Zb6, ZbQ, ZbE, ZbV, ZaJ, Zbz, Zbw, Zca, Zcb, Zcc, Zce, Zcf, Zb8, Zbh, Za9, Zbr, Zbt, ZaF, ZaG, ZaK, optInt_int, ZaR, ZaQ, ZbA, Zbk, Zbq, ZbX, ZaY, Zag, Zak, Zal, Zb1, ZbR, Zan, Zar, Zah, Zaq, Int.reduceToNat, Int.toNat_natCast, Zad, ZbK, ZbW, ZbO, Zbx, ZaT, List.getElem?_cons_zero, List.getElem?_cons_succ, Zch, Zcg, Zau, Zbj, ZaB, ZaV, Zaj, ZaD, ZaI, Zac, Zat, Zbe, Zba, Zav, Zbn, Za1, ZaM, Zax, Zbf, Zay, Zby, Zaz, Zap, ZaW, Zao, ZaH, Zbi, ZaP, Zaf, Zab, Zae, Zaa, aliasOk, Za5, Bool.false_eq_true, Bool.or_false, Bool.false_or, Bool.or_self, Bool.or_true, Bool.true_or, Bool.and_true, Bool.true_and, Bool.and_self, Bool.not_false, Bool.not_true, Bool.and_false, Bool.false_and, if_false, if_true, reduceIte, ZaZ, ZbJ, String.reduceBEq, String.reduceBNe, String.reduceEq, ZbM, Za2, Zbl, Zbb, ZaS, ZaE, ZaL, ZbC, Zbu, ZaO, ZaA, Zam, Zas, ZbS, Za7, Zbs, Za8, Zbm, Za4, ZbB, Za6, Zbo, Zbd, ZbF, Zbc, Zbg, ZbU, ZaX, Bool.not_eq_true', comp_l0, comp_l2, comp_l3, ev_comp, mapCall_nil, mapCall_cons, mapR_int, ev_maxd, maxd_nil, maxd_cons, maxR_some, maxFrom_nil, maxFrom_cons, b1_sum, sumD_nil, sumD_cons, Option.map_some, ex_callRef, refS_own, ex_asgFresh, finR_next, parts_leaf _ _ (.inl rfl)]; rfl
    · rw [orc_fn (F := F_law_deep) rfl rfl]
      show fin (ex _ _ F_law_deep.body [.fr _, .unset, .unset]) = _
      unfold F_law_deep
      simp (disch := (first | assumption | decide | exact Zbp _ | (refine Sm.div ?_ ?_ <;> first | assumption | decide))) only [Za0, ZbH, ZbN, ZbI, ZbL, Za3, ZaC, Zb3, Zai, Zaw, ZbP, ZaN, ZbZ, Zb0, Zbv, ZbD, ZaU, ZbY, Zb4, Zb9, ZbT, Zcd, Zb5, ZbG, Zb2, Zb6, ZbQ, ZbE, ZbV, ZaJ, Zbz, Zbw, Zca, Zcb, Zcc, Zce, Zcf, Zb8, Zbh, Za9, Zbr, Zbt, ZaF, ZaG, ZaK, optInt_int, ZaR, ZaQ, ZbA, Zbk, Zbq, ZbX, ZaY, Zag, Zak, Zal, Zb1, ZbR, Zan, Zar, Zah, Zaq, Int.reduceToNat, Int.toNat_natCast, Zad, ZbK, ZbW, ZbO, Zbx, ZaT, List.getElem?_cons_zero, List.getElem?_cons_succ, Zch, Zcg, Zau, Zbj, ZaB, ZaV, Zaj, ZaD, ZaI, Zac, Zat, Zbe, Zba, Zav, Zbn, Za1, ZaM, Zax, Zbf, Zay, Zby, Zaz, Zap, ZaW, Zao, ZaH, Zbi, ZaP, Zaf, Zab, Zae, Zaa, aliasOk, Za5, Bool.false_eq_true, Bool.or_false, Bool.false_or, Bool.or_self, Bool.or_true, Bool.true_or, Bool.and_true, Bool.true_and, Bool.and_self, Bool.not_false, Bool.not_true, Bool.and_false, Bool.false_and, if_false, if_true, reduceIte, ZaZ, ZbJ, String.reduceBEq, String.reduceBNe, String.reduceEq, ZbM, Za2, Zbl, Zbb, ZaS, ZaE, ZaL, ZbC, Zbu, ZaO, ZaA, Zam, Zas, ZbS, Za7, Zbs, Za8, Zbm, Za4, ZbB, Za6, Zbo, Zbd, ZbF, Zbc, Zbg, ZbU, ZaX, Bool.not_eq_true', comp_l0, comp_l2, comp_l3, ev_comp, mapCall_nil, mapCall_cons, mapR_int, ev_maxd, maxd_nil, maxd_cons, maxR_some, maxFrom_nil, maxFrom_cons, b1_sum, sumD_nil, sumD_cons, Option.map_some, ex_callRef, refS_own, ex_asgFresh, finR_next]
  | name hx =>
    refine ⟨1, by omega, fun n => ?_, fun n => ?_⟩
    · rw [orc_fn (F := F_deep) rfl rfl]
      show fin (ex _ _ F_deep.body [.fr _]) = _
      unfold F_deep
      simp (disch := (first | assumption | decide | exact Zbp _ | (refine Sm.div ?_ ?_ <;> first | assumption | decide))) only [Za0, ZbH, ZbN, ZbI, ZbL, Za3, ZaC, Zb3, Zai, Zaw, ZbP, ZaN, ZbZ, Zb0, Zbv, ZbD, ZaU, ZbY, Zb4, Zb9, ZbT, Zcd, Zb5, ZbG, Zb2, Zb6, ZbQ, ZbE, ZbV, ZaJ, Zbz, Zbw, Zca, Zcb, Zcc, Zce, Zcf, Zb8, Zbh, Za9, Zbr, Zbt, ZaF, ZaG, ZaK, optInt_int, ZaR, ZaQ, ZbA, Zbk, Zbq, ZbX, ZaY, Zag, Zak, Zal, Zb1, ZbR, Zan, Zar, Zah, Zaq, Int.reduceToNat, Int.toNat_natCast, Zad, ZbK, ZbW, ZbO, Zbx, ZaT, List.getElem?_cons_zero, List.getElem?_cons_succ, Zch, Zcg, Zau, Zbj, ZaB, ZaV, Zaj, ZaD, ZaI, Zac, Zat, Zbe, Zba, Zav, Zbn, Za1, ZaM, Zax, Zbf, Zay, Zby, Zaz, Zap, ZaW, Zao, ZaH, Zbi, ZaP, Zaf, Zab, Zae, Zaa, aliasOk, Za5, Bool.false_eq_true, Bool.or_false, Bool.false_or, Bool.or_self, Bool.or_true, Bool.true_or, Bool.and_true, Bool.true_and, Bool.and_self, Bool.not_false, Bool.not_true, Bool.and_false, Bool.false_and, if_false, if_true, reduceIte, ZaZ, ZbJ, String.reduceBEq, String.reduceBNe, String.reduceEq, ZbM, Za2, Zbl, Zbb, ZaS, ZaE, ZaL, ZbC, Zbu, ZaO, ZaA, Zam, Zas, ZbS, Za7, Zbs, Za8, Zbm, Za4, ZbB, Za6, Zbo, Zbd, ZbF, Zbc, Zbg, ZbU, ZaX, Bool.not_eq_true', comp_l0, comp_l2, comp_l3, ev_comp, mapCall_nil, mapCall_cons, mapR_int, ev_maxd, maxd_nil, maxd_cons, maxR_some, maxFrom_nil, maxFrom_cons, b1_sum, sumD_nil, sumD_cons, Option.map_some, ex_callRef, refS_own, ex_asgFresh, finR_next, parts_leaf _ _ (.inr rfl)]; rfl
    · rw [orc_fn (F := F_law_deep) rfl rfl]
      show fin (ex _ _ F_law_deep.body [.fr _, .unset, .unset]) = _
      unfold F_law_deep
      simp (disch := (first | assumption | decide | exact Zbp _ | (refine Sm.div ?_ ?_ <;> first | assumption | decide))) only [Za0, ZbH, ZbN, ZbI, ZbL, Za3, ZaC, Zb3, Zai, Zaw, ZbP, ZaN, ZbZ, Zb0, Zbv, ZbD, ZaU, ZbY, Zb4, Zb9, ZbT, Zcd, Zb5, ZbG, Zb2, Zb6, ZbQ, ZbE, ZbV, ZaJ, Zbz, Zbw, Zca, Zcb, Zcc, Zce, Zcf, Zb8, Zbh, Za9, Zbr, Zbt, ZaF, ZaG, ZaK, optInt_int, ZaR, ZaQ, ZbA, Zbk, Zbq, ZbX, ZaY, Zag, Zak, Zal, Zb1, ZbR, Zan, Zar, Zah, Zaq, Int.reduceToNat, Int.toNat_natCast, Zad, ZbK, ZbW, ZbO, Zbx, ZaT, List.getElem?_cons_zero, List.getElem?_cons_succ, Zch, Zcg, Zau, Zbj, ZaB, ZaV, Zaj, ZaD, ZaI, Zac, Zat, Zbe, Zba, Zav, Zbn, Za1, ZaM, Zax, Zbf, Zay, Zby, Zaz, Zap, ZaW, Zao, ZaH, Zbi, ZaP, Zaf, Zab, Zae, Zaa, aliasOk, Za5, Bool.false_eq_true, Bool.or_false, Bool.false_or, Bool.or_self, Bool.or_true, Bool.true_or, Bool.and_true, Bool.true_and, Bool.and_self, Bool.not_false, Bool.not_true, Bool.and_false, Bool.false_and, if_false, if_true, reduceIte, ZaZ, ZbJ, String.reduceBEq, String.reduceBNe, String.reduceEq, ZbM, Za2, Zbl, Zbb, ZaS, ZaE, ZaL, ZbC, Zbu, ZaO, ZaA, Zam, Zas, ZbS, Za7, Zbs, Za8, Zbm, Za4, ZbB, Za6, Zbo, Zbd, ZbF, Zbc, Zbg, ZbU, ZaX, Bool.not_eq_true', comp_l0, comp_l2, comp_l3, ev_comp, mapCall_nil, mapCall_cons, mapR_int, ev_maxd, maxd_nil, maxd_cons, maxR_some, maxFrom_nil, maxFrom_cons, b1_sum, sumD_nil, sumD_cons, Option.map_some, ex_callRef, refS_own, ex_asgFresh, finR_next]
  | @two k w a b hw _ _ ia ib =>
    obtain ⟨x, hx, x1, x2⟩ := ia
    obtain ⟨y, hy, y1, y2⟩ := ib
    refine ⟨1 + max x y, by omega, fun n => ?_, fun n => ?_⟩
    · show (orc fns globs (n + k + 2 + 1)).fn _ _ = _
      rw [orc_fn (F := F_deep) rfl rfl]
      show fin (ex _ _ F_deep.body [.fr _]) = _
      unfold F_deep
      simp (disch := (first | assumption | decide | exact Zbp _ | (refine Sm.div ?_ ?_ <;> first | assumption | decide))) only [Za0, ZbH, ZbN, ZbI, ZbL, Za3, ZaC, Zb3, Zai, Zaw, ZbP, ZaN, ZbZ, Zb0, Zbv, ZbD, ZaU, ZbY, Zb4, Zb9, ZbT, Zcd, Zb5, ZbG, Zb2, Zb6, ZbQ, ZbE, ZbV, ZaJ, Zbz, Zbw, Zca, Zcb, Zcc, Zce, Zcf, Zb8, Zbh, Za9, Zbr, Zbt, ZaF, ZaG, ZaK, optInt_int, ZaR, ZaQ, ZbA, Zbk, Zbq, ZbX, ZaY, Zag, Zak, Zal, Zb1, ZbR, Zan, Zar, Zah, Zaq, Int.reduceToNat, Int.toNat_natCast, Zad, ZbK, ZbW, ZbO, Zbx, ZaT, List.getElem?_cons_zero, List.getElem?_cons_succ, Zch, Zcg, Zau, Zbj, ZaB, ZaV, Zaj, ZaD, ZaI, Zac, Zat, Zbe, Zba, Zav, Zbn, Za1, ZaM, Zax, Zbf, Zay, Zby, Zaz, Zap, ZaW, Zao, ZaH, Zbi, ZaP, Zaf, Zab, Zae, Zaa, aliasOk, Za5, Bool.false_eq_true, Bool.or_false, Bool.false_or, Bool.or_self, Bool.or_true, Bool.true_or, Bool.and_true, Bool.true_and, Bool.and_self, Bool.not_false, Bool.not_true, Bool.and_false, Bool.false_and, if_false, if_true, reduceIte, ZaZ, ZbJ, String.reduceBEq, String.reduceBNe, String.reduceEq, ZbM, Za2, Zbl, Zbb, ZaS, ZaE, ZaL, ZbC, Zbu, ZaO, ZaA, Zam, Zas, ZbS, Za7, Zbs, Za8, Zbm, Za4, ZbB, Za6, Zbo, Zbd, ZbF, Zbc, Zbg, ZbU, ZaX, Bool.not_eq_true', comp_l0, comp_l2, comp_l3, ev_comp, mapCall_nil, mapCall_cons, mapR_int, ev_maxd, maxd_nil, maxd_cons, maxR_some, maxFrom_nil, maxFrom_cons, b1_sum, sumD_nil, sumD_cons, Option.map_some, ex_callRef, refS_own, ex_asgFresh, finR_next, parts_two _ _ _ hw, x1, y1]
    · show (orc fns globs (n + k + 1 + 1)).fn _ _ = _
      rw [orc_fn (F := F_law_deep) rfl rfl]
      show fin (ex _ _ F_law_deep.body [.fr _, .unset, .unset]) = _
      unfold F_law_deep
      obtain ⟨w1, w2, w3, w4⟩ := two_ne hw
      simp (disch := (first | assumption | decide | exact Zbp _ | (refine Sm.div ?_ ?_ <;> first | assumption | decide))) only [Za0, ZbH, ZbN, ZbI, ZbL, Za3, ZaC, Zb3, Zai, Zaw, ZbP, ZaN, ZbZ, Zb0, Zbv, ZbD, ZaU, ZbY, Zb4, Zb9, ZbT, Zcd, Zb5, ZbG, Zb2, Zb6, ZbQ, ZbE, ZbV, ZaJ, Zbz, Zbw, Zca, Zcb, Zcc, Zce, Zcf, Zb8, Zbh, Za9, Zbr, Zbt, ZaF, ZaG, ZaK, optInt_int, ZaR, ZaQ, ZbA, Zbk, Zbq, ZbX, ZaY, Zag, Zak, Zal, Zb1, ZbR, Zan, Zar, Zah, Zaq, Int.reduceToNat, Int.toNat_natCast, Zad, ZbK, ZbW, ZbO, Zbx, ZaT, List.getElem?_cons_zero, List.getElem?_cons_succ, Zch, Zcg, Zau, Zbj, ZaB, ZaV, Zaj, ZaD, ZaI, Zac, Zat, Zbe, Zba, Zav, Zbn, Za1, ZaM, Zax, Zbf, Zay, Zby, Zaz, Zap, ZaW, Zao, ZaH, Zbi, ZaP, Zaf, Zab, Zae, Zaa, aliasOk, Za5, Bool.false_eq_true, Bool.or_false, Bool.false_or, Bool.or_self, Bool.or_true, Bool.true_or, Bool.and_true, Bool.true_and, Bool.and_self, Bool.not_false, Bool.not_true, Bool.and_false, Bool.false_and, if_false, if_true, reduceIte, ZaZ, ZbJ, String.reduceBEq, String.reduceBNe, String.reduceEq, ZbM, Za2, Zbl, Zbb, ZaS, ZaE, ZaL, ZbC, Zbu, ZaO, ZaA, Zam, Zas, ZbS, Za7, Zbs, Za8, Zbm, Za4, ZbB, Za6, Zbo, Zbd, ZbF, Zbc, Zbg, ZbU, ZaX, Bool.not_eq_true', comp_l0, comp_l2, comp_l3, ev_comp, mapCall_nil, mapCall_cons, mapR_int, ev_maxd, maxd_nil, maxd_cons, maxR_some, maxFrom_nil, maxFrom_cons, b1_sum, sumD_nil, sumD_cons, Option.map_some, ex_callRef, refS_own, ex_asgFresh, finR_next, w1, w2, w3, w4, x2, y2, Int.reduceAdd]
      congr 3
      split <;> omega
  | @when k a b c _ _ _ ia ib ic =>
    obtain ⟨x, hx, x1, x2⟩ := ia
    obtain ⟨y, hy, y1, y2⟩ := ib
    obtain ⟨z, hz, z1, z2⟩ := ic
    refine ⟨1 + max (max x y) z, by omega, fun n => ?_, fun n => ?_⟩
    · show (orc fns globs (n + k + 2 + 1)).fn _ _ = _
      rw [orc_fn (F := F_deep) rfl rfl]
      show fin (ex _ _ F_deep.body [.fr _]) = _
      unfold F_deep
      simp (disch := (first | assumption | decide | exact Zbp _ | (refine Sm.div ?_ ?_ <;> first | assumption | decide))) only [Za0, ZbH, ZbN, ZbI, ZbL, Za3, ZaC, Zb3, Zai, Zaw, ZbP, ZaN, ZbZ, Zb0, Zbv, ZbD, ZaU, ZbY, Zb4, Zb9, ZbT, Zcd, Zb5, ZbG, Zb2, Zb6, ZbQ, ZbE, ZbV, ZaJ, Zbz, Zbw, Zca, Zcb, Zcc, Zce, Zcf, Zb8, Zbh, Za9, Zbr, Zbt, ZaF, ZaG, ZaK, optInt_int, ZaR, ZaQ, ZbA, Zbk, Zbq, ZbX, ZaY, Zag, Zak, Zal, Zb1, ZbR, Zan, Zar, Zah, Zaq, Int.reduceToNat, Int.toNat_natCast, Zad, ZbK, ZbW, ZbO, Zbx, ZaT, List.getElem?_cons_zero, List.getElem?_cons_succ, Zch, Zcg, Zau, Zbj, ZaB, ZaV, Zaj, ZaD, ZaI, Zac, Zat, Zbe, Zba, Zav, Zbn, Za1, ZaM, Zax, Zbf, Zay, Zby, Zaz, Zap, ZaW, Zao, ZaH, Zbi, ZaP, Zaf, Zab, Zae, Zaa, aliasOk, Za5, Bool.false_eq_true, Bool.or_false, Bool.false_or, Bool.or_self, Bool.or_true, Bool.true_or, Bool.and_true, Bool.true_and, Bool.and_self, Bool.not_false, Bool.not_true, Bool.and_false, Bool.false_and, if_false, if_true, reduceIte, ZaZ, ZbJ, String.reduceBEq, String.reduceBNe, String.reduceEq, ZbM, Za2, Zbl, Zbb, ZaS, ZaE, ZaL, ZbC, Zbu, ZaO, ZaA, Zam, Zas, ZbS, Za7, Zbs, Za8, Zbm, Za4, ZbB, Za6, Zbo, Zbd, ZbF, Zbc, Zbg, ZbU, ZaX, Bool.not_eq_true', comp_l0, comp_l2, comp_l3, ev_comp, mapCall_nil, mapCall_cons, mapR_int, ev_maxd, maxd_nil, maxd_cons, maxR_some, maxFrom_nil, maxFrom_cons, b1_sum, sumD_nil, sumD_cons, Option.map_some, ex_callRef, refS_own, ex_asgFresh, finR_next, parts_when, x1, y1, z1]
    · show (orc fns globs (n + k + 1 + 1)).fn _ _ = _
      rw [orc_fn (F := F_law_deep) rfl rfl]
      show fin (ex _ _ F_law_deep.body [.fr _, .unset, .unset]) = _
      unfold F_law_deep
      simp (disch := (first | assumption | decide | exact Zbp _ | (refine Sm.div ?_ ?_ <;> first | assumption | decide))) only [Za0, ZbH, ZbN, ZbI, ZbL, Za3, ZaC, Zb3, Zai, Zaw, ZbP, ZaN, ZbZ, Zb0, Zbv, ZbD, ZaU, ZbY, Zb4, Zb9, ZbT, Zcd, Zb5, ZbG, Zb2, Zb6, ZbQ, ZbE, ZbV, ZaJ, Zbz, Zbw, Zca, Zcb, Zcc, Zce, Zcf, Zb8, Zbh, Za9, Zbr, Zbt, ZaF, ZaG, ZaK, optInt_int, ZaR, ZaQ, ZbA, Zbk, Zbq, ZbX, ZaY, Zag, Zak, Zal, Zb1, ZbR, Zan, Zar, Zah, Zaq, Int.reduceToNat, Int.toNat_natCast, Zad, ZbK, ZbW, ZbO, Zbx, ZaT, List.getElem?_cons_zero, List.getElem?_cons_succ, Zch, Zcg, Zau, Zbj, ZaB, ZaV, Zaj, ZaD, ZaI, Zac, Zat, Zbe, Zba, Zav, Zbn, Za1, ZaM, Zax, Zbf, Zay, Zby, Zaz, Zap, ZaW, Zao, ZaH, Zbi, ZaP, Zaf, Zab, Zae, Zaa, aliasOk, Za5, Bool.false_eq_true, Bool.or_false, Bool.false_or, Bool.or_self, Bool.or_true, Bool.true_or, Bool.and_true, Bool.true_and, Bool.and_self, Bool.not_false, Bool.not_true, Bool.and_false, Bool.false_and, if_false, if_true, reduceIte, ZaZ, ZbJ, String.reduceBEq, String.reduceBNe, String.reduceEq, ZbM, Za2, Zbl, Zbb, ZaS, ZaE, ZaL, ZbC, Zbu, ZaO, ZaA, Zam, Zas, ZbS, Za7, Zbs, Za8, Zbm, Za4, ZbB, Za6, Zbo, Zbd, ZbF, Zbc, Zbg, ZbU, ZaX, Bool.not_eq_true', comp_l0, comp_l2, comp_l3, ev_comp, mapCall_nil, mapCall_cons, mapR_int, ev_maxd, maxd_nil, maxd_cons, maxR_some, maxFrom_nil, maxFrom_cons, b1_sum, sumD_nil, sumD_cons, Option.map_some, ex_callRef, refS_own, ex_asgFresh, finR_next, x2, y2, z2, Int.reduceAdd]
      congr 3
      split <;> split <;> omega
  | @lett k x b c hx _ _ ib ic =>
    obtain ⟨y, hy, y1, y2⟩ := ib
    obtain ⟨z, hz, z1, z2⟩ := ic
    refine ⟨1 + max y z, by omega, fun n => ?_, fun n => ?_⟩
    · show (orc fns globs (n + k + 2 + 1)).fn _ _ = _
      rw [orc_fn (F := F_deep) rfl rfl]
      show fin (ex _ _ F_deep.body [.fr _]) = _
      unfold F_deep
      simp (disch := (first | assumption | decide | exact Zbp _ | (refine Sm.div ?_ ?_ <;> first | assumption | decide))) only [Za0, ZbH, ZbN, ZbI, ZbL, Za3, ZaC, Zb3, Zai, Zaw, ZbP, ZaN, ZbZ, Zb0, Zbv, ZbD, ZaU, ZbY, Zb4, Zb9, ZbT, Zcd, Zb5, ZbG, Zb2, Zb6, ZbQ, ZbE, ZbV, ZaJ, Zbz, Zbw, Zca, Zcb, Zcc, Zce, Zcf, Zb8, Zbh, Za9, Zbr, Zbt, ZaF, ZaG, ZaK, optInt_int, ZaR, ZaQ, ZbA, Zbk, Zbq, ZbX, ZaY, Zag, Zak, Zal, Zb1, ZbR, Zan, Zar, Zah, Zaq, Int.reduceToNat, Int.toNat_natCast, Zad, ZbK, ZbW, ZbO, Zbx, ZaT, List.getElem?_cons_zero, List.getElem?_cons_succ, Zch, Zcg, Zau, Zbj, ZaB, ZaV, Zaj, ZaD, ZaI, Zac, Zat, Zbe, Zba, Zav, Zbn, Za1, ZaM, Zax, Zbf, Zay, Zby, Zaz, Zap, ZaW, Zao, ZaH, Zbi, ZaP, Zaf, Zab, Zae, Zaa, aliasOk, Za5, Bool.false_eq_true, Bool.or_false, Bool.false_or, Bool.or_self, Bool.or_true, Bool.true_or, Bool.and_true, Bool.true_and, Bool.and_self, Bool.not_false, Bool.not_true, Bool.and_false, Bool.false_and, if_false, if_true, reduceIte, ZaZ, ZbJ, String.reduceBEq, String.reduceBNe, String.reduceEq, ZbM, Za2, Zbl, Zbb, ZaS, ZaE, ZaL, ZbC, Zbu, ZaO, ZaA, Zam, Zas, ZbS, Za7, Zbs, Za8, Zbm, Za4, ZbB, Za6, Zbo, Zbd, ZbF, Zbc, Zbg, ZbU, ZaX, Bool.not_eq_true', comp_l0, comp_l2, comp_l3, ev_comp, mapCall_nil, mapCall_cons, mapR_int, ev_maxd, maxd_nil, maxd_cons, maxR_some, maxFrom_nil, maxFrom_cons, b1_sum, sumD_nil, sumD_cons, Option.map_some, ex_callRef, refS_own, ex_asgFresh, finR_next, parts_let, y1, z1]
    · show (orc fns globs (n + k + 1 + 1)).fn _ _ = _
      rw [orc_fn (F := F_law_deep) rfl rfl]
      show fin (ex _ _ F_law_deep.body [.fr _, .unset, .unset]) = _
      unfold F_law_deep
      simp (disch := (first | assumption | decide | exact Zbp _ | (refine Sm.div ?_ ?_ <;> first | assumption | decide))) only [Za0, ZbH, ZbN, ZbI, ZbL, Za3, ZaC, Zb3, Zai, Zaw, ZbP, ZaN, ZbZ, Zb0, Zbv, ZbD, ZaU, ZbY, Zb4, Zb9, ZbT, Zcd, Zb5, ZbG, Zb2, Zb6, ZbQ, ZbE, ZbV, ZaJ, Zbz, Zbw, Zca, Zcb, Zcc, Zce, Zcf, Zb8, Zbh, Za9, Zbr, Zbt, ZaF, ZaG, ZaK, optInt_int, ZaR, ZaQ, ZbA, Zbk, Zbq, ZbX, ZaY, Zag, Zak, Zal, Zb1, ZbR, Zan, Zar, Zah, Zaq, Int.reduceToNat, Int.toNat_natCast, Zad, ZbK, ZbW, ZbO, Zbx, ZaT, List.getElem?_cons_zero, List.getElem?_cons_succ, Zch, Zcg, Zau, Zbj, ZaB, ZaV, Zaj, ZaD, ZaI, Zac, Zat, Zbe, Zba, Zav, Zbn, Za1, ZaM, Zax, Zbf, Zay, Zby, Zaz, Zap, ZaW, Zao, ZaH, Zbi, ZaP, Zaf, Zab, Zae, Zaa, aliasOk, Za5, Bool.false_eq_true, Bool.or_false, Bool.false_or, Bool.or_self, Bool.or_true, Bool.true_or, Bool.and_true, Bool.true_and, Bool.and_self, Bool.not_false, Bool.not_true, Bool.and_false, Bool.false_and, if_false, if_true, reduceIte, ZaZ, ZbJ, String.reduceBEq, String.reduceBNe, String.reduceEq, ZbM, Za2, Zbl, Zbb, ZaS, ZaE, ZaL, ZbC, Zbu, ZaO, ZaA, Zam, Zas, ZbS, Za7, Zbs, Za8, Zbm, Za4, ZbB, Za6, Zbo, Zbd, ZbF, Zbc, Zbg, ZbU, ZaX, Bool.not_eq_true', comp_l0, comp_l2, comp_l3, ev_comp, mapCall_nil, mapCall_cons, mapR_int, ev_maxd, maxd_nil, maxd_cons, maxR_some, maxFrom_nil, maxFrom_cons, b1_sum, sumD_nil, sumD_cons, Option.map_some, ex_callRef, refS_own, ex_asgFresh, finR_next, y2, z2, Int.reduceAdd]
      congr 3
      split <;> omega
end L02
end Mine
-- P02c
set_option autoImplicit false
set_option linter.all false
set_option maxRecDepth 10000
namespace Mine
open PySem
namespace L02
theorem inner_no (n : Nat) {t : String} (tl : List D) (kk : Int) (h : t ≠ "let" ∨ kk ≠ 3) (fs : Slot) : ∀ (L F : List Str) (n0 o0 : Slot), Nms L → Nms F → F.length + L.length ≤ 2000 →
    ∃ n1 o1, forLoop (bodyS (orc fns globs n) globs 4 (.seq (.asg 5 (.and (.cmp .Eq (.idx (.var 0) (.cint 0)) (.cstr (Str.ofString "let"))) (.and (.cmp .Eq (.var 3) (.cint 3)) (.cmp .Eq (.var 4) (.idx (.var 0) (.cint 1)))))) (.seq (.ite (.and (.cmp .NotIn (.var 4) (.own 1)) (.nt (.var 5))) (.seq (.append 1 (.var 4)) .skip) .skip) .skip))) (strL L) [.fr (.tuple (.str (Str.ofString t) :: tl)), .own (.list (strL F)), fs, .fr (.int kk), n0, o0]
      = .next [.fr (.tuple (.str (Str.ofString t) :: tl)), .own (.list (strL (addAll F L))), fs, .fr (.int kk), n1, o1]
  | [], F, n0, o0, _, _, _ => ⟨n0, o0, by simp (disch := (first | assumption | decide | exact Zbp _ | (refine Sm.div ?_ ?_ <;> first | assumption | decide) | omega | (simp only [List.length_append, List.length_cons, List.length_nil, slen_sone, Zb7, slen_empty]; omega))) only [Za0, ZbH, ZbN, ZbI, ZbL, Za3, ZaC, Zb3, Zai, Zaw, ZbP, ZaN, ZbZ, Zb0, Zbv, ZbD, ZaU, ZbY, Zb4, Zb9, ZbT, Zcd, Zb5, ZbG, Zb2, Zb6, ZbQ, ZbE, ZbV, ZaJ, Zbz, Zbw, Zca, Zcb, Zcc, Zce, Zcf, Zb8, Zbh, Za9, Zbr, Zbt, ZaF, ZaG, ZaK, optInt_int, ZaR, ZaQ, ZbA, Zbk, mul_ok, Zbq, ZbX, ZaY, addl_ok, Zag, Zak, Zal, Zb1, ZbR, Zan, Zar, Zah, Zaq, getk, Int.reduceToNat, Int.toNat_natCast, len_list_ok, len_tuple_ok, len_str_ok, Zad, ZbK, ZbW, ZbO, Zbx, ZaT, List.getElem?_cons_zero, List.getElem?_cons_succ, Zch, Zcg, Zau, Zbj, ZaB, ZaV, Zaj, ZaD, ZaI, Zac, Zat, Zbe, Zba, Zav, Zbn, Za1, ZaM, Zax, Zbf, Zay, Zby, Zaz, Zap, ZaW, Zao, ZaH, Zbi, ZaP, Zaf, Zab, Zae, Zaa, aliasOk, Za5, Bool.false_eq_true, Bool.or_false, Bool.false_or, Bool.or_self, Bool.or_true, Bool.true_or, Bool.and_true, Bool.true_and, Bool.and_self, Bool.not_false, Bool.not_true, Bool.and_false, Bool.false_and, if_false, if_true, reduceIte, List.length_append, List.length_cons, List.length_nil, ZaZ, ZbJ, String.reduceBEq, String.reduceBNe, String.reduceEq, ZbM, Za2, Zbl, Zbb, ZaS, ZaE, ZaL, ZbC, Zbu, forS_list, ZaO, ZaA, Zam, Zas, ZbS, Za7, Zbs, Za8, Zbm, Za4, ZbB, Za6, Zbo, Zbd, ZbF, Zbc, slice_hi, slice_lo, slice_both, slice_tup1, slice_tup2, Zbg, ZbU, ZaX, decide_eq_true, decide_eq_false, int_beq_t, int_beq_f, Bool.and_eq_false_iff, Bool.or_eq_false_iff, beq_iff_eq, bne_iff_ne, decide_eq_true_eq, Bool.and_eq_true, Bool.or_eq_true, Bool.not_eq_true', decide_eq_false_iff_not, beq_eq_false_iff_ne, if_pos, if_neg, comp_l0, comp_l2, comp_l3, ev_comp, mapCall_nil, mapCall_cons, mapR_int, ev_maxd, maxd_nil, maxd_cons, maxR_some, maxFrom_nil, maxFrom_cons, b1_sum, sumD_nil, sumD_cons, Option.map_some, ex_callRef, refS_own, ex_asgFresh, finR_next, List.map_nil, addAll_nil]⟩
  | x :: L, F, n0, o0, hL, hF, hl => by
    have hx := hL x (.head _)
    simp only [List.length_cons] at hl
    have hlen : (strL F).length = F.length := List.length_map ..
    have own : ∀ q : R D, andR (.ok (.bool (t == "let"))) (andR (.ok (.bool (kk == 3))) q) = .ok (.bool false) := fun q => by
      by_cases ht : t = "let"
      · have hk : (kk == 3) = false := by
          rcases h with h | h
          · exact absurd ht h
          · exact beq_eq_false_iff_ne.mpr h
        rw [hk, ZbM]
        cases (t == "let") <;> rfl
      · have : (t == "let") = false := beq_eq_false_iff_ne.mpr ht
        rw [this]; rfl
    by_cases hc : x ∈ F
    · have e1 : add1 F x = F := by unfold add1; rw [if_pos (List.contains_iff_mem.mpr hc)]
      obtain ⟨n1, o1, e⟩ := inner_no n tl kk h fs L F (.fr (.str x)) (.fr (.bool false)) (fun y hy => hL y (.tail _ hy)) hF (by omega)
      refine ⟨n1, o1, ?_⟩
      rw [addAll_cons, e1, ← e]
      have hc' := List.contains_iff_mem.mpr hc
      simp (disch := (first | assumption | decide | exact Zbp _ | (refine Sm.div ?_ ?_ <;> first | assumption | decide) | omega | (simp only [List.length_append, List.length_cons, List.length_nil, slen_sone, Zb7, slen_empty]; omega))) only [Za0, ZbH, ZbN, ZbI, ZbL, Za3, ZaC, Zb3, Zai, Zaw, ZbP, ZaN, ZbZ, Zb0, Zbv, ZbD, ZaU, ZbY, Zb4, Zb9, ZbT, Zcd, Zb5, ZbG, Zb2, Zb6, ZbQ, ZbE, ZbV, ZaJ, Zbz, Zbw, Zca, Zcb, Zcc, Zce, Zcf, Zb8, Zbh, Za9, Zbr, Zbt, ZaF, ZaG, ZaK, optInt_int, ZaR, ZaQ, ZbA, Zbk, mul_ok, Zbq, ZbX, ZaY, addl_ok, Zag, Zak, Zal, Zb1, ZbR, Zan, Zar, Zah, Zaq, getk, Int.reduceToNat, Int.toNat_natCast, len_list_ok, len_tuple_ok, len_str_ok, Zad, ZbK, ZbW, ZbO, Zbx, ZaT, List.getElem?_cons_zero, List.getElem?_cons_succ, Zch, Zcg, Zau, Zbj, ZaB, ZaV, Zaj, ZaD, ZaI, Zac, Zat, Zbe, Zba, Zav, Zbn, Za1, ZaM, Zax, Zbf, Zay, Zby, Zaz, Zap, ZaW, Zao, ZaH, Zbi, ZaP, Zaf, Zab, Zae, Zaa, aliasOk, Za5, Bool.false_eq_true, Bool.or_false, Bool.false_or, Bool.or_self, Bool.or_true, Bool.true_or, Bool.and_true, Bool.true_and, Bool.and_self, Bool.not_false, Bool.not_true, Bool.and_false, Bool.false_and, if_false, if_true, reduceIte, List.length_append, List.length_cons, List.length_nil, ZaZ, ZbJ, String.reduceBEq, String.reduceBNe, String.reduceEq, ZbM, Za2, Zbl, Zbb, ZaS, ZaE, ZaL, ZbC, Zbu, forS_list, ZaO, ZaA, Zam, Zas, ZbS, Za7, Zbs, Za8, Zbm, Za4, ZbB, Za6, Zbo, Zbd, ZbF, Zbc, slice_hi, slice_lo, slice_both, slice_tup1, slice_tup2, Zbg, ZbU, ZaX, decide_eq_true, decide_eq_false, int_beq_t, int_beq_f, Bool.and_eq_false_iff, Bool.or_eq_false_iff, beq_iff_eq, bne_iff_ne, decide_eq_true_eq, Bool.and_eq_true, Bool.or_eq_true, Bool.not_eq_true', decide_eq_false_iff_not, beq_eq_false_iff_ne, if_pos, if_neg, comp_l0, comp_l2, comp_l3, ev_comp, mapCall_nil, mapCall_cons, mapR_int, ev_maxd, maxd_nil, maxd_cons, maxR_some, maxFrom_nil, maxFrom_cons, b1_sum, sumD_nil, sumD_cons, Option.map_some, ex_callRef, refS_own, ex_asgFresh, finR_next, List.map_cons, own, notin_strL hx hF, hc']
    · have e1 : add1 F x = F ++ [x] := by unfold add1; rw [if_neg (by rw [List.contains_iff_mem]; exact hc)]
      obtain ⟨n1, o1, e⟩ := inner_no n tl kk h fs L (F ++ [x]) (.fr (.str x)) (.fr (.bool false)) (fun y hy => hL y (.tail _ hy)) (hF.app (.one hx)) (by simp; omega)
      refine ⟨n1, o1, ?_⟩
      rw [addAll_cons, e1, ← e, ← strL_snoc]
      have hc' : F.contains x = false := by rw [Bool.eq_false_iff]; exact fun q => hc (List.contains_iff_mem.mp q)
      simp (disch := (first | assumption | decide | exact Zbp _ | (refine Sm.div ?_ ?_ <;> first | assumption | decide) | omega | (simp only [List.length_append, List.length_cons, List.length_nil, slen_sone, Zb7, slen_empty]; omega))) only [Za0, ZbH, ZbN, ZbI, ZbL, Za3, ZaC, Zb3, Zai, Zaw, ZbP, ZaN, ZbZ, Zb0, Zbv, ZbD, ZaU, ZbY, Zb4, Zb9, ZbT, Zcd, Zb5, ZbG, Zb2, Zb6, ZbQ, ZbE, ZbV, ZaJ, Zbz, Zbw, Zca, Zcb, Zcc, Zce, Zcf, Zb8, Zbh, Za9, Zbr, Zbt, ZaF, ZaG, ZaK, optInt_int, ZaR, ZaQ, ZbA, Zbk, mul_ok, Zbq, ZbX, ZaY, addl_ok, Zag, Zak, Zal, Zb1, ZbR, Zan, Zar, Zah, Zaq, getk, Int.reduceToNat, Int.toNat_natCast, len_list_ok, len_tuple_ok, len_str_ok, Zad, ZbK, ZbW, ZbO, Zbx, ZaT, List.getElem?_cons_zero, List.getElem?_cons_succ, Zch, Zcg, Zau, Zbj, ZaB, ZaV, Zaj, ZaD, ZaI, Zac, Zat, Zbe, Zba, Zav, Zbn, Za1, ZaM, Zax, Zbf, Zay, Zby, Zaz, Zap, ZaW, Zao, ZaH, Zbi, ZaP, Zaf, Zab, Zae, Zaa, aliasOk, Za5, Bool.false_eq_true, Bool.or_false, Bool.false_or, Bool.or_self, Bool.or_true, Bool.true_or, Bool.and_true, Bool.true_and, Bool.and_self, Bool.not_false, Bool.not_true, Bool.and_false, Bool.false_and, if_false, if_true, reduceIte, List.length_append, List.length_cons, List.length_nil, ZaZ, ZbJ, String.reduceBEq, String.reduceBNe, String.reduceEq, ZbM, Za2, Zbl, Zbb, ZaS, ZaE, ZaL, ZbC, Zbu, forS_list, ZaO, ZaA, Zam, Zas, ZbS, Za7, Zbs, Za8, Zbm, Za4, ZbB, Za6, Zbo, Zbd, ZbF, Zbc, slice_hi, slice_lo, slice_both, slice_tup1, slice_tup2, Zbg, ZbU, ZaX, decide_eq_true, decide_eq_false, int_beq_t, int_beq_f, Bool.and_eq_false_iff, Bool.or_eq_false_iff, beq_iff_eq, bne_iff_ne, decide_eq_true_eq, Bool.and_eq_true, Bool.or_eq_true, Bool.not_eq_true', decide_eq_false_iff_not, beq_eq_false_iff_ne, if_pos, if_neg, comp_l0, comp_l2, comp_l3, ev_comp, mapCall_nil, mapCall_cons, mapR_int, ev_maxd, maxd_nil, maxd_cons, maxR_some, maxFrom_nil, maxFrom_cons, b1_sum, sumD_nil, sumD_cons, Option.map_some, ex_callRef, refS_own, ex_asgFresh, finR_next, List.map_cons, own, notin_strL hx hF, hc', hlen]
theorem inner_let (n : Nat) (a : Str) (b c : D) (fs : Slot) : ∀ (L F : List Str) (n0 o0 : Slot), Nms L → Nms F → F.length + L.length ≤ 2000 →
    ∃ n1 o1, forLoop (bodyS (orc fns globs n) globs 4 (.seq (.asg 5 (.and (.cmp .Eq (.idx (.var 0) (.cint 0)) (.cstr (Str.ofString "let"))) (.and (.cmp .Eq (.var 3) (.cint 3)) (.cmp .Eq (.var 4) (.idx (.var 0) (.cint 1)))))) (.seq (.ite (.and (.cmp .NotIn (.var 4) (.own 1)) (.nt (.var 5))) (.seq (.append 1 (.var 4)) .skip) .skip) .skip))) (strL L) [.fr (letE a b c), .own (.list (strL F)), fs, .fr (.int 3), n0, o0]
      = .next [.fr (letE a b c), .own (.list (strL (addAll F (L.filter fun y => !(y == a))))), fs, .fr (.int 3), n1, o1]
  | [], F, n0, o0, _, _, _ => ⟨n0, o0, by simp (disch := (first | assumption | decide | exact Zbp _ | (refine Sm.div ?_ ?_ <;> first | assumption | decide) | omega | (simp only [List.length_append, List.length_cons, List.length_nil, slen_sone, Zb7, slen_empty]; omega))) only [Za0, ZbH, ZbN, ZbI, ZbL, Za3, ZaC, Zb3, Zai, Zaw, ZbP, ZaN, ZbZ, Zb0, Zbv, ZbD, ZaU, ZbY, Zb4, Zb9, ZbT, Zcd, Zb5, ZbG, Zb2, Zb6, ZbQ, ZbE, ZbV, ZaJ, Zbz, Zbw, Zca, Zcb, Zcc, Zce, Zcf, Zb8, Zbh, Za9, Zbr, Zbt, ZaF, ZaG, ZaK, optInt_int, ZaR, ZaQ, ZbA, Zbk, mul_ok, Zbq, ZbX, ZaY, addl_ok, Zag, Zak, Zal, Zb1, ZbR, Zan, Zar, Zah, Zaq, getk, Int.reduceToNat, Int.toNat_natCast, len_list_ok, len_tuple_ok, len_str_ok, Zad, ZbK, ZbW, ZbO, Zbx, ZaT, List.getElem?_cons_zero, List.getElem?_cons_succ, Zch, Zcg, Zau, Zbj, ZaB, ZaV, Zaj, ZaD, ZaI, Zac, Zat, Zbe, Zba, Zav, Zbn, Za1, ZaM, Zax, Zbf, Zay, Zby, Zaz, Zap, ZaW, Zao, ZaH, Zbi, ZaP, Zaf, Zab, Zae, Zaa, aliasOk, Za5, Bool.false_eq_true, Bool.or_false, Bool.false_or, Bool.or_self, Bool.or_true, Bool.true_or, Bool.and_true, Bool.true_and, Bool.and_self, Bool.not_false, Bool.not_true, Bool.and_false, Bool.false_and, if_false, if_true, reduceIte, List.length_append, List.length_cons, List.length_nil, ZaZ, ZbJ, String.reduceBEq, String.reduceBNe, String.reduceEq, ZbM, Za2, Zbl, Zbb, ZaS, ZaE, ZaL, ZbC, Zbu, forS_list, ZaO, ZaA, Zam, Zas, ZbS, Za7, Zbs, Za8, Zbm, Za4, ZbB, Za6, Zbo, Zbd, ZbF, Zbc, slice_hi, slice_lo, slice_both, slice_tup1, slice_tup2, Zbg, ZbU, ZaX, decide_eq_true, decide_eq_false, int_beq_t, int_beq_f, Bool.and_eq_false_iff, Bool.or_eq_false_iff, beq_iff_eq, bne_iff_ne, decide_eq_true_eq, Bool.and_eq_true, Bool.or_eq_true, Bool.not_eq_true', decide_eq_false_iff_not, beq_eq_false_iff_ne, if_pos, if_neg, comp_l0, comp_l2, comp_l3, ev_comp, mapCall_nil, mapCall_cons, mapR_int, ev_maxd, maxd_nil, maxd_cons, maxR_some, maxFrom_nil, maxFrom_cons, b1_sum, sumD_nil, sumD_cons, Option.map_some, ex_callRef, refS_own, ex_asgFresh, finR_next, List.map_nil, List.filter_nil, addAll_nil]⟩
  | x :: L, F, n0, o0, hL, hF, hl => by
    have hx := hL x (.head _)
    simp only [List.length_cons] at hl
    have hlen : (strL F).length = F.length := List.length_map ..
    by_cases ha : x = a
    · have ha' : (x == a) = true := beq_iff_eq.mpr ha
      obtain ⟨n1, o1, e⟩ := inner_let n a b c fs L F (.fr (.str x)) (.fr (.bool true)) (fun y hy => hL y (.tail _ hy)) hF (by omega)
      refine ⟨n1, o1, ?_⟩
      rw [List.filter_cons, if_neg (by simp [ha]), ← e]
      simp (disch := (first | assumption | decide | exact Zbp _ | (refine Sm.div ?_ ?_ <;> first | assumption | decide) | omega | (simp only [List.length_append, List.length_cons, List.length_nil, slen_sone, Zb7, slen_empty]; omega))) only [Za0, ZbH, ZbN, ZbI, ZbL, Za3, ZaC, Zb3, Zai, Zaw, ZbP, ZaN, ZbZ, Zb0, Zbv, ZbD, ZaU, ZbY, Zb4, Zb9, ZbT, Zcd, Zb5, ZbG, Zb2, Zb6, ZbQ, ZbE, ZbV, ZaJ, Zbz, Zbw, Zca, Zcb, Zcc, Zce, Zcf, Zb8, Zbh, Za9, Zbr, Zbt, ZaF, ZaG, ZaK, optInt_int, ZaR, ZaQ, ZbA, Zbk, mul_ok, Zbq, ZbX, ZaY, addl_ok, Zag, Zak, Zal, Zb1, ZbR, Zan, Zar, Zah, Zaq, getk, Int.reduceToNat, Int.toNat_natCast, len_list_ok, len_tuple_ok, len_str_ok, Zad, ZbK, ZbW, ZbO, Zbx, ZaT, List.getElem?_cons_zero, List.getElem?_cons_succ, Zch, Zcg, Zau, Zbj, ZaB, ZaV, Zaj, ZaD, ZaI, Zac, Zat, Zbe, Zba, Zav, Zbn, Za1, ZaM, Zax, Zbf, Zay, Zby, Zaz, Zap, ZaW, Zao, ZaH, Zbi, ZaP, Zaf, Zab, Zae, Zaa, aliasOk, Za5, Bool.false_eq_true, Bool.or_false, Bool.false_or, Bool.or_self, Bool.or_true, Bool.true_or, Bool.and_true, Bool.true_and, Bool.and_self, Bool.not_false, Bool.not_true, Bool.and_false, Bool.false_and, if_false, if_true, reduceIte, List.length_append, List.length_cons, List.length_nil, ZaZ, ZbJ, String.reduceBEq, String.reduceBNe, String.reduceEq, ZbM, Za2, Zbl, Zbb, ZaS, ZaE, ZaL, ZbC, Zbu, forS_list, ZaO, ZaA, Zam, Zas, ZbS, Za7, Zbs, Za8, Zbm, Za4, ZbB, Za6, Zbo, Zbd, ZbF, Zbc, slice_hi, slice_lo, slice_both, slice_tup1, slice_tup2, Zbg, ZbU, ZaX, decide_eq_true, decide_eq_false, int_beq_t, int_beq_f, Bool.and_eq_false_iff, Bool.or_eq_false_iff, beq_iff_eq, bne_iff_ne, decide_eq_true_eq, Bool.and_eq_true, Bool.or_eq_true, Bool.not_eq_true', decide_eq_false_iff_not, beq_eq_false_iff_ne, if_pos, if_neg, comp_l0, comp_l2, comp_l3, ev_comp, mapCall_nil, mapCall_cons, mapR_int, ev_maxd, maxd_nil, maxd_cons, maxR_some, maxFrom_nil, maxFrom_cons, b1_sum, sumD_nil, sumD_cons, Option.map_some, ex_callRef, refS_own, ex_asgFresh, finR_next, List.map_cons, notin_strL hx hF, ha']
    · have ha' : (x == a) = false := beq_eq_false_iff_ne.mpr ha
      rw [List.filter_cons, if_pos (by simp [ha])]
      by_cases hc : x ∈ F
      · have e1 : add1 F x = F := by unfold add1; rw [if_pos (List.contains_iff_mem.mpr hc)]
        obtain ⟨n1, o1, e⟩ := inner_let n a b c fs L F (.fr (.str x)) (.fr (.bool false)) (fun y hy => hL y (.tail _ hy)) hF (by omega)
        refine ⟨n1, o1, ?_⟩
        rw [addAll_cons, e1, ← e]
        have hc' := List.contains_iff_mem.mpr hc
        simp (disch := (first | assumption | decide | exact Zbp _ | (refine Sm.div ?_ ?_ <;> first | assumption | decide) | omega | (simp only [List.length_append, List.length_cons, List.length_nil, slen_sone, Zb7, slen_empty]; omega))) only [Za0, ZbH, ZbN, ZbI, ZbL, Za3, ZaC, Zb3, Zai, Zaw, ZbP, ZaN, ZbZ, Zb0, Zbv, ZbD, ZaU, ZbY, Zb4, Zb9, ZbT, Zcd, Zb5, ZbG, Zb2, Zb6, ZbQ, ZbE, ZbV, ZaJ, Zbz, Zbw, Zca, Zcb, Zcc, Zce, Zcf, Zb8, Zbh, Za9, Zbr, Zbt, ZaF, ZaG, ZaK, optInt_int, ZaR, ZaQ, ZbA, Zbk, mul_ok, Zbq, ZbX, ZaY, addl_ok, Zag, Zak, Zal, Zb1, ZbR, Zan, Zar, Zah, Zaq, getk, Int.reduceToNat, Int.toNat_natCast, len_list_ok, len_tuple_ok, len_str_ok, Zad, ZbK, ZbW, ZbO, Zbx, ZaT, List.getElem?_cons_zero, List.getElem?_cons_succ, Zch, Zcg, Zau, Zbj, ZaB, ZaV, Zaj, ZaD, ZaI, Zac, Zat, Zbe, Zba, Zav, Zbn, Za1, ZaM, Zax, Zbf, Zay, Zby, Zaz, Zap, ZaW, Zao, ZaH, Zbi, ZaP, Zaf, Zab, Zae, Zaa, aliasOk, Za5, Bool.false_eq_true, Bool.or_false, Bool.false_or, Bool.or_self, Bool.or_true, Bool.true_or, Bool.and_true, Bool.true_and, Bool.and_self, Bool.not_false, Bool.not_true, Bool.and_false, Bool.false_and, if_false, if_true, reduceIte, List.length_append, List.length_cons, List.length_nil, ZaZ, ZbJ, String.reduceBEq, String.reduceBNe, String.reduceEq, ZbM, Za2, Zbl, Zbb, ZaS, ZaE, ZaL, ZbC, Zbu, forS_list, ZaO, ZaA, Zam, Zas, ZbS, Za7, Zbs, Za8, Zbm, Za4, ZbB, Za6, Zbo, Zbd, ZbF, Zbc, slice_hi, slice_lo, slice_both, slice_tup1, slice_tup2, Zbg, ZbU, ZaX, decide_eq_true, decide_eq_false, int_beq_t, int_beq_f, Bool.and_eq_false_iff, Bool.or_eq_false_iff, beq_iff_eq, bne_iff_ne, decide_eq_true_eq, Bool.and_eq_true, Bool.or_eq_true, Bool.not_eq_true', decide_eq_false_iff_not, beq_eq_false_iff_ne, if_pos, if_neg, comp_l0, comp_l2, comp_l3, ev_comp, mapCall_nil, mapCall_cons, mapR_int, ev_maxd, maxd_nil, maxd_cons, maxR_some, maxFrom_nil, maxFrom_cons, b1_sum, sumD_nil, sumD_cons, Option.map_some, ex_callRef, refS_own, ex_asgFresh, finR_next, List.map_cons, notin_strL hx hF, hc', ha']
      · have e1 : add1 F x = F ++ [x] := by unfold add1; rw [if_neg (by rw [List.contains_iff_mem]; exact hc)]
        obtain ⟨n1, o1, e⟩ := inner_let n a b c fs L (F ++ [x]) (.fr (.str x)) (.fr (.bool false)) (fun y hy => hL y (.tail _ hy)) (hF.app (.one hx)) (by simp; omega)
        refine ⟨n1, o1, ?_⟩
        rw [addAll_cons, e1, ← e, ← strL_snoc]
        have hc' : F.contains x = false := by rw [Bool.eq_false_iff]; exact fun q => hc (List.contains_iff_mem.mp q)
        simp (disch := (first | assumption | decide | exact Zbp _ | (refine Sm.div ?_ ?_ <;> first | assumption | decide) | omega | (simp only [List.length_append, List.length_cons, List.length_nil, slen_sone, Zb7, slen_empty]; omega))) only [Za0, ZbH, ZbN, ZbI, ZbL, Za3, ZaC, Zb3, Zai, Zaw, ZbP, ZaN, ZbZ, Zb0, Zbv, ZbD, ZaU, ZbY, Zb4, Zb9, ZbT, Zcd, Zb5, ZbG, Zb2, Zb6, ZbQ, ZbE, ZbV, ZaJ, Zbz, Zbw, Zca, Zcb, Zcc, Zce, Zcf, Zb8, Zbh, Za9, Zbr, Zbt, ZaF, ZaG, ZaK, optInt_int, ZaR, ZaQ, ZbA, Zbk, mul_ok, Zbq, ZbX, ZaY, addl_ok, Zag, Zak, Zal, Zb1, ZbR, Zan, Zar, Zah, Zaq, getk, Int.reduceToNat, Int.toNat_natCast, len_list_ok, len_tuple_ok, len_str_ok, Zad, ZbK, ZbW, ZbO, Zbx, ZaT, List.getElem?_cons_zero, List.getElem?_cons_succ, Zch, Zcg, Zau, Zbj, ZaB, ZaV, Zaj, ZaD, ZaI, Zac, Zat, Zbe, Zba, Zav, Zbn, Za1, ZaM, Zax, Zbf, Zay, Zby, Zaz, Zap, ZaW, Zao, ZaH, Zbi, ZaP, Zaf, Zab, Zae, Zaa, aliasOk, Za5, Bool.false_eq_true, Bool.or_false, Bool.false_or, Bool.or_self, Bool.or_true, Bool.true_or, Bool.and_true, Bool.true_and, Bool.and_self, Bool.not_false, Bool.not_true, Bool.and_false, Bool.false_and, if_false, if_true, reduceIte, List.length_append, List.length_cons, List.length_nil, ZaZ, ZbJ, String.reduceBEq, String.reduceBNe, String.reduceEq, ZbM, Za2, Zbl, Zbb, ZaS, ZaE, ZaL, ZbC, Zbu, forS_list, ZaO, ZaA, Zam, Zas, ZbS, Za7, Zbs, Za8, Zbm, Za4, ZbB, Za6, Zbo, Zbd, ZbF, Zbc, slice_hi, slice_lo, slice_both, slice_tup1, slice_tup2, Zbg, ZbU, ZaX, decide_eq_true, decide_eq_false, int_beq_t, int_beq_f, Bool.and_eq_false_iff, Bool.or_eq_false_iff, beq_iff_eq, bne_iff_ne, decide_eq_true_eq, Bool.and_eq_true, Bool.or_eq_true, Bool.not_eq_true', decide_eq_false_iff_not, beq_eq_false_iff_ne, if_pos, if_neg, comp_l0, comp_l2, comp_l3, ev_comp, mapCall_nil, mapCall_cons, mapR_int, ev_maxd, maxd_nil, maxd_cons, maxR_some, maxFrom_nil, maxFrom_cons, b1_sum, sumD_nil, sumD_cons, Option.map_some, ex_callRef, refS_own, ex_asgFresh, finR_next, List.map_cons, notin_strL hx hF, hc', ha', hlen]
end L02
end Mine
-- P02d
set_option autoImplicit false
set_option linter.all false
set_option maxRecDepth 10000
namespace Mine
open PySem
namespace L02
structure Needs (k : Nat) (e : D) (L : List Str) : Prop where
  nm : Nms L
  nd : L.Nodup
  len : L.length ≤ wt e
  law : ∀ n, ∃ b, (orc fns globs (n + k + 1)).fn 16 [e] = .ok (.list (strL L), b)
  gat : ∀ n (B F : List Str), Nms B → Nms F → B.length + F.length + wt e ≤ 1000 → (orc fns globs (n + k + 2)).rf 3 [e, .list (strL B)] (.list (strL F)) = .ok (.list (strL (addAll F (L.filter fun y => !B.contains y))))
theorem filter_len (L : List Str) (p : Str → Bool) : (L.filter p).length ≤ L.length := List.length_filter_le _ _
theorem needs_num (k : Nat) {v : Int} : Needs k (numE v) [] where
  nm := .nil
  nd := List.nodup_nil
  len := Nat.zero_le _
  law := fun n => by
    refine ⟨true, ?_⟩
    rw [orc_fn (F := F_law_needs) rfl rfl]
    show fin (ex _ _ F_law_needs.body [.fr _, .unset, .unset, .unset, .unset, .unset]) = _
    unfold F_law_needs
    simp (disch := (first | assumption | decide | exact Zbp _ | (refine Sm.div ?_ ?_ <;> first | assumption | decide) | omega | (simp only [List.length_append, List.length_cons, List.length_nil, slen_sone, Zb7, slen_empty]; omega))) only [Za0, ZbH, ZbN, ZbI, ZbL, Za3, ZaC, Zb3, Zai, Zaw, ZbP, ZaN, ZbZ, Zb0, Zbv, ZbD, ZaU, ZbY, Zb4, Zb9, ZbT, Zcd, Zb5, ZbG, Zb2, Zb6, ZbQ, ZbE, ZbV, ZaJ, Zbz, Zbw, Zca, Zcb, Zcc, Zce, Zcf, Zb8, Zbh, Za9, Zbr, Zbt, ZaF, ZaG, ZaK, optInt_int, ZaR, ZaQ, ZbA, Zbk, mul_ok, Zbq, ZbX, ZaY, addl_ok, Zag, Zak, Zal, Zb1, ZbR, Zan, Zar, Zah, Zaq, getk, Int.reduceToNat, Int.toNat_natCast, len_list_ok, len_tuple_ok, len_str_ok, Zad, ZbK, ZbW, ZbO, Zbx, ZaT, List.getElem?_cons_zero, List.getElem?_cons_succ, Zch, Zcg, Zau, Zbj, ZaB, ZaV, Zaj, ZaD, ZaI, Zac, Zat, Zbe, Zba, Zav, Zbn, Za1, ZaM, Zax, Zbf, Zay, Zby, Zaz, Zap, ZaW, Zao, ZaH, Zbi, ZaP, Zaf, Zab, Zae, Zaa, aliasOk, Za5, Bool.false_eq_true, Bool.or_false, Bool.false_or, Bool.or_self, Bool.or_true, Bool.true_or, Bool.and_true, Bool.true_and, Bool.and_self, Bool.not_false, Bool.not_true, Bool.and_false, Bool.false_and, if_false, if_true, reduceIte, List.length_append, List.length_cons, List.length_nil, ZaZ, ZbJ, String.reduceBEq, String.reduceBNe, String.reduceEq, ZbM, Za2, Zbl, Zbb, ZaS, ZaE, ZaL, ZbC, Zbu, forS_list, ZaO, ZaA, Zam, Zas, ZbS, Za7, Zbs, Za8, Zbm, Za4, ZbB, Za6, Zbo, Zbd, ZbF, Zbc, slice_hi, slice_lo, slice_both, slice_tup1, slice_tup2, Zbg, ZbU, ZaX, decide_eq_true, decide_eq_false, int_beq_t, int_beq_f, Bool.and_eq_false_iff, Bool.or_eq_false_iff, beq_iff_eq, bne_iff_ne, decide_eq_true_eq, Bool.and_eq_true, Bool.or_eq_true, Bool.not_eq_true', decide_eq_false_iff_not, beq_eq_false_iff_ne, if_pos, if_neg, comp_l0, comp_l2, comp_l3, ev_comp, mapCall_nil, mapCall_cons, mapR_int, ev_maxd, maxd_nil, maxd_cons, maxR_some, maxFrom_nil, maxFrom_cons, b1_sum, sumD_nil, sumD_cons, Option.map_some, ex_callRef, refS_own, ex_asgFresh, finR_next, List.map_nil]
  gat := fun n B F hB hF hl => by
    rw [orc_rf (F := F_gather) rfl rfl rfl]
    show finR 2 (ex _ _ F_gather.body [.fr _, .fr _, .own _, .unset]) = _
    unfold F_gather
    simp (disch := (first | assumption | decide | exact Zbp _ | (refine Sm.div ?_ ?_ <;> first | assumption | decide) | omega | (simp only [List.length_append, List.length_cons, List.length_nil, slen_sone, Zb7, slen_empty]; omega))) only [Za0, ZbH, ZbN, ZbI, ZbL, Za3, ZaC, Zb3, Zai, Zaw, ZbP, ZaN, ZbZ, Zb0, Zbv, ZbD, ZaU, ZbY, Zb4, Zb9, ZbT, Zcd, Zb5, ZbG, Zb2, Zb6, ZbQ, ZbE, ZbV, ZaJ, Zbz, Zbw, Zca, Zcb, Zcc, Zce, Zcf, Zb8, Zbh, Za9, Zbr, Zbt, ZaF, ZaG, ZaK, optInt_int, ZaR, ZaQ, ZbA, Zbk, mul_ok, Zbq, ZbX, ZaY, addl_ok, Zag, Zak, Zal, Zb1, ZbR, Zan, Zar, Zah, Zaq, getk, Int.reduceToNat, Int.toNat_natCast, len_list_ok, len_tuple_ok, len_str_ok, Zad, ZbK, ZbW, ZbO, Zbx, ZaT, List.getElem?_cons_zero, List.getElem?_cons_succ, Zch, Zcg, Zau, Zbj, ZaB, ZaV, Zaj, ZaD, ZaI, Zac, Zat, Zbe, Zba, Zav, Zbn, Za1, ZaM, Zax, Zbf, Zay, Zby, Zaz, Zap, ZaW, Zao, ZaH, Zbi, ZaP, Zaf, Zab, Zae, Zaa, aliasOk, Za5, Bool.false_eq_true, Bool.or_false, Bool.false_or, Bool.or_self, Bool.or_true, Bool.true_or, Bool.and_true, Bool.true_and, Bool.and_self, Bool.not_false, Bool.not_true, Bool.and_false, Bool.false_and, if_false, if_true, reduceIte, List.length_append, List.length_cons, List.length_nil, ZaZ, ZbJ, String.reduceBEq, String.reduceBNe, String.reduceEq, ZbM, Za2, Zbl, Zbb, ZaS, ZaE, ZaL, ZbC, Zbu, forS_list, ZaO, ZaA, Zam, Zas, ZbS, Za7, Zbs, Za8, Zbm, Za4, ZbB, Za6, Zbo, Zbd, ZbF, Zbc, slice_hi, slice_lo, slice_both, slice_tup1, slice_tup2, Zbg, ZbU, ZaX, decide_eq_true, decide_eq_false, int_beq_t, int_beq_f, Bool.and_eq_false_iff, Bool.or_eq_false_iff, beq_iff_eq, bne_iff_ne, decide_eq_true_eq, Bool.and_eq_true, Bool.or_eq_true, Bool.not_eq_true', decide_eq_false_iff_not, beq_eq_false_iff_ne, if_pos, if_neg, comp_l0, comp_l2, comp_l3, ev_comp, mapCall_nil, mapCall_cons, mapR_int, ev_maxd, maxd_nil, maxd_cons, maxR_some, maxFrom_nil, maxFrom_cons, b1_sum, sumD_nil, sumD_cons, Option.map_some, ex_callRef, refS_own, ex_asgFresh, finR_next, parts_leaf _ _ (.inl rfl), List.filter_nil, addAll_nil]
theorem needs_name (k : Nat) {x : Str} (hx : Nm x) : Needs k (nameE x) [x] where
  nm := .one hx
  nd := by simp
  len := by rw [wt_name]; simp
  law := fun n => by
    refine ⟨false, ?_⟩
    rw [orc_fn (F := F_law_needs) rfl rfl]
    show fin (ex _ _ F_law_needs.body [.fr _, .unset, .unset, .unset, .unset, .unset]) = _
    unfold F_law_needs
    simp (disch := (first | assumption | decide | exact Zbp _ | (refine Sm.div ?_ ?_ <;> first | assumption | decide) | omega | (simp only [List.length_append, List.length_cons, List.length_nil, slen_sone, Zb7, slen_empty]; omega))) only [Za0, ZbH, ZbN, ZbI, ZbL, Za3, ZaC, Zb3, Zai, Zaw, ZbP, ZaN, ZbZ, Zb0, Zbv, ZbD, ZaU, ZbY, Zb4, Zb9, ZbT, Zcd, Zb5, ZbG, Zb2, Zb6, ZbQ, ZbE, ZbV, ZaJ, Zbz, Zbw, Zca, Zcb, Zcc, Zce, Zcf, Zb8, Zbh, Za9, Zbr, Zbt, ZaF, ZaG, ZaK, optInt_int, ZaR, ZaQ, ZbA, Zbk, mul_ok, Zbq, ZbX, ZaY, addl_ok, Zag, Zak, Zal, Zb1, ZbR, Zan, Zar, Zah, Zaq, getk, Int.reduceToNat, Int.toNat_natCast, len_list_ok, len_tuple_ok, len_str_ok, Zad, ZbK, ZbW, ZbO, Zbx, ZaT, List.getElem?_cons_zero, List.getElem?_cons_succ, Zch, Zcg, Zau, Zbj, ZaB, ZaV, Zaj, ZaD, ZaI, Zac, Zat, Zbe, Zba, Zav, Zbn, Za1, ZaM, Zax, Zbf, Zay, Zby, Zaz, Zap, ZaW, Zao, ZaH, Zbi, ZaP, Zaf, Zab, Zae, Zaa, aliasOk, Za5, Bool.false_eq_true, Bool.or_false, Bool.false_or, Bool.or_self, Bool.or_true, Bool.true_or, Bool.and_true, Bool.true_and, Bool.and_self, Bool.not_false, Bool.not_true, Bool.and_false, Bool.false_and, if_false, if_true, reduceIte, List.length_append, List.length_cons, List.length_nil, ZaZ, ZbJ, String.reduceBEq, String.reduceBNe, String.reduceEq, ZbM, Za2, Zbl, Zbb, ZaS, ZaE, ZaL, ZbC, Zbu, forS_list, ZaO, ZaA, Zam, Zas, ZbS, Za7, Zbs, Za8, Zbm, Za4, ZbB, Za6, Zbo, Zbd, ZbF, Zbc, slice_hi, slice_lo, slice_both, slice_tup1, slice_tup2, Zbg, ZbU, ZaX, decide_eq_true, decide_eq_false, int_beq_t, int_beq_f, Bool.and_eq_false_iff, Bool.or_eq_false_iff, beq_iff_eq, bne_iff_ne, decide_eq_true_eq, Bool.and_eq_true, Bool.or_eq_true, Bool.not_eq_true', decide_eq_false_iff_not, beq_eq_false_iff_ne, if_pos, if_neg, comp_l0, comp_l2, comp_l3, ev_comp, mapCall_nil, mapCall_cons, mapR_int, ev_maxd, maxd_nil, maxd_cons, maxR_some, maxFrom_nil, maxFrom_cons, b1_sum, sumD_nil, sumD_cons, Option.map_some, ex_callRef, refS_own, ex_asgFresh, finR_next, List.map_cons, List.map_nil]
  gat := fun n B F hB hF hl => by
    rw [orc_rf (F := F_gather) rfl rfl rfl]
    show finR 2 (ex _ _ F_gather.body [.fr _, .fr _, .own _, .unset]) = _
    unfold F_gather
    have hlen : (strL F).length = F.length := List.length_map ..
    by_cases hb : x ∈ B
    · have hb' := List.contains_iff_mem.mpr hb
      rw [List.filter_cons, if_neg (by simp [hb]), List.filter_nil, addAll_nil]
      simp (disch := (first | assumption | decide | exact Zbp _ | (refine Sm.div ?_ ?_ <;> first | assumption | decide) | omega | (simp only [List.length_append, List.length_cons, List.length_nil, slen_sone, Zb7, slen_empty]; omega))) only [Za0, ZbH, ZbN, ZbI, ZbL, Za3, ZaC, Zb3, Zai, Zaw, ZbP, ZaN, ZbZ, Zb0, Zbv, ZbD, ZaU, ZbY, Zb4, Zb9, ZbT, Zcd, Zb5, ZbG, Zb2, Zb6, ZbQ, ZbE, ZbV, ZaJ, Zbz, Zbw, Zca, Zcb, Zcc, Zce, Zcf, Zb8, Zbh, Za9, Zbr, Zbt, ZaF, ZaG, ZaK, optInt_int, ZaR, ZaQ, ZbA, Zbk, mul_ok, Zbq, ZbX, ZaY, addl_ok, Zag, Zak, Zal, Zb1, ZbR, Zan, Zar, Zah, Zaq, getk, Int.reduceToNat, Int.toNat_natCast, len_list_ok, len_tuple_ok, len_str_ok, Zad, ZbK, ZbW, ZbO, Zbx, ZaT, List.getElem?_cons_zero, List.getElem?_cons_succ, Zch, Zcg, Zau, Zbj, ZaB, ZaV, Zaj, ZaD, ZaI, Zac, Zat, Zbe, Zba, Zav, Zbn, Za1, ZaM, Zax, Zbf, Zay, Zby, Zaz, Zap, ZaW, Zao, ZaH, Zbi, ZaP, Zaf, Zab, Zae, Zaa, aliasOk, Za5, Bool.false_eq_true, Bool.or_false, Bool.false_or, Bool.or_self, Bool.or_true, Bool.true_or, Bool.and_true, Bool.true_and, Bool.and_self, Bool.not_false, Bool.not_true, Bool.and_false, Bool.false_and, if_false, if_true, reduceIte, List.length_append, List.length_cons, List.length_nil, ZaZ, ZbJ, String.reduceBEq, String.reduceBNe, String.reduceEq, ZbM, Za2, Zbl, Zbb, ZaS, ZaE, ZaL, ZbC, Zbu, forS_list, ZaO, ZaA, Zam, Zas, ZbS, Za7, Zbs, Za8, Zbm, Za4, ZbB, Za6, Zbo, Zbd, ZbF, Zbc, slice_hi, slice_lo, slice_both, slice_tup1, slice_tup2, Zbg, ZbU, ZaX, decide_eq_true, decide_eq_false, int_beq_t, int_beq_f, Bool.and_eq_false_iff, Bool.or_eq_false_iff, beq_iff_eq, bne_iff_ne, decide_eq_true_eq, Bool.and_eq_true, Bool.or_eq_true, Bool.not_eq_true', decide_eq_false_iff_not, beq_eq_false_iff_ne, if_pos, if_neg, comp_l0, comp_l2, comp_l3, ev_comp, mapCall_nil, mapCall_cons, mapR_int, ev_maxd, maxd_nil, maxd_cons, maxR_some, maxFrom_nil, maxFrom_cons, b1_sum, sumD_nil, sumD_cons, Option.map_some, ex_callRef, refS_own, ex_asgFresh, finR_next, notin_strL hx hB, notin_strL hx hF, hb']
    · have hb' : B.contains x = false := by rw [Bool.eq_false_iff]; exact fun q => hb (List.contains_iff_mem.mp q)
      rw [List.filter_cons, if_pos (by simp [hb]), List.filter_nil, addAll_cons, addAll_nil]
      by_cases hc : x ∈ F
      · have e1 : add1 F x = F := by unfold add1; rw [if_pos (List.contains_iff_mem.mpr hc)]
        have hc' := List.contains_iff_mem.mpr hc
        rw [e1]
        simp (disch := (first | assumption | decide | exact Zbp _ | (refine Sm.div ?_ ?_ <;> first | assumption | decide) | omega | (simp only [List.length_append, List.length_cons, List.length_nil, slen_sone, Zb7, slen_empty]; omega))) only [Za0, ZbH, ZbN, ZbI, ZbL, Za3, ZaC, Zb3, Zai, Zaw, ZbP, ZaN, ZbZ, Zb0, Zbv, ZbD, ZaU, ZbY, Zb4, Zb9, ZbT, Zcd, Zb5, ZbG, Zb2, Zb6, ZbQ, ZbE, ZbV, ZaJ, Zbz, Zbw, Zca, Zcb, Zcc, Zce, Zcf, Zb8, Zbh, Za9, Zbr, Zbt, ZaF, ZaG, ZaK, optInt_int, ZaR, ZaQ, ZbA, Zbk, mul_ok, Zbq, ZbX, ZaY, addl_ok, Zag, Zak, Zal, Zb1, ZbR, Zan, Zar, Zah, Zaq, getk, Int.reduceToNat, Int.toNat_natCast, len_list_ok, len_tuple_ok, len_str_ok, Zad, ZbK, ZbW, ZbO, Zbx, ZaT, List.getElem?_cons_zero, List.getElem?_cons_succ, Zch, Zcg, Zau, Zbj, ZaB, ZaV, Zaj, ZaD, ZaI, Zac, Zat, Zbe, Zba, Zav, Zbn, Za1, ZaM, Zax, Zbf, Zay, Zby, Zaz, Zap, ZaW, Zao, ZaH, Zbi, ZaP, Zaf, Zab, Zae, Zaa, aliasOk, Za5, Bool.false_eq_true, Bool.or_false, Bool.false_or, Bool.or_self, Bool.or_true, Bool.true_or, Bool.and_true, Bool.true_and, Bool.and_self, Bool.not_false, Bool.not_true, Bool.and_false, Bool.false_and, if_false, if_true, reduceIte, List.length_append, List.length_cons, List.length_nil, ZaZ, ZbJ, String.reduceBEq, String.reduceBNe, String.reduceEq, ZbM, Za2, Zbl, Zbb, ZaS, ZaE, ZaL, ZbC, Zbu, forS_list, ZaO, ZaA, Zam, Zas, ZbS, Za7, Zbs, Za8, Zbm, Za4, ZbB, Za6, Zbo, Zbd, ZbF, Zbc, slice_hi, slice_lo, slice_both, slice_tup1, slice_tup2, Zbg, ZbU, ZaX, decide_eq_true, decide_eq_false, int_beq_t, int_beq_f, Bool.and_eq_false_iff, Bool.or_eq_false_iff, beq_iff_eq, bne_iff_ne, decide_eq_true_eq, Bool.and_eq_true, Bool.or_eq_true, Bool.not_eq_true', decide_eq_false_iff_not, beq_eq_false_iff_ne, if_pos, if_neg, comp_l0, comp_l2, comp_l3, ev_comp, mapCall_nil, mapCall_cons, mapR_int, ev_maxd, maxd_nil, maxd_cons, maxR_some, maxFrom_nil, maxFrom_cons, b1_sum, sumD_nil, sumD_cons, Option.map_some, ex_callRef, refS_own, ex_asgFresh, finR_next, notin_strL hx hB, notin_strL hx hF, hb', hc']
      · have e1 : add1 F x = F ++ [x] := by unfold add1; rw [if_neg (by rw [List.contains_iff_mem]; exact hc)]
        have hc' : F.contains x = false := by rw [Bool.eq_false_iff]; exact fun q => hc (List.contains_iff_mem.mp q)
        rw [e1, ← strL_snoc]
        simp (disch := (first | assumption | decide | exact Zbp _ | (refine Sm.div ?_ ?_ <;> first | assumption | decide) | omega | (simp only [List.length_append, List.length_cons, List.length_nil, slen_sone, Zb7, slen_empty]; omega))) only [Za0, ZbH, ZbN, ZbI, ZbL, Za3, ZaC, Zb3, Zai, Zaw, ZbP, ZaN, ZbZ, Zb0, Zbv, ZbD, ZaU, ZbY, Zb4, Zb9, ZbT, Zcd, Zb5, ZbG, Zb2, Zb6, ZbQ, ZbE, ZbV, ZaJ, Zbz, Zbw, Zca, Zcb, Zcc, Zce, Zcf, Zb8, Zbh, Za9, Zbr, Zbt, ZaF, ZaG, ZaK, optInt_int, ZaR, ZaQ, ZbA, Zbk, mul_ok, Zbq, ZbX, ZaY, addl_ok, Zag, Zak, Zal, Zb1, ZbR, Zan, Zar, Zah, Zaq, getk, Int.reduceToNat, Int.toNat_natCast, len_list_ok, len_tuple_ok, len_str_ok, Zad, ZbK, ZbW, ZbO, Zbx, ZaT, List.getElem?_cons_zero, List.getElem?_cons_succ, Zch, Zcg, Zau, Zbj, ZaB, ZaV, Zaj, ZaD, ZaI, Zac, Zat, Zbe, Zba, Zav, Zbn, Za1, ZaM, Zax, Zbf, Zay, Zby, Zaz, Zap, ZaW, Zao, ZaH, Zbi, ZaP, Zaf, Zab, Zae, Zaa, aliasOk, Za5, Bool.false_eq_true, Bool.or_false, Bool.false_or, Bool.or_self, Bool.or_true, Bool.true_or, Bool.and_true, Bool.true_and, Bool.and_self, Bool.not_false, Bool.not_true, Bool.and_false, Bool.false_and, if_false, if_true, reduceIte, List.length_append, List.length_cons, List.length_nil, ZaZ, ZbJ, String.reduceBEq, String.reduceBNe, String.reduceEq, ZbM, Za2, Zbl, Zbb, ZaS, ZaE, ZaL, ZbC, Zbu, forS_list, ZaO, ZaA, Zam, Zas, ZbS, Za7, Zbs, Za8, Zbm, Za4, ZbB, Za6, Zbo, Zbd, ZbF, Zbc, slice_hi, slice_lo, slice_both, slice_tup1, slice_tup2, Zbg, ZbU, ZaX, decide_eq_true, decide_eq_false, int_beq_t, int_beq_f, Bool.and_eq_false_iff, Bool.or_eq_false_iff, beq_iff_eq, bne_iff_ne, decide_eq_true_eq, Bool.and_eq_true, Bool.or_eq_true, Bool.not_eq_true', decide_eq_false_iff_not, beq_eq_false_iff_ne, if_pos, if_neg, comp_l0, comp_l2, comp_l3, ev_comp, mapCall_nil, mapCall_cons, mapR_int, ev_maxd, maxd_nil, maxd_cons, maxR_some, maxFrom_nil, maxFrom_cons, b1_sum, sumD_nil, sumD_cons, Option.map_some, ex_callRef, refS_own, ex_asgFresh, finR_next, notin_strL hx hB, notin_strL hx hF, hb', hc', hlen]
theorem needs_two {k : Nat} {w : String} {a b : D} (hw : w ∈ twoWords) {La Lb : List Str} (ha : Needs k a La) (hb : Needs k b Lb) (hs : wt (twoE w a b) ≤ 1000) : Needs (k + 1) (twoE w a b) (addAll La Lb) where
  nm := ha.nm.addAll hb.nm
  nd := addAll_nodup ha.nd
  len := by
    have h1 := addAll_len (f := La) (l := Lb)
    have h2 := ha.len
    have h3 := hb.len
    rw [wt_two]; omega
  law := fun n => by
    have h2 := ha.len
    have h3 := hb.len
    rw [wt_two] at hs
    refine ⟨true, ?_⟩
    show (orc fns globs (n + k + 1 + 1)).fn _ _ = _
    rw [orc_fn (F := F_law_needs) rfl rfl]
    show fin (ex _ _ F_law_needs.body [.fr _, .unset, .unset, .unset, .unset, .unset]) = _
    unfold F_law_needs
    obtain ⟨w1, w2, w3, w4⟩ := two_ne hw
    obtain ⟨ba, ea⟩ := ha.law n
    obtain ⟨bb, eb⟩ := hb.law n
    have hla : (strL La).length = La.length := List.length_map ..
    have hlb : (strL Lb).length = Lb.length := List.length_map ..
    obtain ⟨n1, o1, e1⟩ := inner_no (n + k + 1) [a, b] 1 (.inr (by decide)) (.fr (.int 1)) La [] .unset .unset ha.nm .nil (by simp; omega) (t := w)
    obtain ⟨n2, o2, e2⟩ := inner_no (n + k + 1) [a, b] 2 (.inr (by decide)) (.fr (.int 1)) Lb La n1 o1 hb.nm ha.nm (by omega) (t := w)
    rw [addAll_own ha.nd] at e1
    simp only [List.map_nil] at e1
    simp (disch := (first | assumption | decide | exact Zbp _ | (refine Sm.div ?_ ?_ <;> first | assumption | decide) | omega | (simp only [List.length_append, List.length_cons, List.length_nil, slen_sone, Zb7, slen_empty]; omega))) only [Za0, ZbH, ZbN, ZbI, ZbL, Za3, ZaC, Zb3, Zai, Zaw, ZbP, ZaN, ZbZ, Zb0, Zbv, ZbD, ZaU, ZbY, Zb4, Zb9, ZbT, Zcd, Zb5, ZbG, Zb2, Zb6, ZbQ, ZbE, ZbV, ZaJ, Zbz, Zbw, Zca, Zcb, Zcc, Zce, Zcf, Zb8, Zbh, Za9, Zbr, Zbt, ZaF, ZaG, ZaK, optInt_int, ZaR, ZaQ, ZbA, Zbk, mul_ok, Zbq, ZbX, ZaY, addl_ok, Zag, Zak, Zal, Zb1, ZbR, Zan, Zar, Zah, Zaq, getk, Int.reduceToNat, Int.toNat_natCast, len_list_ok, len_tuple_ok, len_str_ok, Zad, ZbK, ZbW, ZbO, Zbx, ZaT, List.getElem?_cons_zero, List.getElem?_cons_succ, Zch, Zcg, Zau, Zbj, ZaB, ZaV, Zaj, ZaD, ZaI, Zac, Zat, Zbe, Zba, Zav, Zbn, Za1, ZaM, Zax, Zbf, Zay, Zby, Zaz, Zap, ZaW, Zao, ZaH, Zbi, ZaP, Zaf, Zab, Zae, Zaa, aliasOk, Za5, Bool.false_eq_true, Bool.or_false, Bool.false_or, Bool.or_self, Bool.or_true, Bool.true_or, Bool.and_true, Bool.true_and, Bool.and_self, Bool.not_false, Bool.not_true, Bool.and_false, Bool.false_and, if_false, if_true, reduceIte, List.length_append, List.length_cons, List.length_nil, ZaZ, ZbJ, String.reduceBEq, String.reduceBNe, String.reduceEq, ZbM, Za2, Zbl, Zbb, ZaS, ZaE, ZaL, ZbC, Zbu, forS_list, ZaO, ZaA, Zam, Zas, ZbS, Za7, Zbs, Za8, Zbm, Za4, ZbB, Za6, Zbo, Zbd, ZbF, Zbc, slice_hi, slice_lo, slice_both, slice_tup1, slice_tup2, Zbg, ZbU, ZaX, decide_eq_true, decide_eq_false, int_beq_t, int_beq_f, Bool.and_eq_false_iff, Bool.or_eq_false_iff, beq_iff_eq, bne_iff_ne, decide_eq_true_eq, Bool.and_eq_true, Bool.or_eq_true, Bool.not_eq_true', decide_eq_false_iff_not, beq_eq_false_iff_ne, if_pos, if_neg, comp_l0, comp_l2, comp_l3, ev_comp, mapCall_nil, mapCall_cons, mapR_int, ev_maxd, maxd_nil, maxd_cons, maxR_some, maxFrom_nil, maxFrom_cons, b1_sum, sumD_nil, sumD_cons, Option.map_some, ex_callRef, refS_own, ex_asgFresh, finR_next, w1, w2, w3, w4, Int.reduceAdd, Nat.reduceAdd, Int.cast_ofNat_Int, range13, ea, eb, e1, e2]
  gat := fun n B F hB hF hl => by
    have h2 := ha.len
    have h4 := filter_len La fun y => !B.contains y
    have h5 := addAll_len (f := F) (l := La.filter fun y => !B.contains y)
    rw [wt_two] at hl
    show (orc fns globs (n + k + 2 + 1)).rf _ _ _ = _
    rw [orc_rf (F := F_gather) rfl rfl rfl]
    show finR 2 (ex _ _ F_gather.body [.fr _, .fr _, .own _, .unset]) = _
    unfold F_gather
    obtain ⟨w1, w2, w3, w4⟩ := two_ne hw
    have ea := ha.gat n B F hB hF (by omega)
    have eb := hb.gat n B _ hB (hF.addAll (ha.nm.filter fun y => !B.contains y)) (by omega)
    simp (disch := (first | assumption | decide | exact Zbp _ | (refine Sm.div ?_ ?_ <;> first | assumption | decide) | omega | (simp only [List.length_append, List.length_cons, List.length_nil, slen_sone, Zb7, slen_empty]; omega))) only [Za0, ZbH, ZbN, ZbI, ZbL, Za3, ZaC, Zb3, Zai, Zaw, ZbP, ZaN, ZbZ, Zb0, Zbv, ZbD, ZaU, ZbY, Zb4, Zb9, ZbT, Zcd, Zb5, ZbG, Zb2, Zb6, ZbQ, ZbE, ZbV, ZaJ, Zbz, Zbw, Zca, Zcb, Zcc, Zce, Zcf, Zb8, Zbh, Za9, Zbr, Zbt, ZaF, ZaG, ZaK, optInt_int, ZaR, ZaQ, ZbA, Zbk, mul_ok, Zbq, ZbX, ZaY, addl_ok, Zag, Zak, Zal, Zb1, ZbR, Zan, Zar, Zah, Zaq, getk, Int.reduceToNat, Int.toNat_natCast, len_list_ok, len_tuple_ok, len_str_ok, Zad, ZbK, ZbW, ZbO, Zbx, ZaT, List.getElem?_cons_zero, List.getElem?_cons_succ, Zch, Zcg, Zau, Zbj, ZaB, ZaV, Zaj, ZaD, ZaI, Zac, Zat, Zbe, Zba, Zav, Zbn, Za1, ZaM, Zax, Zbf, Zay, Zby, Zaz, Zap, ZaW, Zao, ZaH, Zbi, ZaP, Zaf, Zab, Zae, Zaa, aliasOk, Za5, Bool.false_eq_true, Bool.or_false, Bool.false_or, Bool.or_self, Bool.or_true, Bool.true_or, Bool.and_true, Bool.true_and, Bool.and_self, Bool.not_false, Bool.not_true, Bool.and_false, Bool.false_and, if_false, if_true, reduceIte, List.length_append, List.length_cons, List.length_nil, ZaZ, ZbJ, String.reduceBEq, String.reduceBNe, String.reduceEq, ZbM, Za2, Zbl, Zbb, ZaS, ZaE, ZaL, ZbC, Zbu, forS_list, ZaO, ZaA, Zam, Zas, ZbS, Za7, Zbs, Za8, Zbm, Za4, ZbB, Za6, Zbo, Zbd, ZbF, Zbc, slice_hi, slice_lo, slice_both, slice_tup1, slice_tup2, Zbg, ZbU, ZaX, decide_eq_true, decide_eq_false, int_beq_t, int_beq_f, Bool.and_eq_false_iff, Bool.or_eq_false_iff, beq_iff_eq, bne_iff_ne, decide_eq_true_eq, Bool.and_eq_true, Bool.or_eq_true, Bool.not_eq_true', decide_eq_false_iff_not, beq_eq_false_iff_ne, if_pos, if_neg, comp_l0, comp_l2, comp_l3, ev_comp, mapCall_nil, mapCall_cons, mapR_int, ev_maxd, maxd_nil, maxd_cons, maxR_some, maxFrom_nil, maxFrom_cons, b1_sum, sumD_nil, sumD_cons, Option.map_some, ex_callRef, refS_own, ex_asgFresh, finR_next, w1, w2, w3, w4, parts_two _ _ _ hw, ea, eb]
    rw [filter_addAll, addAll_assoc]
end L02
end Mine
-- P02e
set_option autoImplicit false
set_option linter.all false
set_option maxRecDepth 10000
namespace Mine
open PySem
namespace L02
theorem needs_when {k : Nat} {a b c : D} {La Lb Lc : List Str} (ha : Needs k a La) (hb : Needs k b Lb) (hc : Needs k c Lc) (hs : wt (whenE a b c) ≤ 1000) : Needs (k + 1) (whenE a b c) (addAll (addAll La Lb) Lc) where
  nm := (ha.nm.addAll hb.nm).addAll hc.nm
  nd := addAll_nodup (addAll_nodup ha.nd)
  len := by
    have h1 := addAll_len (f := La) (l := Lb)
    have h0 := addAll_len (f := addAll La Lb) (l := Lc)
    have h2 := ha.len
    have h3 := hb.len
    have h4 := hc.len
    rw [wt_when]; omega
  law := fun n => by
    have h1 := addAll_len (f := La) (l := Lb)
    have h2 := ha.len
    have h3 := hb.len
    have h4 := hc.len
    rw [wt_when] at hs
    refine ⟨true, ?_⟩
    show (orc fns globs (n + k + 1 + 1)).fn _ _ = _
    rw [orc_fn (F := F_law_needs) rfl rfl]
    show fin (ex _ _ F_law_needs.body [.fr _, .unset, .unset, .unset, .unset, .unset]) = _
    unfold F_law_needs
    obtain ⟨ba, ea⟩ := ha.law n
    obtain ⟨bb, eb⟩ := hb.law n
    obtain ⟨bc, ec⟩ := hc.law n
    have hla : (strL La).length = La.length := List.length_map ..
    have hlb : (strL Lb).length = Lb.length := List.length_map ..
    have hlc : (strL Lc).length = Lc.length := List.length_map ..
    obtain ⟨n1, o1, e1⟩ := inner_no (n + k + 1) [a, b, c] 1 (.inl (by decide)) (.fr (.int 1)) La [] .unset .unset ha.nm .nil (by simp; omega) (t := "when")
    obtain ⟨n2, o2, e2⟩ := inner_no (n + k + 1) [a, b, c] 2 (.inl (by decide)) (.fr (.int 1)) Lb La n1 o1 hb.nm ha.nm (by omega) (t := "when")
    obtain ⟨n3, o3, e3⟩ := inner_no (n + k + 1) [a, b, c] 3 (.inl (by decide)) (.fr (.int 1)) Lc (addAll La Lb) n2 o2 hc.nm (ha.nm.addAll hb.nm) (by omega) (t := "when")
    rw [addAll_own ha.nd] at e1
    simp only [List.map_nil] at e1
    simp (disch := (first | assumption | decide | exact Zbp _ | (refine Sm.div ?_ ?_ <;> first | assumption | decide) | omega | (simp only [List.length_append, List.length_cons, List.length_nil, slen_sone, Zb7, slen_empty]; omega))) only [Za0, ZbH, ZbN, ZbI, ZbL, Za3, ZaC, Zb3, Zai, Zaw, ZbP, ZaN, ZbZ, Zb0, Zbv, ZbD, ZaU, ZbY, Zb4, Zb9, ZbT, Zcd, Zb5, ZbG, Zb2, Zb6, ZbQ, ZbE, ZbV, ZaJ, Zbz, Zbw, Zca, Zcb, Zcc, Zce, Zcf, Zb8, Zbh, Za9, Zbr, Zbt, ZaF, ZaG, ZaK, optInt_int, ZaR, ZaQ, ZbA, Zbk, mul_ok, Zbq, ZbX, ZaY, addl_ok, Zag, Zak, Zal, Zb1, ZbR, Zan, Zar, Zah, Zaq, getk, Int.reduceToNat, Int.toNat_natCast, len_list_ok, len_tuple_ok, len_str_ok, Zad, ZbK, ZbW, ZbO, Zbx, ZaT, List.getElem?_cons_zero, List.getElem?_cons_succ, Zch, Zcg, Zau, Zbj, ZaB, ZaV, Zaj, ZaD, ZaI, Zac, Zat, Zbe, Zba, Zav, Zbn, Za1, ZaM, Zax, Zbf, Zay, Zby, Zaz, Zap, ZaW, Zao, ZaH, Zbi, ZaP, Zaf, Zab, Zae, Zaa, aliasOk, Za5, Bool.false_eq_true, Bool.or_false, Bool.false_or, Bool.or_self, Bool.or_true, Bool.true_or, Bool.and_true, Bool.true_and, Bool.and_self, Bool.not_false, Bool.not_true, Bool.and_false, Bool.false_and, if_false, if_true, reduceIte, List.length_append, List.length_cons, List.length_nil, ZaZ, ZbJ, String.reduceBEq, String.reduceBNe, String.reduceEq, ZbM, Za2, Zbl, Zbb, ZaS, ZaE, ZaL, ZbC, Zbu, forS_list, ZaO, ZaA, Zam, Zas, ZbS, Za7, Zbs, Za8, Zbm, Za4, ZbB, Za6, Zbo, Zbd, ZbF, Zbc, slice_hi, slice_lo, slice_both, slice_tup1, slice_tup2, Zbg, ZbU, ZaX, decide_eq_true, decide_eq_false, int_beq_t, int_beq_f, Bool.and_eq_false_iff, Bool.or_eq_false_iff, beq_iff_eq, bne_iff_ne, decide_eq_true_eq, Bool.and_eq_true, Bool.or_eq_true, Bool.not_eq_true', decide_eq_false_iff_not, beq_eq_false_iff_ne, if_pos, if_neg, comp_l0, comp_l2, comp_l3, ev_comp, mapCall_nil, mapCall_cons, mapR_int, ev_maxd, maxd_nil, maxd_cons, maxR_some, maxFrom_nil, maxFrom_cons, b1_sum, sumD_nil, sumD_cons, Option.map_some, ex_callRef, refS_own, ex_asgFresh, finR_next, Int.reduceAdd, Nat.reduceAdd, Int.cast_ofNat_Int, range14, ea, eb, ec, e1, e2, e3]
  gat := fun n B F hB hF hl => by
    have h2 := ha.len
    have h3 := hb.len
    have h4 := filter_len La fun y => !B.contains y
    have h5 := addAll_len (f := F) (l := La.filter fun y => !B.contains y)
    have h6 := filter_len Lb fun y => !B.contains y
    have h7 := addAll_len (f := addAll F (La.filter fun y => !B.contains y)) (l := Lb.filter fun y => !B.contains y)
    rw [wt_when] at hl
    show (orc fns globs (n + k + 2 + 1)).rf _ _ _ = _
    rw [orc_rf (F := F_gather) rfl rfl rfl]
    show finR 2 (ex _ _ F_gather.body [.fr _, .fr _, .own _, .unset]) = _
    unfold F_gather
    have ea := ha.gat n B F hB hF (by omega)
    have na := hF.addAll (ha.nm.filter fun y => !B.contains y)
    have eb := hb.gat n B _ hB na (by omega)
    have ec := hc.gat n B _ hB (na.addAll (hb.nm.filter fun y => !B.contains y)) (by omega)
    simp (disch := (first | assumption | decide | exact Zbp _ | (refine Sm.div ?_ ?_ <;> first | assumption | decide) | omega | (simp only [List.length_append, List.length_cons, List.length_nil, slen_sone, Zb7, slen_empty]; omega))) only [Za0, ZbH, ZbN, ZbI, ZbL, Za3, ZaC, Zb3, Zai, Zaw, ZbP, ZaN, ZbZ, Zb0, Zbv, ZbD, ZaU, ZbY, Zb4, Zb9, ZbT, Zcd, Zb5, ZbG, Zb2, Zb6, ZbQ, ZbE, ZbV, ZaJ, Zbz, Zbw, Zca, Zcb, Zcc, Zce, Zcf, Zb8, Zbh, Za9, Zbr, Zbt, ZaF, ZaG, ZaK, optInt_int, ZaR, ZaQ, ZbA, Zbk, mul_ok, Zbq, ZbX, ZaY, addl_ok, Zag, Zak, Zal, Zb1, ZbR, Zan, Zar, Zah, Zaq, getk, Int.reduceToNat, Int.toNat_natCast, len_list_ok, len_tuple_ok, len_str_ok, Zad, ZbK, ZbW, ZbO, Zbx, ZaT, List.getElem?_cons_zero, List.getElem?_cons_succ, Zch, Zcg, Zau, Zbj, ZaB, ZaV, Zaj, ZaD, ZaI, Zac, Zat, Zbe, Zba, Zav, Zbn, Za1, ZaM, Zax, Zbf, Zay, Zby, Zaz, Zap, ZaW, Zao, ZaH, Zbi, ZaP, Zaf, Zab, Zae, Zaa, aliasOk, Za5, Bool.false_eq_true, Bool.or_false, Bool.false_or, Bool.or_self, Bool.or_true, Bool.true_or, Bool.and_true, Bool.true_and, Bool.and_self, Bool.not_false, Bool.not_true, Bool.and_false, Bool.false_and, if_false, if_true, reduceIte, List.length_append, List.length_cons, List.length_nil, ZaZ, ZbJ, String.reduceBEq, String.reduceBNe, String.reduceEq, ZbM, Za2, Zbl, Zbb, ZaS, ZaE, ZaL, ZbC, Zbu, forS_list, ZaO, ZaA, Zam, Zas, ZbS, Za7, Zbs, Za8, Zbm, Za4, ZbB, Za6, Zbo, Zbd, ZbF, Zbc, slice_hi, slice_lo, slice_both, slice_tup1, slice_tup2, Zbg, ZbU, ZaX, decide_eq_true, decide_eq_false, int_beq_t, int_beq_f, Bool.and_eq_false_iff, Bool.or_eq_false_iff, beq_iff_eq, bne_iff_ne, decide_eq_true_eq, Bool.and_eq_true, Bool.or_eq_true, Bool.not_eq_true', decide_eq_false_iff_not, beq_eq_false_iff_ne, if_pos, if_neg, comp_l0, comp_l2, comp_l3, ev_comp, mapCall_nil, mapCall_cons, mapR_int, ev_maxd, maxd_nil, maxd_cons, maxR_some, maxFrom_nil, maxFrom_cons, b1_sum, sumD_nil, sumD_cons, Option.map_some, ex_callRef, refS_own, ex_asgFresh, finR_next, parts_when, ea, eb, ec]
    rw [filter_addAll, filter_addAll, ← addAll_assoc, ← addAll_assoc]
theorem needs_let {k : Nat} {x : Str} {b c : D} (hx : Nm x) {Lb Lc : List Str} (hb : Needs k b Lb) (hc : Needs k c Lc) (hs : wt (letE x b c) ≤ 1000) : Needs (k + 1) (letE x b c) (addAll Lb (Lc.filter fun y => !(y == x))) where
  nm := hb.nm.addAll (hc.nm.filter _)
  nd := addAll_nodup hb.nd
  len := by
    have h1 := addAll_len (f := Lb) (l := Lc.filter fun y => !(y == x))
    have h0 := filter_len Lc fun y => !(y == x)
    have h3 := hb.len
    have h4 := hc.len
    rw [wt_let]; omega
  law := fun n => by
    have h3 := hb.len
    have h4 := hc.len
    rw [wt_let] at hs
    refine ⟨true, ?_⟩
    show (orc fns globs (n + k + 1 + 1)).fn _ _ = _
    rw [orc_fn (F := F_law_needs) rfl rfl]
    show fin (ex _ _ F_law_needs.body [.fr _, .unset, .unset, .unset, .unset, .unset]) = _
    unfold F_law_needs
    obtain ⟨bb, eb⟩ := hb.law n
    obtain ⟨bc, ec⟩ := hc.law n
    have hlb : (strL Lb).length = Lb.length := List.length_map ..
    have hlc : (strL Lc).length = Lc.length := List.length_map ..
    obtain ⟨n2, o2, e2⟩ := inner_no (n + k + 1) [.str x, b, c] 2 (.inr (by decide)) (.fr (.int 2)) Lb [] .unset .unset hb.nm .nil (by simp; omega) (t := "let")
    obtain ⟨n3, o3, e3⟩ := inner_let (n + k + 1) x b c (.fr (.int 2)) Lc Lb n2 o2 hc.nm hb.nm (by omega)
    rw [addAll_own hb.nd] at e2
    simp only [List.map_nil] at e2
    simp (disch := (first | assumption | decide | exact Zbp _ | (refine Sm.div ?_ ?_ <;> first | assumption | decide) | omega | (simp only [List.length_append, List.length_cons, List.length_nil, slen_sone, Zb7, slen_empty]; omega))) only [Za0, ZbH, ZbN, ZbI, ZbL, Za3, ZaC, Zb3, Zai, Zaw, ZbP, ZaN, ZbZ, Zb0, Zbv, ZbD, ZaU, ZbY, Zb4, Zb9, ZbT, Zcd, Zb5, ZbG, Zb2, Zb6, ZbQ, ZbE, ZbV, ZaJ, Zbz, Zbw, Zca, Zcb, Zcc, Zce, Zcf, Zb8, Zbh, Za9, Zbr, Zbt, ZaF, ZaG, ZaK, optInt_int, ZaR, ZaQ, ZbA, Zbk, mul_ok, Zbq, ZbX, ZaY, addl_ok, Zag, Zak, Zal, Zb1, ZbR, Zan, Zar, Zah, Zaq, getk, Int.reduceToNat, Int.toNat_natCast, len_list_ok, len_tuple_ok, len_str_ok, Zad, ZbK, ZbW, ZbO, Zbx, ZaT, List.getElem?_cons_zero, List.getElem?_cons_succ, Zch, Zcg, Zau, Zbj, ZaB, ZaV, Zaj, ZaD, ZaI, Zac, Zat, Zbe, Zba, Zav, Zbn, Za1, ZaM, Zax, Zbf, Zay, Zby, Zaz, Zap, ZaW, Zao, ZaH, Zbi, ZaP, Zaf, Zab, Zae, Zaa, aliasOk, Za5, Bool.false_eq_true, Bool.or_false, Bool.false_or, Bool.or_self, Bool.or_true, Bool.true_or, Bool.and_true, Bool.true_and, Bool.and_self, Bool.not_false, Bool.not_true, Bool.and_false, Bool.false_and, if_false, if_true, reduceIte, List.length_append, List.length_cons, List.length_nil, ZaZ, ZbJ, String.reduceBEq, String.reduceBNe, String.reduceEq, ZbM, Za2, Zbl, Zbb, ZaS, ZaE, ZaL, ZbC, Zbu, forS_list, ZaO, ZaA, Zam, Zas, ZbS, Za7, Zbs, Za8, Zbm, Za4, ZbB, Za6, Zbo, Zbd, ZbF, Zbc, slice_hi, slice_lo, slice_both, slice_tup1, slice_tup2, Zbg, ZbU, ZaX, decide_eq_true, decide_eq_false, int_beq_t, int_beq_f, Bool.and_eq_false_iff, Bool.or_eq_false_iff, beq_iff_eq, bne_iff_ne, decide_eq_true_eq, Bool.and_eq_true, Bool.or_eq_true, Bool.not_eq_true', decide_eq_false_iff_not, beq_eq_false_iff_ne, if_pos, if_neg, comp_l0, comp_l2, comp_l3, ev_comp, mapCall_nil, mapCall_cons, mapR_int, ev_maxd, maxd_nil, maxd_cons, maxR_some, maxFrom_nil, maxFrom_cons, b1_sum, sumD_nil, sumD_cons, Option.map_some, ex_callRef, refS_own, ex_asgFresh, finR_next, Int.reduceAdd, Nat.reduceAdd, Int.cast_ofNat_Int, range24, eb, ec, e2, e3]
  gat := fun n B F hB hF hl => by
    have h3 := hb.len
    have h4 := filter_len Lb fun y => !B.contains y
    have h5 := addAll_len (f := F) (l := Lb.filter fun y => !B.contains y)
    rw [wt_let] at hl
    show (orc fns globs (n + k + 2 + 1)).rf _ _ _ = _
    rw [orc_rf (F := F_gather) rfl rfl rfl]
    show finR 2 (ex _ _ F_gather.body [.fr _, .fr _, .own _, .unset]) = _
    unfold F_gather
    have hlB : (strL B).length = B.length := List.length_map ..
    have eb := hb.gat n B F hB hF (by omega)
    have hc1 : 1 ≤ wt c ∨ wt c = 0 := by omega
    have ec := hc.gat n (B ++ [x]) _ (hB.app (.one hx)) (hF.addAll (hb.nm.filter fun y => !B.contains y)) (by rw [List.length_append]; simp only [List.length_cons, List.length_nil]; omega)
    rw [← strL_snoc] at ec
    have hf : (Lc.filter fun y => !(B ++ [x]).contains y) = (Lc.filter fun y => !(y == x)).filter fun y => !B.contains y := by
      rw [List.filter_filter]
      congr 1
      funext y
      simp only [List.contains_eq_mem, List.mem_append, List.mem_singleton]
      by_cases h1 : y ∈ B <;> by_cases h2 : y = x <;> simp [h1, h2]
    rw [hf] at ec
    simp (disch := (first | assumption | decide | exact Zbp _ | (refine Sm.div ?_ ?_ <;> first | assumption | decide) | omega | (simp only [List.length_append, List.length_cons, List.length_nil, slen_sone, Zb7, slen_empty]; omega))) only [Za0, ZbH, ZbN, ZbI, ZbL, Za3, ZaC, Zb3, Zai, Zaw, ZbP, ZaN, ZbZ, Zb0, Zbv, ZbD, ZaU, ZbY, Zb4, Zb9, ZbT, Zcd, Zb5, ZbG, Zb2, Zb6, ZbQ, ZbE, ZbV, ZaJ, Zbz, Zbw, Zca, Zcb, Zcc, Zce, Zcf, Zb8, Zbh, Za9, Zbr, Zbt, ZaF, ZaG, ZaK, optInt_int, ZaR, ZaQ, ZbA, Zbk, mul_ok, Zbq, ZbX, ZaY, addl_ok, Zag, Zak, Zal, Zb1, ZbR, Zan, Zar, Zah, Zaq, getk, Int.reduceToNat, Int.toNat_natCast, len_list_ok, len_tuple_ok, len_str_ok, Zad, ZbK, ZbW, ZbO, Zbx, ZaT, List.getElem?_cons_zero, List.getElem?_cons_succ, Zch, Zcg, Zau, Zbj, ZaB, ZaV, Zaj, ZaD, ZaI, Zac, Zat, Zbe, Zba, Zav, Zbn, Za1, ZaM, Zax, Zbf, Zay, Zby, Zaz, Zap, ZaW, Zao, ZaH, Zbi, ZaP, Zaf, Zab, Zae, Zaa, aliasOk, Za5, Bool.false_eq_true, Bool.or_false, Bool.false_or, Bool.or_self, Bool.or_true, Bool.true_or, Bool.and_true, Bool.true_and, Bool.and_self, Bool.not_false, Bool.not_true, Bool.and_false, Bool.false_and, if_false, if_true, reduceIte, List.length_append, List.length_cons, List.length_nil, ZaZ, ZbJ, String.reduceBEq, String.reduceBNe, String.reduceEq, ZbM, Za2, Zbl, Zbb, ZaS, ZaE, ZaL, ZbC, Zbu, forS_list, ZaO, ZaA, Zam, Zas, ZbS, Za7, Zbs, Za8, Zbm, Za4, ZbB, Za6, Zbo, Zbd, ZbF, Zbc, slice_hi, slice_lo, slice_both, slice_tup1, slice_tup2, Zbg, ZbU, ZaX, decide_eq_true, decide_eq_false, int_beq_t, int_beq_f, Bool.and_eq_false_iff, Bool.or_eq_false_iff, beq_iff_eq, bne_iff_ne, decide_eq_true_eq, Bool.and_eq_true, Bool.or_eq_true, Bool.not_eq_true', decide_eq_false_iff_not, beq_eq_false_iff_ne, if_pos, if_neg, comp_l0, comp_l2, comp_l3, ev_comp, mapCall_nil, mapCall_cons, mapR_int, ev_maxd, maxd_nil, maxd_cons, maxR_some, maxFrom_nil, maxFrom_cons, b1_sum, sumD_nil, sumD_cons, Option.map_some, ex_callRef, refS_own, ex_asgFresh, finR_next, eb, ec, hlB]
    rw [filter_addAll, addAll_assoc]
theorem needs_ok {k : Nat} {e : D} (h : Ex k e) : wt e ≤ 1000 → ∃ L, Needs k e L := by
  induction h with
  | num a b => exact fun _ => ⟨_, needs_num _⟩
  | name hx => exact fun _ => ⟨_, needs_name _ hx⟩
  | two hw _ _ ia ib =>
    intro hs
    have hs' := hs
    rw [wt_two] at hs'
    obtain ⟨La, ha⟩ := ia (by omega)
    obtain ⟨Lb, hb⟩ := ib (by omega)
    exact ⟨_, needs_two hw ha hb hs⟩
  | when _ _ _ ia ib ic =>
    intro hs
    have hs' := hs
    rw [wt_when] at hs'
    obtain ⟨La, ha⟩ := ia (by omega)
    obtain ⟨Lb, hb⟩ := ib (by omega)
    obtain ⟨Lc, hc⟩ := ic (by omega)
    exact ⟨_, needs_when ha hb hc hs⟩
  | lett hx _ _ ib ic =>
    intro hs
    have hs' := hs
    rw [wt_let] at hs'
    obtain ⟨Lb, hb⟩ := ib (by omega)
    obtain ⟨Lc, hc⟩ := ic (by omega)
    exact ⟨_, needs_let hx hb hc hs⟩
theorem all_str (n : Nat) (a b c d e : Slot) : ∀ (l : List Str) (t : Slot), ∃ t', forLoop (bodyO (orc fns globs n) globs 5 (.nt (.isi (.var 5) .str)) false) (strL l) [a, b, c, d, e, t] = .next [a, b, c, d, e, t']
  | [], t => ⟨t, by simp (disch := (first | assumption | decide | exact Zbp _ | (refine Sm.div ?_ ?_ <;> first | assumption | decide) | omega | (simp only [List.length_append, List.length_cons, List.length_nil, slen_sone, Zb7, slen_empty]; omega))) only [Za0, ZbH, ZbN, ZbI, ZbL, Za3, ZaC, Zb3, Zai, Zaw, ZbP, ZaN, ZbZ, Zb0, Zbv, ZbD, ZaU, ZbY, Zb4, Zb9, ZbT, Zcd, Zb5, ZbG, Zb2, Zb6, ZbQ, ZbE, ZbV, ZaJ, Zbz, Zbw, Zca, Zcb, Zcc, Zce, Zcf, Zb8, Zbh, Za9, Zbr, Zbt, ZaF, ZaG, ZaK, optInt_int, ZaR, ZaQ, ZbA, Zbk, mul_ok, Zbq, ZbX, ZaY, addl_ok, Zag, Zak, Zal, Zb1, ZbR, Zan, Zar, Zah, Zaq, getk, Int.reduceToNat, Int.toNat_natCast, len_list_ok, len_tuple_ok, len_str_ok, Zad, ZbK, ZbW, ZbO, Zbx, ZaT, List.getElem?_cons_zero, List.getElem?_cons_succ, Zch, Zcg, Zau, Zbj, ZaB, ZaV, Zaj, ZaD, ZaI, Zac, Zat, Zbe, Zba, Zav, Zbn, Za1, ZaM, Zax, Zbf, Zay, Zby, Zaz, Zap, ZaW, Zao, ZaH, Zbi, ZaP, Zaf, Zab, Zae, Zaa, aliasOk, Za5, Bool.false_eq_true, Bool.or_false, Bool.false_or, Bool.or_self, Bool.or_true, Bool.true_or, Bool.and_true, Bool.true_and, Bool.and_self, Bool.not_false, Bool.not_true, Bool.and_false, Bool.false_and, if_false, if_true, reduceIte, List.length_append, List.length_cons, List.length_nil, ZaZ, ZbJ, String.reduceBEq, String.reduceBNe, String.reduceEq, ZbM, Za2, Zbl, Zbb, ZaS, ZaE, ZaL, ZbC, Zbu, forS_list, ZaO, ZaA, Zam, Zas, ZbS, Za7, Zbs, Za8, Zbm, Za4, ZbB, Za6, Zbo, Zbd, ZbF, Zbc, slice_hi, slice_lo, slice_both, slice_tup1, slice_tup2, Zbg, ZbU, ZaX, decide_eq_true, decide_eq_false, int_beq_t, int_beq_f, Bool.and_eq_false_iff, Bool.or_eq_false_iff, beq_iff_eq, bne_iff_ne, decide_eq_true_eq, Bool.and_eq_true, Bool.or_eq_true, Bool.not_eq_true', decide_eq_false_iff_not, beq_eq_false_iff_ne, if_pos, if_neg, comp_l0, comp_l2, comp_l3, ev_comp, mapCall_nil, mapCall_cons, mapR_int, ev_maxd, maxd_nil, maxd_cons, maxR_some, maxFrom_nil, maxFrom_cons, b1_sum, sumD_nil, sumD_cons, Option.map_some, ex_callRef, refS_own, ex_asgFresh, finR_next, List.map_nil]⟩
  | x :: l, t => by
    obtain ⟨t', h⟩ := all_str n a b c d e l (.fr (.str x))
    refine ⟨t', ?_⟩
    rw [← h]
    simp (disch := (first | assumption | decide | exact Zbp _ | (refine Sm.div ?_ ?_ <;> first | assumption | decide) | omega | (simp only [List.length_append, List.length_cons, List.length_nil, slen_sone, Zb7, slen_empty]; omega))) only [Za0, ZbH, ZbN, ZbI, ZbL, Za3, ZaC, Zb3, Zai, Zaw, ZbP, ZaN, ZbZ, Zb0, Zbv, ZbD, ZaU, ZbY, Zb4, Zb9, ZbT, Zcd, Zb5, ZbG, Zb2, Zb6, ZbQ, ZbE, ZbV, ZaJ, Zbz, Zbw, Zca, Zcb, Zcc, Zce, Zcf, Zb8, Zbh, Za9, Zbr, Zbt, ZaF, ZaG, ZaK, optInt_int, ZaR, ZaQ, ZbA, Zbk, mul_ok, Zbq, ZbX, ZaY, addl_ok, Zag, Zak, Zal, Zb1, ZbR, Zan, Zar, Zah, Zaq, getk, Int.reduceToNat, Int.toNat_natCast, len_list_ok, len_tuple_ok, len_str_ok, Zad, ZbK, ZbW, ZbO, Zbx, ZaT, List.getElem?_cons_zero, List.getElem?_cons_succ, Zch, Zcg, Zau, Zbj, ZaB, ZaV, Zaj, ZaD, ZaI, Zac, Zat, Zbe, Zba, Zav, Zbn, Za1, ZaM, Zax, Zbf, Zay, Zby, Zaz, Zap, ZaW, Zao, ZaH, Zbi, ZaP, Zaf, Zab, Zae, Zaa, aliasOk, Za5, Bool.false_eq_true, Bool.or_false, Bool.false_or, Bool.or_self, Bool.or_true, Bool.true_or, Bool.and_true, Bool.true_and, Bool.and_self, Bool.not_false, Bool.not_true, Bool.and_false, Bool.false_and, if_false, if_true, reduceIte, List.length_append, List.length_cons, List.length_nil, ZaZ, ZbJ, String.reduceBEq, String.reduceBNe, String.reduceEq, ZbM, Za2, Zbl, Zbb, ZaS, ZaE, ZaL, ZbC, Zbu, forS_list, ZaO, ZaA, Zam, Zas, ZbS, Za7, Zbs, Za8, Zbm, Za4, ZbB, Za6, Zbo, Zbd, ZbF, Zbc, slice_hi, slice_lo, slice_both, slice_tup1, slice_tup2, Zbg, ZbU, ZaX, decide_eq_true, decide_eq_false, int_beq_t, int_beq_f, Bool.and_eq_false_iff, Bool.or_eq_false_iff, beq_iff_eq, bne_iff_ne, decide_eq_true_eq, Bool.and_eq_true, Bool.or_eq_true, Bool.not_eq_true', decide_eq_false_iff_not, beq_eq_false_iff_ne, if_pos, if_neg, comp_l0, comp_l2, comp_l3, ev_comp, mapCall_nil, mapCall_cons, mapR_int, ev_maxd, maxd_nil, maxd_cons, maxR_some, maxFrom_nil, maxFrom_cons, b1_sum, sumD_nil, sumD_cons, Option.map_some, ex_callRef, refS_own, ex_asgFresh, finR_next, List.map_cons, bodyO]
theorem whole_ok (n : Nat) (v : Int) : (orc fns globs (n + 1)).fn 7 [.int v] = .ok (.bool true, false) := by
  rw [orc_fn (F := F_law_whole) rfl rfl]
  show fin (ex _ _ F_law_whole.body [.fr _]) = _
  unfold F_law_whole
  simp (disch := (first | assumption | decide | exact Zbp _ | (refine Sm.div ?_ ?_ <;> first | assumption | decide))) only [Za0, ZbH, ZbN, ZbI, ZbL, Za3, ZaC, Zb3, Zai, Zaw, ZbP, ZaN, ZbZ, Zb0, Zbv, ZbD, ZaU, ZbY, Zb4, Zb9, ZbT, Zcd, Zb5, ZbG, Zb2, Zb6, ZbQ, ZbE, ZbV, ZaJ, Zbz, Zbw, Zca, Zcb, Zcc, Zce, Zcf, Zb8, Zbh, Za9, Zbr, Zbt, ZaF, ZaG, ZaK, optInt_int, ZaR, ZaQ, ZbA, Zbk, Zbq, ZbX, ZaY, Zag, Zak, Zal, Zb1, ZbR, Zan, Zar, Zah, Zaq, Int.reduceToNat, Int.toNat_natCast, Zad, ZbK, ZbW, ZbO, Zbx, ZaT, List.getElem?_cons_zero, List.getElem?_cons_succ, Zch, Zcg, Zau, Zbj, ZaB, ZaV, Zaj, ZaD, ZaI, Zac, Zat, Zbe, Zba, Zav, Zbn, Za1, ZaM, Zax, Zbf, Zay, Zby, Zaz, Zap, ZaW, Zao, ZaH, Zbi, ZaP, Zaf, Zab, Zae, Zaa, aliasOk, Za5, Bool.false_eq_true, Bool.or_false, Bool.false_or, Bool.or_self, Bool.or_true, Bool.true_or, Bool.and_true, Bool.true_and, Bool.and_self, Bool.not_false, Bool.not_true, Bool.and_false, Bool.false_and, if_false, if_true, reduceIte, ZaZ, ZbJ, String.reduceBEq, String.reduceBNe, String.reduceEq, ZbM, Za2, Zbl, Zbb, ZaS, ZaE, ZaL, ZbC, Zbu, ZaO, ZaA, Zam, Zas, ZbS, Za7, Zbs, Za8, Zbm, Za4, ZbB, Za6, Zbo, Zbd, ZbF, Zbc, Zbg, ZbU, ZaX, Bool.not_eq_true']
theorem needs_fn (n : Nat) {k : Nat} {e : D} {L : List Str} (h : Needs k e L) (hs : wt e ≤ 1000) : (orc fns globs (n + k + 3)).fn 4 [e] = .ok (.list (strL L), true) := by
  rw [orc_fn (F := F_needs) rfl rfl]
  show fin (ex _ _ F_needs.body [.fr _, .unset]) = _
  unfold F_needs
  have e1 := h.gat n [] [] .nil .nil (by simpa using hs)
  have hf : (L.filter fun y => !([] : List Str).contains y) = L := by simp
  rw [hf, addAll_own h.nd] at e1
  simp only [List.map_nil] at e1
  simp (disch := (first | assumption | decide | exact Zbp _ | (refine Sm.div ?_ ?_ <;> first | assumption | decide) | omega | (simp only [List.length_append, List.length_cons, List.length_nil, slen_sone, Zb7, slen_empty]; omega))) only [Za0, ZbH, ZbN, ZbI, ZbL, Za3, ZaC, Zb3, Zai, Zaw, ZbP, ZaN, ZbZ, Zb0, Zbv, ZbD, ZaU, ZbY, Zb4, Zb9, ZbT, Zcd, Zb5, ZbG, Zb2, Zb6, ZbQ, ZbE, ZbV, ZaJ, Zbz, Zbw, Zca, Zcb, Zcc, Zce, Zcf, Zb8, Zbh, Za9, Zbr, Zbt, ZaF, ZaG, ZaK, optInt_int, ZaR, ZaQ, ZbA, Zbk, mul_ok, Zbq, ZbX, ZaY, addl_ok, Zag, Zak, Zal, Zb1, ZbR, Zan, Zar, Zah, Zaq, getk, Int.reduceToNat, Int.toNat_natCast, len_list_ok, len_tuple_ok, len_str_ok, Zad, ZbK, ZbW, ZbO, Zbx, ZaT, List.getElem?_cons_zero, List.getElem?_cons_succ, Zch, Zcg, Zau, Zbj, ZaB, ZaV, Zaj, ZaD, ZaI, Zac, Zat, Zbe, Zba, Zav, Zbn, Za1, ZaM, Zax, Zbf, Zay, Zby, Zaz, Zap, ZaW, Zao, ZaH, Zbi, ZaP, Zaf, Zab, Zae, Zaa, aliasOk, Za5, Bool.false_eq_true, Bool.or_false, Bool.false_or, Bool.or_self, Bool.or_true, Bool.true_or, Bool.and_true, Bool.true_and, Bool.and_self, Bool.not_false, Bool.not_true, Bool.and_false, Bool.false_and, if_false, if_true, reduceIte, List.length_append, List.length_cons, List.length_nil, ZaZ, ZbJ, String.reduceBEq, String.reduceBNe, String.reduceEq, ZbM, Za2, Zbl, Zbb, ZaS, ZaE, ZaL, ZbC, Zbu, forS_list, ZaO, ZaA, Zam, Zas, ZbS, Za7, Zbs, Za8, Zbm, Za4, ZbB, Za6, Zbo, Zbd, ZbF, Zbc, slice_hi, slice_lo, slice_both, slice_tup1, slice_tup2, Zbg, ZbU, ZaX, decide_eq_true, decide_eq_false, int_beq_t, int_beq_f, Bool.and_eq_false_iff, Bool.or_eq_false_iff, beq_iff_eq, bne_iff_ne, decide_eq_true_eq, Bool.and_eq_true, Bool.or_eq_true, Bool.not_eq_true', decide_eq_false_iff_not, beq_eq_false_iff_ne, if_pos, if_neg, comp_l0, comp_l2, comp_l3, ev_comp, mapCall_nil, mapCall_cons, mapR_int, ev_maxd, maxd_nil, maxd_cons, maxR_some, maxFrom_nil, maxFrom_cons, b1_sum, sumD_nil, sumD_cons, Option.map_some, ex_callRef, refS_own, ex_asgFresh, finR_next, e1]
theorem law_ok (xs : List Int) (hx : xs.length ≤ 63) : callF fns globs 600 18 [.list (xs.map PyData.int)] = .ok (.bool true, false) := by
  show (orc fns globs (599 + 1)).fn _ _ = _
  rw [orc_fn (F := F_law) rfl rfl]
  show fin (ex _ _ F_law.body [.fr _, .unset, .unset, .unset, .unset, .unset]) = _
  unfold F_law
  obtain ⟨ys, e0, l0, b0⟩ := mixed_ok 598 xs (by omega)
  obtain ⟨e, e1, h1, w1⟩ := expr_by_ok 595 ys (by omega) b0
  obtain ⟨L, hL⟩ := needs_ok h1 (by omega)
  obtain ⟨z, _, z1, z2⟩ := deep_ok h1
  have s1 := size_ok h1 537
  have s2 := law_size_ok h1 538
  have d1 := z1 537
  have d2 := z2 538
  have n1 := needs_fn 536 hL (by omega)
  obtain ⟨bb, n2⟩ := hL.law 538
  obtain ⟨t', e5⟩ := all_str 599 (.fr (.list (ys.map PyData.int))) (.fr e) (.fr (.int (wt e))) (.fr (.int z)) (.own (.list (strL L))) L .unset
  have hlen : (strL L).length = L.length := List.length_map ..
  have hll := hL.len
  have e6 := ex_forO (O := orc fns globs 599) (G := globs) (s := .fr (.list (ys.map PyData.int))) (ρ := [.fr e, .fr (.int (wt e)), .fr (.int z), .own (.list (strL L)), .unset]) (j := 5) (i := 4) (t := .nt (.isi (.var 5) .str)) (b := false) (l := strL L) rfl (by omega) (by decide)
  rw [e5] at e6
  have g0 : globs[0]? = some (.int 1000000000) := rfl
  have g1 : globs[1]? = some (.int 60) := rfl
  have fr := fresh_strL L
  simp (disch := (first | assumption | decide | exact Zbp _ | (refine Sm.div ?_ ?_ <;> first | assumption | decide) | omega | (simp only [List.length_append, List.length_cons, List.length_nil, slen_sone, Zb7, slen_empty]; omega))) only [Za0, ZbH, ZbN, ZbI, ZbL, Za3, ZaC, Zb3, Zai, Zaw, ZbP, ZaN, ZbZ, Zb0, Zbv, ZbD, ZaU, ZbY, Zb4, Zb9, ZbT, Zcd, Zb5, ZbG, Zb2, Zb6, ZbQ, ZbE, ZbV, ZaJ, Zbz, Zbw, Zca, Zcb, Zcc, Zce, Zcf, Zb8, Zbh, Za9, Zbr, Zbt, ZaF, ZaG, ZaK, optInt_int, ZaR, ZaQ, ZbA, Zbk, mul_ok, Zbq, ZbX, ZaY, addl_ok, Zag, Zak, Zal, Zb1, ZbR, Zan, Zar, Zah, Zaq, getk, Int.reduceToNat, Int.toNat_natCast, len_list_ok, len_tuple_ok, len_str_ok, Zad, ZbK, ZbW, ZbO, Zbx, ZaT, List.getElem?_cons_zero, List.getElem?_cons_succ, Zch, Zcg, Zau, Zbj, ZaB, ZaV, Zaj, ZaD, ZaI, Zac, Zat, Zbe, Zba, Zav, Zbn, Za1, ZaM, Zax, Zbf, Zay, Zby, Zaz, Zap, ZaW, Zao, ZaH, Zbi, ZaP, Zaf, Zab, Zae, Zaa, aliasOk, Za5, Bool.false_eq_true, Bool.or_false, Bool.false_or, Bool.or_self, Bool.or_true, Bool.true_or, Bool.and_true, Bool.true_and, Bool.and_self, Bool.not_false, Bool.not_true, Bool.and_false, Bool.false_and, if_false, if_true, reduceIte, List.length_append, List.length_cons, List.length_nil, ZaZ, ZbJ, String.reduceBEq, String.reduceBNe, String.reduceEq, ZbM, Za2, Zbl, Zbb, ZaS, ZaE, ZaL, ZbC, Zbu, forS_list, ZaO, ZaA, Zam, Zas, ZbS, Za7, Zbs, Za8, Zbm, Za4, ZbB, Za6, Zbo, Zbd, ZbF, Zbc, slice_hi, slice_lo, slice_both, slice_tup1, slice_tup2, Zbg, ZbU, ZaX, decide_eq_true, decide_eq_false, int_beq_t, int_beq_f, Bool.and_eq_false_iff, Bool.or_eq_false_iff, beq_iff_eq, bne_iff_ne, decide_eq_true_eq, Bool.and_eq_true, Bool.or_eq_true, Bool.not_eq_true', decide_eq_false_iff_not, beq_eq_false_iff_ne, if_pos, if_neg, comp_l0, comp_l2, comp_l3, ev_comp, mapCall_nil, mapCall_cons, mapR_int, ev_maxd, maxd_nil, maxd_cons, maxR_some, maxFrom_nil, maxFrom_cons, b1_sum, sumD_nil, sumD_cons, Option.map_some, ex_callRef, refS_own, ex_asgFresh, finR_next, e0, g0, g1, whole_ok, e1, s1, d1, n1, fr, s2, d2, e6, n2, ne_strL hL.nm, hlen, eq_strL hL.nm, bne_self_eq_false, beq_self_eq_true]
end L02
end Mine
open PySem PySem.W PyProof.Rows
set_option maxRecDepth 100000
set_option maxHeartbeats 8000000
namespace Mine
namespace L02
theorem okAll : (fns.all fun F => okS F.body) = true := by decide +kernel
theorem walked : PySem.Challenge.rw_uf040022_02.Holds := by
  w_on; o_law; o_head Hook.none; (case hw => w_witness2)
  intro w s₀ s₁ mg mb G Y fa o pm cd doc dV kV ho hd hcd hD hmg hg args vals as hpre hlay hrd hwl hlo
  refine Ground.open G ?_
  intro T B D TE TW
  clear Y hd hcd hD B D TE TW
  wrow_args hpre hlay hrd hwl hlo
  rename_i xs _ _ _ _ _ _ _ a vs _ _ _ W _ _ _ hlen _
  refine law_run (fns := fns) (gn := gnames) (G := globs) (F := F_law) (i := 18) (P := w.params) (b := false) T (by decide +kernel) (by decide +kernel) (by decide +kernel) ?_ ?_ rfl rfl hmg W (law_ok xs (by omega)) fun h' tk x1 => ?_
  · intro i x d h1 h2
    rcases i with _ | i
    · cases h1; cases h2; exact rep_const T (by first | rfl | kernel_rfl) rfl
    rcases i with _ | i
    · cases h1; cases h2; exact rep_const T (by first | rfl | kernel_rfl) rfl
    cases h1
  · exact fun F hF => List.all_eq_true.mp okAll F hF
  · refine good_bool x1 hg (raisesW_false ?_) ?_ rfl
    · wrow_none_raised
    · wrow_post
end L02
end Mine

theorem PySem.Challenge.cw_uf040022_02_holds : PySem.Challenge.rw_uf040022_02.Holds :=
  Mine.L02.walked
