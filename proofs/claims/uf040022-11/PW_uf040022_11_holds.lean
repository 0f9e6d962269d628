import PyProof.Rows.All
import Wide.All
import Open.Line
import Wide.FinOn
import KE.IntText
import PyProof.Claim2
import PyProof.P3Statements
import PyProof.StrBlock
import PyProof.ListOps
import PyProof.TupleOps
import PyProof.DictList
import PyProof.DictKinds
import PyProof.Rows.IntRules
import PyProof.Rows.RuleB_sub
import PyProof.Rows.RuleB_mul
import PyProof.Rows.RuleB_floordiv
import PyProof.Rows.RuleB_mod
import PyProof.Rows.RuleC_int
import PyProof.Rows.RuleC_bool
import PyProof.Rows.StrRules
import PyProof.Rows.StrTemp
import PyProof.P3In
import PyProof.NeData
import PyProof.Rows.RuleIs
import PyProof.Rows.RuleIs2
import PyProof.StrLawsIn
import PyProof.DictRoads
import PyProof.DictStraight
import PyProof.SliceMore
import PyProof.SliceStr2
import PyProof.Rows.TupMore
import PyProof.ListIndexNeg
import PyProof.EqKinds
import PyProof.DictIter
import PyProof.FactsAll.dict_1
import PyProof.FactsAll.dict_2
import PyProof.FactsAll.subtypes_5
import PyProof.Conv_int_bool
import PyProof.CallStr
import PyProof.ListCopy
import PyProof.TupleOfSeq
import PyProof.WalkInts
import PyProof.Rows.RuleN_abs
import PyProof.Rows.SumAny
import PyProof.IsiPairs
import PyProof.IsiHeapPairs
import PyProof.StrCalls
import PyProof.Rows.StrJoin2
import KE.KDictOf
import PyProof.DefCall
import PyProof.Rows.Exc
import PyProof.Rows.Globals
import PyProof.RaisesMany
import PyProof.ExcClass3
import PyProof.Rules2
import PyProof.Rules3
import PyProof.Rows.RuleU_int
import PyProof.Dict
import PyProof.SliceSyntax
import PyProof.Rows.Tup
import PyProof.TupleIter
import PyProof.StrLoop
import PyProof.RangeFor
import PyProof.Rows.ListAppend
import PyProof.StationsW
import PyProof.ExcBaseAll.ValueError
import PyProof.RulesAs
import PyProof.IsInstance
import PyProof.ExcArgsOwn
import PyProof.ExcAttrAll.ValueError
import PyProof.CompMap
import PyProof.WalksMore
import PyProof.MinMaxWalk
import PyProof.Rows.CallKwBuiltin
import PyProof.MeetsDictList
import PyProof.DictUpdate
import PyProof.RaisesDict
import PyProof.DictItemsLoops
import PyProof.Conv_int
import KE.IntTextLaws
import PyProof.InstStoreFacts
import PyProof.AssignAttr
import PyProof.Rows.AttrNode
import Open.Head
import PyProof.ExcQuiet
import PyProof.P3Eq
import PySem.Challenge.RW_uf040022_11
set_option Elab.async false
set_option maxHeartbeats 1000000
-- MCore
set_option autoImplicit false
set_option genSizeOf false
namespace Mine
open PySem

noncomputable abbrev D := PyData
inductive EC where
  | unset (w : Str)
  | nought
  | great
  | bad
inductive R (α : Type) where
  | ok (a : α)
  | exc (c : EC)
  | stuck
noncomputable def R.bind {α β : Type} : R α → (α → R β) → R β
  | .ok a, f => f a
  | .exc c, _ => .exc c
  | .stuck, _ => .stuck
noncomputable def R.q {α : Type} : R α → R α
  | .exc _ => .stuck
  | r => r
@[simp] theorem R.bind_ok {α β : Type} (a : α) (f : α → R β) : (R.ok a).bind f = f a := rfl
@[simp] theorem R.bind_exc {α β : Type} (c : EC) (f : α → R β) : (R.exc c).bind f = .exc c := rfl
@[simp] theorem R.bind_stuck {α β : Type} (f : α → R β) : (R.stuck : R α).bind f = .stuck := rfl
inductive Slot where
  | unset
  | fr (d : D)
  | own (d : D)
  | ex (c : EC)
noncomputable abbrev Env := List Slot
inductive B1 where
  | len | int | str | abs | list | tuple | dict | sum
inductive B2 where
  | min | max
inductive Ty where
  | int | bool | str | tuple | list
  | unset | nought | great | bad | valueError
set_option genInjectivity false
mutual
inductive ME where
  | var (i : Nat)
  | own (i : Nat)
  | glob (g : Nat)
  | cint (i : Int)
  | cstr (s : Str)
  | cbool (b : Bool)
  | cnone
  | bin (op : Operator) (a b : ME)
  | neg (a : ME)
  | nt (a : ME)
  | and (a b : ME)
  | or (a b : ME)
  | cmp (op : CmpOp) (a b : ME)
  | cmp2 (op1 op2 : CmpOp) (a b c : ME)
  | call (f : Nat) (as : MEs)
  | bi1 (b : B1) (a : ME)
  | bi2 (b : B2) (a c : ME)
  | isi (a : ME) (t : Ty)
  | find (a b : ME)
  | idx (a i : ME)
  | slice (a : ME) (lo hi : MO)
  | tupD (as : MEs)
  | lstD (as : MEs)
  | dctD
inductive MEs where
  | nil
  | cons (a : ME) (as : MEs)
inductive MO where
  | none
  | some (a : ME)
end

mutual
inductive MS where
  | skip
  | seq (a b : MS)
  | asg (i : Nat) (e : ME)
  | asgOwn (i : Nat) (e : ME)
  | asgFresh (i f : Nat) (as : MEs)
  | append (i : Nat) (e : ME)
  | store (i : Nat) (k v : ME)
  | pop (i : Nat) (k : ME)
  | update (i : Nat) (e : ME)
  | ite (c : ME) (a b : MS)
  | forL (i : Nat) (e : ME) (b : MS)
  | forR (i : Nat) (lo hi : ME) (b : MS)
  | loop (c : ME) (b : MS)
  | ret (e : ME)
  | retX (e : ME)
  | raise (t : Ty) (e : ME)
  | deal (i cc j k : Nat) (e0 e : ME) (b : MS)
  | tryx (b : MS) (hs : MHs)
inductive MHs where
  | nil
  | cons (t : Ty) (i : Option Nat) (b : MS) (hs : MHs)
end

set_option genInjectivity true
mutual
noncomputable def within (L K : Bool) : D → Bool
  | .tuple xs => withins L K xs
  | .list xs => L && withins L K xs
  | .dict _ => K
  | _ => true
noncomputable def withins (L K : Bool) : List D → Bool
  | [] => true
  | x :: xs => within L K x && withins L K xs
end
noncomputable def flat (d : D) : Bool := within false false d
noncomputable def nodict (d : D) : Bool := within true false d
noncomputable def notList : D → Bool
  | .list _ => false
  | _ => true
noncomputable def aliasOk (esc : Bool) (xs : List D) (r : D) : Bool := !esc || flat r || (nodict r && xs.all notList)
noncomputable def big : Nat := 1048576
noncomputable def smallInt (i : Int) : Bool := decide (i.natAbs < 1267650600228229401496703205376)
noncomputable def idxInt (i : Int) : Bool := decide (-1073741824 < i) && decide (i < 1073741824)
noncomputable def slen (s : Str) : Nat := s.cps.size
noncomputable def sapp (a b : Str) : Str := ⟨a.cps ++ b.cps⟩
noncomputable def smk (l : List Nat) : Str := ⟨l.toArray⟩
noncomputable def sone (c : Nat) : Str := ⟨#[c]⟩
noncomputable def asNum : D → Option Int
  | .int x => some x
  | _ => none
noncomputable def asTxt : D → Option Str
  | .str x => some x
  | _ => none
noncomputable def asLst : D → Option (List D)
  | .list x => some x
  | _ => none
noncomputable def intsD (x y : D) (f : Int → Int → R D) : R D := match asNum x with
  | some a => (match asNum y with | some b => f a b | none => .stuck)
  | none => .stuck
noncomputable def lstsD (x y : D) : R D := match asLst x with
  | some a => (match asLst y with | some b => if a.length + b.length ≤ big then .ok (.list (a ++ b)) else .stuck | none => .stuck)
  | none => .stuck
noncomputable def addD (x y : D) : R D := match asTxt x with
  | some a => (match asTxt y with | some b => if slen a + slen b ≤ big then .ok (.str (sapp a b)) else .stuck | none => .stuck)
  | none => (match asNum x with
    | some a => (match asNum y with | some b => .ok (.int (a + b)) | none => .stuck)
    | none => lstsD x y)
noncomputable def binD (op : Operator) (x y : D) : R D := match op with
  | .Add => addD x y
  | .Sub => intsD x y fun a b => .ok (.int (a - b))
  | .Mult => intsD x y fun a b => if smallInt a && smallInt b then .ok (.int (a * b)) else .stuck
  | .FloorDiv => intsD x y fun a b => if smallInt a && smallInt b && !(b == 0) then .ok (.int (a.fdiv b)) else .stuck
  | .Mod => intsD x y fun a b => if b == 0 then .stuck else .ok (.int (a.fmod b))
  | _ => .stuck
noncomputable def eqOk (d : D) : Bool := d.canLay0 && decide (d.depth ≤ 64)
noncomputable def hasSign (a : Str) (c : Nat) : Bool := a.cps.toList.contains c
noncomputable def dget (k : Str) : List (D × D) → Option D
  | [] => none
  | (.str x, v) :: r => if x == k then some v else dget k r
  | _ :: r => dget k r
noncomputable def keyIs (k : Str) : D → Bool
  | .str x => x == k
  | _ => false
noncomputable def dput (k : Str) (v : D) (kv : List (D × D)) : List (D × D) := if (dget k kv).isSome then kv.map (fun p => if keyIs k p.1 then (p.1, v) else p) else kv ++ [(.str k, v)]
noncomputable def ddel (k : Str) (kv : List (D × D)) : List (D × D) := kv.filter fun p => !keyIs k p.1
noncomputable def dupd (a : List (D × D)) : List (D × D) → List (D × D)
  | [] => a
  | (.str x, v) :: r => dupd (dput x v a) r
  | _ :: r => dupd a r
noncomputable def R.yes : R Bool → R D
  | .ok b => .ok (.bool b)
  | .exc c => .exc c
  | .stuck => .stuck
noncomputable def R.no : R Bool → R D
  | .ok b => .ok (.bool (!b))
  | .exc c => .exc c
  | .stuck => .stuck
noncomputable def asStr : D → Option Str
  | .str x => some x
  | _ => none
noncomputable def asInt : D → Option Int
  | .int x => some x
  | _ => none
noncomputable def asDict : D → Option (List (D × D))
  | .dict l => some l
  | _ => none
noncomputable def dictEq (_ _ : D) : R Bool := .stuck
noncomputable def eqD (a b : D) : R Bool := match asStr a, asStr b with
  | some x, some y => .ok (x == y)
  | _, _ => if eqOk a && eqOk b then .ok (PyData.eqv a b) else dictEq a b
noncomputable def ordD (f : Int → Int → Bool) (a b : D) : R D := match asInt a, asInt b with
  | some x, some y => .ok (.bool (f x y))
  | _, _ => .stuck
noncomputable def signD (c : Option Str) (s : Str) : R Bool := match c with
  | some c => (match c.cps.toList with | [k] => .ok (hasSign s k) | _ => .stuck)
  | none => .stuck
noncomputable def keyD (c : Option Str) (d : List (D × D)) : R Bool := match c with
  | some k => .ok (dget k d).isSome
  | none => .stuck
noncomputable def inD (x : D) : D → R Bool
  | .list l => if eqOk x && eqOk (.list l) then .ok (l.any fun y => PyData.eqv y x) else .stuck
  | .tuple l => if eqOk x && eqOk (.tuple l) then .ok (l.any fun y => PyData.eqv y x) else .stuck
  | .str s => signD (asStr x) s
  | .dict d => keyD (asStr x) d
  | _ => .stuck
noncomputable def noneD : D → R Bool
  | .none => .ok true
  | .tuple _ => .ok false
  | .int _ => .ok false
  | _ => .stuck
noncomputable def isD (x : D) : D → R Bool
  | .none => noneD x
  | _ => .stuck
noncomputable def cmpD (op : CmpOp) (x y : D) : R D := match op with
  | .Eq => (eqD x y).yes
  | .NotEq => (eqD x y).no
  | .Lt => ordD (fun a b => decide (a < b)) x y
  | .LtE => ordD (fun a b => decide (a ≤ b)) x y
  | .Gt => ordD (fun a b => decide (b < a)) x y
  | .GtE => ordD (fun a b => decide (b ≤ a)) x y
  | .In => (inD x y).yes
  | .NotIn => (inD x y).no
  | .Is => (isD x y).yes
  | .IsNot => (isD x y).no
noncomputable def place (i : Int) (n : Nat) : Option Nat :=
  if 0 ≤ i then (if i < n then some i.toNat else none) else (if -(n : Int) ≤ i then some (i + n).toNat else none)
noncomputable def idxD : D → D → R D
  | .list l, .int i => if idxInt i then (match place i l.length with | some k => (match l[k]? with | some d => .ok d | none => .stuck) | none => .stuck) else .stuck
  | .tuple l, .int i => if idxInt i then (match place i l.length with | some k => (match l[k]? with | some d => .ok d | none => .stuck) | none => .stuck) else .stuck
  | .str s, .int i => if idxInt i then (match place i (slen s) with | some k => (match s.cps[k]? with | some c => .ok (.str (sone c)) | none => .stuck) | none => .stuck) else .stuck
  | .dict d, .str k => (match dget k d with | some v => .ok v | none => .stuck)
  | _, _ => .stuck
noncomputable def clip (n : Nat) (i : Int) : Nat := (max 0 (min (if i < 0 then i + n else i) n)).toNat
noncomputable def cut {α : Type} (l : List α) (lo hi : Option Int) : List α :=
  (l.drop (lo.elim 0 (clip l.length))).take (hi.elim l.length (clip l.length) - lo.elim 0 (clip l.length))
noncomputable def partOk : Option Int → Bool
  | none => true
  | some i => idxInt i
noncomputable def sliceD (d : D) (lo hi : Option Int) : R D :=
  if partOk lo && partOk hi then
    match d with
    | .list l => if l.length ≤ big then .ok (.list (cut l lo hi)) else .stuck
    | .tuple l => (match lo, hi with
      | some a, none => if decide (1 ≤ a) && decide (a ≤ l.length) && decide (l.length ≤ big) then .ok (.tuple (l.drop a.toNat)) else .stuck
      | _, _ => .stuck)
    | .str s => if slen s ≤ big then .ok (.str (smk (cut s.cps.toList lo hi))) else .stuck
    | _ => .stuck
  else .stuck
noncomputable def intOf (x : Str) : Option Int := if x.length ≤ 640 then PySem.intText? x else none
noncomputable def strOfInt (i : Int) : Str := Str.ofString (toString i)
noncomputable def sumD : List D → Option Int
  | [] => some 0
  | .int i :: r => (sumD r).map (i + ·)
  | _ :: _ => none
noncomputable def strsD : List D → Option (List Str)
  | [] => some []
  | .str s :: r => (strsD r).map (s :: ·)
  | _ :: _ => none
noncomputable def itemsD : D → Option (List D)
  | .list l => some l
  | .tuple l => some l
  | .str s => some (s.cps.toList.map fun c => .str (sone c))
  | _ => none
noncomputable def b1D : B1 → D → R D
  | .len, .list l => if l.length ≤ big then .ok (.int l.length) else .stuck
  | .len, .tuple l => if l.length ≤ big then .ok (.int l.length) else .stuck
  | .len, .str s => if slen s ≤ big then .ok (.int (slen s)) else .stuck
  | .int, .bool b => .ok (.int (if b then 1 else 0))
  | .int, .str s => (match intOf s with | some i => .ok (.int i) | none => .stuck)
  | .str, .int i => if smallInt i then .ok (.str (strOfInt i)) else .stuck
  | .abs, .int i => .ok (.int (if i < 0 then -i else i))
  | .list, .list l => if l.length ≤ big then .ok (.list l) else .stuck
  | .list, .tuple l => if l.length ≤ big then .ok (.list l) else .stuck
  | .tuple, .list l => if l.length ≤ big then .ok (.tuple l) else .stuck
  | .dict, .dict d => if d.length ≤ big then .ok (.dict d) else .stuck
  | .sum, .list l => (match sumD l with | some i => .ok (.int i) | none => .stuck)
  | _, _ => .stuck
noncomputable def b2D : B2 → D → D → R D
  | .min, .int a, .int b => .ok (.int (if b < a then b else a))
  | .max, .int a, .int b => .ok (.int (if a < b then b else a))
  | _, _, _ => .stuck
noncomputable def isiD : D → Ty → R D
  | .int _, .int => .ok (.bool true)
  | .int _, .bool => .ok (.bool false)
  | .int _, .str => .ok (.bool false)
  | .int _, .tuple => .ok (.bool false)
  | .bool _, .int => .ok (.bool true)
  | .bool _, .bool => .ok (.bool true)
  | .str _, .str => .ok (.bool true)
  | .str _, .tuple => .ok (.bool false)
  | .tuple _, .tuple => .ok (.bool true)
  | .tuple _, .str => .ok (.bool false)
  | .list _, .list => .ok (.bool true)
  | _, _ => .stuck
noncomputable def ecTy : EC → Ty
  | .unset _ => .unset
  | .nought => .nought
  | .great => .great
  | .bad => .bad
noncomputable def caughtTy (a t : Ty) : Bool := Nat.beq t.ctorIdx 9 || Nat.beq a.ctorIdx t.ctorIdx
noncomputable def excIs (x : EC) (t : Ty) : R D := cond (Nat.ble 5 t.ctorIdx) (.ok (.bool (caughtTy (ecTy x) t))) .stuck
noncomputable def findD : D → D → R D
  | .str s, .str c => .ok (.int (Txt.find s c))
  | _, _ => .stuck
mutual
noncomputable def ME.esc : ME → Bool
  | .own _ => true
  | .and a b => a.esc || b.esc
  | .or a b => a.esc || b.esc
  | _ => false
noncomputable def MEs.esc : MEs → Bool
  | .nil => false
  | .cons a as => a.esc || as.esc
end

structure Orc where
  fn : Nat → List D → R (D × Bool)
noncomputable def optInt : D → R (Option Int)
  | .int i => .ok (some i)
  | _ => .stuck
mutual
noncomputable def ev (O : Orc) (G : List D) (ρ : Env) : ME → R D
  | .var i => (match ρ[i]? with | some (.fr d) => .ok d | _ => .stuck)
  | .own i => (match ρ[i]? with | some (.own d) => .ok d | _ => .stuck)
  | .glob g => (match G[g]? with | some d => .ok d | none => .stuck)
  | .cint i => .ok (.int i)
  | .cstr s => .ok (.str s)
  | .cbool b => .ok (.bool b)
  | .cnone => .ok .none
  | .bin op a b => (ev O G ρ a).bind fun x => (ev O G ρ b).bind fun y => binD op x y
  | .neg a => (ev O G ρ a).bind fun x => (match x with | .int i => .ok (.int (-i)) | _ => .stuck)
  | .nt a => (ev O G ρ a).bind fun x => (match x with | .bool b => .ok (.bool (!b)) | _ => .stuck)
  | .and a b => (ev O G ρ a).bind fun x => (match x with | .bool true => ev O G ρ b | .bool false => .ok (.bool false) | _ => .stuck)
  | .or a b => (ev O G ρ a).bind fun x => (match x with | .bool true => .ok (.bool true) | .bool false => ev O G ρ b | _ => .stuck)
  | .cmp op a b => (ev O G ρ a).bind fun x => (ev O G ρ b).bind fun y => cmpD op x y
  | .cmp2 o1 o2 a b c => (ev O G ρ a).bind fun x => (ev O G ρ b).bind fun y => (cmpD o1 x y).bind fun t => (match t with
      | .bool true => (ev O G ρ c).bind fun z => cmpD o2 y z
      | .bool false => .ok (.bool false)
      | _ => .stuck)
  | .call f as => (evs O G ρ as).bind fun xs => (O.fn f xs).bind fun r => if aliasOk as.esc xs r.1 then .ok r.1 else .stuck
  | .bi1 b a => (ev O G ρ a).bind fun x => b1D b x
  | .bi2 b a c => (ev O G ρ a).bind fun x => (ev O G ρ c).bind fun y => b2D b x y
  | .isi a t => (ev O G ρ a).bind fun x => isiD x t
  | .find a b => (ev O G ρ a).bind fun x => (ev O G ρ b).bind fun y => findD x y
  | .idx a i => (ev O G ρ a).bind fun x => (ev O G ρ i).bind fun y => idxD x y
  | .slice a lo hi => (ev O G ρ a).bind fun x => (evo O G ρ lo).bind fun l => (evo O G ρ hi).bind fun h => sliceD x l h
  | .tupD as => if as.esc then .stuck else (evs O G ρ as).bind fun xs => if xs.length ≤ big then .ok (.tuple xs) else .stuck
  | .lstD as => if as.esc then .stuck else (evs O G ρ as).bind fun xs => if xs.length ≤ big then .ok (.list xs) else .stuck
  | .dctD => .ok (.dict [])
noncomputable def evs (O : Orc) (G : List D) (ρ : Env) : MEs → R (List D)
  | .nil => .ok []
  | .cons a as => (ev O G ρ a).bind fun x => (evs O G ρ as).bind fun xs => .ok (x :: xs)
noncomputable def evo (O : Orc) (G : List D) (ρ : Env) : MO → R (Option Int)
  | .none => .ok none
  | .some a => (ev O G ρ a).bind optInt
end
theorem Zaa (O : Orc) (G : List D) (ρ : Env) (i) : ev O G ρ (.var i) = (match ρ[i]? with | some (.fr d) => .ok d | _ => .stuck) := rfl
theorem evq_own (O : Orc) (G : List D) (ρ : Env) (i) : ev O G ρ (.own i) = (match ρ[i]? with | some (.own d) => .ok d | _ => .stuck) := rfl
theorem evq_glob (O : Orc) (G : List D) (ρ : Env) (g) : ev O G ρ (.glob g) = (match G[g]? with | some d => .ok d | none => .stuck) := rfl
theorem evq_cint (O : Orc) (G : List D) (ρ : Env) (i) : ev O G ρ (.cint i) = .ok (.int i) := rfl
theorem evq_cstr (O : Orc) (G : List D) (ρ : Env) (s) : ev O G ρ (.cstr s) = .ok (.str s) := rfl
theorem evq_cbool (O : Orc) (G : List D) (ρ : Env) (b) : ev O G ρ (.cbool b) = .ok (.bool b) := rfl
theorem evq_cnone (O : Orc) (G : List D) (ρ : Env) : ev O G ρ .cnone = .ok .none := rfl
theorem Zab (O : Orc) (G : List D) (ρ : Env) (op a b) : ev O G ρ (.bin op a b) = (ev O G ρ a).bind fun x => (ev O G ρ b).bind fun y => binD op x y := rfl
theorem evq_neg (O : Orc) (G : List D) (ρ : Env) (a) : ev O G ρ (.neg a) = (ev O G ρ a).bind fun x => (match x with | .int i => .ok (.int (-i)) | _ => .stuck) := rfl
theorem evq_nt (O : Orc) (G : List D) (ρ : Env) (a) : ev O G ρ (.nt a) = (ev O G ρ a).bind fun x => (match x with | .bool b => .ok (.bool (!b)) | _ => .stuck) := rfl
theorem evq_and (O : Orc) (G : List D) (ρ : Env) (a b) : ev O G ρ (.and a b) = (ev O G ρ a).bind fun x => (match x with | .bool true => ev O G ρ b | .bool false => .ok (.bool false) | _ => .stuck) := rfl
theorem evq_or (O : Orc) (G : List D) (ρ : Env) (a b) : ev O G ρ (.or a b) = (ev O G ρ a).bind fun x => (match x with | .bool true => .ok (.bool true) | .bool false => ev O G ρ b | _ => .stuck) := rfl
theorem evq_cmp (O : Orc) (G : List D) (ρ : Env) (op a b) : ev O G ρ (.cmp op a b) = (ev O G ρ a).bind fun x => (ev O G ρ b).bind fun y => cmpD op x y := rfl
theorem evq_cmp2 (O : Orc) (G : List D) (ρ : Env) (o1 o2 a b c) : ev O G ρ (.cmp2 o1 o2 a b c) = (ev O G ρ a).bind fun x => (ev O G ρ b).bind fun y => (cmpD o1 x y).bind fun t => (match t with
      | .bool true => (ev O G ρ c).bind fun z => cmpD o2 y z
      | .bool false => .ok (.bool false)
      | _ => .stuck) := rfl
theorem evq_call (O : Orc) (G : List D) (ρ : Env) (f as) : ev O G ρ (.call f as) = (evs O G ρ as).bind fun xs => (O.fn f xs).bind fun r => if aliasOk as.esc xs r.1 then .ok r.1 else .stuck := rfl
theorem evq_bi1 (O : Orc) (G : List D) (ρ : Env) (b a) : ev O G ρ (.bi1 b a) = (ev O G ρ a).bind fun x => b1D b x := rfl
theorem evq_bi2 (O : Orc) (G : List D) (ρ : Env) (b a c) : ev O G ρ (.bi2 b a c) = (ev O G ρ a).bind fun x => (ev O G ρ c).bind fun y => b2D b x y := rfl
theorem evq_isi (O : Orc) (G : List D) (ρ : Env) (a t) : ev O G ρ (.isi a t) = (ev O G ρ a).bind fun x => isiD x t := rfl
theorem evq_find (O : Orc) (G : List D) (ρ : Env) (a b) : ev O G ρ (.find a b) = (ev O G ρ a).bind fun x => (ev O G ρ b).bind fun y => findD x y := rfl
theorem evq_idx (O : Orc) (G : List D) (ρ : Env) (a i) : ev O G ρ (.idx a i) = (ev O G ρ a).bind fun x => (ev O G ρ i).bind fun y => idxD x y := rfl
theorem evq_slice (O : Orc) (G : List D) (ρ : Env) (a lo hi) : ev O G ρ (.slice a lo hi) = (ev O G ρ a).bind fun x => (evo O G ρ lo).bind fun l => (evo O G ρ hi).bind fun h => sliceD x l h := rfl
theorem evq_tupD (O : Orc) (G : List D) (ρ : Env) (as) : ev O G ρ (.tupD as) = if as.esc then .stuck else (evs O G ρ as).bind fun xs => if xs.length ≤ big then .ok (.tuple xs) else .stuck := rfl
theorem evq_lstD (O : Orc) (G : List D) (ρ : Env) (as) : ev O G ρ (.lstD as) = if as.esc then .stuck else (evs O G ρ as).bind fun xs => if xs.length ≤ big then .ok (.list xs) else .stuck := rfl
theorem evq_dctD (O : Orc) (G : List D) (ρ : Env) : ev O G ρ .dctD = .ok (.dict []) := rfl
theorem evsq_nil (O : Orc) (G : List D) (ρ : Env) : evs O G ρ .nil = .ok [] := rfl
theorem evsq_cons (O : Orc) (G : List D) (ρ : Env) (a as) : evs O G ρ (.cons a as) = (ev O G ρ a).bind fun x => (evs O G ρ as).bind fun xs => .ok (x :: xs) := rfl
theorem evoq_none (O : Orc) (G : List D) (ρ : Env) : evo O G ρ .none = .ok none := rfl
theorem evoq_some (O : Orc) (G : List D) (ρ : Env) (a) : evo O G ρ (.some a) = (ev O G ρ a).bind optInt := rfl
mutual
noncomputable def evx (O : Orc) (G : List D) (ρ : Env) : ME → R D
  | .call f as => (evxs O G ρ as).bind fun xs => (O.fn f xs).bind fun r => if aliasOk as.esc xs r.1 then .ok r.1 else .stuck
  | .tupD as => if as.esc then .stuck else (evxs O G ρ as).bind fun xs => if xs.length ≤ big then .ok (.tuple xs) else .stuck
  | e => (ev O G ρ e).q
noncomputable def evxs (O : Orc) (G : List D) (ρ : Env) : MEs → R (List D)
  | .nil => .ok []
  | .cons a as => (evx O G ρ a).bind fun x => (evxs O G ρ as).bind fun xs => .ok (x :: xs)
end

theorem evxq_call (O : Orc) (G : List D) (ρ : Env) (f as) : evx O G ρ (.call f as) = (evxs O G ρ as).bind fun xs => (O.fn f xs).bind fun r => if aliasOk as.esc xs r.1 then .ok r.1 else .stuck := rfl
theorem evxq_tupD (O : Orc) (G : List D) (ρ : Env) (as) : evx O G ρ (.tupD as) = if as.esc then .stuck else (evxs O G ρ as).bind fun xs => if xs.length ≤ big then .ok (.tuple xs) else .stuck := rfl
theorem evxsq_nil (O : Orc) (G : List D) (ρ : Env) : evxs O G ρ .nil = .ok [] := rfl
theorem evxsq_cons (O : Orc) (G : List D) (ρ : Env) (a as) : evxs O G ρ (.cons a as) = (evx O G ρ a).bind fun x => (evxs O G ρ as).bind fun xs => .ok (x :: xs) := rfl
inductive SR where
  | next (ρ : Env)
  | ret (d : D) (fresh : Bool) (ρ : Env)
  | exc (c : EC) (ρ : Env)
  | stuck
noncomputable def SR.of {α : Type} (r : R α) (_ : Env) (f : α → SR) : SR := match r with
  | .ok a => f a
  | .exc _ => .stuck
  | .stuck => .stuck
noncomputable def SR.ox {α : Type} (r : R α) (ρ : Env) (f : α → SR) : SR := match r with
  | .ok a => f a
  | .exc c => .exc c ρ
  | .stuck => .stuck
@[simp] theorem SR.of_ok {α : Type} (a : α) (ρ : Env) (f : α → SR) : SR.of (.ok a) ρ f = f a := rfl
@[simp] theorem SR.of_exc {α : Type} (c : EC) (ρ : Env) (f : α → SR) : SR.of (.exc c) ρ f = .stuck := rfl
@[simp] theorem SR.of_stuck {α : Type} (ρ : Env) (f : α → SR) : SR.of (.stuck) ρ f = .stuck := rfl
noncomputable def SR.then (r : SR) (f : Env → SR) : SR := match r with
  | .next ρ => f ρ
  | r => r
noncomputable def SR.thenQ (r : SR) (f : Env → SR) : SR := match r with
  | .next ρ => f ρ
  | .ret d b ρ => .ret d b ρ
  | _ => .stuck
@[simp] theorem SR.then_next (ρ : Env) (f : Env → SR) : (SR.next ρ).then f = f ρ := rfl
@[simp] theorem SR.then_ret (d : D) (b : Bool) (ρ : Env) (f : Env → SR) : (SR.ret d b ρ).then f = .ret d b ρ := rfl
@[simp] theorem SR.then_exc (c : EC) (ρ : Env) (f : Env → SR) : (SR.exc c ρ).then f = .exc c ρ := rfl
@[simp] theorem SR.then_stuck (f : Env → SR) : SR.stuck.then f = .stuck := rfl
noncomputable def forLoop (body : D → Env → SR) : List D → Env → SR
  | [], ρ => .next ρ
  | x :: xs, ρ => (body x ρ).then fun ρ' => forLoop body xs ρ'
noncomputable def whileLoop (test : Env → R D) (body : Env → SR) : Nat → Env → SR
  | 0, _ => .stuck
  | n + 1, ρ => SR.of (test ρ) ρ fun d => (match d with
      | .bool true => (body ρ).thenQ fun ρ' => whileLoop test body n ρ'
      | .bool false => .next ρ
      | _ => .stuck)
noncomputable def whileFuel : Nat := 1000000
noncomputable def rangeD (lo hi : Int) : List D := (List.range (hi - lo).toNat).map fun (k : Nat) => .int (lo + (k : Int))
noncomputable def freshOk : D → Bool
  | .dict _ => true
  | .list l => (strsD l).isSome
  | _ => false
noncomputable def isOwn : ME → Bool
  | .own _ => true
  | _ => false
noncomputable def excTy : Ty → D → R EC
  | .nought, .str _ => .ok .nought
  | .great, .str _ => .ok .great
  | .bad, .str _ => .ok .bad
  | _, _ => .stuck
noncomputable def caughtBy (x : EC) (t : Ty) : Bool := caughtTy (ecTy x) t
noncomputable def hdE (i : Option Nat) (c : EC) (ρ : Env) : Env := match i with
  | none => ρ
  | some k => ρ.set k (.ex c)
noncomputable def hdR (i : Option Nat) (r : SR) : SR := match r with
  | .ret d b ρ => .ret d b ρ
  | .next ρ => (match i with | none => .next ρ | some _ => .stuck)
  | _ => .stuck
noncomputable def dealt (cc j k : Nat) : List (D × D) → Env → List (D × D) → List (D × D) → Option (Env × List (D × D) × List (D × D))
  | [], ρ, a, b => some (ρ, a, b)
  | (.str s, .int v) :: r, ρ, a, b => (match ((ρ.set j (.fr (.str s))).set k (.fr (.int v)))[cc]? with
      | some (.fr (.int c)) => cond (smallInt c && Nat.blt a.length big && Nat.blt b.length big)
          (cond (c.fmod 2 == 0) (dealt cc j k r (((ρ.set j (.fr (.str s))).set k (.fr (.int v))).set cc (.fr (.int (c.fdiv 2)))) (dput s (.int v) a) b)
            (dealt cc j k r (((ρ.set j (.fr (.str s))).set k (.fr (.int v))).set cc (.fr (.int (c.fdiv 2)))) a (dput s (.int v) b))) none
      | _ => none)
  | _ :: _, _, _, _ => none
noncomputable def dealR (r : Option (Env × List (D × D) × List (D × D))) (f : Env → List (D × D) → List (D × D) → SR) : SR := match r with
  | some (ρ, a, b) => f ρ a b
  | none => .stuck
mutual
noncomputable def ex (O : Orc) (G : List D) : MS → Env → SR
  | .skip, ρ => .next ρ
  | .seq a b, ρ => (ex O G a ρ).then fun ρ' => ex O G b ρ'
  | .asg i e, ρ => if e.esc then .stuck else SR.of (ev O G ρ e) ρ fun d => .next (ρ.set i (.fr d))
  | .asgOwn i e, ρ => if e.esc then .stuck else (match e with
      | .lstD _ | .dctD | .bi1 .dict _ => SR.of (ev O G ρ e) ρ fun d => .next (ρ.set i (.own d))
      | _ => .stuck)
  | .asgFresh i f as, ρ => if as.esc then .stuck else SR.of (evs O G ρ as) ρ fun xs => SR.of (O.fn f xs) ρ fun r => if r.2 && freshOk r.1 then .next (ρ.set i (.own r.1)) else .stuck
  | .append i e, ρ => if e.esc then .stuck else (match ρ[i]? with
      | some (.own (.list l)) => SR.of (ev O G ρ e) ρ fun d => if l.length < big then .next (ρ.set i (.own (.list (l ++ [d])))) else .stuck
      | _ => .stuck)
  | .store i k v, ρ => (match ρ[i]? with
      | some (.own (.dict kv)) => SR.of (ev O G ρ v) ρ fun y => SR.of (ev O G ρ k) ρ fun x => (match x, y with
          | .str a, .int b => if kv.length < big then .next (ρ.set i (.own (.dict (dput a (.int b) kv)))) else .stuck
          | _, _ => .stuck)
      | _ => .stuck)
  | .pop i k, ρ => (match ρ[i]? with
      | some (.own (.dict kv)) => SR.of (ev O G ρ k) ρ fun x => (match x with
          | .str a => if kv.length ≤ big then .next (ρ.set i (.own (.dict (ddel a kv)))) else .stuck
          | _ => .stuck)
      | _ => .stuck)
  | .update i e, ρ => if e.esc then .stuck else (match ρ[i]? with
      | some (.own (.dict kv)) => SR.of (ev O G ρ e) ρ fun x => (match x with
          | .dict kw => if kv.length + kw.length < big then .next (ρ.set i (.own (.dict (dupd kv kw)))) else .stuck
          | _ => .stuck)
      | _ => .stuck)
  | .ite c a b, ρ => SR.of (ev O G ρ c) ρ fun d => (match d with
      | .bool true => ex O G a ρ
      | .bool false => ex O G b ρ
      | _ => .stuck)
  | .forL i e b, ρ => if e.esc then .stuck else SR.of (ev O G ρ e) ρ fun d => (match itemsD d with
      | some l => if l.length ≤ big then forLoop (fun x ρ' => ex O G b (ρ'.set i (.fr x))) l ρ else .stuck
      | none => .stuck)
  | .forR i lo hi b, ρ => SR.of (ev O G ρ lo) ρ fun x => SR.of (ev O G ρ hi) ρ fun y => (match x, y with
      | .int u, .int v => if idxInt u && idxInt v then forLoop (fun x ρ' => ex O G b (ρ'.set i (.fr x))) (rangeD u v) ρ else .stuck
      | _, _ => .stuck)
  | .loop c b, ρ => whileLoop (fun ρ' => ev O G ρ' c) (fun ρ' => ex O G b ρ') whileFuel ρ
  | .ret e, ρ => SR.of (ev O G ρ e) ρ fun d => .ret d (isOwn e) ρ
  | .retX e, ρ => if e.esc then .stuck else SR.ox (evx O G ρ e) ρ fun d => .ret d false ρ
  | .raise t e, ρ => SR.of (ev O G ρ e) ρ fun d => SR.of (excTy t d) ρ fun c => .exc c ρ
  | .deal i cc j k e0 e b, ρ => if e0.esc || e.esc then .stuck else SR.of (ev O G (ρ.set i .unset) e0) ρ fun d => SR.of (ev O G ((ρ.set i .unset).set cc (.fr d)) e) ρ fun x => (match x with
      | .dict kv => if kv.length ≤ big then dealR (dealt cc j k kv ((ρ.set i .unset).set cc (.fr d)) [] []) fun ρ' a a' => ex O G b (ρ'.set i (.fr (.list [.dict a, .dict a']))) else .stuck
      | _ => .stuck)
  | .tryx b hs, ρ => (match ex O G b ρ with
      | .exc c ρ' => exh O G hs c ρ'
      | r => r)
noncomputable def exh (O : Orc) (G : List D) : MHs → EC → Env → SR
  | .nil, _, _ => .stuck
  | .cons t i b hs, c, ρ => if caughtBy c t then hdR i (ex O G b (hdE i c ρ)) else exh O G hs c ρ
end
theorem exq_skip (O : Orc) (G : List D) (ρ : Env) : ex O G .skip ρ = .next ρ := rfl
theorem exq_seq (O : Orc) (G : List D) (ρ : Env) (a b) : ex O G (.seq a b) ρ = (ex O G a ρ).then fun ρ' => ex O G b ρ' := rfl
theorem exq_asg (O : Orc) (G : List D) (ρ : Env) (i e) : ex O G (.asg i e) ρ = if e.esc then .stuck else SR.of (ev O G ρ e) ρ fun d => .next (ρ.set i (.fr d)) := rfl
theorem exq_asgOwn (O : Orc) (G : List D) (ρ : Env) (i e) : ex O G (.asgOwn i e) ρ = if e.esc then .stuck else (match e with
      | .lstD _ | .dctD | .bi1 .dict _ => SR.of (ev O G ρ e) ρ fun d => .next (ρ.set i (.own d))
      | _ => .stuck) := rfl
theorem exq_asgFresh (O : Orc) (G : List D) (ρ : Env) (i f as) : ex O G (.asgFresh i f as) ρ = if as.esc then .stuck else SR.of (evs O G ρ as) ρ fun xs => SR.of (O.fn f xs) ρ fun r => if r.2 && freshOk r.1 then .next (ρ.set i (.own r.1)) else .stuck := rfl
theorem exq_append (O : Orc) (G : List D) (ρ : Env) (i e) : ex O G (.append i e) ρ = if e.esc then .stuck else (match ρ[i]? with
      | some (.own (.list l)) => SR.of (ev O G ρ e) ρ fun d => if l.length < big then .next (ρ.set i (.own (.list (l ++ [d])))) else .stuck
      | _ => .stuck) := rfl
theorem exq_store (O : Orc) (G : List D) (ρ : Env) (i k v) : ex O G (.store i k v) ρ = (match ρ[i]? with
      | some (.own (.dict kv)) => SR.of (ev O G ρ v) ρ fun y => SR.of (ev O G ρ k) ρ fun x => (match x, y with
          | .str a, .int b => if kv.length < big then .next (ρ.set i (.own (.dict (dput a (.int b) kv)))) else .stuck
          | _, _ => .stuck)
      | _ => .stuck) := rfl
theorem exq_pop (O : Orc) (G : List D) (ρ : Env) (i k) : ex O G (.pop i k) ρ = (match ρ[i]? with
      | some (.own (.dict kv)) => SR.of (ev O G ρ k) ρ fun x => (match x with
          | .str a => if kv.length ≤ big then .next (ρ.set i (.own (.dict (ddel a kv)))) else .stuck
          | _ => .stuck)
      | _ => .stuck) := rfl
theorem exq_update (O : Orc) (G : List D) (ρ : Env) (i e) : ex O G (.update i e) ρ = if e.esc then .stuck else (match ρ[i]? with
      | some (.own (.dict kv)) => SR.of (ev O G ρ e) ρ fun x => (match x with
          | .dict kw => if kv.length + kw.length < big then .next (ρ.set i (.own (.dict (dupd kv kw)))) else .stuck
          | _ => .stuck)
      | _ => .stuck) := rfl
theorem exq_ite (O : Orc) (G : List D) (ρ : Env) (c a b) : ex O G (.ite c a b) ρ = SR.of (ev O G ρ c) ρ fun d => (match d with
      | .bool true => ex O G a ρ
      | .bool false => ex O G b ρ
      | _ => .stuck) := rfl
theorem exq_forL (O : Orc) (G : List D) (ρ : Env) (i e b) : ex O G (.forL i e b) ρ = if e.esc then .stuck else SR.of (ev O G ρ e) ρ fun d => (match itemsD d with
      | some l => if l.length ≤ big then forLoop (fun x ρ' => ex O G b (ρ'.set i (.fr x))) l ρ else .stuck
      | none => .stuck) := rfl
theorem exq_forR (O : Orc) (G : List D) (ρ : Env) (i lo hi b) : ex O G (.forR i lo hi b) ρ = SR.of (ev O G ρ lo) ρ fun x => SR.of (ev O G ρ hi) ρ fun y => (match x, y with
      | .int u, .int v => if idxInt u && idxInt v then forLoop (fun x ρ' => ex O G b (ρ'.set i (.fr x))) (rangeD u v) ρ else .stuck
      | _, _ => .stuck) := rfl
theorem exq_loop (O : Orc) (G : List D) (ρ : Env) (c b) : ex O G (.loop c b) ρ = whileLoop (fun ρ' => ev O G ρ' c) (fun ρ' => ex O G b ρ') whileFuel ρ := rfl
theorem exq_ret (O : Orc) (G : List D) (ρ : Env) (e) : ex O G (.ret e) ρ = SR.of (ev O G ρ e) ρ fun d => .ret d (isOwn e) ρ := rfl
theorem exq_retX (O : Orc) (G : List D) (ρ : Env) (e) : ex O G (.retX e) ρ = if e.esc then .stuck else SR.ox (evx O G ρ e) ρ fun d => .ret d false ρ := rfl
theorem exq_raise (O : Orc) (G : List D) (ρ : Env) (t e) : ex O G (.raise t e) ρ = SR.of (ev O G ρ e) ρ fun d => SR.of (excTy t d) ρ fun c => .exc c ρ := rfl
theorem exq_deal (O : Orc) (G : List D) (ρ : Env) (i cc j k e0 e b) : ex O G (.deal i cc j k e0 e b) ρ = if e0.esc || e.esc then .stuck else SR.of (ev O G (ρ.set i .unset) e0) ρ fun d => SR.of (ev O G ((ρ.set i .unset).set cc (.fr d)) e) ρ fun x => (match x with
      | .dict kv => if kv.length ≤ big then dealR (dealt cc j k kv ((ρ.set i .unset).set cc (.fr d)) [] []) fun ρ' a a' => ex O G b (ρ'.set i (.fr (.list [.dict a, .dict a']))) else .stuck
      | _ => .stuck) := rfl
theorem exq_tryx (O : Orc) (G : List D) (ρ : Env) (b hs) : ex O G (.tryx b hs) ρ = (match ex O G b ρ with
      | .exc c ρ' => exh O G hs c ρ'
      | r => r) := rfl
set_option genInjectivity false in
theorem exhq_nil (O : Orc) (G : List D) (c) (ρ : Env) : exh O G .nil c ρ = .stuck := rfl
theorem exhq_cons (O : Orc) (G : List D) (t i b hs c) (ρ : Env) : exh O G (.cons t i b hs) c ρ = if caughtBy c t then hdR i (ex O G b (hdE i c ρ)) else exh O G hs c ρ := rfl
structure MFn where
  name : Str
  slots : List Str
  args : Nat
  body : MS
  ref : Bool := false
set_option genInjectivity false in
structure Cls where
  xs : List (Ty × List Str)
  ks : List Ty
noncomputable def pinOf (F : MFn) : Option Nat := if F.ref then some (F.args - 1) else none
noncomputable def initEnv (F : MFn) (ds : List D) : Env := ds.map Slot.fr ++ List.replicate (F.slots.length - ds.length) Slot.unset
noncomputable def runF (O : Orc) (G : List D) (F : MFn) (ds : List D) : R (D × Bool) :=
  if ds.length = F.args then
    match ex O G F.body (initEnv F ds) with
    | .next _ => .ok (.none, false)
    | .ret d b _ => .ok (d, b)
    | .exc c _ => .exc c
    | .stuck => .stuck
  else .stuck
noncomputable def orc (fns : List MFn) (G : List D) : Nat → Orc
  | 0 => ⟨fun _ _ => .stuck⟩
  | n + 1 => ⟨fun f ds => (match fns[f]? with
      | some F => runF (orc fns G n) G F ds
      | none => .stuck)⟩
noncomputable abbrev callF (fns : List MFn) (G : List D) (n : Nat) : Nat → List D → R (D × Bool) := (orc fns G n).fn
end Mine
-- MRep
set_option autoImplicit false
set_option linter.all false
namespace Mine
open PySem

noncomputable def Ext (h h' : Heap) : Prop := ∀ b o, h.get? b = some o → h'.get? b = some o
theorem Ext.refl (h : Heap) : Ext h h := fun _ _ e => e
theorem Ext.trans {h h' h'' : Heap} (x : Ext h h') (y : Ext h' h'') : Ext h h'' := fun b o e => y b o (x b o e)
theorem Ext.push (h : Heap) (o : Obj) : Ext h (h.push o) := fun _ _ e => Heap.get?_push_of_some o e
noncomputable def Keep (W : Addr → Prop) (h h' : Heap) : Prop := ∀ b o, h.get? b = some o → ¬ W b → h'.get? b = some o
theorem Ext.keep {h h' : Heap} (x : Ext h h') (W : Addr → Prop) : Keep W h h' := fun b o e _ => x b o e
theorem Keep.refl (W : Addr → Prop) (h : Heap) : Keep W h h := fun _ _ e _ => e
theorem Keep.trans {W : Addr → Prop} {h h' h'' : Heap} (x : Keep W h h') (y : Keep W h' h'') : Keep W h h'' := fun b o e n => y b o (x b o e n) n
theorem Keep.mono {W W' : Addr → Prop} {h h' : Heap} (x : Keep W h h') (k : ∀ a, W a → W' a) : Keep W' h h' := fun b o e n => x b o e fun q => n (k b q)
theorem Keep.ext {h h' : Heap} (x : Keep (fun _ => False) h h') : Ext h h' := fun b o e => x b o e id
noncomputable def Kp (F W : Addr → Prop) (h h' : Heap) : Prop := ∀ b o, h.get? b = some o → ¬ W b → h'.get? b = some o ∨ (F b ∧ ∃ sl, h'.get? b = some { o with slots := sl })
noncomputable def ExtF (F : Addr → Prop) (h h' : Heap) : Prop := Kp F (fun _ => False) h h'
section
variable {F F' W W' : Addr → Prop} {h h' h'' : Heap}
theorem Keep.kp (x : Keep W h h') : Kp F W h h' := fun b o e n => .inl (x b o e n)
theorem Kp.refl (h : Heap) : Kp F W h h := fun _ _ e _ => .inl e
theorem Kp.step {b : Addr} {o : Obj} (q : h'.get? b = some o ∨ (F b ∧ ∃ sl, h'.get? b = some { o with slots := sl })) (y : ∀ o', h'.get? b = some o' → h''.get? b = some o' ∨ (F b ∧ ∃ sl, h''.get? b = some { o' with slots := sl })) : h''.get? b = some o ∨ (F b ∧ ∃ sl, h''.get? b = some { o with slots := sl }) := by
  rcases q with q | ⟨f, sl, q⟩
  · exact y o q
  · rcases y _ q with z | ⟨_, sl', z⟩
    · exact .inr ⟨f, sl, z⟩
    · exact .inr ⟨f, sl', z⟩
theorem Kp.trans (x : Kp F W h h') (y : Kp F W h' h'') : Kp F W h h'' := fun b o e n => Kp.step (x b o e n) fun o' e' => y b o' e' n
theorem Kp.mono (x : Kp F W h h') (k : ∀ a, W a → W' a) : Kp F W' h h' := fun b o e n => x b o e fun q => n (k b q)
theorem Kp.exact (x : Kp F W h h') (k : ∀ a, F a → W a) : Keep W h h' := fun b o e n => (x b o e n).elim id fun q => absurd (k b q.1) n
theorem Kp.get (x : Kp F W h h') {b : Addr} {o : Obj} (e : h.get? b = some o) (n : ¬ W b) (f : ¬ F b) : h'.get? b = some o := (x b o e n).elim id fun q => absurd q.1 f
theorem Kp.live (x : Kp F W h h') {b : Addr} {o : Obj} (e : h.get? b = some o) (n : ¬ W b) : ∃ o', h'.get? b = some o' ∧ o'.data = o.data ∧ o'.cls = o.cls := (x b o e n).elim (fun q => ⟨_, q, rfl, rfl⟩) fun ⟨_, sl, q⟩ => ⟨_, q, rfl, rfl⟩
theorem Kp.none (x : Kp F W h h') {b : Addr} (e : h'.get? b = none) (n : ¬ W b) : h.get? b = none := by
  cases q : h.get? b with
  | none => rfl
  | some ob => obtain ⟨o', q', _⟩ := x.live q n; rw [q'] at e; cases e
theorem Kp.ns (x : Kp F W h h') {a : Addr} {m : Str → Option Value} (hn : h.Ns a m) (n : ¬ W a) : h'.Ns a m := by
  obtain ⟨o, es, k, e, r⟩ := hn
  rcases x a o e n with q | ⟨_, sl, q⟩
  · exact ⟨o, es, k, q, r⟩
  · exact ⟨_, es, k, q, r⟩
theorem Ext.f (x : Ext h h') : ExtF F h h' := fun b o e _ => .inl (x b o e)
theorem ExtF.refl (h : Heap) : ExtF F h h := Kp.refl h
theorem ExtF.trans (x : ExtF F h h') (y : ExtF F h' h'') : ExtF F h h'' := Kp.trans x y
theorem ExtF.te (x : ExtF F h h') (y : Ext h' h'') : ExtF F h h'' := x.trans y.f
theorem ExtF.kp (x : ExtF F h h') : Kp F W h h' := Kp.mono x fun _ q => q.elim
theorem Ext.kp (x : Ext h h') : Kp F W h h' := (Ext.f x).kp
theorem ExtF.keep (x : ExtF F h h') (k : ∀ a, F a → W a) : Keep W h h' := x.kp.exact k
theorem ExtF.get (x : ExtF F h h') {b : Addr} {o : Obj} (e : h.get? b = some o) (n : ¬ F b) : h'.get? b = some o := (x b o e id).elim id fun q => absurd q.1 n
theorem ExtF.none (x : ExtF F h h') {b : Addr} (e : h'.get? b = none) : h.get? b = none := Kp.none x e id
theorem ExtF.ext (x : ExtF F h h') {h0 : Heap} (k : ∀ a, F a → h0.get? a = Option.none) (y : Ext h0 h) : Ext h0 h' := fun b o e => (x b o (y b o e) id).elim id fun q => by rw [k b q.1] at e; cases e
end

noncomputable def XOk (X : Addr → Prop) (h : Heap) : Prop := ∀ a, X a → ∃ o, h.get? a = some o ∧ ∀ vs, o.data ≠ .fields vs
theorem XOk.ext {X : Addr → Prop} {h h' : Heap} (x : XOk X h) (k : Ext h h') : XOk X h' := fun a q => let ⟨o, e, f⟩ := x a q; ⟨o, k a o e, f⟩
theorem XOk.extF {F X : Addr → Prop} {h h' : Heap} (x : XOk X h) (k : ExtF F h h') : XOk X h' := fun a q => let ⟨o, e, f⟩ := x a q; let ⟨o', e', d, _⟩ := Kp.live k e id; ⟨o', e', fun vs z => f vs (d ▸ z)⟩
theorem XOk.new {X : Addr → Prop} {h : Heap} (x : XOk X h) : ¬ X h.objs.size := fun q => by
  obtain ⟨o, e, _⟩ := x _ q
  exact absurd (Heap.lt_size e) (Nat.lt_irrefl _)
noncomputable abbrev tupO (vs : List Value) (n : Nat) : Obj := { cls := .type "tuple", data := .seq vs.toArray n }
noncomputable abbrev lstO (vs : List Value) (n : Nat) : Obj := { cls := .type "list", data := .seq vs.toArray n }
inductive PairsAre : List (Str × Value) → List (D × D) → Prop where
  | nil : PairsAre [] []
  | cons {k : Str} {v : Int} {u : Tok} {es : List (Str × Value)} {kv : List (D × D)} : PairsAre es kv → PairsAre ((k, .int v u) :: es) ((.str k, .int v) :: kv)
theorem PairsAre.length {es : List (Str × Value)} {kv : List (D × D)} (r : PairsAre es kv) : es.length = kv.length := by
  induction r with
  | nil => rfl
  | cons _ ih => exact congrArg Nat.succ ih
theorem dictOf_keep {prog : Program} {w : World} {h h' : Heap} {a : Addr} {es : List (Str × Value)} (x : h.DictOf (strKind prog w) a es) (k : ∀ o, h.get? a = some o → h'.get? a = some o) : h'.DictOf (strKind prog w) a es := by
  obtain ⟨o, e, n, ho, r⟩ := x
  exact ⟨o, e, n, k o ho, r⟩
theorem dictOf_get {prog : Program} {w : World} {h : Heap} {a : Addr} {es : List (Str × Value)} (x : h.DictOf (strKind prog w) a es) : ∃ o, h.get? a = some o ∧ o.cls = .type "dict" := by
  obtain ⟨o, _, _, ho, c, _⟩ := x
  exact ⟨o, ho, c.1⟩
mutual
inductive Rep (prog : Program) (w : World) (X : Addr → Prop) (h : Heap) : Value → D → Prop where
  | none : Rep prog w X h .none .none
  | bool (b : Bool) : Rep prog w X h (.bool b) (.bool b)
  | int (i : Int) (t : Tok) : Rep prog w X h (.int i t) (.int i)
  | str (x : Str) (t : Tok) : Rep prog w X h (.str x t) (.str x)
  | tuple {a : Addr} {vs : List Value} {n : Nat} {xs : List D} : ¬ X a → h.get? a = some (tupO vs n) → RepAll prog w X h vs xs → Rep prog w X h (.ref a) (.tuple xs)
  | list {a : Addr} {vs : List Value} {n : Nat} {xs : List D} : ¬ X a → h.get? a = some (lstO vs n) → RepAll prog w X h vs xs → Rep prog w X h (.ref a) (.list xs)
  | dict {a : Addr} {es : List (Str × Value)} {kv : List (D × D)} : ¬ X a → h.DictOf (strKind prog w) a es → PairsAre es kv → Rep prog w X h (.ref a) (.dict kv)
inductive RepAll (prog : Program) (w : World) (X : Addr → Prop) (h : Heap) : List Value → List D → Prop where
  | nil : RepAll prog w X h [] []
  | cons {v : Value} {vs : List Value} {d : D} {ds : List D} : Rep prog w X h v d → RepAll prog w X h vs ds → RepAll prog w X h (v :: vs) (d :: ds)
end

section
variable {prog : Program} {w : World} {X X' : Addr → Prop} {h h' : Heap}
structure Go (L K : Bool) (X X' : Addr → Prop) (h h' : Heap) : Prop where
  t : ∀ a vs n, h.get? a = some (tupO vs n) → ¬ X a → h'.get? a = some (tupO vs n) ∧ ¬ X' a
  l : L = true → ∀ a vs n, h.get? a = some (lstO vs n) → ¬ X a → h'.get? a = some (lstO vs n) ∧ ¬ X' a
  d : K = true → ∀ a ob es n, h.get? a = some ob → ob.data = .dict es n → ¬ X a → h'.get? a = some ob ∧ ¬ X' a
theorem RepAll.go {L K : Bool} {vs : List Value} {ds : List D} (g : Go L K X X' h h') (r : RepAll prog w X h vs ds) : withins L K ds = true → RepAll prog w X' h' vs ds :=
  RepAll.rec (motive_1 := fun v d _ => within L K d = true → Rep prog w X' h' v d) (motive_2 := fun vs ds _ => withins L K ds = true → RepAll prog w X' h' vs ds)
    (fun _ => .none) (fun b _ => .bool b) (fun i t _ => .int i t) (fun x t _ => .str x t) (fun n e _ ih q => .tuple (g.t _ _ _ e n).2 (g.t _ _ _ e n).1 (ih q))
    (fun n e _ ih q => .list (g.l (Bool.and_eq_true_iff.mp q).1 _ _ _ e n).2 (g.l (Bool.and_eq_true_iff.mp q).1 _ _ _ e n).1 (ih (Bool.and_eq_true_iff.mp q).2))
    (fun n e r q => by
      obtain ⟨o, es, m, e, c, f, z⟩ := e
      exact .dict (g.d q _ _ _ _ e f n).2 ⟨o, es, m, (g.d q _ _ _ _ e f n).1, c, f, z⟩ r)
    (fun _ => .nil) (fun _ _ a b q => .cons (a (Bool.and_eq_true_iff.mp q).1) (b (Bool.and_eq_true_iff.mp q).2)) r
theorem RepAll.hd {v : Value} {vs : List Value} {d : D} {ds : List D} (r : RepAll prog w X h (v :: vs) (d :: ds)) : Rep prog w X h v d := by
  cases r with
  | cons a _ => exact a
theorem Rep.go {L K : Bool} {v : Value} {d : D} (g : Go L K X X' h h') (r : Rep prog w X h v d) (q : within L K d = true) : Rep prog w X' h' v d :=
  (RepAll.go g (.cons r .nil) (Bool.and_eq_true_iff.mpr ⟨q, rfl⟩)).hd
mutual
theorem within_all : ∀ d : D, within true true d = true
  | .tuple xs => withins_all xs
  | .list xs => Bool.and_eq_true_iff.mpr ⟨rfl, withins_all xs⟩
  | .dict _ => rfl
  | .none => rfl
  | .bool _ => rfl
  | .int _ => rfl
  | .str _ => rfl
theorem withins_all : ∀ l : List D, withins true true l = true
  | [] => rfl
  | x :: xs => Bool.and_eq_true_iff.mpr ⟨within_all x, withins_all xs⟩
end
theorem Keep.go (k : Keep X h h') : Go true true X X h h' := ⟨fun _ _ _ e n => ⟨k _ _ e n, n⟩, fun _ _ _ _ e n => ⟨k _ _ e n, n⟩, fun _ _ _ _ _ e _ n => ⟨k _ _ e n, n⟩⟩
theorem Rep.mono {v : Value} {d : D} (k : Keep X h h') (r : Rep prog w X h v d) : Rep prog w X h' v d := r.go k.go (within_all d)
theorem RepAll.mono {vs : List Value} {ds : List D} (k : Keep X h h') (r : RepAll prog w X h vs ds) : RepAll prog w X h' vs ds := r.go k.go (withins_all ds)
theorem Rep.ext {v : Value} {d : D} (r : Rep prog w X h v d) (k : Ext h h') : Rep prog w X h' v d := r.mono (k.keep _)
theorem Rep.extF {F : Addr → Prop} {v : Value} {d : D} (r : Rep prog w X h v d) (k : ExtF F h h') (f : ∀ a, F a → X a) : Rep prog w X h' v d := r.mono (k.keep f)
theorem RepAll.extF {F : Addr → Prop} {vs : List Value} {ds : List D} (r : RepAll prog w X h vs ds) (k : ExtF F h h') (f : ∀ a, F a → X a) : RepAll prog w X h' vs ds := r.mono (k.keep f)
theorem RepAll.ext {vs : List Value} {ds : List D} (r : RepAll prog w X h vs ds) (k : Ext h h') : RepAll prog w X h' vs ds := r.mono (k.keep _)
theorem goAvoid (k : ∀ a o, h.get? a = some o → ¬ X a → ¬ X' a) : Go true true X X' h h := ⟨fun _ _ _ e n => ⟨e, k _ _ e n⟩, fun _ _ _ _ e n => ⟨e, k _ _ e n⟩, fun _ _ _ _ _ e _ n => ⟨e, k _ _ e n⟩⟩
theorem Rep.avoid {v : Value} {d : D} (k : ∀ a o, h.get? a = some o → ¬ X a → ¬ X' a) (r : Rep prog w X h v d) : Rep prog w X' h v d := r.go (goAvoid k) (within_all d)
theorem RepAll.avoid {vs : List Value} {ds : List D} (k : ∀ a o, h.get? a = some o → ¬ X a → ¬ X' a) (r : RepAll prog w X h vs ds) : RepAll prog w X' h vs ds := r.go (goAvoid k) (withins_all ds)
theorem Rep.less {v : Value} {d : D} (k : ∀ a, X' a → X a) (r : Rep prog w X h v d) : Rep prog w X' h v d := r.avoid fun a _ _ n q => n (k a q)
theorem RepAll.less {vs : List Value} {ds : List D} (k : ∀ a, X' a → X a) (r : RepAll prog w X h vs ds) : RepAll prog w X' h vs ds := r.avoid fun a _ _ n q => n (k a q)
noncomputable def RepIs (prog : Program) (w : World) (X : Addr → Prop) (h : Heap) (v : Value) (d : D) : Prop := match d with
  | .none => v = .none
  | .bool b => v = .bool b
  | .int i => ∃ t, v = .int i t
  | .str i => ∃ t, v = .str i t
  | .tuple l => ∃ c vs n, v = .ref c ∧ ¬ X c ∧ h.get? c = some (tupO vs n) ∧ RepAll prog w X h vs l
  | .list l => ∃ c vs n, v = .ref c ∧ ¬ X c ∧ h.get? c = some (lstO vs n) ∧ RepAll prog w X h vs l
  | .dict l => ∃ c es, v = .ref c ∧ ¬ X c ∧ h.DictOf (strKind prog w) c es ∧ PairsAre es l
theorem Rep.is {v : Value} {d : D} (r : Rep prog w X h v d) : RepIs prog w X h v d :=
  Rep.casesOn (motive_1 := fun v d _ => RepIs prog w X h v d) r rfl (fun _ => rfl) (fun _ t => ⟨t, rfl⟩) (fun _ t => ⟨t, rfl⟩) (fun a b c => ⟨_, _, _, rfl, a, b, c⟩) (fun a b c => ⟨_, _, _, rfl, a, b, c⟩) (fun a b c => ⟨_, _, rfl, a, b, c⟩)
theorem Rep.int_inv {v : Value} {i : Int} (r : Rep prog w X h v (.int i)) : ∃ t, v = .int i t := r.is
theorem Rep.str_inv {v : Value} {i : Str} (r : Rep prog w X h v (.str i)) : ∃ t, v = .str i t := r.is
theorem Rep.bool_inv {v : Value} {i : Bool} (r : Rep prog w X h v (.bool i)) : v = .bool i := r.is
theorem Rep.tuple_inv {v : Value} {l : List D} (r : Rep prog w X h v (.tuple l)) : ∃ c vs n, v = .ref c ∧ ¬ X c ∧ h.get? c = some (tupO vs n) ∧ RepAll prog w X h vs l := r.is
theorem Rep.list_inv {v : Value} {l : List D} (r : Rep prog w X h v (.list l)) : ∃ c vs n, v = .ref c ∧ ¬ X c ∧ h.get? c = some (lstO vs n) ∧ RepAll prog w X h vs l := r.is
theorem Rep.dict_inv {v : Value} {l : List (D × D)} (r : Rep prog w X h v (.dict l)) : ∃ c es, v = .ref c ∧ ¬ X c ∧ h.DictOf (strKind prog w) c es ∧ PairsAre es l := r.is
theorem RepAll.length {vs : List Value} {ds : List D} (r : RepAll prog w X h vs ds) : vs.length = ds.length := by
  induction ds generalizing vs with
  | nil => cases r; rfl
  | cons d ds ih => cases r with | cons a b => exact congrArg Nat.succ (ih b)
theorem RepAll.get {vs : List Value} {ds : List D} (r : RepAll prog w X h vs ds) {i : Nat} {d : D} (e : ds[i]? = some d) : ∃ v, vs[i]? = some v ∧ Rep prog w X h v d := by
  induction ds generalizing vs i with
  | nil => cases e
  | cons x ds ih =>
    cases r with
    | cons a b =>
      cases i with
      | zero => cases e; exact ⟨_, rfl, a⟩
      | succ i => exact ih b e
theorem RepAll.append {vs ws : List Value} {ds es : List D} (r : RepAll prog w X h vs ds) (q : RepAll prog w X h ws es) : RepAll prog w X h (vs ++ ws) (ds ++ es) := by
  induction ds generalizing vs with
  | nil => cases r; exact q
  | cons d ds ih => cases r with | cons a b => exact .cons a (ih b)
theorem RepAll.drop (k : Nat) {vs : List Value} {ds : List D} (r : RepAll prog w X h vs ds) : RepAll prog w X h (vs.drop k) (ds.drop k) := by
  induction k generalizing vs ds with
  | zero => exact r
  | succ k ih => cases r with
    | nil => exact .nil
    | cons a b => exact ih b
theorem RepAll.take (k : Nat) {vs : List Value} {ds : List D} (r : RepAll prog w X h vs ds) : RepAll prog w X h (vs.take k) (ds.take k) := by
  induction k generalizing vs ds with
  | zero => exact .nil
  | succ k ih => cases r with
    | nil => exact .nil
    | cons a b => exact .cons a (ih b)
theorem Rep.reads {v : Value} {d : D} (r : Rep prog w X h v d) : d.canLay0 = true → ∃ as, Reads h v d as :=
  Rep.rec (motive_1 := fun v d _ => d.canLay0 = true → ∃ as, Reads h v d as) (motive_2 := fun vs ds _ => PyData.canLayAll0 ds = true → ∃ as, ReadsAll h vs ds as)
    (fun _ => ⟨_, .none⟩) (fun b _ => ⟨_, .bool b⟩) (fun i t _ => ⟨_, .int i t⟩) (fun x t _ => ⟨_, .str x t⟩) (fun _ e _ ih c => (ih c).elim fun as q => ⟨_, .tuple e rfl rfl q⟩)
    (fun _ e _ ih c => (ih c).elim fun as q => ⟨_, .list e rfl rfl q⟩) (fun _ _ _ c => nomatch c) (fun _ => ⟨_, .nil⟩)
    (fun _ _ a b c => (a (Bool.and_eq_true_iff.mp c).1).elim fun as q => (b (Bool.and_eq_true_iff.mp c).2).elim fun bs q' => ⟨_, .cons q q'⟩) r
noncomputable def RepO (prog : Program) (w : World) (X : Addr → Prop) (h : Heap) (v : Value) (d : D) : Prop := match d with
  | .list l => ∃ c vs n, v = .ref c ∧ h.get? c = some (lstO vs n) ∧ RepAll prog w X h vs l
  | .dict kv => ∃ c es, v = .ref c ∧ (c == sysModules) = false ∧ h.DictOf (strKind prog w) c es ∧ PairsAre es kv
  | d => Rep prog w X h v d
theorem Rep.o {v : Value} {d : D} (hs : X sysModules) (r : Rep prog w X h v d) : RepO prog w X h v d := by
  cases d with
  | list l => obtain ⟨c, vs, n, e, _, hg, rl⟩ := r.list_inv; exact ⟨c, vs, n, e, hg, rl⟩
  | dict kv =>
    obtain ⟨c, es, e, nx, hg, rl⟩ := r.dict_inv
    exact ⟨c, es, e, by rw [beq_eq_false_iff_ne]; intro q; exact nx (q ▸ hs), hg, rl⟩
  | _ => exact r
theorem RepO.int_inv {v : Value} {i : Int} (r : RepO prog w X h v (.int i)) : ∃ t, v = .int i t := Rep.int_inv (X := X) (h := h) (prog := prog) (w := w) r
theorem RepO.str_inv {v : Value} {i : Str} (r : RepO prog w X h v (.str i)) : ∃ t, v = .str i t := Rep.str_inv (X := X) (h := h) (prog := prog) (w := w) r
theorem RepO.bool_inv {v : Value} {i : Bool} (r : RepO prog w X h v (.bool i)) : v = .bool i := Rep.bool_inv (X := X) (h := h) (prog := prog) (w := w) r
theorem RepO.none_inv {v : Value} (r : RepO prog w X h v .none) : v = .none := by
  exact Rep.is (X := X) (h := h) (prog := prog) (w := w) (d := .none) r
theorem RepO.tuple_inv {v : Value} {l : List D} (r : RepO prog w X h v (.tuple l)) : ∃ c vs n, v = .ref c ∧ ¬ X c ∧ h.get? c = some (tupO vs n) ∧ RepAll prog w X h vs l := Rep.tuple_inv (X := X) (h := h) (prog := prog) (w := w) r
theorem RepO.list_inv {v : Value} {l : List D} (r : RepO prog w X h v (.list l)) : ∃ c vs n, v = .ref c ∧ h.get? c = some (lstO vs n) ∧ RepAll prog w X h vs l := r
theorem RepO.dict_inv {v : Value} {l : List (D × D)} (r : RepO prog w X h v (.dict l)) : ∃ c es, v = .ref c ∧ (c == sysModules) = false ∧ h.DictOf (strKind prog w) c es ∧ PairsAre es l := r
theorem RepO.ext {v : Value} {d : D} (r : RepO prog w X h v d) (k : Ext h h') : RepO prog w X h' v d := by
  cases d with
  | list l => obtain ⟨c, vs, n, e, hg, rl⟩ := r.list_inv; exact ⟨c, vs, n, e, k _ _ hg, rl.ext k⟩
  | dict kv => obtain ⟨c, es, e, nx, hg, rl⟩ := r.dict_inv; exact ⟨c, es, e, nx, dictOf_keep hg fun o q => k _ o q, rl⟩
  | _ => exact Rep.ext (X := X) (prog := prog) (w := w) r k
theorem RepO.extF {F Y : Addr → Prop} {v : Value} {d : D} (r : RepO prog w X h v d) (k : ExtF F h h') (f : ∀ a, F a → X a) (y : Rep prog w Y h v d) (g : ∀ a, F a → Y a) : RepO prog w X h' v d := by
  cases d with
  | list l =>
    obtain ⟨c, vs, n, e, hg, rl⟩ := r.list_inv
    obtain ⟨c', _, _, e', ny, _⟩ := y.list_inv
    rw [e] at e'; cases e'
    exact ⟨c, vs, n, e, k.get hg fun q => ny (g _ q), rl.extF k f⟩
  | dict kv =>
    obtain ⟨c, es, e, nx, hg, rl⟩ := r.dict_inv
    obtain ⟨c', _, e', ny, _⟩ := y.dict_inv
    rw [e] at e'; cases e'
    exact ⟨c, es, e, nx, dictOf_keep hg fun o q => k.get q fun q => ny (g _ q), rl⟩
  | _ => exact Rep.extF (X := X) (prog := prog) (w := w) r k f
theorem RepO.reads {v : Value} {d : D} (r : RepO prog w X h v d) (c : d.canLay0 = true) : ∃ as, Reads h v d as := by
  cases d with
  | list l =>
    obtain ⟨a, vs, n, rfl, hg, rl⟩ := r.list_inv
    exact Rep.reads (X := fun _ => False) (prog := prog) (w := w) (.list id hg (rl.less fun _ q => q.elim)) c
  | dict kv => cases c
  | _ => exact Rep.reads (X := X) (prog := prog) (w := w) r c
end
end Mine
-- MMatch
set_option autoImplicit false
set_option linter.all false
namespace Mine
open PySem

set_option genInjectivity false in
structure MC where
  slots : List Str
  fnames : List Str
  gnames : List Str
  scope : Scope
  pin : Option Nat := none
  xn : List Str := []
  kn : List Str := []
noncomputable def dbg : Str := "__debug__"
noncomputable def isLoc (C : MC) (i : Nat) (x : Str) : Bool := C.slots[i]? == some x && (C.scope.names.lookup x == some .local) && !(x == dbg)
noncomputable def isSt (C : MC) (i : Nat) (x : Str) : Bool := isLoc C i x && !(C.pin == some i)
noncomputable def isGl (C : MC) (x : Str) : Bool := (C.scope.names.lookup x == some .globalImplicit) && !(x == dbg)
noncomputable def b1Name : B1 → Str
  | .len => "len" | .int => "int" | .str => "str" | .abs => "abs" | .list => "list" | .tuple => "tuple" | .dict => "dict" | .sum => "sum"
noncomputable def b2Name : B2 → Str
  | .min => "min" | .max => "max"
noncomputable def tyName : Ty → Str
  | .int => "int" | .bool => "bool" | .str => "str" | .tuple => "tuple" | .list => "list"
  | .unset => "Unset" | .nought => "ByNought" | .great => "TooGreat" | .bad => "BadText" | .valueError => "ValueError"
noncomputable def hdName : Ty → Str
  | .valueError => "FoldError"
  | t => tyName t
noncomputable def plainTy : Ty → Bool
  | .int | .bool | .str | .tuple | .list => true
  | _ => false
noncomputable def isVE : Ty → Bool
  | .valueError => true
  | _ => false
theorem dt {c : Prop} [Decidable c] {f : c → Bool} {P : Prop} (h : dite c f (fun _ => false) = true) (k : c → P) : P := by
  by_cases q : c
  · exact k q
  · rw [dif_neg q] at h; cases h
noncomputable def wName (E0 : PySem.Expr) (K0 : Str → Pos → Bool) : Bool := dite (E0.ctorIdx = 23) (fun h => PySem.Expr.Name.elim (motive_1 := fun _ => Bool) E0 h K0) fun _ => false
theorem wName_el {P : PySem.Expr → Prop} (E0 : PySem.Expr) {K0 : Str → Pos → Bool} (h : wName E0 K0 = true) (k : ∀ x p, K0 x p = true → P (.Name x p)) : P E0 :=
  dt h fun q => PySem.Expr.Name.elim (motive_1 := fun e => wName e K0 = true → P e) E0 q k h
noncomputable def wConst (E0 : PySem.Expr) (K0 : Const → Nat → Pos → Bool) : Bool := dite (E0.ctorIdx = 19) (fun h => PySem.Expr.Constant.elim (motive_1 := fun _ => Bool) E0 h K0) fun _ => false
theorem wConst_el {P : PySem.Expr → Prop} (E0 : PySem.Expr) {K0 : Const → Nat → Pos → Bool} (h : wConst E0 K0 = true) (k : ∀ c n p, K0 c n p = true → P (.Constant c n p)) : P E0 :=
  dt h fun q => PySem.Expr.Constant.elim (motive_1 := fun e => wConst e K0 = true → P e) E0 q k h
noncomputable def wBin (E0 : PySem.Expr) (K0 : Expr → Operator → Expr → Pos → Bool) : Bool := dite (E0.ctorIdx = 2) (fun h => PySem.Expr.BinOp.elim (motive_1 := fun _ => Bool) E0 h K0) fun _ => false
theorem wBin_el {P : PySem.Expr → Prop} (E0 : PySem.Expr) {K0 : Expr → Operator → Expr → Pos → Bool} (h : wBin E0 K0 = true) (k : ∀ l o r p, K0 l o r p = true → P (.BinOp l o r p)) : P E0 :=
  dt h fun q => PySem.Expr.BinOp.elim (motive_1 := fun e => wBin e K0 = true → P e) E0 q k h
noncomputable def wUn (E0 : PySem.Expr) (K0 : UnaryOp → Expr → Pos → Bool) : Bool := dite (E0.ctorIdx = 3) (fun h => PySem.Expr.UnaryOp.elim (motive_1 := fun _ => Bool) E0 h K0) fun _ => false
theorem wUn_el {P : PySem.Expr → Prop} (E0 : PySem.Expr) {K0 : UnaryOp → Expr → Pos → Bool} (h : wUn E0 K0 = true) (k : ∀ o x p, K0 o x p = true → P (.UnaryOp o x p)) : P E0 :=
  dt h fun q => PySem.Expr.UnaryOp.elim (motive_1 := fun e => wUn e K0 = true → P e) E0 q k h
noncomputable def wBool (E0 : PySem.Expr) (K0 : BoolOp → List Expr → Pos → Bool) : Bool := dite (E0.ctorIdx = 0) (fun h => PySem.Expr.BoolOp.elim (motive_1 := fun _ => Bool) E0 h K0) fun _ => false
theorem wBool_el {P : PySem.Expr → Prop} (E0 : PySem.Expr) {K0 : BoolOp → List Expr → Pos → Bool} (h : wBool E0 K0 = true) (k : ∀ o l p, K0 o l p = true → P (.BoolOp o l p)) : P E0 :=
  dt h fun q => PySem.Expr.BoolOp.elim (motive_1 := fun e => wBool e K0 = true → P e) E0 q k h
noncomputable def wCmp (E0 : PySem.Expr) (K0 : Expr → List CmpOp → List Expr → Pos → Bool) : Bool := dite (E0.ctorIdx = 15) (fun h => PySem.Expr.Compare.elim (motive_1 := fun _ => Bool) E0 h K0) fun _ => false
theorem wCmp_el {P : PySem.Expr → Prop} (E0 : PySem.Expr) {K0 : Expr → List CmpOp → List Expr → Pos → Bool} (h : wCmp E0 K0 = true) (k : ∀ l os rs p, K0 l os rs p = true → P (.Compare l os rs p)) : P E0 :=
  dt h fun q => PySem.Expr.Compare.elim (motive_1 := fun e => wCmp e K0 = true → P e) E0 q k h
noncomputable def wCall (E0 : PySem.Expr) (K0 : Expr → List Expr → List Keyword → Pos → Bool) : Bool := dite (E0.ctorIdx = 16) (fun h => PySem.Expr.Call.elim (motive_1 := fun _ => Bool) E0 h K0) fun _ => false
theorem wCall_el {P : PySem.Expr → Prop} (E0 : PySem.Expr) {K0 : Expr → List Expr → List Keyword → Pos → Bool} (h : wCall E0 K0 = true) (k : ∀ f as ks p, K0 f as ks p = true → P (.Call f as ks p)) : P E0 :=
  dt h fun q => PySem.Expr.Call.elim (motive_1 := fun e => wCall e K0 = true → P e) E0 q k h
noncomputable def wAttr (E0 : PySem.Expr) (K0 : Expr → Str → Pos → Bool) : Bool := dite (E0.ctorIdx = 20) (fun h => PySem.Expr.Attribute.elim (motive_1 := fun _ => Bool) E0 h K0) fun _ => false
theorem wAttr_el {P : PySem.Expr → Prop} (E0 : PySem.Expr) {K0 : Expr → Str → Pos → Bool} (h : wAttr E0 K0 = true) (k : ∀ v n p, K0 v n p = true → P (.Attribute v n p)) : P E0 :=
  dt h fun q => PySem.Expr.Attribute.elim (motive_1 := fun e => wAttr e K0 = true → P e) E0 q k h
noncomputable def wSub (E0 : PySem.Expr) (K0 : Expr → Expr → Pos → Bool) : Bool := dite (E0.ctorIdx = 21) (fun h => PySem.Expr.Subscript.elim (motive_1 := fun _ => Bool) E0 h K0) fun _ => false
theorem wSub_el {P : PySem.Expr → Prop} (E0 : PySem.Expr) {K0 : Expr → Expr → Pos → Bool} (h : wSub E0 K0 = true) (k : ∀ v s p, K0 v s p = true → P (.Subscript v s p)) : P E0 :=
  dt h fun q => PySem.Expr.Subscript.elim (motive_1 := fun e => wSub e K0 = true → P e) E0 q k h
noncomputable def wSlice (E0 : PySem.Expr) (K0 : Option Expr → Option Expr → Option Expr → Pos → Bool) : Bool := dite (E0.ctorIdx = 26) (fun h => PySem.Expr.Slice.elim (motive_1 := fun _ => Bool) E0 h K0) fun _ => false
theorem wSlice_el {P : PySem.Expr → Prop} (E0 : PySem.Expr) {K0 : Option Expr → Option Expr → Option Expr → Pos → Bool} (h : wSlice E0 K0 = true) (k : ∀ l u s p, K0 l u s p = true → P (.Slice l u s p)) : P E0 :=
  dt h fun q => PySem.Expr.Slice.elim (motive_1 := fun e => wSlice e K0 = true → P e) E0 q k h
noncomputable def wTuple (E0 : PySem.Expr) (K0 : List Expr → Nat → Pos → Bool) : Bool := dite (E0.ctorIdx = 25) (fun h => PySem.Expr.Tuple.elim (motive_1 := fun _ => Bool) E0 h K0) fun _ => false
theorem wTuple_el {P : PySem.Expr → Prop} (E0 : PySem.Expr) {K0 : List Expr → Nat → Pos → Bool} (h : wTuple E0 K0 = true) (k : ∀ es k p, K0 es k p = true → P (.Tuple es k p)) : P E0 :=
  dt h fun q => PySem.Expr.Tuple.elim (motive_1 := fun e => wTuple e K0 = true → P e) E0 q k h
noncomputable def wList (E0 : PySem.Expr) (K0 : List Expr → Pos → Bool) : Bool := dite (E0.ctorIdx = 24) (fun h => PySem.Expr.List.elim (motive_1 := fun _ => Bool) E0 h K0) fun _ => false
theorem wList_el {P : PySem.Expr → Prop} (E0 : PySem.Expr) {K0 : List Expr → Pos → Bool} (h : wList E0 K0 = true) (k : ∀ es p, K0 es p = true → P (.List es p)) : P E0 :=
  dt h fun q => PySem.Expr.List.elim (motive_1 := fun e => wList e K0 = true → P e) E0 q k h
noncomputable def wDict (E0 : PySem.Expr) (K0 : List (Option Expr) → List Expr → Pos → Bool) : Bool := dite (E0.ctorIdx = 6) (fun h => PySem.Expr.Dict.elim (motive_1 := fun _ => Bool) E0 h K0) fun _ => false
theorem wDict_el {P : PySem.Expr → Prop} (E0 : PySem.Expr) {K0 : List (Option Expr) → List Expr → Pos → Bool} (h : wDict E0 K0 = true) (k : ∀ ks vs p, K0 ks vs p = true → P (.Dict ks vs p)) : P E0 :=
  dt h fun q => PySem.Expr.Dict.elim (motive_1 := fun e => wDict e K0 = true → P e) E0 q k h
noncomputable def sAssign (E0 : PySem.Stmt) (K0 : List Expr → Expr → Pos → Bool) : Bool := dite (E0.ctorIdx = 5) (fun h => PySem.Stmt.Assign.elim (motive_2 := fun _ => Bool) E0 h K0) fun _ => false
theorem sAssign_el {P : PySem.Stmt → Prop} (E0 : PySem.Stmt) {K0 : List Expr → Expr → Pos → Bool} (h : sAssign E0 K0 = true) (k : ∀ ts v p, K0 ts v p = true → P (.Assign ts v p)) : P E0 :=
  dt h fun q => PySem.Stmt.Assign.elim (motive_2 := fun e => sAssign e K0 = true → P e) E0 q k h
noncomputable def sExpr (E0 : PySem.Stmt) (K0 : Expr → Pos → Bool) : Bool := dite (E0.ctorIdx = 24) (fun h => PySem.Stmt.Expr.elim (motive_2 := fun _ => Bool) E0 h K0) fun _ => false
theorem sExpr_el {P : PySem.Stmt → Prop} (E0 : PySem.Stmt) {K0 : Expr → Pos → Bool} (h : sExpr E0 K0 = true) (k : ∀ v p, K0 v p = true → P (.Expr v p)) : P E0 :=
  dt h fun q => PySem.Stmt.Expr.elim (motive_2 := fun e => sExpr e K0 = true → P e) E0 q k h
noncomputable def sIf (E0 : PySem.Stmt) (K0 : Expr → List Stmt → List Stmt → Pos → Bool) : Bool := dite (E0.ctorIdx = 12) (fun h => PySem.Stmt.If.elim (motive_2 := fun _ => Bool) E0 h K0) fun _ => false
theorem sIf_el {P : PySem.Stmt → Prop} (E0 : PySem.Stmt) {K0 : Expr → List Stmt → List Stmt → Pos → Bool} (h : sIf E0 K0 = true) (k : ∀ t b e p, K0 t b e p = true → P (.If t b e p)) : P E0 :=
  dt h fun q => PySem.Stmt.If.elim (motive_2 := fun e => sIf e K0 = true → P e) E0 q k h
noncomputable def sFor (E0 : PySem.Stmt) (K0 : Expr → Expr → List Stmt → List Stmt → Pos → Bool) : Bool := dite (E0.ctorIdx = 9) (fun h => PySem.Stmt.For.elim (motive_2 := fun _ => Bool) E0 h K0) fun _ => false
theorem sFor_el {P : PySem.Stmt → Prop} (E0 : PySem.Stmt) {K0 : Expr → Expr → List Stmt → List Stmt → Pos → Bool} (h : sFor E0 K0 = true) (k : ∀ t i b e p, K0 t i b e p = true → P (.For t i b e p)) : P E0 :=
  dt h fun q => PySem.Stmt.For.elim (motive_2 := fun e => sFor e K0 = true → P e) E0 q k h
noncomputable def sWhile (E0 : PySem.Stmt) (K0 : Expr → List Stmt → List Stmt → Pos → Bool) : Bool := dite (E0.ctorIdx = 11) (fun h => PySem.Stmt.While.elim (motive_2 := fun _ => Bool) E0 h K0) fun _ => false
theorem sWhile_el {P : PySem.Stmt → Prop} (E0 : PySem.Stmt) {K0 : Expr → List Stmt → List Stmt → Pos → Bool} (h : sWhile E0 K0 = true) (k : ∀ t b e p, K0 t b e p = true → P (.While t b e p)) : P E0 :=
  dt h fun q => PySem.Stmt.While.elim (motive_2 := fun e => sWhile e K0 = true → P e) E0 q k h
noncomputable def sReturn (E0 : PySem.Stmt) (K0 : Option Expr → Pos → Bool) : Bool := dite (E0.ctorIdx = 3) (fun h => PySem.Stmt.Return.elim (motive_2 := fun _ => Bool) E0 h K0) fun _ => false
theorem sReturn_el {P : PySem.Stmt → Prop} (E0 : PySem.Stmt) {K0 : Option Expr → Pos → Bool} (h : sReturn E0 K0 = true) (k : ∀ v p, K0 v p = true → P (.Return v p)) : P E0 :=
  dt h fun q => PySem.Stmt.Return.elim (motive_2 := fun e => sReturn e K0 = true → P e) E0 q k h
noncomputable def sRaise (E0 : PySem.Stmt) (K0 : Option Expr → Option Expr → Pos → Bool) : Bool := dite (E0.ctorIdx = 16) (fun h => PySem.Stmt.Raise.elim (motive_2 := fun _ => Bool) E0 h K0) fun _ => false
theorem sRaise_el {P : PySem.Stmt → Prop} (E0 : PySem.Stmt) {K0 : Option Expr → Option Expr → Pos → Bool} (h : sRaise E0 K0 = true) (k : ∀ e c p, K0 e c p = true → P (.Raise e c p)) : P E0 :=
  dt h fun q => PySem.Stmt.Raise.elim (motive_2 := fun e => sRaise e K0 = true → P e) E0 q k h
noncomputable def sTry (E0 : PySem.Stmt) (K0 : List Stmt → List ExceptHandler → List Stmt → List Stmt → Pos → Bool) : Bool := dite (E0.ctorIdx = 17) (fun h => PySem.Stmt.Try.elim (motive_2 := fun _ => Bool) E0 h K0) fun _ => false
theorem sTry_el {P : PySem.Stmt → Prop} (E0 : PySem.Stmt) {K0 : List Stmt → List ExceptHandler → List Stmt → List Stmt → Pos → Bool} (h : sTry E0 K0 = true) (k : ∀ b h o f p, K0 b h o f p = true → P (.Try b h o f p)) : P E0 :=
  dt h fun q => PySem.Stmt.Try.elim (motive_2 := fun e => sTry e K0 = true → P e) E0 q k h
noncomputable def l0 {α : Type} (l : List α) (k : Bool) : Bool := match l with | [] => k | _ :: _ => false
theorem l0_inv {α : Type} {l : List α} {k : Bool} (h : l0 l k = true) : l = [] ∧ k = true := by
  cases l <;> first | exact ⟨rfl, h⟩ | exact Bool.noConfusion h
theorem l0_el {α : Type} {P : List α → Prop} (l : List α) {K0 : Bool} (h : l0 l K0 = true) (k : K0 = true → P []) : P l := (l0_inv h).1 ▸ k (l0_inv h).2
noncomputable def lc {α : Type} (l : List α) (k : α → List α → Bool) : Bool := match l with | [] => false | x :: xs => k x xs
theorem lc_inv {α : Type} {l : List α} {k : α → List α → Bool} (h : lc l k = true) : ∃ x xs, l = x :: xs ∧ k x xs = true := by
  cases l <;> first | exact ⟨_, _, rfl, h⟩ | exact Bool.noConfusion h
theorem lc_el {α : Type} {P : List α → Prop} (l : List α) {K0 : α → List α → Bool} (h : lc l K0 = true) (k : ∀ x r, K0 x r = true → P (x :: r)) : P l := by
  cases l with
  | nil => cases h
  | cons x r => exact k x r h
noncomputable def l1 {α : Type} (l : List α) (k : α → Bool) : Bool := lc l fun x r => l0 r (k x)
theorem l1_inv {α : Type} {l : List α} {k : α → Bool} (h : l1 l k = true) : ∃ x, l = [x] ∧ k x = true := by
  obtain ⟨x, xs, rfl, h⟩ := lc_inv h
  obtain ⟨rfl, h⟩ := l0_inv h
  exact ⟨x, rfl, h⟩
theorem l1_el {α : Type} {P : List α → Prop} (l : List α) {K0 : α → Bool} (h : l1 l K0 = true) (k : ∀ x, K0 x = true → P [x]) : P l := lc_el l h fun x r h => l0_el (P := fun r => P (x :: r)) r h (k x)
noncomputable def l2 {α : Type} (l : List α) (k : α → α → Bool) : Bool := lc l fun x r => l1 r (k x)
theorem l2_el {α : Type} {P : List α → Prop} (l : List α) {K0 : α → α → Bool} (h : l2 l K0 = true) (k : ∀ x y, K0 x y = true → P [x, y]) : P l := lc_el l h fun x r h => l1_el (P := fun r => P (x :: r)) r h (k x)
noncomputable def o1 {α : Type} (l : Option α) (k : α → Bool) : Bool := match l with | some x => k x | none => false
theorem o1_inv {α : Type} {l : Option α} {k : α → Bool} (h : o1 l k = true) : ∃ x, l = some x ∧ k x = true := by
  cases l <;> first | exact ⟨_, rfl, h⟩ | exact Bool.noConfusion h
theorem o1_el {α : Type} {P : Option α → Prop} (l : Option α) {K0 : α → Bool} (h : o1 l K0 = true) (k : ∀ x, K0 x = true → P (some x)) : P l := by
  cases l with
  | none => cases h
  | some x => exact k x h
noncomputable def o0 {α : Type} (l : Option α) (k : Bool) : Bool := match l with | some _ => false | none => k
theorem o0_inv {α : Type} {l : Option α} {k : Bool} (h : o0 l k = true) : l = none ∧ k = true := by
  cases l <;> first | exact ⟨rfl, h⟩ | exact Bool.noConfusion h
theorem o0_el {α : Type} {P : Option α → Prop} (l : Option α) {K0 : Bool} (h : o0 l K0 = true) (k : K0 = true → P none) : P l := (o0_inv h).1 ▸ k (o0_inv h).2
noncomputable def cInt (c : Const) (k : Int → Bool) : Bool := dite (c.ctorIdx = 2) (fun h => Const.int.elim (motive := fun _ => Bool) c h k) fun _ => false
theorem cInt_el {P : Const → Prop} (c : Const) {K0 : Int → Bool} (h : cInt c K0 = true) (k : ∀ j, K0 j = true → P (.int j)) : P c :=
  dt h fun q => Const.int.elim (motive := fun e => cInt e K0 = true → P e) c q k h
noncomputable def cStr (c : Const) (k : Str → Bool) : Bool := dite (c.ctorIdx = 5) (fun h => Const.str.elim (motive := fun _ => Bool) c h k) fun _ => false
theorem cStr_el {P : Const → Prop} (c : Const) {K0 : Str → Bool} (h : cStr c K0 = true) (k : ∀ j, K0 j = true → P (.str j)) : P c :=
  dt h fun q => Const.str.elim (motive := fun e => cStr e K0 = true → P e) c q k h
noncomputable def cBool (c : Const) (k : Bool → Bool) : Bool := dite (c.ctorIdx = 1) (fun h => Const.bool.elim (motive := fun _ => Bool) c h k) fun _ => false
theorem cBool_el {P : Const → Prop} (c : Const) {K0 : Bool → Bool} (h : cBool c K0 = true) (k : ∀ j, K0 j = true → P (.bool j)) : P c :=
  dt h fun q => Const.bool.elim (motive := fun e => cBool e K0 = true → P e) c q k h
noncomputable def cNone (c : Const) (k : Bool) : Bool := match c with | .none => k | _ => false
theorem cNone_inv {c : Const} {k : Bool} (h : cNone c k = true) : c = .none ∧ k = true := by
  cases c <;> first | exact ⟨rfl, h⟩ | exact Bool.noConfusion h
theorem cNone_el {P : Const → Prop} (c : Const) {K0 : Bool} (h : cNone c K0 = true) (k : K0 = true → P .none) : P c := ((cNone_inv h).1) ▸ k (cNone_inv h).2
noncomputable def uSub (c : UnaryOp) (k : Bool) : Bool := match c with | .USub => k | _ => false
theorem uSub_inv {c : UnaryOp} {k : Bool} (h : uSub c k = true) : c = .USub ∧ k = true := by
  cases c <;> first | exact ⟨rfl, h⟩ | exact Bool.noConfusion h
theorem uSub_el {P : UnaryOp → Prop} (c : UnaryOp) {K0 : Bool} (h : uSub c K0 = true) (k : K0 = true → P .USub) : P c := ((uSub_inv h).1) ▸ k (uSub_inv h).2
noncomputable def uNot (c : UnaryOp) (k : Bool) : Bool := match c with | .Not => k | _ => false
theorem uNot_inv {c : UnaryOp} {k : Bool} (h : uNot c k = true) : c = .Not ∧ k = true := by
  cases c <;> first | exact ⟨rfl, h⟩ | exact Bool.noConfusion h
theorem uNot_el {P : UnaryOp → Prop} (c : UnaryOp) {K0 : Bool} (h : uNot c K0 = true) (k : K0 = true → P .Not) : P c := ((uNot_inv h).1) ▸ k (uNot_inv h).2
noncomputable def bAnd (c : BoolOp) (k : Bool) : Bool := match c with | .And => k | _ => false
theorem bAnd_inv {c : BoolOp} {k : Bool} (h : bAnd c k = true) : c = .And ∧ k = true := by
  cases c <;> first | exact ⟨rfl, h⟩ | exact Bool.noConfusion h
theorem bAnd_el {P : BoolOp → Prop} (c : BoolOp) {K0 : Bool} (h : bAnd c K0 = true) (k : K0 = true → P .And) : P c := ((bAnd_inv h).1) ▸ k (bAnd_inv h).2
noncomputable def bOr (c : BoolOp) (k : Bool) : Bool := match c with | .Or => k | _ => false
theorem bOr_inv {c : BoolOp} {k : Bool} (h : bOr c k = true) : c = .Or ∧ k = true := by
  cases c <;> first | exact ⟨rfl, h⟩ | exact Bool.noConfusion h
theorem bOr_el {P : BoolOp → Prop} (c : BoolOp) {K0 : Bool} (h : bOr c K0 = true) (k : K0 = true → P .Or) : P c := ((bOr_inv h).1) ▸ k (bOr_inv h).2
noncomputable def tailB (o : BoolOp) (y : PySem.Expr) (zs : List PySem.Expr) (p : Pos) : PySem.Expr := match zs with | [] => y | z :: r => .BoolOp o (y :: z :: r) p
mutual
noncomputable def matchE (C : MC) : ME → PySem.Expr → Bool
  | .var i, e => (wName e fun x p => isLoc C i x)
  | .own i, e => (wName e fun x p => isLoc C i x)
  | .glob g, e => (wName e fun x p => C.gnames[g]? == some x && isGl C x)
  | .cint i, e => (wConst e fun c n p => cInt c fun j => i == j)
  | .cstr i, e => (wConst e fun c n p => cStr c fun j => i == j)
  | .cbool i, e => (wConst e fun c n p => cBool c fun j => i == j)
  | .cnone, e => (wConst e fun c n p => cNone c <| true)
  | .bin op a b, e => (wBin e fun l o r p => op == o && matchE C a l && matchE C b r)
  | .neg a, e => (wUn e fun o x p => uSub o <| matchE C a x)
  | .nt a, e => (wUn e fun o x p => uNot o <| matchE C a x)
  | .and a b, e => (wBool e fun o l p => bAnd o <| lc l fun x r => lc r fun y zs => matchE C a x && matchE C b (tailB .And y zs p))
  | .or a b, e => (wBool e fun o l p => bOr o <| lc l fun x r => lc r fun y zs => matchE C a x && matchE C b (tailB .Or y zs p))
  | .cmp op a b, e => (wCmp e fun l os rs p => l1 os fun o => l1 rs fun r => op == o && matchE C a l && matchE C b r)
  | .cmp2 o1 o2 a b c, e => (wCmp e fun l os rs p => l2 os fun p1 p2 => l2 rs fun r1 r2 => o1 == p1 && o2 == p2 && matchE C a l && matchE C b r1 && matchE C c r2)
  | .call f as, e => (wCall e fun fn l ks p => l0 ks <| wName fn fun x px => lc l fun a args => C.fnames[f]? == some x && isGl C x && matchEs C as (a :: args) && decide (args.length < 20))
  | .bi1 b a, e => (wCall e fun fn l ks p => l0 ks <| wName fn fun x px => l1 l fun y => x == b1Name b && isGl C x && matchE C a y)
  | .bi2 b a c, e => (wCall e fun fn l ks p => l0 ks <| wName fn fun x px => l2 l fun y z => x == b2Name b && isGl C x && matchE C a y && matchE C c z)
  | .isi a t, e => (wCall e fun fn l ks p => l0 ks <| wName fn fun x px => l2 l fun y zz => wName zz fun z pz => x == ("isinstance" : Str) && isGl C x && matchE C a y && plainTy t && z == tyName t && isGl C z)
  | .find a b, e => (wCall e fun fn l ks cp => l0 ks <| wAttr fn fun o n ap => l1 l fun y => (ap.endLine == cp.line) && n == ("find" : Str) && matchE C a o && matchE C b y)
  | .idx a i, e => (wSub e fun v s p => matchE C a v && matchE C i s)
  | .slice a lo hi, e => (wSub e fun v sl p => wSlice sl fun l u st ps => o0 st <| matchE C a v && matchO C lo l && matchO C hi u)
  | .tupD as, e => (wTuple e fun es k p => matchEs C as es)
  | .lstD as, e => (wList e fun es p => matchEs C as es)
  | .dctD, e => (wDict e fun ks vs p => l0 ks <| l0 vs <| true)
noncomputable def matchEs (C : MC) : MEs → List PySem.Expr → Bool
  | .nil, l => l.isEmpty
  | .cons a as, l => lc l fun e es => matchE C a e && matchEs C as es
noncomputable def matchO (C : MC) : MO → Option PySem.Expr → Bool
  | .none, e => e.isNone
  | .some a, e => o1 e fun x => matchE C a x
end

noncomputable def notComp : ME → Bool
  | _ => true
noncomputable def isZero : ME → Bool
  | .cint i => i == 0
  | _ => false
theorem inv_var {C : MC} {i : Nat} {P : PySem.Expr → Prop} (E0 : PySem.Expr) (h : matchE C (.var i) E0 = true) (kk : ∀ x p, (isLoc C i x) = true → P (.Name x p)) : P E0 :=
  wName_el E0 h fun x p h => kk x p h
theorem inv_own {C : MC} {i : Nat} {P : PySem.Expr → Prop} (E0 : PySem.Expr) (h : matchE C (.own i) E0 = true) (kk : ∀ x p, (isLoc C i x) = true → P (.Name x p)) : P E0 :=
  wName_el E0 h fun x p h => kk x p h
theorem inv_glob {C : MC} {g : Nat} {P : PySem.Expr → Prop} (E0 : PySem.Expr) (h : matchE C (.glob g) E0 = true) (kk : ∀ x p, (C.gnames[g]? == some x && isGl C x) = true → P (.Name x p)) : P E0 :=
  wName_el E0 h fun x p h => kk x p h
theorem inv_cint {C : MC} {i : Int} {P : PySem.Expr → Prop} (E0 : PySem.Expr) (h : matchE C (.cint i) E0 = true) (kk : ∀ j n p, (i == j) = true → P (.Constant (.int j) n p)) : P E0 :=
  wConst_el E0 h fun c n p h => cInt_el (P := fun c => P (.Constant c n p)) c h fun j h => kk j n p h
theorem inv_cstr {C : MC} {i : Str} {P : PySem.Expr → Prop} (E0 : PySem.Expr) (h : matchE C (.cstr i) E0 = true) (kk : ∀ j n p, (i == j) = true → P (.Constant (.str j) n p)) : P E0 :=
  wConst_el E0 h fun c n p h => cStr_el (P := fun c => P (.Constant c n p)) c h fun j h => kk j n p h
theorem inv_cbool {C : MC} {i : Bool} {P : PySem.Expr → Prop} (E0 : PySem.Expr) (h : matchE C (.cbool i) E0 = true) (kk : ∀ j n p, (i == j) = true → P (.Constant (.bool j) n p)) : P E0 :=
  wConst_el E0 h fun c n p h => cBool_el (P := fun c => P (.Constant c n p)) c h fun j h => kk j n p h
theorem inv_cnone {C : MC}  {P : PySem.Expr → Prop} (E0 : PySem.Expr) (h : matchE C (.cnone) E0 = true) (kk : ∀ n p, (true) = true → P (.Constant .none n p)) : P E0 :=
  wConst_el E0 h fun c n p h => cNone_el (P := fun c => P (.Constant c n p)) c h fun h => kk n p h
theorem inv_bin {C : MC} {op : Operator} {a b : ME} {P : PySem.Expr → Prop} (E0 : PySem.Expr) (h : matchE C (.bin op a b) E0 = true) (kk : ∀ l o r p, (op == o && matchE C a l && matchE C b r) = true → P (.BinOp l o r p)) : P E0 :=
  wBin_el E0 h fun l o r p h => kk l o r p h
theorem inv_neg {C : MC} {a : ME} {P : PySem.Expr → Prop} (E0 : PySem.Expr) (h : matchE C (.neg a) E0 = true) (kk : ∀ x p, (matchE C a x) = true → P (.UnaryOp .USub x p)) : P E0 :=
  wUn_el E0 h fun o x p h => uSub_el (P := fun o => P (.UnaryOp o x p)) o h fun h => kk x p h
theorem inv_nt {C : MC} {a : ME} {P : PySem.Expr → Prop} (E0 : PySem.Expr) (h : matchE C (.nt a) E0 = true) (kk : ∀ x p, (matchE C a x) = true → P (.UnaryOp .Not x p)) : P E0 :=
  wUn_el E0 h fun o x p h => uNot_el (P := fun o => P (.UnaryOp o x p)) o h fun h => kk x p h
theorem inv_and {C : MC} {a b : ME} {P : PySem.Expr → Prop} (E0 : PySem.Expr) (h : matchE C (.and a b) E0 = true) (kk : ∀ x y zs p, (matchE C a x && matchE C b (tailB .And y zs p)) = true → P (.BoolOp .And (x :: y :: zs) p)) : P E0 :=
  wBool_el E0 h fun o l p h => bAnd_el (P := fun o => P (.BoolOp o l p)) o h fun h => lc_el (P := fun l => P (.BoolOp (.And) l p)) l h fun x r h => lc_el (P := fun r => P (.BoolOp (.And) (x :: r) p)) r h fun y zs h => kk x y zs p h
theorem inv_or {C : MC} {a b : ME} {P : PySem.Expr → Prop} (E0 : PySem.Expr) (h : matchE C (.or a b) E0 = true) (kk : ∀ x y zs p, (matchE C a x && matchE C b (tailB .Or y zs p)) = true → P (.BoolOp .Or (x :: y :: zs) p)) : P E0 :=
  wBool_el E0 h fun o l p h => bOr_el (P := fun o => P (.BoolOp o l p)) o h fun h => lc_el (P := fun l => P (.BoolOp (.Or) l p)) l h fun x r h => lc_el (P := fun r => P (.BoolOp (.Or) (x :: r) p)) r h fun y zs h => kk x y zs p h
theorem inv_cmp {C : MC} {op : CmpOp} {a b : ME} {P : PySem.Expr → Prop} (E0 : PySem.Expr) (h : matchE C (.cmp op a b) E0 = true) (kk : ∀ l o r p, (op == o && matchE C a l && matchE C b r) = true → P (.Compare l [o] [r] p)) : P E0 :=
  wCmp_el E0 h fun l os rs p h => l1_el (P := fun os => P (.Compare l os rs p)) os h fun o h => l1_el (P := fun rs => P (.Compare l [o] rs p)) rs h fun r h => kk l o r p h
theorem inv_cmp2 {C : MC} {o1 o2 : CmpOp} {a b c : ME} {P : PySem.Expr → Prop} (E0 : PySem.Expr) (h : matchE C (.cmp2 o1 o2 a b c) E0 = true) (kk : ∀ l p1 p2 r1 r2 p, (o1 == p1 && o2 == p2 && matchE C a l && matchE C b r1 && matchE C c r2) = true → P (.Compare l [p1, p2] [r1, r2] p)) : P E0 :=
  wCmp_el E0 h fun l os rs p h => l2_el (P := fun os => P (.Compare l os rs p)) os h fun p1 p2 h => l2_el (P := fun rs => P (.Compare l [p1, p2] rs p)) rs h fun r1 r2 h => kk l p1 p2 r1 r2 p h
theorem inv_call {C : MC} {f : Nat} {as : MEs} {P : PySem.Expr → Prop} (E0 : PySem.Expr) (h : matchE C (.call f as) E0 = true) (kk : ∀ x px a args p, (C.fnames[f]? == some x && isGl C x && matchEs C as (a :: args) && decide (args.length < 20)) = true → P (.Call (.Name x px) (a :: args) [] p)) : P E0 :=
  wCall_el E0 h fun fn l ks p h => l0_el (P := fun ks => P (.Call fn l ks p)) ks h fun h => wName_el (P := fun fn => P (.Call fn l [] p)) fn h fun x px h => lc_el (P := fun l => P (.Call (.Name x px) l [] p)) l h fun a args h => kk x px a args p h
theorem inv_bi1 {C : MC} {b : B1} {a : ME} {P : PySem.Expr → Prop} (E0 : PySem.Expr) (h : matchE C (.bi1 b a) E0 = true) (kk : ∀ x px y p, (x == b1Name b && isGl C x && matchE C a y) = true → P (.Call (.Name x px) [y] [] p)) : P E0 :=
  wCall_el E0 h fun fn l ks p h => l0_el (P := fun ks => P (.Call fn l ks p)) ks h fun h => wName_el (P := fun fn => P (.Call fn l [] p)) fn h fun x px h => l1_el (P := fun l => P (.Call (.Name x px) l [] p)) l h fun y h => kk x px y p h
theorem inv_bi2 {C : MC} {b : B2} {a c : ME} {P : PySem.Expr → Prop} (E0 : PySem.Expr) (h : matchE C (.bi2 b a c) E0 = true) (kk : ∀ x px y z p, (x == b2Name b && isGl C x && matchE C a y && matchE C c z) = true → P (.Call (.Name x px) [y, z] [] p)) : P E0 :=
  wCall_el E0 h fun fn l ks p h => l0_el (P := fun ks => P (.Call fn l ks p)) ks h fun h => wName_el (P := fun fn => P (.Call fn l [] p)) fn h fun x px h => l2_el (P := fun l => P (.Call (.Name x px) l [] p)) l h fun y z h => kk x px y z p h
theorem inv_isi {C : MC} {a : ME} {t : Ty} {P : PySem.Expr → Prop} (E0 : PySem.Expr) (h : matchE C (.isi a t) E0 = true) (kk : ∀ x px y z pz p, (x == ("isinstance" : Str) && isGl C x && matchE C a y && plainTy t && z == tyName t && isGl C z) = true → P (.Call (.Name x px) [y, .Name z pz] [] p)) : P E0 :=
  wCall_el E0 h fun fn l ks p h => l0_el (P := fun ks => P (.Call fn l ks p)) ks h fun h => wName_el (P := fun fn => P (.Call fn l [] p)) fn h fun x px h => l2_el (P := fun l => P (.Call (.Name x px) l [] p)) l h fun y zz h => wName_el (P := fun zz => P (.Call (.Name x px) [y, zz] [] p)) zz h fun z pz h => kk x px y z pz p h
theorem inv_find {C : MC} {a b : ME} {P : PySem.Expr → Prop} (E0 : PySem.Expr) (h : matchE C (.find a b) E0 = true) (kk : ∀ o n ap y cp, ((ap.endLine == cp.line) && n == ("find" : Str) && matchE C a o && matchE C b y) = true → P (.Call (.Attribute o n ap) [y] [] cp)) : P E0 :=
  wCall_el E0 h fun fn l ks cp h => l0_el (P := fun ks => P (.Call fn l ks cp)) ks h fun h => wAttr_el (P := fun fn => P (.Call fn l [] cp)) fn h fun o n ap h => l1_el (P := fun l => P (.Call (.Attribute o n ap) l [] cp)) l h fun y h => kk o n ap y cp h
theorem inv_idx {C : MC} {a i : ME} {P : PySem.Expr → Prop} (E0 : PySem.Expr) (h : matchE C (.idx a i) E0 = true) (kk : ∀ v s p, (matchE C a v && matchE C i s) = true → P (.Subscript v s p)) : P E0 :=
  wSub_el E0 h fun v s p h => kk v s p h
theorem inv_slice {C : MC} {a : ME} {lo hi : MO} {P : PySem.Expr → Prop} (E0 : PySem.Expr) (h : matchE C (.slice a lo hi) E0 = true) (kk : ∀ v l u ps p, (matchE C a v && matchO C lo l && matchO C hi u) = true → P (.Subscript v (.Slice l u none ps) p)) : P E0 :=
  wSub_el E0 h fun v sl p h => wSlice_el (P := fun sl => P (.Subscript v sl p)) sl h fun l u st ps h => o0_el (P := fun st => P (.Subscript v (.Slice l u st ps) p)) st h fun h => kk v l u ps p h
theorem inv_tupD {C : MC} {as : MEs} {P : PySem.Expr → Prop} (E0 : PySem.Expr) (h : matchE C (.tupD as) E0 = true) (kk : ∀ es k p, (matchEs C as es) = true → P (.Tuple es k p)) : P E0 :=
  wTuple_el E0 h fun es k p h => kk es k p h
theorem inv_lstD {C : MC} {as : MEs} {P : PySem.Expr → Prop} (E0 : PySem.Expr) (h : matchE C (.lstD as) E0 = true) (kk : ∀ es p, (matchEs C as es) = true → P (.List es p)) : P E0 :=
  wList_el E0 h fun es p h => kk es p h
theorem inv_dctD {C : MC}  {P : PySem.Expr → Prop} (E0 : PySem.Expr) (h : matchE C (.dctD) E0 = true) (kk : ∀ p, (true) = true → P (.Dict [] [] p)) : P E0 :=
  wDict_el E0 h fun ks vs p h => l0_el (P := fun ks => P (.Dict ks vs p)) ks h fun h => l0_el (P := fun vs => P (.Dict [] vs p)) vs h fun h => kk p h
noncomputable def wHd (h : ExceptHandler) (k : Option PySem.Expr → Option Str → List Stmt → Pos → Bool) : Bool := match h with | .ExceptHandler t n b p => k t n b p
noncomputable def hdVar (C : MC) (i : Option Nat) (n : Option Str) : Bool := match i with | none => n.isNone | some k => o1 n fun y => isLoc C k y
noncomputable def dealS1 (C : MC) (i : Nat) (st : Stmt) : Bool := sAssign st fun ts v p => l1 ts fun t => wName t fun x px => isSt C i x && matchE C (.lstD (.cons .dctD (.cons .dctD .nil))) v
noncomputable def dealSa (C : MC) (i cc j k : Nat) (st : Stmt) : Bool := sAssign st fun ts v p => l1 ts fun t => wSub t fun ob s ps => wSub ob fun ob2 s2 ps2 => wName ob2 fun z pz => isLoc C i z && matchE C (.bin .Mod (.var cc) (.cint 2)) s2 && matchE C (.var j) s && matchE C (.var k) v
noncomputable def dealSb (C : MC) (cc : Nat) (st : Stmt) : Bool := sAssign st fun ts v p => l1 ts fun t => wName t fun x px => isSt C cc x && matchE C (.bin .FloorDiv (.var cc) (.cint 2)) v
noncomputable def dealS3 (C : MC) (i cc j k : Nat) (e : ME) (st : Stmt) : Bool := sFor st fun t it body els p => l0 els <| wTuple t fun ts kt pt => l2 ts fun t1 t2 => wName t1 fun x px => wName t2 fun y py => wCall it fun fn l ks cp => l0 ks <| l0 l <| wAttr fn fun o n ap => l2 body fun s1 s2 => (ap.endLine == cp.line) && isSt C j x && isSt C k y && n == ("items" : Str) && matchE C e o && dealSa C i cc j k s1 && dealSb C cc s2 && !(i == cc) && !(i == j) && !(i == k) && !(cc == j) && !(cc == k) && !(j == k)
noncomputable def dealS2 (C : MC) (cc : Nat) (e0 : ME) (st : Stmt) : Bool := sAssign st fun ts v p => l1 ts fun t => wName t fun x px => isSt C cc x && matchE C e0 v && notComp e0
mutual
noncomputable def matchS (C : MC) : MS → Stmt → Bool
  | .skip, _ => false
  | .seq _ _, _ => false
  | .asg i e, st => (sAssign st fun ts v p => l1 ts fun t => wName t fun x px => isSt C i x && matchE C e v && notComp e)
  | .asgOwn i e, st => (sAssign st fun ts v p => l1 ts fun t => wName t fun x px => isSt C i x && matchE C e v && notComp e)
  | .asgFresh i f as, st => (sAssign st fun ts v p => l1 ts fun t => wName t fun x px => isSt C i x && matchE C (.call f as) v)
  | .append i e, st => (sExpr st fun c pos => wCall c fun fn l ks cp => l0 ks <| wAttr fn fun ob n ap => wName ob fun x px => l1 l fun y => (ap.endLine == cp.line) && isLoc C i x && n == ("append" : Str) && matchE C e y)
  | .store i k v, st => (sAssign st fun ts y p => l1 ts fun t => wSub t fun ob s ps => wName ob fun x px => isLoc C i x && matchE C k s && matchE C v y && notComp v)
  | .pop i k, st => (sExpr st fun c pos => wCall c fun fn l ks cp => l0 ks <| wAttr fn fun ob n ap => wName ob fun x px => l2 l fun y z => wConst z fun cc nn pn => cNone cc <| (ap.endLine == cp.line) && isLoc C i x && n == ("pop" : Str) && matchE C k y)
  | .update i e, st => (sExpr st fun c pos => wCall c fun fn l ks cp => l0 ks <| wAttr fn fun ob n ap => wName ob fun x px => l1 l fun y => (ap.endLine == cp.line) && isLoc C i x && n == ("update" : Str) && matchE C e y)
  | .ite c a b, st => (sIf st fun t x y p => matchE C c t && matchB C a x && matchB C b y)
  | .forL i e b, st => (sFor st fun t it body els p => l0 els <| wName t fun x px => isSt C i x && matchE C e it && matchB C b body)
  | .forR i lo hi b, st => (sFor st fun t it body els p => l0 els <| wName t fun x px => wCall it fun fn l ks pc => l0 ks <| wName fn fun r pr => lc l fun u us => isSt C i x && r == ("range" : Str) && isGl C r && matchB C b body && (l0 us (isZero lo && matchE C hi u) || l1 us fun v => matchE C lo u && matchE C hi v))
  | .loop c b, st => (sWhile st fun t body els p => l0 els <| matchE C c t && matchB C b body)
  | .ret e, st => (sReturn st fun v p => o1 v fun w => matchE C e w)
  | .retX e, st => (sReturn st fun v p => o1 v fun w => matchE C e w)
  | .raise t e, st => (sRaise st fun ee c p => o1 ee fun ex => o0 c <| wCall ex fun fn l ks pc => l0 ks <| wName fn fun x px => l1 l fun y => x == tyName t && isGl C x && matchE C e y && C.xn.contains x)
  | .deal _ _ _ _ _ _ _, _ => false
  | .tryx b hs, st => (sTry st fun body handlers o f p => l0 o <| l0 f <| matchB C b body && matchH C hs handlers && !handlers.isEmpty)
noncomputable def matchB (C : MC) : MS → List Stmt → Bool
  | .skip, l => l.isEmpty
  | .seq a b, l => lc l fun st rest => matchS C a st && matchB C b rest
  | .deal i cc j k e0 e b, l => lc l fun s1 r1 => lc r1 fun s2 r2 => lc r2 fun s3 r3 => dealS1 C i s1 && dealS2 C cc e0 s2 && dealS3 C i cc j k e s3 && matchB C b r3
  | _, _ => false
noncomputable def matchH (C : MC) : MHs → List ExceptHandler → Bool
  | .nil, l => l.isEmpty
  | .cons t i b hs, l => lc l fun h rest => wHd h fun ty n body _ => o1 ty fun tn => wName tn fun x _ => x == hdName t && isGl C x && C.xn.contains x && hdVar C i n && matchB C b body && !body.isEmpty && matchH C hs rest
end
theorem inv_asg {C : MC} {i : Nat} {e : ME} {P : Stmt → Prop} (E0 : Stmt) (h : matchS C (.asg i e) E0 = true) (kk : ∀ x px v p, (isSt C i x && matchE C e v && notComp e) = true → P (.Assign [.Name x px] v p)) : P E0 :=
  sAssign_el E0 h fun ts v p h => l1_el (P := fun ts => P (.Assign ts v p)) ts h fun t h => wName_el (P := fun t => P (.Assign [t] v p)) t h fun x px h => kk x px v p h
theorem inv_asgOwn {C : MC} {i : Nat} {e : ME} {P : Stmt → Prop} (E0 : Stmt) (h : matchS C (.asgOwn i e) E0 = true) (kk : ∀ x px v p, (isSt C i x && matchE C e v && notComp e) = true → P (.Assign [.Name x px] v p)) : P E0 :=
  sAssign_el E0 h fun ts v p h => l1_el (P := fun ts => P (.Assign ts v p)) ts h fun t h => wName_el (P := fun t => P (.Assign [t] v p)) t h fun x px h => kk x px v p h
theorem inv_asgFresh {C : MC} {i f : Nat} {as : MEs} {P : Stmt → Prop} (E0 : Stmt) (h : matchS C (.asgFresh i f as) E0 = true) (kk : ∀ x px v p, (isSt C i x && matchE C (.call f as) v) = true → P (.Assign [.Name x px] v p)) : P E0 :=
  sAssign_el E0 h fun ts v p h => l1_el (P := fun ts => P (.Assign ts v p)) ts h fun t h => wName_el (P := fun t => P (.Assign [t] v p)) t h fun x px h => kk x px v p h
theorem inv_append {C : MC} {i : Nat} {e : ME} {P : Stmt → Prop} (E0 : Stmt) (h : matchS C (.append i e) E0 = true) (kk : ∀ x px n ap y cp pos, ((ap.endLine == cp.line) && isLoc C i x && n == ("append" : Str) && matchE C e y) = true → P (.Expr (.Call (.Attribute (.Name x px) n ap) [y] [] cp) pos)) : P E0 :=
  sExpr_el E0 h fun c pos h => wCall_el (P := fun c => P (.Expr c pos)) c h fun fn l ks cp h => l0_el (P := fun ks => P (.Expr (.Call fn l ks cp) pos)) ks h fun h => wAttr_el (P := fun fn => P (.Expr (.Call fn l [] cp) pos)) fn h fun ob n ap h => wName_el (P := fun ob => P (.Expr (.Call (.Attribute ob n ap) l [] cp) pos)) ob h fun x px h => l1_el (P := fun l => P (.Expr (.Call (.Attribute (.Name x px) n ap) l [] cp) pos)) l h fun y h => kk x px n ap y cp pos h
theorem inv_store {C : MC} {i : Nat} {k v : ME} {P : Stmt → Prop} (E0 : Stmt) (h : matchS C (.store i k v) E0 = true) (kk : ∀ x px s ps y p, (isLoc C i x && matchE C k s && matchE C v y && notComp v) = true → P (.Assign [.Subscript (.Name x px) s ps] y p)) : P E0 :=
  sAssign_el E0 h fun ts y p h => l1_el (P := fun ts => P (.Assign ts y p)) ts h fun t h => wSub_el (P := fun t => P (.Assign [t] y p)) t h fun ob s ps h => wName_el (P := fun ob => P (.Assign [(.Subscript ob s ps)] y p)) ob h fun x px h => kk x px s ps y p h
theorem inv_pop {C : MC} {i : Nat} {k : ME} {P : Stmt → Prop} (E0 : Stmt) (h : matchS C (.pop i k) E0 = true) (kk : ∀ x px n ap y nn pn cp pos, ((ap.endLine == cp.line) && isLoc C i x && n == ("pop" : Str) && matchE C k y) = true → P (.Expr (.Call (.Attribute (.Name x px) n ap) [y, .Constant .none nn pn] [] cp) pos)) : P E0 :=
  sExpr_el E0 h fun c pos h => wCall_el (P := fun c => P (.Expr c pos)) c h fun fn l ks cp h => l0_el (P := fun ks => P (.Expr (.Call fn l ks cp) pos)) ks h fun h => wAttr_el (P := fun fn => P (.Expr (.Call fn l [] cp) pos)) fn h fun ob n ap h => wName_el (P := fun ob => P (.Expr (.Call (.Attribute ob n ap) l [] cp) pos)) ob h fun x px h => l2_el (P := fun l => P (.Expr (.Call (.Attribute (.Name x px) n ap) l [] cp) pos)) l h fun y z h => wConst_el (P := fun z => P (.Expr (.Call (.Attribute (.Name x px) n ap) [y, z] [] cp) pos)) z h fun cc nn pn h => cNone_el (P := fun cc => P (.Expr (.Call (.Attribute (.Name x px) n ap) [y, (.Constant cc nn pn)] [] cp) pos)) cc h fun h => kk x px n ap y nn pn cp pos h
theorem inv_update {C : MC} {i : Nat} {e : ME} {P : Stmt → Prop} (E0 : Stmt) (h : matchS C (.update i e) E0 = true) (kk : ∀ x px n ap y cp pos, ((ap.endLine == cp.line) && isLoc C i x && n == ("update" : Str) && matchE C e y) = true → P (.Expr (.Call (.Attribute (.Name x px) n ap) [y] [] cp) pos)) : P E0 :=
  sExpr_el E0 h fun c pos h => wCall_el (P := fun c => P (.Expr c pos)) c h fun fn l ks cp h => l0_el (P := fun ks => P (.Expr (.Call fn l ks cp) pos)) ks h fun h => wAttr_el (P := fun fn => P (.Expr (.Call fn l [] cp) pos)) fn h fun ob n ap h => wName_el (P := fun ob => P (.Expr (.Call (.Attribute ob n ap) l [] cp) pos)) ob h fun x px h => l1_el (P := fun l => P (.Expr (.Call (.Attribute (.Name x px) n ap) l [] cp) pos)) l h fun y h => kk x px n ap y cp pos h
theorem inv_ite {C : MC} {c : ME} {a b : MS} {P : Stmt → Prop} (E0 : Stmt) (h : matchS C (.ite c a b) E0 = true) (kk : ∀ t x y p, (matchE C c t && matchB C a x && matchB C b y) = true → P (.If t x y p)) : P E0 :=
  sIf_el E0 h fun t x y p h => kk t x y p h
theorem inv_forL {C : MC} {i : Nat} {e : ME} {b : MS} {P : Stmt → Prop} (E0 : Stmt) (h : matchS C (.forL i e b) E0 = true) (kk : ∀ x px it body p, (isSt C i x && matchE C e it && matchB C b body) = true → P (.For (.Name x px) it body [] p)) : P E0 :=
  sFor_el E0 h fun t it body els p h => l0_el (P := fun els => P (.For t it body els p)) els h fun h => wName_el (P := fun t => P (.For t it body [] p)) t h fun x px h => kk x px it body p h
theorem inv_forR {C : MC} {i : Nat} {lo hi : ME} {b : MS} {P : Stmt → Prop} (E0 : Stmt) (h : matchS C (.forR i lo hi b) E0 = true) (kk : ∀ x px r pr u us pc body p, (isSt C i x && r == ("range" : Str) && isGl C r && matchB C b body && (l0 us (isZero lo && matchE C hi u) || l1 us fun v => matchE C lo u && matchE C hi v)) = true → P (.For (.Name x px) (.Call (.Name r pr) (u :: us) [] pc) body [] p)) : P E0 :=
  sFor_el E0 h fun t it body els p h => l0_el (P := fun els => P (.For t it body els p)) els h fun h => wName_el (P := fun t => P (.For t it body [] p)) t h fun x px h => wCall_el (P := fun it => P (.For (.Name x px) it body [] p)) it h fun fn l ks pc h => l0_el (P := fun ks => P (.For (.Name x px) (.Call fn l ks pc) body [] p)) ks h fun h => wName_el (P := fun fn => P (.For (.Name x px) (.Call fn l [] pc) body [] p)) fn h fun r pr h => lc_el (P := fun l => P (.For (.Name x px) (.Call (.Name r pr) l [] pc) body [] p)) l h fun u us h => kk x px r pr u us pc body p h
theorem inv_loop {C : MC} {c : ME} {b : MS} {P : Stmt → Prop} (E0 : Stmt) (h : matchS C (.loop c b) E0 = true) (kk : ∀ t body p, (matchE C c t && matchB C b body) = true → P (.While t body [] p)) : P E0 :=
  sWhile_el E0 h fun t body els p h => l0_el (P := fun els => P (.While t body els p)) els h fun h => kk t body p h
theorem inv_ret {C : MC} {e : ME} {P : Stmt → Prop} (E0 : Stmt) (h : matchS C (.ret e) E0 = true) (kk : ∀ w p, (matchE C e w) = true → P (.Return (some w) p)) : P E0 :=
  sReturn_el E0 h fun v p h => o1_el (P := fun v => P (.Return v p)) v h fun w h => kk w p h
theorem inv_retX {C : MC} {e : ME} {P : Stmt → Prop} (E0 : Stmt) (h : matchS C (.retX e) E0 = true) (kk : ∀ w p, (matchE C e w) = true → P (.Return (some w) p)) : P E0 :=
  sReturn_el E0 h fun v p h => o1_el (P := fun v => P (.Return v p)) v h fun w h => kk w p h
theorem inv_deal1 {C : MC} {i : Nat} {P : Stmt → Prop} (E0 : Stmt) (h : dealS1 C i E0 = true) (kk : ∀ x px v p, (isSt C i x && matchE C (.lstD (.cons .dctD (.cons .dctD .nil))) v) = true → P (.Assign [.Name x px] v p)) : P E0 :=
  sAssign_el E0 h fun ts v p h => l1_el (P := fun ts => P (.Assign ts v p)) ts h fun t h => wName_el (P := fun t => P (.Assign [t] v p)) t h fun x px h => kk x px v p h
theorem inv_deal2 {C : MC} {cc : Nat} {e0 : ME} {P : Stmt → Prop} (E0 : Stmt) (h : dealS2 C cc e0 E0 = true) (kk : ∀ x px v p, (isSt C cc x && matchE C e0 v && notComp e0) = true → P (.Assign [.Name x px] v p)) : P E0 :=
  sAssign_el E0 h fun ts v p h => l1_el (P := fun ts => P (.Assign ts v p)) ts h fun t h => wName_el (P := fun t => P (.Assign [t] v p)) t h fun x px h => kk x px v p h
theorem inv_dealb {C : MC} {cc : Nat} {P : Stmt → Prop} (E0 : Stmt) (h : dealSb C cc E0 = true) (kk : ∀ x px v p, (isSt C cc x && matchE C (.bin .FloorDiv (.var cc) (.cint 2)) v) = true → P (.Assign [.Name x px] v p)) : P E0 :=
  sAssign_el E0 h fun ts v p h => l1_el (P := fun ts => P (.Assign ts v p)) ts h fun t h => wName_el (P := fun t => P (.Assign [t] v p)) t h fun x px h => kk x px v p h
theorem inv_deala {C : MC} {i cc j k : Nat} {P : Stmt → Prop} (E0 : Stmt) (h : dealSa C i cc j k E0 = true) (kk : ∀ z pz s2 ps2 s ps v p, (isLoc C i z && matchE C (.bin .Mod (.var cc) (.cint 2)) s2 && matchE C (.var j) s && matchE C (.var k) v) = true → P (.Assign [.Subscript (.Subscript (.Name z pz) s2 ps2) s ps] v p)) : P E0 :=
  sAssign_el E0 h fun ts v p h => l1_el (P := fun ts => P (.Assign ts v p)) ts h fun t h => wSub_el (P := fun t => P (.Assign [t] v p)) t h fun ob s ps h => wSub_el (P := fun ob => P (.Assign [.Subscript ob s ps] v p)) ob h fun ob2 s2 ps2 h => wName_el (P := fun ob2 => P (.Assign [.Subscript (.Subscript ob2 s2 ps2) s ps] v p)) ob2 h fun z pz h => kk z pz s2 ps2 s ps v p h
theorem inv_deal3 {C : MC} {i cc j k : Nat} {e : ME} {P : Stmt → Prop} (E0 : Stmt) (h : dealS3 C i cc j k e E0 = true) (kk : ∀ x px y py kt pt o n ap cp s1 s2 p, ((ap.endLine == cp.line) && isSt C j x && isSt C k y && n == ("items" : Str) && matchE C e o && dealSa C i cc j k s1 && dealSb C cc s2 && !(i == cc) && !(i == j) && !(i == k) && !(cc == j) && !(cc == k) && !(j == k)) = true → P (.For (.Tuple [.Name x px, .Name y py] kt pt) (.Call (.Attribute o n ap) [] [] cp) [s1, s2] [] p)) : P E0 :=
  sFor_el E0 h fun t it body els p h => l0_el (P := fun els => P (.For t it body els p)) els h fun h => wTuple_el (P := fun t => P (.For t it body [] p)) t h fun ts kt pt h => l2_el (P := fun ts => P (.For (.Tuple ts kt pt) it body [] p)) ts h fun t1 t2 h => wName_el (P := fun t1 => P (.For (.Tuple [t1, t2] kt pt) it body [] p)) t1 h fun x px h => wName_el (P := fun t2 => P (.For (.Tuple [(.Name x px), t2] kt pt) it body [] p)) t2 h fun y py h => wCall_el (P := fun it => P (.For (.Tuple [(.Name x px), (.Name y py)] kt pt) it body [] p)) it h fun fn l ks cp h => l0_el (P := fun ks => P (.For (.Tuple [(.Name x px), (.Name y py)] kt pt) (.Call fn l ks cp) body [] p)) ks h fun h => l0_el (P := fun l => P (.For (.Tuple [(.Name x px), (.Name y py)] kt pt) (.Call fn l [] cp) body [] p)) l h fun h => wAttr_el (P := fun fn => P (.For (.Tuple [(.Name x px), (.Name y py)] kt pt) (.Call fn [] [] cp) body [] p)) fn h fun o n ap h => l2_el (P := fun body => P (.For (.Tuple [(.Name x px), (.Name y py)] kt pt) (.Call (.Attribute o n ap) [] [] cp) body [] p)) body h fun s1 s2 h => kk x px y py kt pt o n ap cp s1 s2 p h
theorem inv_raise {C : MC} {t : Ty} {e : ME} {P : Stmt → Prop} (E0 : Stmt) (h : matchS C (.raise t e) E0 = true) (kk : ∀ x px y pc p, (x == tyName t && isGl C x && matchE C e y && C.xn.contains x) = true → P (.Raise (some (.Call (.Name x px) [y] [] pc)) none p)) : P E0 :=
  sRaise_el E0 h fun ee c p h => o1_el (P := fun ee => P (.Raise ee c p)) ee h fun ex h => o0_el (P := fun c => P (.Raise (some ex) c p)) c h fun h => wCall_el (P := fun ex => P (.Raise (some ex) none p)) ex h fun fn l ks pc h => l0_el (P := fun ks => P (.Raise (some (.Call fn l ks pc)) none p)) ks h fun h => wName_el (P := fun fn => P (.Raise (some (.Call fn l [] pc)) none p)) fn h fun x px h => l1_el (P := fun l => P (.Raise (some (.Call (.Name x px) l [] pc)) none p)) l h fun y h => kk x px y pc p h
theorem inv_tryx {C : MC} {b : MS} {hs : MHs} {P : Stmt → Prop} (E0 : Stmt) (h : matchS C (.tryx b hs) E0 = true) (kk : ∀ body handlers p, (matchB C b body && matchH C hs handlers && !handlers.isEmpty) = true → P (.Try body handlers [] [] p)) : P E0 :=
  sTry_el E0 h fun body handlers o f p h => l0_el (P := fun o => P (.Try body handlers o f p)) o h fun h => l0_el (P := fun f => P (.Try body handlers [] f p)) f h fun h => kk body handlers p h
end Mine
-- MOps
set_option autoImplicit false
set_option linter.all false
namespace Mine
open PySem PyProof.Rows

noncomputable abbrev Cont (prog : Program) (w : World) (X : Addr → Prop) (s : Shared) (d : D) (Q : Value → Shared → Prop) : Prop :=
  ∀ v h' tk, Ext s.heap h' → Rep prog w X h' v d → Q v { s with heap := h', toks := tk }
section
variable {prog : Program} {w : World} {A : Around} {E : Value → Shared → Prop} {s : Shared} {X : Addr → Prop} {Q : Value → Shared → Prop} {x y d : D} {a b : Value}

theorem Cont.here (k : Cont prog w X s d Q) {v : Value} (r : Rep prog w X s.heap v d) (tk : Nat) : Q v { s with toks := tk } := k v s.heap tk (.refl _) r
theorem Cont.same (k : Cont prog w X s d Q) {v : Value} (r : Rep prog w X s.heap v d) : Q v s := k v s.heap s.toks (.refl _) r
theorem small64 {i : Int} (h : smallInt i = true) : i.natAbs < 1267650600228229401496703205376 := of_decide_eq_true h
theorem mulOk {i j : Int} (h : smallInt i = true) (h' : smallInt j = true) : IntMulOk i j := by
  have q : ∀ {i : Int}, smallInt i = true → Builtin.Int.intBits i ≤ 100 := fun {i} h => by
    have hn := small64 h
    unfold Builtin.Int.intBits
    split
    · exact Nat.zero_le _
    · rcases Nat.eq_zero_or_pos i.natAbs with h0 | hp
      · rw [h0]; decide
      · have : i.natAbs.log2 < 100 := (Nat.log2_lt (Nat.ne_of_gt hp)).mpr hn
        omega
  have q1 := q h
  have q2 := q h'
  unfold IntMulOk
  have : Builtin.Int.intTooBig (Builtin.Int.intBits i + Builtin.Int.intBits j) = false := by
    unfold Builtin.Int.intTooBig
    simp only [decide_eq_false_iff_not]
    first | (simp only [bitsLine]; omega) | omega
  rw [this]; simp
theorem iteok {c : Prop} [Decidable c] {v d : D} (e : (if c then R.ok v else R.stuck) = .ok d) : c ∧ v = d := by
  by_cases h : c
  · rw [if_pos h] at e; exact ⟨h, R.ok.inj e⟩
  · rw [if_neg h] at e; cases e
theorem iteno {c : Prop} [Decidable c] {v d : D} (e : (if c then R.stuck else R.ok v) = .ok d) : ¬ c ∧ v = d := by
  by_cases h : c
  · rw [if_pos h] at e; cases e
  · rw [if_neg h] at e; exact ⟨h, R.ok.inj e⟩
theorem asNum_of {x : D} {a : Int} (h : asNum x = some a) : x = .int a := by cases x <;> first | (cases h; rfl) | cases h
theorem asTxt_of {x : D} {a : Str} (h : asTxt x = some a) : x = .str a := by cases x <;> first | (cases h; rfl) | cases h
theorem asLst_of {x : D} {a : List D} (h : asLst x = some a) : x = .list a := by cases x <;> first | (cases h; rfl) | cases h
theorem ints_of {f : Int → Int → R D} {x y d : D} (e : intsD x y f = .ok d) : ∃ i j, x = .int i ∧ y = .int j ∧ f i j = .ok d := by
  unfold intsD at e
  cases hx : asNum x with
  | none => rw [hx] at e; cases e
  | some i =>
    rw [hx] at e
    cases hy : asNum y with
    | none => rw [hy] at e; cases e
    | some j => rw [hy] at e; exact ⟨i, j, asNum_of hx, asNum_of hy, e⟩
theorem add_of {x y d : D} (e : addD x y = .ok d) : (∃ i j, x = .int i ∧ y = .int j ∧ PyData.int (i + j) = d) ∨ (∃ i j, x = .str i ∧ y = .str j ∧ slen i + slen j ≤ big ∧ PyData.str (sapp i j) = d) ∨ ∃ i j, x = .list i ∧ y = .list j ∧ i.length + j.length ≤ big ∧ PyData.list (i ++ j) = d := by
  unfold addD at e
  cases hx : asTxt x with
  | some i =>
    rw [hx] at e
    cases hy : asTxt y with
    | none => rw [hy] at e; cases e
    | some j => rw [hy] at e; exact .inr (.inl ⟨i, j, asTxt_of hx, asTxt_of hy, iteok e⟩)
  | none =>
    rw [hx] at e
    cases hx : asNum x with
    | some i =>
      rw [hx] at e
      cases hy : asNum y with
      | none => rw [hy] at e; cases e
      | some j => rw [hy] at e; exact .inl ⟨i, j, asNum_of hx, asNum_of hy, R.ok.inj e⟩
    | none =>
      rw [hx] at e
      change lstsD x y = _ at e
      unfold lstsD at e
      cases hx : asLst x with
      | none => rw [hx] at e; cases e
      | some i =>
        rw [hx] at e
        cases hy : asLst y with
        | none => rw [hy] at e; cases e
        | some j => rw [hy] at e; exact .inr (.inr ⟨i, j, asLst_of hx, asLst_of hy, iteok e⟩)
theorem bin_sound {op : Operator} (hX : XOk X s.heap) (ra : RepO prog w X s.heap a x) (rb : RepO prog w X s.heap b y) (e : binD op x y = .ok d) (k : Cont prog w X s d Q) : wpAny (model prog w) A (binaryOp op a b) Q E s := by
  cases op with
  | Add =>
    rcases add_of e with ⟨i, j, rfl, rfl, rfl⟩ | ⟨i, j, rfl, rfl, hs, rfl⟩ | ⟨l, l', rfl, rfl, hs, rfl⟩
    · obtain ⟨_, rfl⟩ := ra.int_inv; obtain ⟨_, rfl⟩ := rb.int_inv
      exact add_int (k.here (.int _ _) _)
    · obtain ⟨_, rfl⟩ := ra.str_inv; obtain ⟨_, rfl⟩ := rb.str_inv
      exact add_str (fun t' tk => k.here (.str _ _) tk) (by
        simp only [slen, big] at hs
        rw [sizeLine_eq]
        show Array.size _ + Array.size _ ≤ _
        omega)
    · obtain ⟨c, vs, n, rfl, hg, r1⟩ := ra.list_inv
      obtain ⟨c', vs', n', rfl, hg', r2⟩ := rb.list_inv
      refine PySem.P.add_list (n := n) (n2 := n') hg hg' ?_ (by
        have := r1.length; have := r2.length
        simp only [List.size_toArray, big] at *
        rw [sizeLine_eq]; omega)
      refine k _ _ _ (Ext.push _ _) ?_
      exact .list (n := 0) hX.new (by simpa using Heap.get?_push_size _ rfl) ((r1.ext (Ext.push _ _)).append (r2.ext (Ext.push _ _)))
  | Sub =>
    obtain ⟨i, j, rfl, rfl, e⟩ := ints_of e
    obtain ⟨_, rfl⟩ := ra.int_inv; obtain ⟨_, rfl⟩ := rb.int_inv
    cases e; exact sub_int (k.here (.int _ _) _)
  | Mult =>
    obtain ⟨i, j, rfl, rfl, e⟩ := ints_of e
    obtain ⟨_, rfl⟩ := ra.int_inv; obtain ⟨_, rfl⟩ := rb.int_inv
    obtain ⟨hs, rfl⟩ := iteok e
    have hs := Bool.and_eq_true_iff.mp hs
    exact mul_int (k.here (.int _ _) _) (mulOk hs.1 hs.2)
  | FloorDiv =>
    obtain ⟨i, j, rfl, rfl, e⟩ := ints_of e
    obtain ⟨_, rfl⟩ := ra.int_inv; obtain ⟨_, rfl⟩ := rb.int_inv
    obtain ⟨hs, rfl⟩ := iteok e
    simp only [Bool.and_eq_true, Bool.not_eq_true', beq_eq_false_iff_ne] at hs
    refine floordiv_int hs.2 (k.here (.int _ _) _) (Or.inl (PyProof.noPylong_of_log2 ?_))
    have hn := small64 hs.1.2
    rcases Nat.eq_zero_or_pos j.natAbs with h0 | hp
    · rw [h0]; decide +kernel
    · have : j.natAbs.log2 < 100 := (Nat.log2_lt (Nat.ne_of_gt hp)).mpr hn
      omega
  | Mod =>
    obtain ⟨i, j, rfl, rfl, e⟩ := ints_of e
    obtain ⟨_, rfl⟩ := ra.int_inv; obtain ⟨_, rfl⟩ := rb.int_inv
    obtain ⟨hs, rfl⟩ := iteno e
    exact mod_int' (by simpa using hs) (k.here (.int _ _) _)
  | _ => cases e
end
end Mine
-- MOps2
set_option autoImplicit false
set_option linter.all false
namespace Mine
open PySem PyProof.Rows

section
variable {prog : Program} {w : World} {A : Around} {E : Value → Shared → Prop} {s : Shared} {X : Addr → Prop} {Q : Value → Shared → Prop} {x y d : D} {a b : Value}

noncomputable abbrev Roomy (A : Around) : Prop := A.units + 80 < cLine
theorem eqOk_lay {d : D} (h : eqOk d = true) : d.canLay0 = true := (Bool.and_eq_true_iff.mp h).1
theorem eqOk_depth {d : D} (h : eqOk d = true) : d.depth ≤ 64 := of_decide_eq_true (Bool.and_eq_true_iff.mp h).2
theorem roomMin {A : Around} {x y : D} (hu : Roomy A) (h : eqOk x = true) : A.units + min x.depth y.depth < cLine := by
  have h1 := eqOk_depth h
  have h2 : min x.depth y.depth ≤ x.depth := Nat.min_le_left _ _
  have : A.units + 80 < cLine := hu
  omega
theorem eq_sound (hu : Roomy A) (ra : RepO prog w X s.heap a x) (rb : RepO prog w X s.heap b y) (hx : eqOk x = true) (hy : eqOk y = true) (k : Q (.bool (PyData.eqv x y)) s) :
    wpAny (model prog w) A (compareOp .Eq a b) Q E s := by
  obtain ⟨as, r1⟩ := ra.reads (eqOk_lay hx)
  obtain ⟨bs, r2⟩ := rb.reads (eqOk_lay hy)
  exact SeqAt.compareEq_reads r1 r2 (eqOk_lay hx) (eqOk_lay hy) (roomMin hu hx) k
theorem ne_sound (hu : Roomy A) (ra : RepO prog w X s.heap a x) (rb : RepO prog w X s.heap b y) (hx : eqOk x = true) (hy : eqOk y = true) (k : Q (.bool (!PyData.eqv x y)) s) :
    wpAny (model prog w) A (compareOp .NotEq a b) Q E s := by
  obtain ⟨as, r1⟩ := ra.reads (eqOk_lay hx)
  obtain ⟨bs, r2⟩ := rb.reads (eqOk_lay hy)
  exact SeqAt.compareNe_reads r1 r2 (eqOk_lay hx) (eqOk_lay hy) (roomMin hu hx) k
theorem roomIn {A : Around} {xs : List D} {d : D} (hu : Roomy A) (hd : eqOk d = true) : A.units + 1 + min (PyData.depthAll xs) d.depth < cLine := by
  have h1 := eqOk_depth hd
  have h2 : min (PyData.depthAll xs) d.depth ≤ d.depth := Nat.min_le_right _ _
  have : A.units + 80 < cLine := hu
  omega
theorem layAll_list {l : List D} (h : eqOk (.list l) = true) : PyData.canLayAll0 l = true := by simpa [PyData.canLay0] using eqOk_lay h
theorem layAll_tuple {l : List D} (h : eqOk (.tuple l) = true) : PyData.canLayAll0 l = true := by simpa [PyData.canLay0] using eqOk_lay h
theorem one_of {c : Str} {k : Nat} (h : c.cps.toList = [k]) : c = ⟨#[k]⟩ := by
  obtain ⟨⟨l⟩⟩ := c
  cases h; rfl
theorem hasSign_eq (t : Str) (k : Nat) : hasSign t k = decide (k ∈ t.cps.toList) := by
  unfold hasSign
  rw [Bool.eq_iff_iff]; simp
theorem valueAt_dget {es : List (Str × Value)} {kv : List (D × D)} (r : PairsAre es kv) (k : Str) : (match dget k kv with | some d => ∃ v t, d = .int v ∧ valueAt es k = some (.int v t) | none => valueAt es k = none) := by
  induction r with
  | nil => simp [dget, valueAt]
  | @cons c v u es kv _ ih =>
    simp only [dget]
    by_cases h : c = k
    · subst h; simp [valueAt]
    · have hb : (c == k) = false := by simpa using h
      simp only [hb]
      have e : valueAt ((c, Value.int v u) :: es) k = valueAt es k := by simp [valueAt, h]
      rw [e]; exact ih
theorem yes_inv {r : R Bool} {d : D} (h : r.yes = .ok d) : ∃ b, r = .ok b ∧ d = .bool b := by
  cases r <;> first | exact ⟨_, rfl, (R.ok.inj h).symm⟩ | (cases h; done)
theorem no_inv {r : R Bool} {d : D} (h : r.no = .ok d) : ∃ b, r = .ok b ∧ d = .bool (!b) := by
  cases r <;> first | exact ⟨_, rfl, (R.ok.inj h).symm⟩ | (cases h; done)
theorem asStr_inv {x : D} {t : Str} (h : asStr x = some t) : x = .str t := by
  cases x <;> first | exact congrArg _ (Option.some.inj h) | (cases h; done)
theorem asInt_inv {x : D} {t : Int} (h : asInt x = some t) : x = .int t := by
  cases x <;> first | exact congrArg _ (Option.some.inj h) | (cases h; done)
theorem eqD_inv {x y : D} {b : Bool} (h : eqD x y = .ok b) : (∃ t u, x = .str t ∧ y = .str u ∧ b = (t == u)) ∨ (eqOk x = true ∧ eqOk y = true ∧ b = PyData.eqv x y) ∨ dictEq x y = .ok b := by
  unfold eqD at h
  split at h
  · rename_i t u h1 h2
    exact .inl ⟨t, u, asStr_inv h1, asStr_inv h2, (R.ok.inj h).symm⟩
  · split at h
    · rename_i hq
      rw [Bool.and_eq_true] at hq
      exact .inr (.inl ⟨hq.1, hq.2, (R.ok.inj h).symm⟩)
    · exact .inr (.inr h)
theorem ordD_inv {f : Int → Int → Bool} {x y d : D} (h : ordD f x y = .ok d) : ∃ i j, x = .int i ∧ y = .int j ∧ d = .bool (f i j) := by
  unfold ordD at h
  split at h
  · rename_i t u h1 h2
    exact ⟨t, u, asInt_inv h1, asInt_inv h2, (R.ok.inj h).symm⟩
  · cases h
theorem isD_inv {x y : D} {b : Bool} (h : isD x y = .ok b) : y = .none ∧ ((x = .none ∧ b = true) ∨ ((∃ l, x = .tuple l) ∧ b = false) ∨ ((∃ i, x = .int i) ∧ b = false)) := by
  cases y <;> first | (cases h; done) | skip
  refine ⟨rfl, ?_⟩
  cases x <;> first | (cases h; done) | exact .inl ⟨rfl, (R.ok.inj h).symm⟩ | exact .inr (.inl ⟨⟨_, rfl⟩, (R.ok.inj h).symm⟩) | exact .inr (.inr ⟨⟨_, rfl⟩, (R.ok.inj h).symm⟩)
theorem inD_inv {x y : D} {b : Bool} (h : inD x y = .ok b) : (∃ l, y = .list l ∧ eqOk x = true ∧ eqOk (.list l) = true ∧ b = l.any fun z => PyData.eqv z x) ∨ (∃ l, y = .tuple l ∧ eqOk x = true ∧ eqOk (.tuple l) = true ∧ b = l.any fun z => PyData.eqv z x) ∨
    (∃ k s, x = .str ⟨#[k]⟩ ∧ y = .str s ∧ b = hasSign s k) ∨ (∃ k d, x = .str k ∧ y = .dict d ∧ b = (dget k d).isSome) := by
  cases y with
  | list l =>
    simp only [inD] at h
    split at h
    · rename_i hq; rw [Bool.and_eq_true] at hq; exact .inl ⟨l, rfl, hq.1, hq.2, (R.ok.inj h).symm⟩
    · cases h
  | tuple l =>
    simp only [inD] at h
    split at h
    · rename_i hq; rw [Bool.and_eq_true] at hq; exact .inr (.inl ⟨l, rfl, hq.1, hq.2, (R.ok.inj h).symm⟩)
    · cases h
  | str s =>
    simp only [inD, signD] at h
    split at h
    · rename_i c hc
      split at h
      · rename_i k hk
        exact .inr (.inr (.inl ⟨k, s, by rw [asStr_inv hc, one_of hk], rfl, (R.ok.inj h).symm⟩))
      · cases h
    · cases h
  | dict d =>
    simp only [inD, keyD] at h
    split at h
    · rename_i c hc
      exact .inr (.inr (.inr ⟨c, d, asStr_inv hc, rfl, (R.ok.inj h).symm⟩))
    · cases h
  | _ => (cases h; done)
theorem in_sound {x y : D} {r : Bool} (hu : Roomy A) (ra : RepO prog w X s.heap a x) (rb : RepO prog w X s.heap b y) (e : inD x y = .ok r) : (Cont prog w X s (.bool r) Q → wpAny (model prog w) A (compareOp .In a b) Q E s) ∧ (Cont prog w X s (.bool (!r)) Q → wpAny (model prog w) A (compareOp .NotIn a b) Q E s) := by
  rcases inD_inv e with ⟨l, rfl, h1, h2, rfl⟩ | ⟨l, rfl, h1, h2, rfl⟩ | ⟨kk, t, rfl, rfl, rfl⟩ | ⟨kk, kv, rfl, rfl, rfl⟩
  · obtain ⟨as, r1⟩ := rb.reads (eqOk_lay h2)
    obtain ⟨bs, r2⟩ := ra.reads (eqOk_lay h1)
    exact ⟨fun k => SeqAt.in_list_reads r1 r2 (layAll_list h2) (eqOk_lay h1) (roomIn hu h1) (k.same (.bool _)), fun k => SeqAt.notIn_list_reads r1 r2 (layAll_list h2) (eqOk_lay h1) (roomIn hu h1) (k.same (.bool _))⟩
  · obtain ⟨as, r1⟩ := rb.reads (eqOk_lay h2)
    obtain ⟨bs, r2⟩ := ra.reads (eqOk_lay h1)
    exact ⟨fun k => SeqAt.in_tuple_reads r1 r2 (layAll_tuple h2) (eqOk_lay h1) (roomIn hu h1) (k.same (.bool _)), fun k => SeqAt.notIn_tuple_reads r1 r2 (layAll_tuple h2) (eqOk_lay h1) (roomIn hu h1) (k.same (.bool _))⟩
  · obtain ⟨_, rfl⟩ := ra.str_inv; obtain ⟨_, rfl⟩ := rb.str_inv
    refine ⟨fun k => in_str ?_, fun k => notIn_str ?_⟩
    · rw [StrLaws.found_one, ← hasSign_eq]; exact k.same (.bool _)
    · rw [StrLaws.found_one, ← hasSign_eq]; exact k.same (.bool _)
  · obtain ⟨_, rfl⟩ := ra.str_inv; obtain ⟨c, es, rfl, nx, dc, pr⟩ := rb.dict_inv
    have := valueAt_dget pr kk
    refine ⟨fun k => wpAny_in_of (strKind_is prog w kk _) nx dc.mapOf ?_, fun k => wpAny_notIn_of (strKind_is prog w kk _) nx dc.mapOf ?_⟩
    · cases hq : dget kk kv with
      | none => rw [hq] at this; rw [this]; exact k.here (by rw [hq]; exact .bool _) _
      | some d => rw [hq] at this; obtain ⟨v, t, _, e2⟩ := this; rw [e2]; exact k.here (by rw [hq]; exact .bool _) _
    · cases hq : dget kk kv with
      | none => rw [hq] at this; rw [this]; exact k.here (by rw [hq]; exact .bool _) _
      | some d => rw [hq] at this; obtain ⟨v, t, _, e2⟩ := this; rw [e2]; exact k.here (by rw [hq]; exact .bool _) _
theorem is_sound {x y : D} {r : Bool} (ra : RepO prog w X s.heap a x) (rb : RepO prog w X s.heap b y) (e : isD x y = .ok r) : (Cont prog w X s (.bool r) Q → wpAny (model prog w) A (compareOp .Is a b) Q E s) ∧ (Cont prog w X s (.bool (!r)) Q → wpAny (model prog w) A (compareOp .IsNot a b) Q E s) := by
  obtain ⟨rfl, e2⟩ := isD_inv e
  obtain rfl := rb.none_inv
  rcases e2 with ⟨rfl, rfl⟩ | ⟨⟨l, rfl⟩, rfl⟩ | ⟨⟨i, rfl⟩, rfl⟩
  · obtain rfl := ra.none_inv
    exact ⟨fun k => is_none_none (k.same (.bool _)), fun k => isnot_none_none (k.same (.bool _))⟩
  · obtain ⟨_, _, _, rfl, _⟩ := ra.tuple_inv
    exact ⟨fun k => is_ref_none (k.same (.bool _)), fun k => isnot_ref_none (k.same (.bool _))⟩
  · obtain ⟨_, rfl⟩ := ra.int_inv
    exact ⟨fun k => is_int_none (k.same (.bool _)), fun k => isnot_int_none (k.same (.bool _))⟩
end
end Mine
-- MOps3
set_option autoImplicit false
set_option linter.all false
namespace Mine
open PySem PyProof.Rows

section
variable {prog : Program} {w : World} {A : Around} {E : Value → Shared → Prop} {s : Shared} {X : Addr → Prop} {Q : Value → Shared → Prop} {x y d : D} {a b : Value}

theorem place_seqIndex {i : Int} {n k : Nat} (h : place i n = some k) : seqIndex? i n = some k ∧ k < n := by
  unfold place at h
  unfold seqIndex?
  split at h
  · rename_i h0
    split at h
    · rename_i h1
      cases h
      have hn : ¬ i < 0 := by omega
      simp only [hn, if_false]
      refine ⟨by simp [h0, h1], by omega⟩
    · cases h
  · rename_i h0
    split at h
    · rename_i h1
      cases h
      have hn : i < 0 := by omega
      simp only [hn, if_true]
      refine ⟨by simp; omega, by omega⟩
    · cases h
theorem idx_lo {i : Int} (h : idxInt i = true) : -(2 ^ 63) ≤ i ∧ i < 2 ^ 63 := by
  simp only [idxInt, Bool.and_eq_true, decide_eq_true_eq] at h
  omega
noncomputable def noSlice : Expr → Bool
  | .Slice _ _ _ _ => false
  | _ => true
theorem sub_plain {slice : Expr} (h : noSlice slice = true) (o i : Value) : subscripted slice false o i = operate [o, i] (getItem o i) := by
  cases slice <;> first | (cases h; done) | rfl
theorem isTup {h : Heap} {c : Addr} {vs : List Value} {n : Nat} (e : h.get? c = some (tupO vs n)) : IsTup h c vs.toArray := ⟨_, e, rfl, n, rfl⟩
theorem isLst {h : Heap} {c : Addr} {vs : List Value} {n : Nat} (e : h.get? c = some (lstO vs n)) : h.IsList c vs.toArray := ⟨_, e, rfl, n, rfl⟩
theorem idxL_inv {l : List D} {i : Int} {d : D} (e : (if idxInt i then (match place i l.length with | some k => (match l[k]? with | some d => R.ok d | none => .stuck) | none => .stuck) else .stuck) = R.ok d) :
    idxInt i = true ∧ ∃ j c, place i l.length = some j ∧ l[j]? = some c ∧ R.ok c = .ok d := by
  by_cases hi : idxInt i = true
  · rw [if_pos hi] at e
    cases hp : place i l.length with
    | none => rw [hp] at e; cases e
    | some j =>
      rw [hp] at e; dsimp only at e
      cases hd : l[j]? with
      | none => rw [hd] at e; cases e
      | some c => rw [hd] at e; exact ⟨hi, j, c, rfl, hd, e⟩
  · rw [if_neg hi] at e; cases e
theorem idx_list {value slice : Expr} {l : List D} {i : Int} (hn : noSlice slice = true) (ra : RepO prog w X s.heap a (.list l)) (rb : RepO prog w X s.heap b (.int i)) (e : idxD (.list l) (.int i) = .ok d) (k : Cont prog w X s d Q) :
    wpAny (model prog w) A (subscriptTail value slice a b) Q E s := by
  obtain ⟨hi, j, d', hp, hd, e'⟩ := idxL_inv (l := l) (i := i) e
  cases e'
  obtain ⟨c, vs, n, rfl, hg, rl⟩ := ra.list_inv
  obtain ⟨t, rfl⟩ := rb.int_inv
  obtain ⟨v, hv, rv⟩ := rl.get hd
  have hl := isLst hg
  have hsz : vs.toArray.size = l.length := by rw [List.size_toArray, rl.length]
  refine tail_any hl.typeIs slot_list_getitem.lookup ?_ (sub_plain hn _ _)
  by_cases h0 : 0 ≤ i
  · have hj : j = i.toNat := by
      unfold place at hp; rw [if_pos h0] at hp; split at hp <;> cases hp; rfl
    exact wpAny_getItem_list hl h0 (idx_lo hi).2 (by rw [← hj]; simpa using hv) (k.same rv)
  · have hq : -(l.length : Int) ≤ i ∧ j = (i + l.length).toNat := by
      unfold place at hp; rw [if_neg h0] at hp; split at hp <;> cases hp; exact ⟨by assumption, rfl⟩
    refine wpAny_getItem_list_neg hl (by omega) (by rw [hsz]; exact hq.1) (idx_lo hi).1 ?_ (k.same rv)
    rw [hsz, ← hq.2]; simpa using hv
theorem idx_tuple {value slice : Expr} {l : List D} {i : Int} (hn : noSlice slice = true) (ra : RepO prog w X s.heap a (.tuple l)) (rb : RepO prog w X s.heap b (.int i)) (e : idxD (.tuple l) (.int i) = .ok d) (k : Cont prog w X s d Q) :
    wpAny (model prog w) A (subscriptTail value slice a b) Q E s := by
  obtain ⟨hi, j, d', hp, hd, e'⟩ := idxL_inv (l := l) (i := i) e
  cases e'
  obtain ⟨c, vs, n, rfl, nx, hg, rl⟩ := ra.tuple_inv
  obtain ⟨t, rfl⟩ := rb.int_inv
  obtain ⟨v, hv, rv⟩ := rl.get hd
  obtain ⟨h1, h2⟩ := place_seqIndex hp
  have hl := isTup hg
  refine tail_any hl.typeIs slot_tuple_getitem.lookup ?_ (sub_plain hn _ _)
  exact PyProof.Rows.getItem_tuple hl (idx_lo hi).1 (idx_lo hi).2 (by rw [List.size_toArray, rl.length]; exact h1) (by simpa using hv) (k.same rv)
theorem idx_str {value slice : Expr} {t : Str} {i : Int} (hn : noSlice slice = true) (ra : RepO prog w X s.heap a (.str t)) (rb : RepO prog w X s.heap b (.int i)) (e : idxD (.str t) (.int i) = .ok d) (k : Cont prog w X s d Q) :
    wpAny (model prog w) A (subscriptTail value slice a b) Q E s := by
  have hi : idxInt i = true := by
    by_cases hi : idxInt i = true
    · exact hi
    · simp only [idxD] at e; rw [if_neg hi] at e; cases e
  simp only [idxD] at e
  rw [if_pos hi] at e
  cases hp : place i (slen t) with
  | none => rw [hp] at e; cases e
  | some j =>
    rw [hp] at e; dsimp only at e
    cases hd : t.cps[j]? with
    | none => rw [hd] at e; cases e
    | some c =>
      rw [hd] at e; cases e
      obtain ⟨_, rfl⟩ := ra.str_inv
      obtain ⟨_, rfl⟩ := rb.int_inv
      obtain ⟨h1, h2⟩ := place_seqIndex hp
      refine tail_any (typeIs_str s _ _) slot_str_getitem.lookup ?_ (sub_plain hn _ _)
      refine getItem_str ?_ ?_ (k.here (.str _ _) _)
      · have := idx_lo hi
        simp only [Bool.or_eq_false_iff, decide_eq_false_iff_not]; omega
      · show Option.bind (seqIndex? _ (slen _)) _ = _
        rw [h1]; exact hd
theorem idx_dict {value slice : Expr} {kv : List (D × D)} {kk : Str} (hn : noSlice slice = true) (ra : RepO prog w X s.heap a (.dict kv)) (rb : RepO prog w X s.heap b (.str kk)) (e : idxD (.dict kv) (.str kk) = .ok d) (k : Cont prog w X s d Q) :
    wpAny (model prog w) A (subscriptTail value slice a b) Q E s := by
  simp only [idxD] at e
  cases hv : dget kk kv with
  | none => rw [hv] at e; cases e
  | some v =>
    rw [hv] at e; cases e
    obtain ⟨c, es, rfl, nx, dc, pr⟩ := ra.dict_inv
    obtain ⟨t, rfl⟩ := rb.str_inv
    have := valueAt_dget pr kk
    rw [hv] at this
    obtain ⟨i, u, rfl, e2⟩ := this
    exact tail_any dc.typeIs slot_dict_getitem.lookup (wpAny_getItem_of (strKind_is prog w kk _) dc.mapOf e2 (k.here (.int _ _) _)) (sub_plain hn _ _)
theorem idx_sound {value slice : Expr} (hn : noSlice slice = true) (ra : RepO prog w X s.heap a x) (rb : RepO prog w X s.heap b y) (e : idxD x y = .ok d) (k : Cont prog w X s d Q) :
    wpAny (model prog w) A (subscriptTail value slice a b) Q E s := by
  cases x with
  | list l => cases y with
    | int i => exact idx_list hn ra rb e k
    | _ => cases e
  | tuple l => cases y with
    | int i => exact idx_tuple hn ra rb e k
    | _ => cases e
  | str l => cases y with
    | int i => exact idx_str hn ra rb e k
    | _ => cases e
  | dict l => cases y with
    | str i => exact idx_dict hn ra rb e k
    | _ => cases e
  | _ => cases e
theorem cut_pick (items : List Value) (lo hi : Option Int) : slicePick items.toArray lo hi none = (cut items lo hi).toArray := by
  rw [slicePick_plain]; rfl
theorem strIdx (lo hi : Option Int) (n : Nat) : Builtin.Str.strSliceIndices lo hi 1 n = sliceRange ((lo.elim 0 (clipAt n) : Nat) : Int) ((hi.elim n (clipAt n) : Nat) : Int) 1 := by
  cases lo <;> cases hi <;> simp [Builtin.Str.strSliceIndices, clipAt_cast]
theorem strPick (t : Str) (lo hi : Option Int) : ((Builtin.Str.strSliceIndices lo hi 1 t.length).filterMap (t.cps[·]?)) = cut t.cps.toList lo hi := by
  rw [strIdx, sliceRange_one, pick_run]
  rfl
theorem cut_full {l : List Nat} {lo hi : Option Int} (h : (cut l lo hi).length = l.length) : cut l lo hi = l := by
  unfold cut at *
  rw [List.length_take, List.length_drop] at h
  have h1 : (l.drop (lo.elim 0 (clip l.length))).length = l.length := by
    rw [List.length_drop]
    have q := Nat.min_le_right (hi.elim l.length (clip l.length) - lo.elim 0 (clip l.length)) (l.length - lo.elim 0 (clip l.length))
    rw [h] at q
    exact Nat.le_antisymm (Nat.sub_le _ _) q
  have h2 : l.drop (lo.elim 0 (clip l.length)) = l := by
    have := List.take_append_drop (lo.elim 0 (clip l.length)) l
    cases hl : l with
    | nil => simp
    | cons a r =>
      have : lo.elim 0 (clip l.length) = 0 := by
        rw [List.length_drop] at h1
        have : 0 < l.length := by rw [hl]; simp
        omega
      rw [← hl, this]; rfl
  rw [h2, List.take_of_length_le (by omega)]
theorem strPick_len (t : Str) (lo hi : Option Int) : (Builtin.Str.strSliceIndices lo hi 1 t.length).length = (cut t.cps.toList lo hi).length := by
  rw [strIdx, sliceRange_one, List.length_map, List.length_range]
  unfold cut
  have h1 : hi.elim t.length (clipAt t.length) ≤ t.length := by
    cases hi with
    | none => exact Nat.le_refl _
    | some i => exact Int.toNat_le.mpr (Int.max_le.mpr ⟨Int.natCast_nonneg _, Int.min_le_right _ _⟩)
  have e : t.cps.toList.length = t.length := by simp [Str.length]
  rw [List.length_take, List.length_drop, e]
  simp only [show clip = clipAt from rfl]
  exact (Nat.min_eq_left (Nat.sub_le_sub_right h1 _)).symm
noncomputable def PartIs (v : Value) (o : Option Int) : Prop := match o with
  | none => v = .none
  | some i => ∃ t, v = .int i t
theorem PartIs.isPart {v : Value} {o : Option Int} (h : PartIs v o) : IsPart v o := by
  cases o with
  | none => rw [show v = .none from h]; exact .none
  | some i => obtain ⟨t, rfl⟩ := h; exact .int _ _
theorem PartIs.partValue {v : Value} {o : Option Int} (h : PartIs v o) : ∃ p : Option (Int × Tok), v = PySem.partValue p ∧ p.map (·.1) = o := by
  cases o with
  | none => exact ⟨none, h, rfl⟩
  | some i => obtain ⟨t, rfl⟩ := h; exact ⟨some (i, t), rfl, rfl⟩
theorem sub_slice (l u : Option Expr) (p : Pos) (o i : Value) : subscripted (.Slice l u none p) false o i = operate [i, o] (getItem o i) := rfl
theorem slice_list {value : Expr} {l u : Option Expr} {p : Pos} {lo hi : Option Int} {vl vu : Value} {sl : Addr} {xs : List D} (hX : XOk X s.heap) (ra : RepO prog w X s.heap a (.list xs)) (hl : PartIs vl lo) (hh : PartIs vu hi) (hsl : s.heap.IsSliceOf sl vl vu .none)
    (hb : xs.length ≤ big) (k : Cont prog w X s (.list (cut xs lo hi)) Q) : wpAny (model prog w) A (subscriptTail value (.Slice l u none p) a (.ref sl)) Q E s := by
  obtain ⟨c, vs, n, rfl, hg, rl⟩ := ra.list_inv
  have hL := isLst hg
  refine tail_any hL.typeIs slot_list_getitem.lookup ?_ (sub_slice _ _ _ _ _)
  refine wpAny_getItem_list_slice hL hsl hl.isPart hh.isPart .none (by simp) ?_ (by rw [List.size_toArray, rl.length, sizeLine_eq]; simp only [big] at hb; omega)
  refine k _ _ _ (Ext.push _ _) ?_
  refine .list (n := 0) (vs := cut vs lo hi) hX.new (by rw [cut_pick]; exact Heap.get?_push_size _ rfl) ?_
  have rl' := rl.ext (Ext.push s.heap { cls := .type "list", data := .seq (slicePick vs.toArray lo hi none) })
  have := rl.length
  unfold cut
  rw [this]
  exact (rl'.drop _).take _
theorem slice_tuple {value : Expr} {l u : Option Expr} {p : Pos} {i : Int} {vl vu : Value} {sl : Addr} {xs : List D} (hX : XOk X s.heap) (ra : RepO prog w X s.heap a (.tuple xs)) (hl : PartIs vl (some i)) (hh : PartIs vu none) (hsl : s.heap.IsSliceOf sl vl vu .none)
    (h1 : 1 ≤ i) (h2 : i ≤ xs.length) (hb : xs.length ≤ big) (k : Cont prog w X s (.tuple (xs.drop i.toNat)) Q) : wpAny (model prog w) A (subscriptTail value (.Slice l u none p) a (.ref sl)) Q E s := by
  obtain ⟨c, vs, n, rfl, nx, hg, rl⟩ := ra.tuple_inv
  have hT := isTup hg
  obtain ⟨t, rfl⟩ := hl
  obtain rfl : vu = .none := hh
  have hi' : ((i.toNat : Nat) : Int) = i := by omega
  have hlen := rl.length
  refine tail_any hT.typeIs slot_tuple_getitem.lookup ?_ (sub_slice _ _ _ _ _)
  refine getItem_tuple_from (a := i.toNat) (u := t) hT (by rw [hi']; exact hsl) (by omega) (by rw [List.size_toArray]; omega) ?_ (by rw [List.size_toArray, hlen, sizeLine_eq]; simp only [big] at hb; omega)
  refine k _ _ _ (Ext.push _ _) ?_
  exact .tuple (n := 0) (vs := vs.drop i.toNat) hX.new (by simpa using Heap.get?_push_size _ rfl) ((rl.ext (Ext.push _ _)).drop _)
theorem slice_str {value : Expr} {l u : Option Expr} {p : Pos} {lo hi : Option Int} {vl vu : Value} {sl : Addr} {t : Str} (ra : RepO prog w X s.heap a (.str t)) (hl : PartIs vl lo) (hh : PartIs vu hi) (hsl : s.heap.IsSliceOf sl vl vu .none)
    (hb : slen t ≤ big) (k : Cont prog w X s (.str (smk (cut t.cps.toList lo hi))) Q) : wpAny (model prog w) A (subscriptTail value (.Slice l u none p) a (.ref sl)) Q E s := by
  obtain ⟨tk, rfl⟩ := ra.str_inv
  obtain ⟨p1, rfl, e1⟩ := hl.partValue
  obtain ⟨p2, rfl, e2⟩ := hh.partValue
  refine tail_any (typeIs_str s _ _) slot_str_getitem.lookup ?_ (sub_slice _ _ _ _ _)
  refine wpAny_getItem_str_slice (l := p1) (u := p2) (st := none) hsl rfl ?_
  unfold sliceMade slicePicked
  simp only [Option.map_none, Option.getD_none, e1, e2]
  rw [strPick_len, strPick]
  split
  · rename_i hq
    simp only [Bool.and_eq_true, beq_iff_eq] at hq
    have hq2 : (cut t.cps.toList lo hi).length = t.cps.toList.length := by rw [hq.2]; simp [Str.length]
    have e3 := cut_full hq2
    rw [e3] at k
    exact k.same (v := .str t tk) (by rw [show smk t.cps.toList = t by simp [smk]]; exact .str _ _)
  · refine ⟨?_, k.here (.str _ _) _⟩
    show (cut t.cps.toList lo hi).toArray.size ≤ sizeLine
    have : (cut t.cps.toList lo hi).length ≤ t.cps.toList.length := by
      unfold cut; rw [List.length_take, List.length_drop]; omega
    have e3 : t.cps.toList.length = slen t := by simp [slen]
    rw [List.size_toArray, sizeLine_eq]
    simp only [big] at hb
    omega
theorem slice_sound {value : Expr} {l u : Option Expr} {p : Pos} {lo hi : Option Int} {vl vu : Value} {sl : Addr} (hX : XOk X s.heap) (ra : RepO prog w X s.heap a x) (hl : PartIs vl lo) (hh : PartIs vu hi) (hsl : s.heap.IsSliceOf sl vl vu .none)
    (e : sliceD x lo hi = .ok d) (k : Cont prog w X s d Q) :
    wpAny (model prog w) A (subscriptTail value (.Slice l u none p) a (.ref sl)) Q E s := by
  have hp : (partOk lo && partOk hi) = true := by
    cases hq : (partOk lo && partOk hi) with
    | true => rfl
    | false => unfold sliceD at e; rw [hq] at e; cases e
  cases x with
  | list xs =>
    simp only [sliceD, hp, if_true] at e
    split at e
    · rename_i hb; cases e; exact slice_list hX ra hl hh hsl hb k
    · cases e
  | tuple xs =>
    simp only [sliceD, hp, if_true] at e
    cases lo with
    | none => cases e
    | some i =>
      cases hi with
      | some j => cases e
      | none =>
        dsimp only at e
        split at e
        · rename_i hb
          simp only [Bool.and_eq_true, decide_eq_true_eq] at hb
          cases e; exact slice_tuple hX ra hl hh hsl hb.1.1 hb.1.2 hb.2 k
        · cases e
  | str t =>
    simp only [sliceD, hp, if_true] at e
    split at e
    · rename_i hb; cases e; exact slice_str ra hl hh hsl hb k
    · cases e
  | _ => simp [sliceD, hp] at e
end
end Mine
-- MDeq
set_option autoImplicit false
set_option linter.all false
namespace Mine
open PySem PyProof.Rows

theorem PairsAre.at {es : List (Str × Value)} {kv : List (D × D)} (r : PairsAre es kv) : ∀ {i : Nat}, i < kv.length → ∃ k v t, kv[i]? = some (.str k, .int v) ∧ es[i]? = some (k, .int v t) := by
  induction r with
  | nil => intro i h; cases h
  | @cons c v u es kv r ih =>
    intro i h
    cases i with
    | zero => exact ⟨c, v, u, rfl, rfl⟩
    | succ i => exact ih (Nat.lt_of_succ_lt_succ h)
section
variable {prog : Program} {w : World} {A : Around} {E : Value → Shared → Prop} {s : Shared} {a b : Addr} {ea eb : List (Str × Value)} {kv : List (D × D)}
end
end Mine
-- MOps4
set_option autoImplicit false
set_option linter.all false
namespace Mine
open PySem PyProof.Rows

noncomputable def b1Val : B1 → Value
  | .len => .builtin "len" | .int => .type "int" | .str => .type "str" | .abs => .builtin "abs" | .list => .type "list" | .tuple => .type "tuple" | .dict => .type "dict" | .sum => .builtin "sum"
noncomputable def b2Val : B2 → Value
  | .min => .builtin "min" | .max => .builtin "max"
section
variable {prog : Program} {w : World} {A : Around} {E : Value → Shared → Prop} {s : Shared} {X : Addr → Prop} {Q : Value → Shared → Prop} {x y d : D} {a b : Value}

theorem bigFit {n : Nat} (h : n ≤ big) : ((n : Nat) : Int) < 2 ^ 63 := by simp only [big] at h; omega
theorem sumD_items {h : Heap} : ∀ {l : List D} {vs : List Value} {i : Int}, RepAll prog w X h vs l → sumD l = some i → ∃ xs : Array (Int × Tok), vs.toArray = intItems xs ∧ preSum (numAt xs) xs.size = i := by
  intro l vs i r e
  have key : ∀ {l : List D} {vs : List Value} {i : Int}, RepAll prog w X h vs l → sumD l = some i → ∃ ps : List (Int × Tok), vs = ps.map (fun p => Value.int p.1 p.2) ∧ (ps.map (·.1)).sum = i := by
    intro l
    induction l with
    | nil => intro vs i r e; cases r; cases e; exact ⟨[], rfl, rfl⟩
    | cons d l ih =>
      intro vs i r e
      cases r with
      | cons r rs =>
        cases d with
        | int j =>
          obtain ⟨t, rfl⟩ := r.int_inv
          simp only [sumD] at e
          cases hq : sumD l with
          | none => rw [hq] at e; cases e
          | some m =>
            rw [hq] at e; cases e
            obtain ⟨ps, e1, e2⟩ := ih rs hq
            exact ⟨(j, t) :: ps, by rw [e1]; rfl, by simp [e2]⟩
        | _ => simp [sumD] at e
  obtain ⟨ps, e1, e2⟩ := key r e
  refine ⟨ps.toArray, by rw [e1]; simp [intItems], ?_⟩
  rw [← e2]
  have q : ∀ (n : Nat), n ≤ ps.length → preSum (numAt ps.toArray) n = ((ps.take n).map (·.1)).sum := by
    intro n
    induction n with
    | zero => intro _; simp [preSum]
    | succ n ih =>
      intro hn
      have : preSum (numAt ps.toArray) (n + 1) = preSum (numAt ps.toArray) n + numAt ps.toArray n := by first | rfl | simp [preSum]
      rw [this, ih (by omega), List.take_add_one, List.map_append, List.sum_append]
      have hlt : n < ps.length := by omega
      simp [numAt, hlt]
  have := q ps.length (Nat.le_refl _)
  simpa using this
theorem b1_sound {bi : B1} (hh : A.handled = none) (hX : XOk X s.heap) (ra : RepO prog w X s.heap a x) (e : b1D bi x = .ok d) (k : Cont prog w X s d Q) (hni : ∀ t, x = .str t → bi ≠ .int) : wpAny (model prog w) A (call (b1Val bi) [a]) Q E s := by
  cases bi with
  | len =>
    cases x with
    | list l =>
      obtain ⟨hb, rfl⟩ := iteok e
      obtain ⟨c, vs, n, rfl, hg, rl⟩ := ra.list_inv
      refine Calls.call_len_list (isLst hg) (by rw [List.size_toArray, rl.length]; exact bigFit hb) ?_
      rw [List.size_toArray, rl.length]
      exact k.here (.int _ _) _
    | tuple l =>
      obtain ⟨hb, rfl⟩ := iteok e
      obtain ⟨c, vs, n, rfl, _, hg, rl⟩ := ra.tuple_inv
      refine PyProof.Rows.len_tuple (isTup hg) (by rw [List.size_toArray, rl.length]; exact bigFit hb) ?_
      rw [List.size_toArray, rl.length]
      exact k.here (.int _ _) _
    | str t =>
      obtain ⟨hb, rfl⟩ := iteok e
      obtain ⟨t, rfl⟩ := ra.str_inv
      refine len_str (by have := bigFit hb; show ¬ ((slen _ : Nat) : Int) ≥ 2 ^ 63; omega) ?_
      exact k.here (.int _ _) _
    | _ => cases e
  | int =>
    cases x with
    | bool b =>
      cases e
      obtain rfl := ra.bool_inv
      exact call_int_bool (k.here (.int _ _) _)
    | str t => exact absurd rfl (hni _ rfl)
    | _ => cases e
  | str =>
    cases x with
    | int i =>
      obtain ⟨hb, rfl⟩ := iteok e
      obtain ⟨t, rfl⟩ := ra.int_inv
      refine PySem.P.str_of_int ?_ (k.here (.str _ _) _)
      have hn := small64 hb
      rcases Nat.eq_zero_or_pos i.natAbs with h0 | hp
      · rw [h0]; decide +kernel
      · have : i.natAbs.log2 < 100 := (Nat.log2_lt (Nat.ne_of_gt hp)).mpr hn
        omega
    | _ => cases e
  | abs =>
    cases x with
    | int i =>
      cases e
      obtain ⟨t, rfl⟩ := ra.int_inv
      exact call_abs_int fun t' tk => k.here (by exact .int _ _) _
    | _ => cases e
  | list =>
    cases x with
    | list l =>
      obtain ⟨hb, rfl⟩ := iteok e
      obtain ⟨c, vs, n, rfl, hg, rl⟩ := ra.list_inv
      refine call_list_seq c (T := "list") (.inl rfl) hg rfl rfl (fun h' c' x1 hq => ?_) (by rw [List.size_toArray, rl.length, sizeLine_eq]; simp only [big] at hb; omega)
      exact k _ h' _ x1 (.list hX.new hq (rl.ext x1))
    | tuple l =>
      obtain ⟨hb, rfl⟩ := iteok e
      obtain ⟨c, vs, n, rfl, _, hg, rl⟩ := ra.tuple_inv
      refine call_list_seq c (T := "tuple") (.inr rfl) hg rfl rfl (fun h' c' x1 hq => ?_) (by rw [List.size_toArray, rl.length, sizeLine_eq]; simp only [big] at hb; omega)
      exact k _ h' _ x1 (.list hX.new hq (rl.ext x1))
    | _ => cases e
  | tuple =>
    cases x with
    | list l =>
      obtain ⟨hb, rfl⟩ := iteok e
      obtain ⟨c, vs, n, rfl, hg, rl⟩ := ra.list_inv
      refine call_tuple_list (isLst hg) (fun h' x1 => ?_) (by rw [List.size_toArray, rl.length, sizeLine_eq]; simp only [big] at hb; omega)
      have x1' : Ext s.heap h' := x1
      exact k _ _ _ (x1'.trans (Ext.push _ _)) (.tuple (n := 0) (hX.ext x1').new (Heap.get?_push_size _ rfl) ((rl.ext x1').ext (Ext.push _ _)))
    | _ => cases e
  | dict =>
    cases x with
    | dict l =>
      obtain ⟨hb, rfl⟩ := iteok e
      obtain ⟨c, es, rfl, nx, dc, pr⟩ := ra.dict_inv
      refine kt_call_dict nx dc (by rw [pr.length, sizeLine_eq]; simp only [big] at hb; omega) fun h' dn sb => ?_
      have x1 : Ext s.heap h' := fun b o q => (sb.2 b (Nat.ne_of_lt (Heap.lt_size q))).trans (Heap.get?_push_of_some _ q)
      exact k _ h' _ x1 (.dict hX.new dn pr)
    | _ => cases e
  | sum =>
    cases x with
    | list l =>
      change (match sumD l with | some i => R.ok (PyData.int i) | none => R.stuck) = _ at e
      cases hi : sumD l with
      | none => rw [hi] at e; cases e
      | some i =>
        rw [hi] at e
        cases e
        obtain ⟨c, vs, n, rfl, hg, rl⟩ := ra.list_inv
        obtain ⟨xs, e1, e2⟩ := sumD_items rl hi
        refine sum_intListG (xs := xs) hh (e1 ▸ isLst hg) fun h' tk t' x1 => ?_
        rw [e2]
        exact k _ h' tk x1 (.int _ _)
    | _ => cases e
theorem b2_sound {bi : B2} (hh : A.handled = none) (ra : RepO prog w X s.heap a x) (rb : RepO prog w X s.heap b y) (e : b2D bi x y = .ok d) (k : Cont prog w X s d Q) : wpAny (model prog w) A (call (b2Val bi) [a, b]) Q E s := by
  unfold b2D at e
  split at e
  · cases e
    rename_i i j
    obtain ⟨t, rfl⟩ := ra.int_inv; obtain ⟨u, rfl⟩ := rb.int_inv
    refine min_two_ints hh fun h' tk x1 => ?_
    by_cases hc : j < i
    · rw [if_pos hc]; exact k _ h' tk x1 (by rw [if_pos hc]; exact .int _ _)
    · rw [if_neg hc]; exact k _ h' tk x1 (by rw [if_neg hc]; exact .int _ _)
  · cases e
    rename_i i j
    obtain ⟨t, rfl⟩ := ra.int_inv; obtain ⟨u, rfl⟩ := rb.int_inv
    refine max_two_ints hh fun h' tk x1 => ?_
    by_cases hc : j > i
    · rw [if_pos hc]; exact k _ h' tk x1 (by rw [if_pos hc]; exact .int _ _)
    · rw [if_neg hc]; exact k _ h' tk x1 (by rw [if_neg hc]; exact .int _ _)
  · cases e
noncomputable def tyVal : Ty → Value
  | .int => .type "int" | .bool => .type "bool" | .str => .type "str" | .tuple => .type "tuple" | .list => .type "list" | _ => .type "ValueError"
theorem isi_sound {t : Ty} (ra : RepO prog w X s.heap a x) (e : isiD x t = .ok d) (k : Cont prog w X s d Q) : wpAny (model prog w) A (call (.builtin "isinstance") [a, tyVal t]) Q E s := by
  cases t with
  | int =>
    cases x with
    | int i => cases e; obtain ⟨t, rfl⟩ := ra.int_inv; exact IsiPair.int_int (k.same (.bool _))
    | bool i => cases e; obtain rfl := ra.bool_inv; exact IsiPair.bool_int (k.same (.bool _))
    | _ => cases e
  | bool =>
    cases x with
    | int i => cases e; obtain ⟨t, rfl⟩ := ra.int_inv; exact IsiPair.int_bool (k.here (.bool _) _)
    | bool i => cases e; obtain rfl := ra.bool_inv; exact IsiPair.bool_bool (k.same (.bool _))
    | _ => cases e
  | str =>
    cases x with
    | int i => cases e; obtain ⟨t, rfl⟩ := ra.int_inv; exact IsiPair.int_str (k.here (.bool _) _)
    | str i => cases e; obtain ⟨t, rfl⟩ := ra.str_inv; exact IsiPair.str_str (k.same (.bool _))
    | tuple i => cases e; obtain ⟨c, vs, n, rfl, _, hg, rl⟩ := ra.tuple_inv; exact IsiPair.tuple_str hg rfl (k.here (.bool _) _)
    | _ => cases e
  | tuple =>
    cases x with
    | int i => cases e; obtain ⟨t, rfl⟩ := ra.int_inv; exact IsiPair.int_tuple (k.here (.bool _) _)
    | str i => cases e; obtain ⟨t, rfl⟩ := ra.str_inv; exact IsiPair.str_tuple (k.here (.bool _) _)
    | tuple i => cases e; obtain ⟨c, vs, n, rfl, _, hg, rl⟩ := ra.tuple_inv; exact IsiPair.tuple_tuple hg rfl (k.same (.bool _))
    | _ => cases e
  | list =>
    cases x with
    | list i => cases e; obtain ⟨c, vs, n, rfl, hg, rl⟩ := ra.list_inv; exact IsiPair.list_list hg rfl (k.same (.bool _))
    | _ => cases e
  | _ => cases x <;> cases e
theorem find_sound (ra : RepO prog w X s.heap a x) (rb : RepO prog w X s.heap b y) (e : findD x y = .ok d) (k : Cont prog w X s d Q) : ∃ t tk, a = .str t tk ∧ wpAny (model prog w) A (call (.builtin "str.find") [a, b]) Q E s := by
  unfold findD at e
  split at e
  · cases e
    obtain ⟨t, rfl⟩ := ra.str_inv; obtain ⟨u, rfl⟩ := rb.str_inv
    exact ⟨_, _, rfl, SC.find (k.here (.int _ _) _)⟩
  · cases e
theorem dict_cmp {A : Around} {E : Value → Shared → Prop} {s : Shared} {X : Addr → Prop} {Q : Value → Shared → Prop} {x y : D} {a b : Value} {r : Bool} (h : dictEq x y = .ok r) (hu : Roomy A) (ra : RepO prog w X s.heap a x) (rb : RepO prog w X s.heap b y) :
    (Cont prog w X s (.bool r) Q → wpAny (model prog w) A (compareOp .Eq a b) Q E s) ∧ (Cont prog w X s (.bool (!r)) Q → wpAny (model prog w) A (compareOp .NotEq a b) Q E s) := by
  cases h
theorem cmp_full : ∀ (A : Around) (E : Value → Shared → Prop) (s : Shared) (X : Addr → Prop) (Q : Value → Shared → Prop) (op : CmpOp) (x y d : D) (a b : Value),
    Roomy A → RepO prog w X s.heap a x → RepO prog w X s.heap b y → cmpD op x y = .ok d → Cont prog w X s d Q → wpAny (model prog w) A (compareOp op a b) Q E s := by
  intro A E s X Q op x y d a b hu ra rb e k
  cases op with
  | Eq =>
    obtain ⟨r, e2, rfl⟩ := yes_inv e
    rcases eqD_inv e2 with ⟨t, u, rfl, rfl, rfl⟩ | ⟨h1, h2, rfl⟩ | h
    · obtain ⟨_, rfl⟩ := ra.str_inv; obtain ⟨_, rfl⟩ := rb.str_inv; exact eq_str (k.same (.bool _))
    · exact eq_sound hu ra rb h1 h2 (k.same (.bool _))
    · exact (dict_cmp h hu ra rb).1 k
  | NotEq =>
    obtain ⟨r, e2, rfl⟩ := no_inv e
    rcases eqD_inv e2 with ⟨t, u, rfl, rfl, rfl⟩ | ⟨h1, h2, rfl⟩ | h
    · obtain ⟨_, rfl⟩ := ra.str_inv; obtain ⟨_, rfl⟩ := rb.str_inv; exact ne_str (k.same (.bool _))
    · exact ne_sound hu ra rb h1 h2 (k.same (.bool _))
    · exact (dict_cmp h hu ra rb).2 k
  | Lt => obtain ⟨i, j, rfl, rfl, rfl⟩ := ordD_inv e; obtain ⟨_, rfl⟩ := ra.int_inv; obtain ⟨_, rfl⟩ := rb.int_inv; exact lt_int (k.same (.bool _))
  | LtE => obtain ⟨i, j, rfl, rfl, rfl⟩ := ordD_inv e; obtain ⟨_, rfl⟩ := ra.int_inv; obtain ⟨_, rfl⟩ := rb.int_inv; exact le_int (k.same (.bool _))
  | Gt => obtain ⟨i, j, rfl, rfl, rfl⟩ := ordD_inv e; obtain ⟨_, rfl⟩ := ra.int_inv; obtain ⟨_, rfl⟩ := rb.int_inv; exact gt_int (k.same (.bool _))
  | GtE => obtain ⟨i, j, rfl, rfl, rfl⟩ := ordD_inv e; obtain ⟨_, rfl⟩ := ra.int_inv; obtain ⟨_, rfl⟩ := rb.int_inv; exact ge_int (k.same (.bool _))
  | In => obtain ⟨r, e2, rfl⟩ := yes_inv e; exact (in_sound hu ra rb e2).1 k
  | NotIn => obtain ⟨r, e2, rfl⟩ := no_inv e; exact (in_sound hu ra rb e2).2 k
  | Is => obtain ⟨r, e2, rfl⟩ := yes_inv e; exact (is_sound ra rb e2).1 k
  | IsNot => obtain ⟨r, e2, rfl⟩ := no_inv e; exact (is_sound ra rb e2).2 k
end
end Mine
-- MSt
set_option autoImplicit false
set_option linter.all false
namespace Mine
open PySem PyProof.Rows

noncomputable def biNames : List (Str × Value) := [("len", .builtin "len"), ("int", .type "int"), ("str", .type "str"), ("abs", .builtin "abs"), ("list", .type "list"), ("tuple", .type "tuple"), ("dict", .type "dict"), ("sum", .builtin "sum"),
  ("min", .builtin "min"), ("max", .builtin "max"), ("isinstance", .builtin "isinstance"), ("bool", .type "bool"), ("range", .type "range"), ("ValueError", .type "ValueError")]
noncomputable def fnOk (fnames gn xn kn : List Str) (F : MFn) (fd : FuncData) (body : List Stmt) : Bool :=
  matchB ⟨F.slots, fnames, gn, fd.scope, pinOf F, xn, kn⟩ F.body body &&
  decide (fd.scope.kind = .function) && !fd.scope.isCoroutine && !fd.scope.isGenerator && fd.scope.names.all (fun x => decide (x.2 ≠ .cell)) &&
  fd.params.posonlyargs.isEmpty && (fd.params.args.map (·.arg) == F.slots.take F.args) && fd.params.vararg.isNone && fd.params.kwonlyargs.isEmpty && fd.params.kw_defaults.isEmpty && fd.params.kwarg.isNone && fd.params.defaults.isEmpty &&
  decide (F.args ≤ F.slots.length) && decide (F.slots.Nodup) && (F.slots.take F.args).all (fun x => decide (fd.scope.names.lookup x = some .local))
structure Fn0 (fnames gn xn kn : List Str) (h0 : Heap) (mg : Str → Option Value) (F : MFn) (a : Addr) (fd : FuncData) (body : List Stmt) : Prop where
  name : mg F.name = some (.ref a)
  obj : ∃ o, h0.get? a = some o ∧ o.data = .func fd
  bdy : fd.body = .stmts body
  code : h0.CodeRec fd.code fd.qualname
  gl : fd.globals = mainGlobals
  bu : fd.builtins = builtinsNs
  clo : fd.closure = []
  dfl : fd.defaults = .none
  kdf : fd.kwdefaults = .none
  ok : fnOk fnames gn xn kn F fd body = true
theorem ns_same {h : Heap} {a : Addr} {m m' : Str → Option Value} (x : h.Ns a m) (y : h.Ns a m') : m = m' := by
  obtain ⟨o, es, n, e, d, k, f⟩ := x
  obtain ⟨o', es', n', e', d', k', f'⟩ := y
  rw [e] at e'; cases e'
  rw [d] at d'; cases d'
  funext z
  rw [← f, ← f']
noncomputable def bmV : List Value := [.type "ValueError", .type "Exception", .type "BaseException", .type "object"]
noncomputable def clsNames : List Str := ["__init__", "__getattribute__", "__getattr__", "__class__", "__setattr__", "word"]
set_option genInjectivity false in
structure XC where
  nm : Str
  q : Str
  N : Addr
  bs : List Value
  hdct : Bool
  sn : List Str
  sub : List Value
  ab : Bool
  col : Option Bool
  dd : Option Addr
  k0 : Option Value
  k1 : Option Value
  k2 : Option Value
  k3 : Option Value
  k5 : Option Value
noncomputable abbrev XC.obj (x : XC) (C : Addr) (bm : List Value) : Obj := excClassObj x.nm x.q C x.N x.bs bm x.hdct x.sn x.sub x.ab x.col x.dd x.k0 x.k1 x.k2 x.k3 x.k5 "ValueError.__new__"
inductive OwnT (h : Heap) : List Value → Prop
  | base : OwnT h bmV
  | own {A : Addr} {c0 : Value} {dd : Option Addr} {cd : ClassData} {sl : Array (Option Value)} {mA : Str → Option Value} {tl : List Value} :
      h.get? A = some { cls := c0, dict := dd, data := .cls cd, slots := sl } → h.Ns cd.ns mA → (∀ n ∈ clsNames, mA n = none) → OwnT h tl → OwnT h (.ref A :: tl)
structure CFact (h : Heap) (mg : Str → Option Value) (x : Str) (C : Addr) (bm : List Value) : Prop where
  name : mg x = some (.ref C)
  obj : ∃ (xc : XC) (mN : Str → Option Value), h.get? C = some (xc.obj C bm) ∧ h.Ns xc.N mN ∧ (∀ n ∈ clsNames.tail, mN n = none) ∧ (x ≠ hdName .unset → mN "__init__" = none)
  tail : OwnT h bm
structure UnFact (h : Heap) (C : Addr) (bm : List Value) : Prop where
  no : False
structure Tx where
  prog : Program
  w : World
  fns : List MFn
  gn : List Str
  G : List D
  mg : Str → Option Value
  mb : Str → Option Value
  h0 : Heap
  X0 : Addr → Prop
  cx : Ty → Option (Addr × List Value)
  kx : Ty → Option Addr
  xn : List Str
  kn : List Str
structure Tx.Ok (t : Tx) : Prop where
  g : t.h0.Ns mainGlobals t.mg
  b : t.h0.Ns builtinsNs t.mb
  lim : t.h0.NoLimit
  bi : ∀ x v, (x, v) ∈ biNames → t.mg x = none ∧ t.mb x = some v
  fn : ∀ (i : Nat) (F : MFn), t.fns[i]? = some F → ∃ a fd body, Fn0 (t.fns.map (·.name)) t.gn t.xn t.kn t.h0 t.mg F a fd body
  gl : ∀ (i : Nat) (x : Str) (d : D), t.gn[i]? = some x → t.G[i]? = some d → ∃ v, t.mg x = some v ∧ Rep t.prog t.w t.X0 t.h0 v d
  xn : ∀ ty, t.xn.contains (hdName ty) = true → ∃ C bm, t.cx ty = some (C, bm)
  kn : ∀ ty, t.kn.contains (tyName ty) = true → ∃ D, t.kx ty = some D
  cx : ∀ ty C bm, t.cx ty = some (C, bm) → CFact t.h0 t.mg (hdName ty) C bm
  cm : ∀ x ty C bm D bm', t.cx (ecTy x) = some (C, bm) → t.cx ty = some (D, bm') → (Value.ref C :: bm).contains (.ref D) = caughtBy x ty
  un : ∀ C bm, t.cx .unset = some (C, bm) → UnFact t.h0 C bm ∧ ∃ B, t.cx .valueError = some (B, bmV) ∧ bm = .ref B :: bmV
  kx : ∀ ty D, t.kx ty = some D → t.mg (tyName ty) = some (.ref D) ∧ ∃ o cd, t.h0.get? D = some o ∧ o.cls = .type "type" ∧ o.data = .cls cd
  km : ∀ x ty C bm D b, t.cx (ecTy x) = some (C, bm) → t.kx ty = some D → excIs x ty = .ok (.bool b) → (Value.ref C :: bm).contains (.ref D) = b
noncomputable def Av (X : Addr → Prop) (L : Addr) (o : Nat → Option Addr) : Addr → Prop := fun a => X a ∨ a = L ∨ ∃ i, o i = some a
noncomputable def AvL (X : Addr → Prop) (L : Addr) : Addr → Prop := fun a => X a ∨ a = L
noncomputable def OwnRep (prog : Program) (w : World) (Y : Addr → Prop) (h : Heap) (a : Addr) (d : D) : Prop := match d with
  | .list l => ∃ vs n, h.get? a = some (lstO vs n) ∧ RepAll prog w Y h vs l
  | .dict kv => ∃ es, h.DictOf (strKind prog w) a es ∧ PairsAre es kv
  | _ => False
noncomputable def WordAt (Y : Addr → Prop) (h : Heap) (oe : Obj) : EC → Prop
  | .unset w => ∃ ad m t, oe.dict = some ad ∧ ¬ Y ad ∧ h.Ns ad m ∧ m "word" = some (.str w t)
  | _ => True
theorem WordAt.step {Y Y' : Addr → Prop} {h h' : Heap} {oe oe' : Obj} {x : EC} (r : WordAt Y h oe x) (e : oe'.dict = oe.dict) (k : ∀ a m, ¬ Y a → h.Ns a m → ¬ Y' a ∧ h'.Ns a m) : WordAt Y' h' oe' x := by
  cases x with
  | unset w => obtain ⟨ad, m, t, q1, q2, q3, q4⟩ := r; exact ⟨ad, m, t, e.trans q1, (k ad m q2 q3).1, (k ad m q2 q3).2, q4⟩
  | _ => trivial
noncomputable abbrev XE := Addr → EC → Obj → Prop
noncomputable def SlotOk (xe : XE) (prog : Program) (w : World) (Y : Addr → Prop) (h : Heap) (oi : Option Addr) (mx : Option Value) : Option Slot → Prop
  | some (.fr d) => oi = none ∧ ∃ v, mx = some v ∧ Rep prog w Y h v d
  | some (.own d) => ∃ a, oi = some a ∧ mx = some (.ref a) ∧ OwnRep prog w Y h a d
  | some (.ex x) => oi = none ∧ ∃ e oe, mx = some (.ref e) ∧ ¬ Y e ∧ h.get? e = some oe ∧ xe e x oe ∧ WordAt Y h oe x
  | _ => oi = none
structure St (xe : XE) (prog : Program) (w : World) (X : Addr → Prop) (L : Addr) (slots : List Str) (o : Nat → Option Addr) (ρ : Env) (h : Heap) : Prop where
  ns : ∃ m, h.Ns L m ∧ ∀ i x, slots[i]? = some x → SlotOk xe prog w (Av X L o) h (o i) (m x) (ρ[i]?)
  xl : ¬ X L
  xo : ∀ i a, o i = some a → ¬ X a ∧ a ≠ L ∧ i < slots.length
  inj : ∀ i j a, o i = some a → o j = some a → i = j
  xok : XOk X h
  sys : X sysModules
  len : ρ.length = slots.length
section
variable {xe : XE} {prog : Program} {w : World} {X : Addr → Prop} {L : Addr} {slots : List Str} {o : Nat → Option Addr} {ρ : Env} {h h' : Heap} {Y : Addr → Prop}

theorem OwnRep.live {a : Addr} {d : D} (r : OwnRep prog w Y h a d) : ∃ ob, h.get? a = some ob ∧ ∀ vs, ob.data ≠ .fields vs := by
  cases d with
  | list l => obtain ⟨vs, n, e, _⟩ := r; exact ⟨_, e, fun _ q => by cases q⟩
  | dict l => obtain ⟨es, ⟨o, e, n, ho, _, hd, _⟩, _⟩ := r; exact ⟨o, ho, fun _ q => by rw [hd] at q; cases q⟩
  | _ => cases r
theorem OwnRep.mono {a : Addr} {d : D} (r : OwnRep prog w Y h a d) (k : Keep Y h h') (ka : ∀ ob, h.get? a = some ob → h'.get? a = some ob) : OwnRep prog w Y h' a d := by
  cases d with
  | list l => obtain ⟨vs, n, e, q⟩ := r; exact ⟨vs, n, ka _ e, q.mono k⟩
  | dict l => obtain ⟨es, e, q⟩ := r; exact ⟨es, dictOf_keep e ka, q⟩
  | _ => cases r
theorem OwnRep.ext {a : Addr} {d : D} (r : OwnRep prog w Y h a d) (k : Ext h h') : OwnRep prog w Y h' a d := r.mono (k.keep _) fun _ e => k _ _ e
theorem OwnRep.avoid {a : Addr} {d : D} {Y' : Addr → Prop} (r : OwnRep prog w Y h a d) (k : ∀ a o, h.get? a = some o → ¬ Y a → ¬ Y' a) : OwnRep prog w Y' h a d := by
  cases d with
  | list l => obtain ⟨vs, n, e, q⟩ := r; exact ⟨vs, n, e, q.avoid k⟩
  | dict l => exact r
  | _ => cases r
theorem SlotOk.mono {oi : Option Addr} {mx : Option Value} {sl : Option Slot} (r : SlotOk xe prog w Y h oi mx sl) (k : Keep Y h h') (ka : ∀ a, oi = some a → ∀ ob, h.get? a = some ob → h'.get? a = some ob) : SlotOk xe prog w Y h' oi mx sl := by
  match sl, r with
  | some (.fr d), ⟨e, v, e', q⟩ => exact ⟨e, v, e', q.mono k⟩
  | some (.own d), ⟨a, e, e', q⟩ => exact ⟨a, e, e', q.mono k (ka a e)⟩
  | some .unset, r => exact r
  | some (.ex c), ⟨e, e1, oe, q1, q2, q3, q4⟩ => exact ⟨e, e1, oe, q1, q2, k _ _ q3 q2, q4.1, q4.2.step rfl fun a m n r => ⟨n, by obtain ⟨o, es, ep, z, r⟩ := r; exact ⟨o, es, ep, k _ _ z n, r⟩⟩⟩
  | none, r => exact r
theorem SlotOk.avoid {oi : Option Addr} {mx : Option Value} {sl : Option Slot} {Y' : Addr → Prop} (r : SlotOk xe prog w Y h oi mx sl) (k : ∀ a o, h.get? a = some o → ¬ Y a → ¬ Y' a) : SlotOk xe prog w Y' h oi mx sl := by
  match sl, r with
  | some (.fr d), ⟨e, v, e', q⟩ => exact ⟨e, v, e', q.avoid k⟩
  | some (.own d), ⟨a, e, e', q⟩ => exact ⟨a, e, e', q.avoid k⟩
  | some .unset, r => exact r
  | some (.ex c), ⟨e, e1, oe, q1, q2, q3, q4⟩ => exact ⟨e, e1, oe, q1, k _ _ q3 q2, q3, q4.1, q4.2.step rfl fun a m n r => ⟨by obtain ⟨o, es, ep, z, _⟩ := r; exact k _ _ z n, r⟩⟩
  | none, r => exact r
theorem St.ext {F : Addr → Prop} (S : St xe prog w X L slots o ρ h) (k : ExtF F h h') (f : ∀ a, F a → AvL X L a) : St xe prog w X L slots o ρ h' := by
  obtain ⟨⟨m, hm, hs⟩, xl, xo, inj, xok, sys, len⟩ := S
  exact ⟨⟨m, Kp.ns k hm id, fun i x e => (hs i x e).mono (k.keep fun a q => (f a q).elim .inl fun q => .inr (.inl q)) fun a q ob z => k.get z fun y => (f a y).elim (xo i a q).1 (xo i a q).2.1⟩, xl, xo, inj, xok.extF k, sys, len⟩
theorem St.own_slot (S : St xe prog w X L slots o ρ h) {i : Nat} {a : Addr} (e : o i = some a) : ∃ d, ρ[i]? = some (.own d) ∧ OwnRep prog w (Av X L o) h a d := by
  obtain ⟨m, hm, hs⟩ := S.ns
  have hi := (S.xo i a e).2.2
  have := hs i slots[i] (List.getElem?_eq_getElem hi)
  match hq : ρ[i]? with
  | some (.own d) => rw [hq] at this; obtain ⟨a', e1, _, q⟩ := this; rw [e] at e1; cases e1; exact ⟨d, rfl, q⟩
  | some (.fr d) => rw [hq] at this; rw [this.1] at e; cases e
  | some .unset => rw [hq] at this; rw [(show o i = none from this)] at e; cases e
  | some (.ex c) => rw [hq] at this; rw [this.1] at e; cases e
  | none => rw [hq] at this; rw [(show o i = none from this)] at e; cases e
theorem St.live (S : St xe prog w X L slots o ρ h) : XOk (Av X L o) h := by
  intro a q
  rcases q with q | rfl | ⟨i, q⟩
  · exact S.xok a q
  · obtain ⟨m, ⟨ob, _, _, e, dd, _⟩, _⟩ := S.ns; exact ⟨ob, e, fun _ q => by rw [dd] at q; cases q⟩
  · obtain ⟨d, _, r⟩ := S.own_slot q; exact r.live
theorem St.liveL (S : St xe prog w X L slots o ρ h) : XOk (AvL X L) h := fun a q => S.live a (q.elim .inl fun q => .inr (.inl q))
theorem St.avSys (S : St xe prog w X L slots o ρ h) : Av X L o sysModules := .inl S.sys
theorem St.own_ref (S : St xe prog w X L slots o ρ h) {i : Nat} {a : Addr} {d : D} (e : o i = some a) (r : OwnRep prog w (Av X L o) h a d) : RepO prog w (Av X L o) h (.ref a) d ∧ Rep prog w (AvL X L) h (.ref a) d := by
  have nx : ¬ AvL X L a := fun q => q.elim (S.xo i a e).1 (S.xo i a e).2.1
  have less : ∀ b, AvL X L b → Av X L o b := fun b q => q.elim .inl fun q => .inr (.inl q)
  cases d with
  | list l => obtain ⟨vs, n, e, q⟩ := r; exact ⟨⟨a, vs, n, rfl, e, q⟩, .list nx e (q.less less)⟩
  | dict l =>
    obtain ⟨es, e', q⟩ := r
    exact ⟨⟨a, es, rfl, by rw [beq_eq_false_iff_ne]; intro q; exact (S.xo i a e).1 (q ▸ S.sys), e', q⟩, .dict nx e' q⟩
  | _ => cases r
end

noncomputable def AvD (X : Addr → Prop) (L : Addr) (o : Nat → Option Addr) (ρ : Env) : Addr → Prop := fun a => X a ∨ a = L ∨ ∃ i l, o i = some a ∧ ρ[i]? = some (.own (.list l))
structure EvRep (prog : Program) (w : World) (X : Addr → Prop) (L : Addr) (o : Nat → Option Addr) (ρ : Env) (esc : Bool) (h : Heap) (v : Value) (d : D) : Prop where
  out : RepO prog w (Av X L o) h v d
  av : esc = false → Rep prog w (Av X L o) h v d
  avl : Rep prog w (AvL X L) h v d
  avd : notList d = true → Rep prog w (AvD X L o ρ) h v d
theorem EvRep.of {prog : Program} {w : World} {X : Addr → Prop} {L : Addr} {o : Nat → Option Addr} {ρ : Env} {b : Bool} {h : Heap} {v : Value} {d : D} (hs : X sysModules) (r : Rep prog w (Av X L o) h v d) : EvRep prog w X L o ρ b h v d :=
  ⟨r.o (.inl hs), fun _ => r, r.less fun _ q => q.elim .inl fun q => .inr (.inl q), fun _ => r.less fun _ q => q.elim .inl fun q => .inr (q.elim .inl fun ⟨i, _, q, _⟩ => .inr ⟨i, q⟩)⟩
theorem EvRep.ext {F : Addr → Prop} {prog : Program} {w : World} {X : Addr → Prop} {L : Addr} {o : Nat → Option Addr} {ρ : Env} {b : Bool} {h h' : Heap} {v : Value} {d : D} (r : EvRep prog w X L o ρ b h v d) (k : ExtF F h h') (f : ∀ a, F a → AvL X L a) : EvRep prog w X L o ρ b h' v d :=
  ⟨r.out.extF k (fun a q => (f a q).elim .inl fun q => .inr (.inl q)) r.avl f, fun q => (r.av q).extF k fun a q => (f a q).elim .inl fun q => .inr (.inl q), r.avl.extF k f, fun q => (r.avd q).extF k fun a q => (f a q).elim .inl fun q => .inr (.inl q)⟩
noncomputable def stk (A : Around) : Addr → Prop := fun b => ∃ l env, A.frames = some l ∧ env ∈ l ∧ env.frame = some b
structure Frm (A : Around) (X : Addr → Prop) (h0 : Heap) : Prop where
  fr : ∃ l, A.frames = some l ∧ ∀ env ∈ l, env.scope.kind ≠ .module ∧ ∃ b, env.frame = some b
  x : ∀ b, stk A b → X b
  n0 : ∀ b, stk A b → h0.get? b = none
theorem Frm.mono {A : Around} {X X' : Addr → Prop} {h0 : Heap} (f : Frm A X h0) (k : ∀ a, X a → X' a) : Frm A X' h0 := ⟨f.fr, fun b q => k b (f.x b q), f.n0⟩
structure Flew (t : Tx) (hb h : Heap) (e : Addr) (x : EC) : Prop where
  new : hb.get? e = none
  cls : ∃ C bm, t.cx (ecTy x) = some (C, bm) ∧ h.Traced hb e (.ref C)
  wd : ∃ oe, h.get? e = some oe ∧ WordAt (fun a => ∃ ob, hb.get? a = some ob) h oe x
structure Ar0 (n : Nat) (A : Around) : Prop where
  depth : A.depth + n + 1 < recursionLimit
  units : A.units + 4 * n + 100 < cLine
structure Ar (n : Nat) (A : Around) : Prop extends Ar0 n A where
  handled : A.handled = none
theorem Ar0.roomy {n : Nat} {A : Around} (r : Ar0 n A) : Roomy A := by have := r.units; show A.units + 80 < cLine; omega
structure OrcOk (t : Tx) (n : Nat) (O : Orc) : Prop where
  fn : ∀ (f : Nat) (xs : List D) (r : D × Bool), O.fn f xs = .ok r → ∀ (F : MFn) (a : Addr) (A : Around) (s : Shared) (X : Addr → Prop) (vs : List Value) (Q E : Value → Shared → Prop),
    t.fns[f]? = some F → t.mg F.name = some (.ref a) → Ar n A → Ext t.h0 s.heap → XOk X s.heap → X sysModules → (∀ a, X a → t.X0 a ∨ t.h0.get? a = none) → RepAll t.prog t.w X s.heap vs xs → Frm A X t.h0 →
    (∀ v h' tk, ExtF (stk A) s.heap h' → Rep t.prog t.w X h' v r.1 → (r.2 = true → ∃ c, v = .ref c ∧ s.heap.get? c = none) → Q v { s with heap := h', toks := tk }) →
    wpAny (model t.prog t.w) A (call (.ref a) vs) Q E s
  fx : ∀ (f : Nat) (xs : List D) (x : EC), O.fn f xs = .exc x → ∀ (F : MFn) (a : Addr) (A : Around) (s : Shared) (X : Addr → Prop) (vs : List Value) (Q E : Value → Shared → Prop),
    t.fns[f]? = some F → t.mg F.name = some (.ref a) → Ar n A → Ext t.h0 s.heap → XOk X s.heap → X sysModules → (∀ a, X a → t.X0 a ∨ t.h0.get? a = none) → RepAll t.prog t.w X s.heap vs xs → Frm A X t.h0 →
    (∀ e h' tk, ExtF (stk A) s.heap h' → Flew t s.heap h' e x → E (.ref e) { s with heap := h', toks := tk }) →
    wpAny (model t.prog t.w) A (call (.ref a) vs) Q E s
set_option genInjectivity false in
structure Fx where
  t : Tx
  n : Nat
  O : Orc
  C : MC
  env : PySem.Env
  L : Addr
  X : Addr → Prop
  A : Around
  hE : Heap
  Z : Addr → Prop
  xe : XE := fun _ _ _ => False
structure Fx.Ok (c : Fx) : Prop where
  t : c.t.Ok
  orc : OrcOk c.t c.n c.O
  ar : Ar0 c.n c.A
  frx : ∃ outer, c.A.frames = some (c.env :: outer)
  efr : c.env.frame = some c.L
  kind : c.env.scope.kind = .function
  sc : c.env.scope = c.C.scope
  loc : c.env.locals = c.L
  gl : c.env.globals = mainGlobals
  bu : c.env.builtins = builtinsNs
  fnames : c.C.fnames = c.t.fns.map (·.name)
  gnames : c.C.gnames = c.t.gn
  xnames : c.C.xn = c.t.xn
  knames : c.C.kn = c.t.kn
  x0 : ∀ a, c.X a → c.t.X0 a ∨ c.t.h0.get? a = none
  l0 : c.t.h0.get? c.L = none
  nodup : c.C.slots.Nodup
  lE : ¬ ∃ ob, c.hE.get? c.L = some ob
  xk : ∀ e x oe, c.xe e x oe → ∃ C bm vs, c.t.cx (ecTy x) = some (C, bm) ∧ oe.cls = .ref C ∧ oe.data = .fields vs
structure Fx.OkN (c : Fx) : Prop extends Fx.Ok c where
  hn : c.A.handled = none
  xn : ∀ e x o, ¬ c.xe e x o
theorem Fx.OkN.arn {c : Fx} (ok : c.OkN) : Ar c.n c.A := ⟨ok.ar, ok.hn⟩
noncomputable abbrev Fx.M (c : Fx) : Model := model c.t.prog c.t.w
structure Fx.St (c : Fx) (o : Nat → Option Addr) (ρ : Env) (h : Heap) : Prop where
  st : Mine.St c.xe c.t.prog c.t.w c.X c.L c.C.slots o ρ h
  h0 : Ext c.t.h0 h
  o0 : ∀ i a, o i = some a → c.t.h0.get? a = none
  kE : Kp (stk c.A) c.Z c.hE h
  oE : ∀ i a, o i = some a → c.hE.get? a = none ∨ c.Z a
  frm : Frm c.A (AvL c.X c.L) c.t.h0
theorem Fx.St.extF {c : Fx} {o : Nat → Option Addr} {ρ : Env} {h h' : Heap} (S : c.St o ρ h) (k : ExtF (stk c.A) h h') : c.St o ρ h' := ⟨S.st.ext k S.frm.x, k.ext S.frm.n0 S.h0, S.o0, S.kE.trans k.kp, S.oE, S.frm⟩
theorem Fx.St.ext {c : Fx} {o : Nat → Option Addr} {ρ : Env} {h h' : Heap} (S : c.St o ρ h) (k : Ext h h') : c.St o ρ h' := S.extF k.f
noncomputable def Fx.EvOk (c : Fx) (m : ME) : Prop := ∀ (e : Expr) (d : D) (o : Nat → Option Addr) (ρ : Env) (s : Shared) (Q E : Value → Shared → Prop), matchE c.C m e = true → ev c.O c.t.G ρ m = .ok d → c.St o ρ s.heap →
  (∀ v h' tk, ExtF (stk c.A) s.heap h' → EvRep c.t.prog c.t.w c.X c.L o ρ m.esc h' v d → Q v { s with heap := h', toks := tk }) → wpAny c.M c.A (eval e c.env) Q E s
noncomputable def Fx.TrOk (c : Fx) (m : ME) : Prop := ∀ (e : Expr) (b : Bool) (o : Nat → Option Addr) (ρ : Env) (s : Shared) (Q : Bool → Shared → Prop) (E : Value → Shared → Prop), matchE c.C m e = true → ev c.O c.t.G ρ m = .ok (.bool b) → c.St o ρ s.heap →
  (∀ h' tk, ExtF (stk c.A) s.heap h' → Q b { s with heap := h', toks := tk }) → wpAny c.M c.A (isTrue e c.env (eval e c.env)) Q E s
structure EvRepAll (prog : Program) (w : World) (X : Addr → Prop) (L : Addr) (o : Nat → Option Addr) (ρ : Env) (esc : Bool) (h : Heap) (vs : List Value) (ds : List D) : Prop where
  av : esc = false → RepAll prog w (Av X L o) h vs ds
  avl : RepAll prog w (AvL X L) h vs ds
  avd : ds.all notList = true → RepAll prog w (AvD X L o ρ) h vs ds
noncomputable def Fx.EvsOk (c : Fx) (ms : MEs) : Prop := ∀ (es : List Expr) (ds : List D) (o : Nat → Option Addr) (ρ : Env) (s : Shared) (Q : List Value → Shared → Prop) (E : Value → Shared → Prop), matchEs c.C ms es = true → evs c.O c.t.G ρ ms = .ok ds → c.St o ρ s.heap →
  (∀ vs h' tk, ExtF (stk c.A) s.heap h' → EvRepAll c.t.prog c.t.w c.X c.L o ρ ms.esc h' vs ds → Q vs { s with heap := h', toks := tk }) → wpAny c.M c.A (spliced (es.map fun e => (false, eval e c.env))) Q E s
noncomputable def Fx.EvoOk (c : Fx) (mo : MO) : Prop := ∀ (eo : Option Expr) (io : Option Int) (o : Nat → Option Addr) (ρ : Env) (s : Shared) (Q : Value → Shared → Prop) (E : Value → Shared → Prop), matchO c.C mo eo = true → evo c.O c.t.G ρ mo = .ok io → c.St o ρ s.heap →
  (∀ v h' tk, ExtF (stk c.A) s.heap h' → PartIs v io → Q v { s with heap := h', toks := tk }) → wpAny c.M c.A (evalPart eo c.env) Q E s
end Mine
-- MBind
set_option autoImplicit false
set_option linter.all false
namespace Mine
open PySem PyProof.Rows

theorem lookup_zip {ns : List Str} {vs : List Value} (nd : ns.Nodup) (hl : vs.length = ns.length) : ∀ (i : Nat) (x : Str), ns[i]? = some x → (ns.zip vs).lookup x = vs[i]? := by
  induction ns generalizing vs with
  | nil => intro i x h; simp at h
  | cons n ns ih =>
    intro i x h
    cases vs with
    | nil => simp at hl
    | cons v vs =>
      simp only [List.length_cons, Nat.add_right_cancel_iff] at hl
      simp only [List.nodup_cons] at nd
      cases i with
      | zero => simp at h; subst h; simp [List.lookup]
      | succ i =>
        simp only [List.getElem?_cons_succ] at h
        have hne : x ≠ n := fun q => nd.1 (q ▸ (List.mem_iff_getElem?.mpr ⟨i, h⟩))
        simp only [List.zip_cons_cons, List.lookup, beq_eq_false_iff_ne.mpr hne, List.getElem?_cons_succ]
        exact ih nd.2 hl i x h
theorem filterMap_zip {ns : List Str} {vs : List Value} (nd : ns.Nodup) (hl : vs.length = ns.length) : ns.filterMap (fun n => ((ns.zip vs).lookup n).map (n, ·)) = ns.zip vs := by
  have key : ∀ (ms : List Str) (us : List Value) (f : Str → Option Value), us.length = ms.length → (∀ (i : Nat) (x : Str), ms[i]? = some x → f x = us[i]?) → ms.filterMap (fun n => (f n).map (n, ·)) = ms.zip us := by
    intro ms
    induction ms with
    | nil => intro us f h _; simp
    | cons m ms ih =>
      intro us f h hf
      cases us with
      | nil => simp at h
      | cons u us =>
        have h0 := hf 0 m rfl
        simp only [List.getElem?_cons_zero] at h0
        simp only [List.filterMap_cons, h0, Option.map_some, List.zip_cons_cons]
        rw [ih us f (by simpa using h) fun i x q => by simpa using hf (i + 1) x (by simpa using q)]
  exact key ns vs _ hl (lookup_zip nd hl)
theorem bind_plain {fd : FuncData} {vs : List Value} (h1 : fd.params.posonlyargs = []) (h2 : fd.params.vararg = none) (h3 : fd.params.kwonlyargs = []) (h4 : fd.params.kwarg = none) (h5 : fd.defaults = .none)
    (nd : (fd.params.args.map (·.arg)).Nodup) (hl : vs.length = (fd.params.args.map (·.arg)).length) : bindArgs fd ⟨vs, []⟩ = pure ((fd.params.args.map (·.arg)).zip vs) := by
  have hm : ((fd.params.args.map (·.arg)).filter fun n => (((fd.params.args.map (·.arg)).zip vs).lookup n).isNone) = [] := by
    rw [List.filter_eq_nil_iff]
    intro n hn
    obtain ⟨i, hi⟩ := List.mem_iff_getElem?.mp hn
    rw [lookup_zip nd hl i n hi]
    have := (List.getElem?_eq_some_iff.mp hi).1
    simp [List.getElem?_eq_getElem (show i < vs.length by omega)]
  have hf := filterMap_zip nd hl
  have pb : ∀ {α β : Type} (a : α) (f : α → Sem β), (pure a >>= f) = f a := fun _ _ => rfl
  have ns0 : notAStandIn .none = pure () := rfl
  unfold bindArgs
  simp only [h1, h2, h3, h4, h5, List.map_nil, List.nil_append, seqItems?, ns0, pb, List.forIn_nil, Option.getD_none]
  have e0 : (#[] : Array Value).toList = [] := rfl
  have g : ¬ (decide (vs.length > (fd.params.args.map (·.arg)).length) && (Option.isNone (none : Option Arg))) = true := by simp [hl]
  rw [if_neg g]
  simp only [e0, List.drop_nil, List.length_nil, Nat.sub_zero, List.take_length, List.zip_nil_right, List.forIn_nil, pb]
  rw [hm]
  simp only [List.isEmpty_nil, Bool.not_true, Bool.false_eq_true, if_false, List.append_nil, hf, pb, List.forIn_nil]
theorem lookup_mem {l : List (Str × Value)} (nd : (l.map (·.1)).Nodup) {x : Str} {v : Value} (h : (x, v) ∈ l) : l.lookup x = some v := by
  induction l with
  | nil => cases h
  | cons p l ih =>
    obtain ⟨k, u⟩ := p
    simp only [List.map_cons, List.nodup_cons] at nd
    rcases List.mem_cons.mp h with h | h
    · cases h; simp [List.lookup]
    · have hne : x ≠ k := fun q => nd.1 (q ▸ List.mem_map.mpr ⟨(x, v), h, rfl⟩)
      simp only [List.lookup, beq_eq_false_iff_ne.mpr hne]
      exact ih nd.2 h
theorem lookup_bound {ns : List Str} {vs : List Value} (nd : ns.Nodup) (hl : vs.length = ns.length) {i : Nat} {x : Str} {v : Value} (hx : ns[i]? = some x) (hv : vs[i]? = some v) : (ns.zip vs).reverse.lookup x = some v := by
  have e : (ns.zip vs).map (·.1) = ns := List.map_fst_zip (by omega)
  refine lookup_mem (by rw [List.map_reverse, e]; exact List.pairwise_reverse.mpr (List.Pairwise.imp (fun h => Ne.symm h) nd)) (List.mem_reverse.mpr ?_)
  refine List.mem_iff_getElem?.mpr ⟨i, ?_⟩
  rw [List.getElem?_zip_eq_some]
  exact ⟨hx, hv⟩
end Mine
-- MEv
set_option autoImplicit false
set_option linter.all false
namespace Mine
open PySem PyProof.Rows

theorem isLoc_inv {C : MC} {i : Nat} {x : Str} (h : isLoc C i x = true) : C.slots[i]? = some x ∧ C.scope.names.lookup x = some .local ∧ (x == ("__debug__" : Str)) = false := by
  simp only [isLoc, Bool.and_eq_true, beq_iff_eq, Bool.not_eq_true'] at h
  exact ⟨h.1.1, h.1.2, h.2⟩
theorem isSt_inv {C : MC} {i : Nat} {x : Str} (h : isSt C i x = true) : isLoc C i x = true ∧ C.pin ≠ some i := by
  simp only [isSt, Bool.and_eq_true, Bool.not_eq_true', beq_eq_false_iff_ne] at h
  exact h
theorem isGl_inv {C : MC} {x : Str} (h : isGl C x = true) : C.scope.names.lookup x = some .globalImplicit ∧ (x == ("__debug__" : Str)) = false := by
  simp only [isGl, Bool.and_eq_true, beq_iff_eq, Bool.not_eq_true'] at h
  exact ⟨h.1, h.2⟩
theorem R.bind_inv {α β : Type} {r : R α} {f : α → R β} {b : β} (h : r.bind f = .ok b) : ∃ a, r = .ok a ∧ f a = .ok b := by
  cases r with
  | ok a => exact ⟨a, rfl, h⟩
  | exc c => cases h
  | stuck => cases h
section
variable {c : Fx} (ok : c.Ok)
include ok

theorem Fx.kindOf (x : Str) : c.env.kindOf x = c.C.scope.names.lookup x := by rw [Env.kindOf, ok.sc]
theorem Fx.gname {x : Str} {p : Pos} {v : Value} {s : Shared} {Q E : Value → Shared → Prop} (hx : isGl c.C x = true) (hv : c.t.mg x = some v) (h0 : Ext c.t.h0 s.heap) (k : Q v s) : wpAny c.M c.A (eval (.Name x p) c.env) Q E s := by
  obtain ⟨h1, h2⟩ := isGl_inv hx
  refine Calls.Name_function_global ok.kind (by rw [Fx.kindOf ok, h1]) (Calls.loadGlobal_global (mg := c.t.mg) (by rw [ok.gl]; exact ok.t.g.keeps h0) hv k) h2
theorem Fx.bname {x : Str} {p : Pos} {v : Value} {s : Shared} {Q E : Value → Shared → Prop} (hx : isGl c.C x = true) (hv : (x, v) ∈ biNames) (h0 : Ext c.t.h0 s.heap) (k : Q v s) : wpAny c.M c.A (eval (.Name x p) c.env) Q E s := by
  obtain ⟨h1, h2⟩ := isGl_inv hx
  obtain ⟨g1, g2⟩ := ok.t.bi x v hv
  refine Calls.Name_function_global ok.kind (by rw [Fx.kindOf ok, h1]) (Calls.loadGlobal_builtin (mg := c.t.mg) (mb := c.t.mb) (by rw [ok.gl]; exact ok.t.g.keeps h0) g1 (by rw [ok.bu]; exact ok.t.b.keeps h0) g2 k) h2
theorem Fx.lname {i : Nat} {x : Str} {p : Pos} {d : D} {o : Nat → Option Addr} {ρ : Env} {s : Shared} {Q E : Value → Shared → Prop} (hx : isLoc c.C i x = true) (S : c.St o ρ s.heap)
    (hρ : ρ[i]? = some (.fr d)) (k : ∀ v, Rep c.t.prog c.t.w (Av c.X c.L o) s.heap v d → Q v s) : wpAny c.M c.A (eval (.Name x p) c.env) Q E s := by
  obtain ⟨h1, h2, h3⟩ := isLoc_inv hx
  obtain ⟨m, hm, hs⟩ := S.st.ns
  have := hs i x h1
  rw [hρ] at this
  obtain ⟨_, v, e, r⟩ := this
  exact wpAny_Name (wpAny_loadName_local ok.kind (by rw [Fx.kindOf ok, h2]) (by rw [ok.loc]; exact hm) e (k v r)) h3
theorem Fx.oname {i : Nat} {x : Str} {p : Pos} {d : D} {o : Nat → Option Addr} {ρ : Env} {s : Shared} {Q E : Value → Shared → Prop} (hx : isLoc c.C i x = true) (S : c.St o ρ s.heap)
    (hρ : ρ[i]? = some (.own d)) (k : ∀ a, o i = some a → OwnRep c.t.prog c.t.w (Av c.X c.L o) s.heap a d → Q (.ref a) s) : wpAny c.M c.A (eval (.Name x p) c.env) Q E s := by
  obtain ⟨h1, h2, h3⟩ := isLoc_inv hx
  obtain ⟨m, hm, hs⟩ := S.st.ns
  have := hs i x h1
  rw [hρ] at this
  obtain ⟨a, e1, e2, r⟩ := this
  exact wpAny_Name (wpAny_loadName_local ok.kind (by rw [Fx.kindOf ok, h2]) (by rw [ok.loc]; exact hm) e2 (k a e1 r)) h3
theorem Fx.ev_var (i : Nat) : c.EvOk (.var i) := by
  intro e d o ρ s Q E hm he S k
  refine inv_var (P := fun E0 => wpAny _ _ (eval E0 _) _ _ _) e hm fun _ _ hm => ?_
  · simp only [Zaa, evq_own, evq_glob, evq_cint, evq_cstr, evq_cbool, evq_cnone, Zab, evq_neg, evq_nt, evq_and, evq_or, evq_cmp, evq_cmp2, evq_call, evq_bi1, evq_bi2, evq_isi, evq_find, evq_idx, evq_slice, evq_tupD, evq_lstD, evq_dctD, ] at he
    split at he
    · rename_i d' hq
      cases he
      exact Fx.lname ok hm S hq fun v r => k v s.heap s.toks (.refl _) (.of S.st.sys r)
    · cases he
theorem Fx.ev_own (i : Nat) : c.EvOk (.own i) := by
  intro e d o ρ s Q E hm he S k
  refine inv_own (P := fun E0 => wpAny _ _ (eval E0 _) _ _ _) e hm fun _ _ hm => ?_
  · simp only [Zaa, evq_own, evq_glob, evq_cint, evq_cstr, evq_cbool, evq_cnone, Zab, evq_neg, evq_nt, evq_and, evq_or, evq_cmp, evq_cmp2, evq_call, evq_bi1, evq_bi2, evq_isi, evq_find, evq_idx, evq_slice, evq_tupD, evq_lstD, evq_dctD, ] at he
    split at he
    · rename_i d' hq
      cases he
      refine Fx.oname ok hm S hq fun a e1 r => k _ s.heap s.toks (.refl _) ?_
      obtain ⟨r1, r2⟩ := S.st.own_ref e1 r
      refine ⟨r1, (fun q => by cases q), r2, fun hn => ?_⟩
      cases d with
      | dict kv =>
        obtain ⟨ca, es, e2, nx, dc, pr⟩ := r2.dict_inv
        cases e2
        refine .dict (fun q => ?_) dc pr
        rcases q with q | q | ⟨j, l, q, q'⟩
        · exact nx (.inl q)
        · exact nx (.inr q)
        · have := S.st.inj i j _ e1 q
          subst this
          rw [hq] at q'; cases q'
      | list l => cases hn
      | _ => cases r
    · cases he
theorem Fx.ev_glob (g : Nat) : c.EvOk (.glob g) := by
  intro e d o ρ s Q E hm he S k
  refine inv_glob (P := fun E0 => wpAny _ _ (eval E0 _) _ _ _) e hm fun _ _ hm => ?_
  · simp only [Zaa, evq_own, evq_glob, evq_cint, evq_cstr, evq_cbool, evq_cnone, Zab, evq_neg, evq_nt, evq_and, evq_or, evq_cmp, evq_cmp2, evq_call, evq_bi1, evq_bi2, evq_isi, evq_find, evq_idx, evq_slice, evq_tupD, evq_lstD, evq_dctD, ] at he
    split at he
    · rename_i d' hq
      cases he
      simp only [Bool.and_eq_true, beq_iff_eq] at hm
      obtain ⟨v, hv, r⟩ := ok.t.gl g _ _ (by rw [← ok.gnames]; exact hm.1) hq
      refine Fx.gname ok hm.2 hv S.h0 (k v s.heap s.toks (.refl _) (.of S.st.sys ?_))
      refine Rep.ext (Rep.avoid (fun a ob ha nx q => ?_) r) S.h0
      rcases q with q | q | ⟨i, q⟩
      · rcases ok.x0 a q with q' | q'
        · exact nx q'
        · rw [ha] at q'; cases q'
      · rw [q, ok.l0] at ha; cases ha
      · rw [S.o0 i a q] at ha; cases ha
    · cases he
theorem Fx.ev_cint (i : Int) : c.EvOk (.cint i) := by
  intro e d o ρ s Q E hm he S k
  refine inv_cint (P := fun E0 => wpAny _ _ (eval E0 _) _ _ _) e hm fun _ _ _ hm => ?_
  · simp only [Zaa, evq_own, evq_glob, evq_cint, evq_cstr, evq_cbool, evq_cnone, Zab, evq_neg, evq_nt, evq_and, evq_or, evq_cmp, evq_cmp2, evq_call, evq_bi1, evq_bi2, evq_isi, evq_find, evq_idx, evq_slice, evq_tupD, evq_lstD, evq_dctD, ] at he; cases he
    obtain rfl := beq_iff_eq.mp hm
    exact wpAny_Constant_int (k _ s.heap _ (.refl _) (.of S.st.sys (.int _ _)))
theorem Fx.ev_cstr (i : Str) : c.EvOk (.cstr i) := by
  intro e d o ρ s Q E hm he S k
  refine inv_cstr (P := fun E0 => wpAny _ _ (eval E0 _) _ _ _) e hm fun _ _ _ hm => ?_
  · simp only [Zaa, evq_own, evq_glob, evq_cint, evq_cstr, evq_cbool, evq_cnone, Zab, evq_neg, evq_nt, evq_and, evq_or, evq_cmp, evq_cmp2, evq_call, evq_bi1, evq_bi2, evq_isi, evq_find, evq_idx, evq_slice, evq_tupD, evq_lstD, evq_dctD, ] at he; cases he
    obtain rfl := beq_iff_eq.mp hm
    exact Calls.Constant_str (k _ s.heap _ (.refl _) (.of S.st.sys (.str _ _)))
theorem Fx.ev_cbool (i : Bool) : c.EvOk (.cbool i) := by
  intro e d o ρ s Q E hm he S k
  refine inv_cbool (P := fun E0 => wpAny _ _ (eval E0 _) _ _ _) e hm fun _ _ _ hm => ?_
  · simp only [Zaa, evq_own, evq_glob, evq_cint, evq_cstr, evq_cbool, evq_cnone, Zab, evq_neg, evq_nt, evq_and, evq_or, evq_cmp, evq_cmp2, evq_call, evq_bi1, evq_bi2, evq_isi, evq_find, evq_idx, evq_slice, evq_tupD, evq_lstD, evq_dctD, ] at he; cases he
    obtain rfl := beq_iff_eq.mp hm
    exact fun _ _ _ => k _ s.heap s.toks (.refl _) (.of S.st.sys (.bool _))
theorem Fx.ev_cnone : c.EvOk .cnone := by
  intro e d o ρ s Q E hm he S k
  refine inv_cnone (P := fun E0 => wpAny _ _ (eval E0 _) _ _ _) e hm fun _ _ hm => ?_
  · simp only [Zaa, evq_own, evq_glob, evq_cint, evq_cstr, evq_cbool, evq_cnone, Zab, evq_neg, evq_nt, evq_and, evq_or, evq_cmp, evq_cmp2, evq_call, evq_bi1, evq_bi2, evq_isi, evq_find, evq_idx, evq_slice, evq_tupD, evq_lstD, evq_dctD, ] at he; cases he
    exact fun _ _ _ => k _ s.heap s.toks (.refl _) (.of S.st.sys .none)
theorem Fx.two {a b : ME} (ha : c.EvOk a) (hb : c.EvOk b) {ea eb : Expr} {x y : D} {o : Nat → Option Addr} {ρ : Env} {s : Shared} {E : Value → Shared → Prop} {T : Value → Value → Shared → Prop} (ma : matchE c.C a ea = true) (mb : matchE c.C b eb = true)
    (xa : ev c.O c.t.G ρ a = .ok x) (xb : ev c.O c.t.G ρ b = .ok y) (S : c.St o ρ s.heap)
    (k : ∀ v u h' tk, ExtF (stk c.A) s.heap h' → EvRep c.t.prog c.t.w c.X c.L o ρ a.esc h' v x → EvRep c.t.prog c.t.w c.X c.L o ρ b.esc h' u y → T v u { s with heap := h', toks := tk }) :
    wpAny c.M c.A (eval ea c.env) (fun v s₁ => wpAny c.M c.A (eval eb c.env) (fun u s₂ => T v u s₂) E s₁) E s :=
  ha ea x o ρ s _ E ma xa S fun v h1 t1 x1 r1 => hb eb y o ρ _ _ E mb xb (S.extF x1) fun u h2 t2 x2 r2 => k v u h2 t2 (x1.trans x2) (r1.ext x2 S.frm.x) r2
theorem Fx.ev_bin (op : Operator) {a b : ME} (ha : c.EvOk a) (hb : c.EvOk b) : c.EvOk (.bin op a b) := by
  intro e d o ρ s Q E hm he S k
  refine inv_bin (P := fun E0 => wpAny _ _ (eval E0 _) _ _ _) e hm fun _ _ _ _ hm => ?_
  · simp only [Bool.and_eq_true, beq_iff_eq] at hm
    obtain ⟨⟨rfl, m1⟩, m2⟩ := hm
    simp only [Zaa, evq_own, evq_glob, evq_cint, evq_cstr, evq_cbool, evq_cnone, Zab, evq_neg, evq_nt, evq_and, evq_or, evq_cmp, evq_cmp2, evq_call, evq_bi1, evq_bi2, evq_isi, evq_find, evq_idx, evq_slice, evq_tupD, evq_lstD, evq_dctD, ] at he
    obtain ⟨x, hx, he⟩ := R.bind_inv he
    obtain ⟨y, hy, he⟩ := R.bind_inv he
    refine wpAny_BinOp (Fx.two ok ha hb m1 m2 hx hy S fun v u h' tk x1 r1 r2 => ?_)
    exact bin_sound (S.extF x1).st.live r1.out r2.out he fun v' h2 t2 x2 r => k v' h2 t2 (x1.te x2) (.of S.st.sys r)
theorem Fx.ev_neg {a : ME} (ha : c.EvOk a) : c.EvOk (.neg a) := by
  intro e d o ρ s Q E hm he S k
  refine inv_neg (P := fun E0 => wpAny _ _ (eval E0 _) _ _ _) e hm fun _ _ hm => ?_
  · simp only [Zaa, evq_own, evq_glob, evq_cint, evq_cstr, evq_cbool, evq_cnone, Zab, evq_neg, evq_nt, evq_and, evq_or, evq_cmp, evq_cmp2, evq_call, evq_bi1, evq_bi2, evq_isi, evq_find, evq_idx, evq_slice, evq_tupD, evq_lstD, evq_dctD, ] at he
    obtain ⟨x, hx, he⟩ := R.bind_inv he
    split at he
    · cases he
      refine wpAny_UnaryOp (ha _ _ o ρ s _ E hm hx S fun v h1 t1 x1 r1 => ?_)
      obtain ⟨t, rfl⟩ := r1.out.int_inv
      exact neg_int (k _ h1 _ x1 (.of S.st.sys (.int _ _)))
    · cases he
theorem Fx.ev_nt {a : ME} (ha : c.EvOk a) : c.EvOk (.nt a) := by
  intro e d o ρ s Q E hm he S k
  refine inv_nt (P := fun E0 => wpAny _ _ (eval E0 _) _ _ _) e hm fun _ _ hm => ?_
  · simp only [Zaa, evq_own, evq_glob, evq_cint, evq_cstr, evq_cbool, evq_cnone, Zab, evq_neg, evq_nt, evq_and, evq_or, evq_cmp, evq_cmp2, evq_call, evq_bi1, evq_bi2, evq_isi, evq_find, evq_idx, evq_slice, evq_tupD, evq_lstD, evq_dctD, ] at he
    obtain ⟨x, hx, he⟩ := R.bind_inv he
    split at he
    · cases he
      refine wpAny_UnaryOp (ha _ _ o ρ s _ E hm hx S fun v h1 t1 x1 r1 => ?_)
      obtain rfl := r1.out.bool_inv
      exact not_value (wpAny_truthy_bool (k _ h1 _ x1 (.of S.st.sys (.bool _))))
    · cases he
theorem Fx.tr_nt {a : ME} (ha : c.TrOk a) : c.TrOk (.nt a) := by
  intro e b o ρ s Q E hm he S k
  refine inv_nt (P := fun E0 => wpAny _ _ (isTrue E0 _ (eval E0 _)) _ _ _) e hm fun _ _ hm => ?_
  · simp only [Zaa, evq_own, evq_glob, evq_cint, evq_cstr, evq_cbool, evq_cnone, Zab, evq_neg, evq_nt, evq_and, evq_or, evq_cmp, evq_cmp2, evq_call, evq_bi1, evq_bi2, evq_isi, evq_find, evq_idx, evq_slice, evq_tupD, evq_lstD, evq_dctD, ] at he
    obtain ⟨x, hx, he⟩ := R.bind_inv he
    split at he
    · rename_i b'
      cases he
      exact wpAny_isTrue_Not (ha _ b' o ρ s _ E hm hx S fun h1 t1 x1 => k h1 t1 x1)
    · cases he
theorem Fx.ev_and {a b : ME} (ha : c.EvOk a) (hb : c.EvOk b) : c.EvOk (.and a b) := by
  intro e d o ρ s Q E hm he S k
  refine inv_and (P := fun E0 => wpAny _ _ (eval E0 _) _ _ _) e hm fun x0 y zs p hm => ?_
  simp only [Zaa, evq_own, evq_glob, evq_cint, evq_cstr, evq_cbool, evq_cnone, Zab, evq_neg, evq_nt, evq_and, evq_or, evq_cmp, evq_cmp2, evq_call, evq_bi1, evq_bi2, evq_isi, evq_find, evq_idx, evq_slice, evq_tupD, evq_lstD, evq_dctD, ] at he
  obtain ⟨x, hx, he⟩ := R.bind_inv he
  have k' : ∀ v h' tk, ExtF (stk c.A) s.heap h' → EvRep c.t.prog c.t.w c.X c.L o ρ b.esc h' v d → Q v { s with heap := h', toks := tk } := fun v h' tk x1 r => k v h' tk x1 ⟨r.out, fun q => r.av (by simp only [ME.esc, Bool.or_eq_false_iff] at q; exact q.2), r.avl, r.avd⟩
  cases zs with
  | nil =>
    simp only [Bool.and_eq_true] at hm
    refine wpAny_And2 (ha _ _ o ρ s _ E hm.1 hx S fun v h1 t1 x1 r1 => ?_)
    split at he
    · obtain rfl := r1.out.bool_inv
      refine wpAny_truthy_bool ?_
      exact hb _ _ o ρ _ _ E hm.2 he (S.extF x1) fun v h2 t2 x2 r2 => k' v h2 t2 (x1.trans x2) r2
    · obtain rfl := r1.out.bool_inv
      cases he
      exact wpAny_truthy_bool (k' _ h1 t1 x1 (.of S.st.sys (.bool _)))
    · cases he
  | cons z zs =>
    simp only [Bool.and_eq_true] at hm
    show wpAny c.M c.A (do
      let v ← eval x0 c.env
      standAt p
      let t ← holding [v] (truthy v)
      match BoolOp.And, t with
      | .And, false | .Or, true => pure v
      | _, _ => eval (.BoolOp .And (y :: z :: zs) p) c.env) Q E s
    refine wpAny_bind (ha _ _ o ρ s _ E hm.1 hx S fun v h1 t1 x1 r1 => wpAny_bind (wpAny_standAt (wpAny_bind (wpAny_holding ?_))))
    split at he
    · obtain rfl := r1.out.bool_inv
      refine wpAny_truthy_bool ?_
      exact hb _ _ o ρ _ _ E hm.2 he (S.extF x1) fun v h2 t2 x2 r2 => k' v h2 t2 (x1.trans x2) r2
    · obtain rfl := r1.out.bool_inv
      cases he
      exact wpAny_truthy_bool (wpAny_pure (k' _ h1 t1 x1 (.of S.st.sys (.bool _))))
    · cases he
theorem Fx.ev_or {a b : ME} (ha : c.EvOk a) (hb : c.EvOk b) : c.EvOk (.or a b) := by
  intro e d o ρ s Q E hm he S k
  refine inv_or (P := fun E0 => wpAny _ _ (eval E0 _) _ _ _) e hm fun x0 y zs p hm => ?_
  simp only [Zaa, evq_own, evq_glob, evq_cint, evq_cstr, evq_cbool, evq_cnone, Zab, evq_neg, evq_nt, evq_and, evq_or, evq_cmp, evq_cmp2, evq_call, evq_bi1, evq_bi2, evq_isi, evq_find, evq_idx, evq_slice, evq_tupD, evq_lstD, evq_dctD, ] at he
  obtain ⟨x, hx, he⟩ := R.bind_inv he
  have k' : ∀ v h' tk, ExtF (stk c.A) s.heap h' → EvRep c.t.prog c.t.w c.X c.L o ρ b.esc h' v d → Q v { s with heap := h', toks := tk } := fun v h' tk x1 r => k v h' tk x1 ⟨r.out, fun q => r.av (by simp only [ME.esc, Bool.or_eq_false_iff] at q; exact q.2), r.avl, r.avd⟩
  cases zs with
  | nil =>
    simp only [Bool.and_eq_true] at hm
    refine wpAny_Or2 (ha _ _ o ρ s _ E hm.1 hx S fun v h1 t1 x1 r1 => ?_)
    split at he
    · obtain rfl := r1.out.bool_inv
      cases he
      exact wpAny_truthy_bool (k' _ h1 t1 x1 (.of S.st.sys (.bool _)))
    · obtain rfl := r1.out.bool_inv
      refine wpAny_truthy_bool ?_
      exact hb _ _ o ρ _ _ E hm.2 he (S.extF x1) fun v h2 t2 x2 r2 => k' v h2 t2 (x1.trans x2) r2
    · cases he
  | cons z zs =>
    simp only [Bool.and_eq_true] at hm
    show wpAny c.M c.A (do
      let v ← eval x0 c.env
      standAt p
      let t ← holding [v] (truthy v)
      match BoolOp.Or, t with
      | .And, false | .Or, true => pure v
      | _, _ => eval (.BoolOp .Or (y :: z :: zs) p) c.env) Q E s
    refine wpAny_bind (ha _ _ o ρ s _ E hm.1 hx S fun v h1 t1 x1 r1 => wpAny_bind (wpAny_standAt (wpAny_bind (wpAny_holding ?_))))
    split at he
    · obtain rfl := r1.out.bool_inv
      cases he
      exact wpAny_truthy_bool (wpAny_pure (k' _ h1 t1 x1 (.of S.st.sys (.bool _))))
    · obtain rfl := r1.out.bool_inv
      refine wpAny_truthy_bool ?_
      exact hb _ _ o ρ _ _ E hm.2 he (S.extF x1) fun v h2 t2 x2 r2 => k' v h2 t2 (x1.trans x2) r2
    · cases he
theorem Fx.tr_and {a b : ME} (ha : c.TrOk a) (hb : c.TrOk b) : c.TrOk (.and a b) := by
  intro e r o ρ s Q E hm he S k
  refine inv_and (P := fun E0 => wpAny _ _ (isTrue E0 _ (eval E0 _)) _ _ _) e hm fun x0 y zs p hm => ?_
  simp only [Zaa, evq_own, evq_glob, evq_cint, evq_cstr, evq_cbool, evq_cnone, Zab, evq_neg, evq_nt, evq_and, evq_or, evq_cmp, evq_cmp2, evq_call, evq_bi1, evq_bi2, evq_isi, evq_find, evq_idx, evq_slice, evq_tupD, evq_lstD, evq_dctD, ] at he
  obtain ⟨x, hx, he⟩ := R.bind_inv he
  cases zs with
  | nil =>
    simp only [Bool.and_eq_true] at hm
    refine wpAny_isTrue_BoolOp (wpAny_allTrue_And_cons ?_)
    split at he
    · refine ha _ true o ρ s _ E hm.1 hx S fun h1 t1 x1 => ?_
      refine wpAny_allTrue_And_cons (hb _ r o ρ _ _ E hm.2 he (S.extF x1) fun h2 t2 x2 => ?_)
      cases r
      · exact k h2 t2 (x1.trans x2)
      · exact wpAny_allTrue_And_nil (k h2 t2 (x1.trans x2))
    · cases he
      exact ha _ false o ρ s _ E hm.1 hx S fun h1 t1 x1 => k h1 t1 x1
    · cases he
  | cons z zs =>
    simp only [Bool.and_eq_true] at hm
    refine wpAny_isTrue_BoolOp (wpAny_allTrue_And_cons ?_)
    split at he
    · refine ha _ true o ρ s _ E hm.1 hx S fun h1 t1 x1 => ?_
      have := hb _ r o ρ { s with heap := h1, toks := t1 } Q E hm.2 he (S.extF x1) fun h2 t2 x2 => k h2 t2 (x1.trans x2)
      exact this
    · cases he
      exact ha _ false o ρ s _ E hm.1 hx S fun h1 t1 x1 => k h1 t1 x1
    · cases he
theorem Fx.tr_or {a b : ME} (ha : c.TrOk a) (hb : c.TrOk b) : c.TrOk (.or a b) := by
  intro e r o ρ s Q E hm he S k
  refine inv_or (P := fun E0 => wpAny _ _ (isTrue E0 _ (eval E0 _)) _ _ _) e hm fun x0 y zs p hm => ?_
  simp only [Zaa, evq_own, evq_glob, evq_cint, evq_cstr, evq_cbool, evq_cnone, Zab, evq_neg, evq_nt, evq_and, evq_or, evq_cmp, evq_cmp2, evq_call, evq_bi1, evq_bi2, evq_isi, evq_find, evq_idx, evq_slice, evq_tupD, evq_lstD, evq_dctD, ] at he
  obtain ⟨x, hx, he⟩ := R.bind_inv he
  cases zs with
  | nil =>
    simp only [Bool.and_eq_true] at hm
    refine wpAny_isTrue_BoolOp (wpAny_allTrue_Or_cons ?_)
    split at he
    · cases he
      exact ha _ true o ρ s _ E hm.1 hx S fun h1 t1 x1 => k h1 t1 x1
    · refine ha _ false o ρ s _ E hm.1 hx S fun h1 t1 x1 => ?_
      refine wpAny_allTrue_Or_cons (hb _ r o ρ _ _ E hm.2 he (S.extF x1) fun h2 t2 x2 => ?_)
      cases r
      · exact wpAny_allTrue_Or_nil (k h2 t2 (x1.trans x2))
      · exact k h2 t2 (x1.trans x2)
    · cases he
  | cons z zs =>
    simp only [Bool.and_eq_true] at hm
    refine wpAny_isTrue_BoolOp (wpAny_allTrue_Or_cons ?_)
    split at he
    · cases he
      exact ha _ true o ρ s _ E hm.1 hx S fun h1 t1 x1 => k h1 t1 x1
    · refine ha _ false o ρ s _ E hm.1 hx S fun h1 t1 x1 => ?_
      have := hb _ r o ρ { s with heap := h1, toks := t1 } Q E hm.2 he (S.extF x1) fun h2 t2 x2 => k h2 t2 (x1.trans x2)
      exact this
    · cases he
end
end Mine
-- MEv2
set_option autoImplicit false
set_option linter.all false
namespace Mine
open PySem PyProof.Rows

theorem match_notSet {C : MC} {m : ME} {e : Expr} (op : CmpOp) (h : matchE C m e = true) : behindInMarks op e = false := by
  cases e with
  | Set es k p => cases m <;> exact Bool.noConfusion h
  | _ => rfl
theorem match_noSlice {C : MC} {m : ME} {e : Expr} (h : matchE C m e = true) : noSlice e = true := by
  cases e with
  | Slice l u st p => cases m <;> exact Bool.noConfusion h
  | _ => rfl
theorem match_star {C : MC} {m : ME} {e : Expr} (h : matchE C m e = true) (rest : List Expr) (env : PySem.Env) : starEach (e :: rest) env = (false, eval e env) :: starEach rest env := by
  cases e with
  | Starred v p => cases m <;> exact Bool.noConfusion h
  | _ => rfl
theorem match_base {C : MC} {m : ME} {e : Expr} (h : matchE C m e = true) (name : Str) (env : PySem.Env) (whole : Sem Value) : attributeBase e name env whole = whole := by
  cases e with
  | Call f as ks p =>
    cases as with
    | cons a as => cases f <;> rfl
    | nil =>
      cases f with
      | Name x q =>
        cases ks with
        | nil => cases m <;> exact Bool.noConfusion h
        | cons k ks => rfl
      | _ => rfl
  | _ => rfl
theorem trees_plain {C : MC} : ∀ {ms : MEs} {es : List Expr}, matchEs C ms es = true → ∀ (pos : Pos) (env : PySem.Env), backTo pos (starEach es env) = es.map fun e => (false, eval e env)
  | .nil, [], _, _, _ => rfl
  | .nil, _ :: _, h, _, _ => Bool.noConfusion h
  | .cons _ _, [], h, _, _ => Bool.noConfusion h
  | .cons a as, e :: es, h, pos, env => by
    have h := Bool.and_eq_true_iff.mp (show (matchE C a e && matchEs C as es) = true from h)
    rw [match_star h.1]
    show (false, eval e env) :: backTo pos (starEach es env) = _
    rw [trees_plain h.2]; rfl
theorem trees_noStar (es : List Expr) (env : PySem.Env) : (es.map fun e => (false, eval e env)).any (·.1) = false := by
  induction es with
  | nil => rfl
  | cons e es ih => simpa using ih
section
variable {prog : Program} {w : World} {A : Around} {E : Value → Shared → Prop} {s : Shared} {env : PySem.Env}
theorem wp_rel {vs keep : List Value} {Q : Unit → Shared → Prop} (h : Q () s) : wpAny (model prog w) A (release vs keep) Q E s := fun Γ p _ => by rw [Sem.wp_release]; exact h
theorem wp_cmp2 {l r1 r2 : Expr} {o1 o2 : CmpOp} {pos : Pos} {Q : Value → Shared → Prop}
    (h : wpAny (model prog w) A (eval l env) (fun a s₁ => wpAny (model prog w) A (eval r1 env) (fun b s₂ => wpAny (model prog w) A (compareOp o1 a b) (fun c s₃ =>
      ∃ t, c = .bool t ∧ if t then wpAny (model prog w) A (eval r2 env) (fun d s₄ => wpAny (model prog w) A (compareOp o2 b d) Q E s₄) E s₃ else Q c s₃) E s₂) E s₁) E s)
    (hm : behindInMarks o2 r2 = false) : wpAny (model prog w) A (eval (.Compare l [o1, o2] [r1, r2] pos) env) Q E s := by
  show wpAny (model prog w) A (eval l env >>= fun a => compareChain pos a [o1, o2] [eval r1 env, markedBehindIn o2 r2 (eval r2 env)]) Q E s
  rw [markedBehindIn_of_false hm]
  refine wpAny_bind (wpAny_mono h (fun a s₁ h₁ => ?_) fun _ _ x => x)
  show wpAny (model prog w) A (holding [a] (eval r1 env) >>= _) Q E s₁
  refine wpAny_bind (wpAny_holding (wpAny_mono h₁ (fun b s₂ h₂ => ?_) fun _ _ x => x))
  refine wpAny_bind (wpAny_standAt (wpAny_bind (wpAny_holding (wpAny_mono h₂ (fun c s₃ h₃ => ?_) fun _ _ x => x))))
  obtain ⟨t, rfl, h₃⟩ := h₃
  refine wpAny_bind (wp_rel (wpAny_bind (wpAny_holding (wpAny_truthy_bool ?_))))
  cases t with
  | false => exact wpAny_pure h₃
  | true =>
    show wpAny (model prog w) A (holding [b] (eval r2 env) >>= _) Q E s₃
    refine wpAny_bind (wpAny_holding (wpAny_mono h₃ (fun d s₄ h₄ => ?_) fun _ _ x => x))
    exact wpAny_bind (wpAny_standAt (wpAny_operating h₄))
theorem wp_test2 {l r1 r2 : Expr} {o1 o2 : CmpOp} {pos : Pos} {whole : Sem Value} {Q : Bool → Shared → Prop}
    (h : wpAny (model prog w) A (eval l env) (fun a s₁ => wpAny (model prog w) A (eval r1 env) (fun b s₂ => wpAny (model prog w) A (compareOp o1 a b) (fun c s₃ =>
      ∃ t, c = .bool t ∧ if t then wpAny (model prog w) A (eval r2 env) (fun d s₄ => wpAny (model prog w) A (compareOp o2 b d) (fun z s₅ => ∃ u, z = .bool u ∧ Q u s₅) E s₄) E s₃ else Q false s₃) E s₂) E s₁) E s)
    (hm : behindInMarks o2 r2 = false) : wpAny (model prog w) A (isTrue (.Compare l [o1, o2] [r1, r2] pos) env whole) Q E s := by
  show wpAny (model prog w) A (eval l env >>= fun a => testChain pos a [o1, o2] [eval r1 env, markedBehindIn o2 r2 (eval r2 env)]) Q E s
  rw [markedBehindIn_of_false hm]
  refine wpAny_bind (wpAny_mono h (fun a s₁ h₁ => ?_) fun _ _ x => x)
  show wpAny (model prog w) A (holding [a] (eval r1 env) >>= _) Q E s₁
  refine wpAny_bind (wpAny_holding (wpAny_mono h₁ (fun b s₂ h₂ => ?_) fun _ _ x => x))
  refine wpAny_bind (wpAny_standAt (wpAny_bind (wpAny_holding (wpAny_mono h₂ (fun c s₃ h₃ => ?_) fun _ _ x => x))))
  obtain ⟨t, rfl, h₃⟩ := h₃
  refine wpAny_bind (wp_rel (wpAny_bind (wpAny_holding (wpAny_truthy_bool ?_))))
  cases t with
  | false => exact wpAny_pure h₃
  | true =>
    show wpAny (model prog w) A (holding [b] (eval r2 env) >>= _) Q E s₃
    refine wpAny_bind (wpAny_holding (wpAny_mono h₃ (fun d s₄ h₄ => ?_) fun _ _ x => x))
    refine wpAny_bind (wpAny_standAt (wpAny_bind (wpAny_operating (wpAny_mono h₄ (fun z s₅ h₅ => ?_) fun _ _ x => x))))
    obtain ⟨u, rfl, h₅⟩ := h₅
    exact wpAny_holding (wpAny_truthy_bool h₅)
theorem callB {f : Value} (hf : (∃ id, f = .builtin id) ∨ ∃ T, f = .type T) {pos : Pos} {e : Expr} {es : List Expr} {Q : Value → Shared → Prop}
    (h : wpAny (model prog w) A (spliced ((e :: es).map fun e => (false, eval e env))) (fun vs s₁ => wpAny (model prog w) A (call f vs) Q E s₁) E s) :
    wpAny (model prog w) A (callWith pos f [] ((e :: es).map fun e => (false, eval e env)) []) Q E s := by
  rcases hf with ⟨id, rfl⟩ | ⟨T, rfl⟩
  · exact Calls.callWith_builtin (trees_noStar _ _) (Calls.evalArgs_plain h)
  · exact PyProof.Rows.callWith_type (trees_noStar _ _) (Calls.evalArgs_plain h)
end

noncomputable def CmpFull (prog : Program) (w : World) : Prop := ∀ (A : Around) (E : Value → Shared → Prop) (s : Shared) (X : Addr → Prop) (Q : Value → Shared → Prop) (op : CmpOp) (x y d : D) (a b : Value),
  Roomy A → RepO prog w X s.heap a x → RepO prog w X s.heap b y → cmpD op x y = .ok d → Cont prog w X s d Q → wpAny (model prog w) A (compareOp op a b) Q E s
section
variable {c : Fx} (ok : c.Ok) (hcf : CmpFull c.t.prog c.t.w)
include ok hcf

theorem Fx.ev_cmp (op : CmpOp) {a b : ME} (ha : c.EvOk a) (hb : c.EvOk b) : c.EvOk (.cmp op a b) := by
  intro e d o ρ s Q E hm he S k
  refine inv_cmp (P := fun E0 => wpAny _ _ (eval E0 _) _ _ _) e hm fun _ _ _ _ hm => ?_
  · simp only [Bool.and_eq_true, beq_iff_eq] at hm
    obtain ⟨⟨rfl, m1⟩, m2⟩ := hm
    simp only [Zaa, evq_own, evq_glob, evq_cint, evq_cstr, evq_cbool, evq_cnone, Zab, evq_neg, evq_nt, evq_and, evq_or, evq_cmp, evq_cmp2, evq_call, evq_bi1, evq_bi2, evq_isi, evq_find, evq_idx, evq_slice, evq_tupD, evq_lstD, evq_dctD, ] at he
    obtain ⟨x, hx, he⟩ := R.bind_inv he
    obtain ⟨y, hy, he⟩ := R.bind_inv he
    refine wpAny_Compare1 (Fx.two ok ha hb m1 m2 hx hy S fun v u h' tk x1 r1 r2 => ?_) (match_notSet _ m2)
    exact hcf _ _ _ _ _ _ _ _ _ _ _ ok.ar.roomy r1.out r2.out he fun v' h2 t2 x2 r => k v' h2 t2 (x1.te x2) (.of S.st.sys r)
theorem Fx.tr_cmp (op : CmpOp) {a b : ME} (ha : c.EvOk a) (hb : c.EvOk b) : c.TrOk (.cmp op a b) := by
  intro e r o ρ s Q E hm he S k
  refine inv_cmp (P := fun E0 => wpAny _ _ (isTrue E0 _ (eval E0 _)) _ _ _) e hm fun _ _ _ _ hm => ?_
  · simp only [Bool.and_eq_true, beq_iff_eq] at hm
    obtain ⟨⟨rfl, m1⟩, m2⟩ := hm
    simp only [Zaa, evq_own, evq_glob, evq_cint, evq_cstr, evq_cbool, evq_cnone, Zab, evq_neg, evq_nt, evq_and, evq_or, evq_cmp, evq_cmp2, evq_call, evq_bi1, evq_bi2, evq_isi, evq_find, evq_idx, evq_slice, evq_tupD, evq_lstD, evq_dctD, ] at he
    obtain ⟨x, hx, he⟩ := R.bind_inv he
    obtain ⟨y, hy, he⟩ := R.bind_inv he
    refine wpAny_isTrue_Compare1 (Fx.two ok ha hb m1 m2 hx hy S fun v u h' tk x1 r1 r2 => ?_) (match_notSet _ m2)
    refine hcf _ _ _ _ _ _ _ _ _ _ _ ok.ar.roomy r1.out r2.out he fun v' h2 t2 x2 r => ?_
    obtain rfl := r.bool_inv
    exact wpAny_truthy_bool (k h2 t2 (x1.te x2))
theorem Fx.ev_cmp2 (o1 o2 : CmpOp) {a b d' : ME} (ha : c.EvOk a) (hb : c.EvOk b) (hd : c.EvOk d') : c.EvOk (.cmp2 o1 o2 a b d') := by
  intro e d o ρ s Q E hm he S k
  refine inv_cmp2 (P := fun E0 => wpAny _ _ (eval E0 _) _ _ _) e hm fun _ _ _ _ _ _ hm => ?_
  · simp only [Bool.and_eq_true, beq_iff_eq] at hm
    obtain ⟨⟨⟨⟨rfl, rfl⟩, m1⟩, m2⟩, m3⟩ := hm
    simp only [Zaa, evq_own, evq_glob, evq_cint, evq_cstr, evq_cbool, evq_cnone, Zab, evq_neg, evq_nt, evq_and, evq_or, evq_cmp, evq_cmp2, evq_call, evq_bi1, evq_bi2, evq_isi, evq_find, evq_idx, evq_slice, evq_tupD, evq_lstD, evq_dctD, ] at he
    obtain ⟨x, hx, he⟩ := R.bind_inv he
    obtain ⟨y, hy, he⟩ := R.bind_inv he
    obtain ⟨t, ht, he⟩ := R.bind_inv he
    refine wp_cmp2 (Fx.two ok ha hb m1 m2 hx hy S fun v u h' tk x1 r1 r2 => ?_) (match_notSet _ m3)
    refine hcf _ _ _ _ _ _ _ _ _ _ _ ok.ar.roomy r1.out r2.out ht fun v' h2 t2 x2 r => ?_
    split at he
    · obtain rfl := r.bool_inv
      obtain ⟨z, hz, he⟩ := R.bind_inv he
      refine ⟨true, rfl, ?_⟩
      simp only [if_true]
      refine hd _ z o ρ _ _ E m3 hz ((S.extF x1).ext x2) fun v3 h3 t3 x3 r3 => ?_
      exact hcf _ _ _ _ _ _ _ _ _ _ _ ok.ar.roomy ((r2.ext x2.f S.frm.x).ext x3 S.frm.x).out r3.out he fun v4 h4 t4 x4 r4 => k v4 h4 t4 (((x1.te x2).trans x3).te x4) (.of S.st.sys r4)
    · obtain rfl := r.bool_inv
      cases he
      exact ⟨false, rfl, k _ h2 t2 (x1.te x2) (.of S.st.sys (.bool _))⟩
    · cases he
theorem Fx.tr_cmp2 (o1 o2 : CmpOp) {a b d' : ME} (ha : c.EvOk a) (hb : c.EvOk b) (hd : c.EvOk d') : c.TrOk (.cmp2 o1 o2 a b d') := by
  intro e d o ρ s Q E hm he S k
  refine inv_cmp2 (P := fun E0 => wpAny _ _ (isTrue E0 _ (eval E0 _)) _ _ _) e hm fun _ _ _ _ _ _ hm => ?_
  · simp only [Bool.and_eq_true, beq_iff_eq] at hm
    obtain ⟨⟨⟨⟨rfl, rfl⟩, m1⟩, m2⟩, m3⟩ := hm
    simp only [Zaa, evq_own, evq_glob, evq_cint, evq_cstr, evq_cbool, evq_cnone, Zab, evq_neg, evq_nt, evq_and, evq_or, evq_cmp, evq_cmp2, evq_call, evq_bi1, evq_bi2, evq_isi, evq_find, evq_idx, evq_slice, evq_tupD, evq_lstD, evq_dctD, ] at he
    obtain ⟨x, hx, he⟩ := R.bind_inv he
    obtain ⟨y, hy, he⟩ := R.bind_inv he
    obtain ⟨t, ht, he⟩ := R.bind_inv he
    refine wp_test2 (Fx.two ok ha hb m1 m2 hx hy S fun v u h' tk x1 r1 r2 => ?_) (match_notSet _ m3)
    refine hcf _ _ _ _ _ _ _ _ _ _ _ ok.ar.roomy r1.out r2.out ht fun v' h2 t2 x2 r => ?_
    split at he
    · obtain rfl := r.bool_inv
      obtain ⟨z, hz, he⟩ := R.bind_inv he
      refine ⟨true, rfl, ?_⟩
      simp only [if_true]
      refine hd _ z o ρ _ _ E m3 hz ((S.extF x1).ext x2) fun v3 h3 t3 x3 r3 => ?_
      refine hcf _ _ _ _ _ _ _ _ _ _ _ ok.ar.roomy ((r2.ext x2.f S.frm.x).ext x3 S.frm.x).out r3.out he fun v4 h4 t4 x4 r4 => ?_
      obtain rfl := r4.bool_inv
      exact ⟨_, rfl, k h4 t4 (((x1.te x2).trans x3).te x4)⟩
    · obtain rfl := r.bool_inv
      cases he
      exact ⟨false, rfl, k h2 t2 (x1.te x2)⟩
    · cases he
end

section
variable {c : Fx} (ok : c.Ok)
include ok
theorem Fx.ev_idx {a i : ME} (ha : c.EvOk a) (hi : c.EvOk i) : c.EvOk (.idx a i) := by
  intro e d o ρ s Q E hm he S k
  refine inv_idx (P := fun E0 => wpAny _ _ (eval E0 _) _ _ _) e hm fun _ _ _ hm => ?_
  · simp only [Bool.and_eq_true] at hm
    simp only [Zaa, evq_own, evq_glob, evq_cint, evq_cstr, evq_cbool, evq_cnone, Zab, evq_neg, evq_nt, evq_and, evq_or, evq_cmp, evq_cmp2, evq_call, evq_bi1, evq_bi2, evq_isi, evq_find, evq_idx, evq_slice, evq_tupD, evq_lstD, evq_dctD, ] at he
    obtain ⟨x, hx, he⟩ := R.bind_inv he
    obtain ⟨y, hy, he⟩ := R.bind_inv he
    refine Subscript_ (Fx.two ok ha hi hm.1 hm.2 hx hy S fun v u h' tk x1 r1 r2 => ?_)
    exact idx_sound (match_noSlice hm.2) r1.out r2.out he fun v' h2 t2 x2 r => k v' h2 t2 (x1.te x2) (.of S.st.sys r)
theorem Fx.ev_slice {a : ME} {lo hi : MO} (ha : c.EvOk a) (hl : c.EvoOk lo) (hh : c.EvoOk hi) : c.EvOk (.slice a lo hi) := by
  intro e d o ρ s Q E hm he S k
  refine inv_slice (P := fun E0 => wpAny _ _ (eval E0 _) _ _ _) e hm fun _ _ _ _ _ hm => ?_
  · simp only [Bool.and_eq_true] at hm
    simp only [Zaa, evq_own, evq_glob, evq_cint, evq_cstr, evq_cbool, evq_cnone, Zab, evq_neg, evq_nt, evq_and, evq_or, evq_cmp, evq_cmp2, evq_call, evq_bi1, evq_bi2, evq_isi, evq_find, evq_idx, evq_slice, evq_tupD, evq_lstD, evq_dctD, ] at he
    obtain ⟨x, hx, he⟩ := R.bind_inv he
    obtain ⟨l, hl', he⟩ := R.bind_inv he
    obtain ⟨u, hu', he⟩ := R.bind_inv he
    refine Subscript_ (ha _ x o ρ s _ E hm.1.1 hx S fun v h1 t1 x1 r1 => wpAny_Slice ?_)
    refine hl _ l o ρ _ _ E hm.1.2 hl' (S.extF x1) fun vl h2 t2 x2 p1 => ?_
    refine hh _ u o ρ _ _ E hm.2 hu' ((S.extF x1).extF x2) fun vu h3 t3 x3 p2 => ?_
    rw [evalPart_none]
    refine wpAny_pure ?_
    have S3 := ((S.extF x1).extF x2).extF x3
    refine slice_sound (lo := l) (hi := u) (vl := vl) (vu := vu) ((S3.ext (Ext.push _ _)).st.live) (((r1.ext x2 S.frm.x).ext x3 S.frm.x).ext (Ext.push _ _).f S.frm.x).out p1 p2 (Heap.IsSliceOf.new ..) he fun v' h4 t4 x4 r => ?_
    exact k v' h4 t4 ((((x1.trans x2).trans x3).te (Ext.push _ _)).te x4) (.of S.st.sys r)
theorem Fx.evo_none : c.EvoOk .none := by
  intro eo io o ρ s Q E hm he S k
  replace hm : eo = none := Option.isNone_iff_eq_none.mp hm
  subst hm
  simp only [evoq_none, evoq_some] at he; cases he
  rw [evalPart_none]
  exact wpAny_pure (k _ s.heap s.toks (.refl _) rfl)
theorem Fx.evo_some {a : ME} (ha : c.EvOk a) : c.EvoOk (.some a) := by
  intro eo io o ρ s Q E hm he S k
  replace hm := o1_inv hm
  obtain ⟨_, rfl, hm⟩ := hm
  · simp only [evoq_none, evoq_some] at he
    obtain ⟨x, hx, he⟩ := R.bind_inv he
    rw [evalPart_some]
    refine ha _ x o ρ s _ E hm hx S fun v h1 t1 x1 r1 => ?_
    unfold optInt at he
    split at he
    · cases he
      exact k v h1 t1 x1 r1.out.int_inv
    · cases he
theorem Fx.evs_nil : c.EvsOk .nil := by
  intro es ds o ρ s Q E hm he S k
  replace hm : es = [] := List.isEmpty_iff.mp hm
  subst hm
  simp only [evsq_nil, evsq_cons] at he; cases he
  exact Calls.spliced_nil (k _ s.heap s.toks (.refl _) ⟨fun _ => .nil, .nil, fun _ => .nil⟩)
theorem Fx.evs_cons {a : ME} {as : MEs} (ha : c.EvOk a) (hs : c.EvsOk as) : c.EvsOk (.cons a as) := by
  intro es ds o ρ s Q E hm he S k
  replace hm := lc_inv hm
  obtain ⟨_, _, rfl, hm⟩ := hm
  · simp only [Bool.and_eq_true] at hm
    simp only [evsq_nil, evsq_cons] at he
    obtain ⟨x, hx, he⟩ := R.bind_inv he
    obtain ⟨xs, hxs, he⟩ := R.bind_inv he
    cases he
    rw [List.map_cons]
    refine Calls.spliced_cons (ha _ x o ρ s _ E hm.1 hx S fun v h1 t1 x1 r1 => ?_)
    refine hs _ xs o ρ _ _ E hm.2 hxs (S.extF x1) fun vs h2 t2 x2 r2 => k _ h2 t2 (x1.trans x2) ⟨fun q => ?_, .cons (r1.ext x2 S.frm.x).avl r2.avl, fun q => ?_⟩
    · simp only [MEs.esc, Bool.or_eq_false_iff] at q
      exact .cons ((r1.ext x2 S.frm.x).av q.1) (r2.av q.2)
    · simp only [List.all_cons, Bool.and_eq_true] at q
      exact .cons ((r1.ext x2 S.frm.x).avd q.1) (r2.avd q.2)
theorem Fx.ev_tupD {as : MEs} (hs : c.EvsOk as) : c.EvOk (.tupD as) := by
  intro e d o ρ s Q E hm he S k
  refine inv_tupD (P := fun E0 => wpAny _ _ (eval E0 _) _ _ _) e hm fun _ _ _ hm => ?_
  · simp only [Zaa, evq_own, evq_glob, evq_cint, evq_cstr, evq_cbool, evq_cnone, Zab, evq_neg, evq_nt, evq_and, evq_or, evq_cmp, evq_cmp2, evq_call, evq_bi1, evq_bi2, evq_isi, evq_find, evq_idx, evq_slice, evq_tupD, evq_lstD, evq_dctD, ] at he
    split at he
    · cases he
    · rename_i hesc
      obtain ⟨xs, hxs, he⟩ := R.bind_inv he
      split at he
      · rename_i hb
        cases he
        refine Tuple_ ?_
        rw [trees_plain hm]
        refine hs _ xs o ρ s _ E hm hxs S fun vs h1 t1 x1 r1 => ?_
        have rl := r1.av (by simpa using hesc)
        refine wpAny_newObj_type ?_ (by show vs.toArray.size ≤ sizeLine; rw [List.size_toArray, rl.length, sizeLine_eq]; simp only [big] at hb; omega)
        refine k _ _ _ (x1.te (Ext.push _ _)) (.of S.st.sys ?_)
        exact .tuple (n := 0) (S.extF x1).st.live.new (Heap.get?_push_size _ rfl) (rl.ext (Ext.push _ _))
      · cases he
theorem Fx.ev_lstD {as : MEs} (hs : c.EvsOk as) : c.EvOk (.lstD as) := by
  intro e d o ρ s Q E hm he S k
  refine inv_lstD (P := fun E0 => wpAny _ _ (eval E0 _) _ _ _) e hm fun _ _ hm => ?_
  · simp only [Zaa, evq_own, evq_glob, evq_cint, evq_cstr, evq_cbool, evq_cnone, Zab, evq_neg, evq_nt, evq_and, evq_or, evq_cmp, evq_cmp2, evq_call, evq_bi1, evq_bi2, evq_isi, evq_find, evq_idx, evq_slice, evq_tupD, evq_lstD, evq_dctD, ] at he
    split at he
    · cases he
    · rename_i hesc
      obtain ⟨xs, hxs, he⟩ := R.bind_inv he
      split at he
      · rename_i hb
        cases he
        refine List_ ?_
        rw [trees_plain hm]
        refine hs _ xs o ρ s _ E hm hxs S fun vs h1 t1 x1 r1 => ?_
        have rl := r1.av (by simpa using hesc)
        refine wpAny_newObj_type ?_ (by show vs.toArray.size ≤ sizeLine; rw [List.size_toArray, rl.length, sizeLine_eq]; simp only [big] at hb; omega)
        refine k _ _ _ (x1.te (Ext.push _ _)) (.of S.st.sys ?_)
        exact .list (n := 0) (S.extF x1).st.live.new (Heap.get?_push_size _ rfl) (rl.ext (Ext.push _ _))
      · cases he
theorem Fx.ev_dctD : c.EvOk .dctD := by
  intro e d o ρ s Q E hm he S k
  refine inv_dctD (P := fun E0 => wpAny _ _ (eval E0 _) _ _ _) e hm fun _ hm => ?_
  · simp only [Zaa, evq_own, evq_glob, evq_cint, evq_cstr, evq_cbool, evq_cnone, Zab, evq_neg, evq_nt, evq_and, evq_or, evq_cmp, evq_cmp2, evq_call, evq_bi1, evq_bi2, evq_isi, evq_find, evq_idx, evq_slice, evq_tupD, evq_lstD, evq_dctD, ] at he; cases he
    refine wpAny_Dict_empty (k _ _ _ (Ext.push _ _).f (.of S.st.sys ?_))
    exact .dict (es := []) S.st.live.new (Heap.DictOf.new _) .nil
end
end Mine
-- MEv3
set_option autoImplicit false
set_option linter.all false
namespace Mine
open PySem PyProof.Rows

section
variable {prog : Program} {w : World} {X X' : Addr → Prop} {h : Heap}
theorem Rep.flat_avoid {v : Value} {d : D} (k : ∀ a vs n, h.get? a = some (tupO vs n) → ¬ X a → ¬ X' a) (q : flat d = true) (r : Rep prog w X h v d) : Rep prog w X' h v d :=
  r.go (L := false) (K := false) ⟨fun a vs n e nx => ⟨e, k a vs n e nx⟩, fun q => Bool.noConfusion q, fun q => Bool.noConfusion q⟩ q
theorem Rep.nodict_avoid {v : Value} {d : D} (k : ∀ a vs n, (h.get? a = some (tupO vs n) ∨ h.get? a = some (lstO vs n)) → ¬ X a → ¬ X' a) (q : nodict d = true) (r : Rep prog w X h v d) : Rep prog w X' h v d :=
  r.go (L := true) (K := false) ⟨fun a vs n e nx => ⟨e, k a vs n (.inl e) nx⟩, fun _ a vs n e nx => ⟨e, k a vs n (.inr e) nx⟩, fun q => Bool.noConfusion q⟩ q
end

section
variable {c : Fx} (ok : c.OkN)
include ok
theorem Fx.av0 {o : Nat → Option Addr} {ρ : Env} {h : Heap} (S : c.St o ρ h) : ∀ a, Av c.X c.L o a → c.t.X0 a ∨ c.t.h0.get? a = none := by
  intro a q
  rcases q with q | q | ⟨i, q⟩
  · exact ok.x0 a q
  · exact .inr (q ▸ ok.l0)
  · exact .inr (S.o0 i a q)
theorem Fx.avl0 {o : Nat → Option Addr} {ρ : Env} {h : Heap} (S : c.St o ρ h) : ∀ a, AvL c.X c.L a → c.t.X0 a ∨ c.t.h0.get? a = none := fun a q => Fx.av0 ok S a (q.elim .inl fun q => .inr (.inl q))
theorem Fx.avd0 {o : Nat → Option Addr} {ρ : Env} {h : Heap} (S : c.St o ρ h) : ∀ a, AvD c.X c.L o ρ a → c.t.X0 a ∨ c.t.h0.get? a = none := fun a q => Fx.av0 ok S a (q.elim .inl fun q => .inr (q.elim .inl fun ⟨i, _, q, _⟩ => .inr ⟨i, q⟩))
theorem Fx.call_fn {f : Nat} {F : MFn} {fa : Addr} {xs : List D} {r : D × Bool} {esc : Bool} {vs : List Value} {o : Nat → Option Addr} {ρ : Env} {s : Shared} {Q E : Value → Shared → Prop}
    (hF : c.t.fns[f]? = some F) (hn : c.t.mg F.name = some (.ref fa)) (hr : c.O.fn f xs = .ok r) (hal : aliasOk esc xs r.1 = true) (S : c.St o ρ s.heap) (R : EvRepAll c.t.prog c.t.w c.X c.L o ρ esc s.heap vs xs)
    (k : ∀ v h' tk, ExtF (stk c.A) s.heap h' → Rep c.t.prog c.t.w (Av c.X c.L o) h' v r.1 → (r.2 = true → ∃ c, v = .ref c ∧ s.heap.get? c = none) → Q v { s with heap := h', toks := tk }) : wpAny c.M c.A (call (.ref fa) vs) Q E s := by
  cases esc with
  | false => exact ok.orc.fn f xs r hr F fa c.A s (Av c.X c.L o) vs Q E hF hn ok.arn S.h0 S.st.live S.st.avSys (Fx.av0 ok S) (R.av rfl) (S.frm.mono fun a q => q.elim .inl fun q => .inr (.inl q)) k
  | true =>
    simp only [aliasOk, Bool.not_true, Bool.false_or, Bool.or_eq_true, Bool.and_eq_true] at hal
    rcases hal with hal | hal
    · refine ok.orc.fn f xs r hr F fa c.A s (AvL c.X c.L) vs Q E hF hn ok.arn S.h0 S.st.liveL (.inl S.st.sys) (Fx.avl0 ok S) R.avl S.frm fun v h' tk x1 r1 => k v h' tk x1 ?_
      refine Rep.flat_avoid (fun a vs n e nx q => ?_) hal r1
      rcases q with q | q | ⟨i, q⟩
      · exact nx (.inl q)
      · exact nx (.inr q)
      · obtain ⟨d, _, ow⟩ := (S.extF x1).st.own_slot q
        cases d with
        | list l => obtain ⟨vs', n', e', _⟩ := ow; rw [e] at e'; simp at e'
        | dict l => obtain ⟨es, e', _⟩ := ow; obtain ⟨ob, e2, e3⟩ := dictOf_get e'; rw [e] at e2; rw [← Option.some.inj e2] at e3; simp at e3
        | _ => cases ow
    · refine ok.orc.fn f xs r hr F fa c.A s (AvD c.X c.L o ρ) vs Q E hF hn ok.arn S.h0 (fun a q => S.st.live a (q.elim .inl fun q => .inr (q.elim .inl fun ⟨i, _, q, _⟩ => .inr ⟨i, q⟩))) (.inl S.st.sys) (Fx.avd0 ok S) (R.avd hal.2) (S.frm.mono fun a q => q.elim .inl fun q => .inr (.inl q)) fun v h' tk x1 r1 => k v h' tk x1 ?_
      refine Rep.nodict_avoid (fun a vs n e nx q => ?_) hal.1 r1
      rcases q with q | q | ⟨i, q⟩
      · exact nx (.inl q)
      · exact nx (.inr (.inl q))
      · obtain ⟨d, hd, ow⟩ := (S.extF x1).st.own_slot q
        cases d with
        | list l => exact nx (.inr (.inr ⟨i, l, q, hd⟩))
        | dict l =>
          obtain ⟨es, e', _⟩ := ow
          obtain ⟨ob, e2, e3⟩ := dictOf_get e'
          rcases e with e | e <;> (rw [e] at e2; rw [← Option.some.inj e2] at e3; simp at e3)
        | _ => cases ow
theorem Fx.call_fx {f : Nat} {F : MFn} {fa : Addr} {xs : List D} {x : EC} {esc : Bool} {vs : List Value} {o : Nat → Option Addr} {ρ : Env} {s : Shared} {Q E : Value → Shared → Prop}
    (hF : c.t.fns[f]? = some F) (hn : c.t.mg F.name = some (.ref fa)) (hr : c.O.fn f xs = .exc x) (S : c.St o ρ s.heap) (R : EvRepAll c.t.prog c.t.w c.X c.L o ρ esc s.heap vs xs)
    (k : ∀ e h' tk, ExtF (stk c.A) s.heap h' → Flew c.t s.heap h' e x → E (.ref e) { s with heap := h', toks := tk }) : wpAny c.M c.A (call (.ref fa) vs) Q E s :=
  ok.orc.fx f xs x hr F fa c.A s (AvL c.X c.L) vs Q E hF hn ok.arn S.h0 S.st.liveL (.inl S.st.sys) (Fx.avl0 ok S) R.avl S.frm k
theorem Fx.fn_of {f : Nat} {x : Str} (h : c.C.fnames[f]? = some x) : ∃ F, c.t.fns[f]? = some F ∧ F.name = x := by
  rw [ok.fnames, List.getElem?_map] at h
  cases hq : c.t.fns[f]? with
  | none => rw [hq] at h; cases h
  | some F => rw [hq] at h; cases h; exact ⟨F, rfl, rfl⟩
theorem Fx.ev_callG (f : Nat) {as : MEs} (hs : c.EvsOk as) {e : Expr} {xs : List D} {r : D × Bool} {o : Nat → Option Addr} {ρ : Env} {s : Shared} {Q E : Value → Shared → Prop}
    (hm : matchE c.C (.call f as) e = true) (hxs : evs c.O c.t.G ρ as = .ok xs) (hr : c.O.fn f xs = .ok r) (hal : aliasOk as.esc xs r.1 = true) (S : c.St o ρ s.heap)
    (k : ∀ v h' tk, ExtF (stk c.A) s.heap h' → Rep c.t.prog c.t.w (Av c.X c.L o) h' v r.1 → (r.2 = true → ∃ c, v = .ref c ∧ s.heap.get? c = none) → Q v { s with heap := h', toks := tk }) : wpAny c.M c.A (eval e c.env) Q E s := by
  refine inv_call (P := fun E0 => wpAny _ _ (eval E0 _) _ _ _) e hm fun _ _ _ _ _ hm => ?_
  · simp only [Bool.and_eq_true, beq_iff_eq, decide_eq_true_eq] at hm
    obtain ⟨⟨⟨h1, h2⟩, h3⟩, h4⟩ := hm
    obtain ⟨F, hF, rfl⟩ := Fx.fn_of ok h1
    obtain ⟨fa, fd, body, FN⟩ := ok.t.fn f F hF
    obtain ⟨ob, ho, hd⟩ := FN.obj
    refine Call_Name (trees_plain h3 _ _) (Fx.gname ok.toOk h2 FN.name S.h0 ?_)
    rw [List.map_cons]
    refine Calls.callWith_function (o := ob) (fd := fd) (Calls.evalArgs_plain ?_)
    have := hs _ xs o ρ s (fun vs s₁ => (s₁.heap.get? fa = some ob ∧ ob.data = .func fd) ∧ wpAny c.M c.A (call (.ref fa) vs []) Q E s₁) E h3 hxs S fun vs h1 t1 x1 r1 =>
      ⟨⟨(S.extF x1).h0 _ _ ho, hd⟩, Fx.call_fn ok hF FN.name hr hal (S.extF x1) r1 fun v h2 t2 x2 r2 fr => k v h2 t2 (x1.trans x2) r2 fun q => by
        obtain ⟨b, e1, e2⟩ := fr q
        exact ⟨b, e1, x1.none e2⟩⟩
    exact this
theorem Fx.ev_call (f : Nat) {as : MEs} (hs : c.EvsOk as) : c.EvOk (.call f as) := by
  intro e d o ρ s Q E hm he S k
  simp only [Zaa, evq_own, evq_glob, evq_cint, evq_cstr, evq_cbool, evq_cnone, Zab, evq_neg, evq_nt, evq_and, evq_or, evq_cmp, evq_cmp2, evq_call, evq_bi1, evq_bi2, evq_isi, evq_find, evq_idx, evq_slice, evq_tupD, evq_lstD, evq_dctD, ] at he
  obtain ⟨xs, hxs, he⟩ := R.bind_inv he
  obtain ⟨r, hr, he⟩ := R.bind_inv he
  split at he
  · rename_i hal
    cases he
    exact Fx.ev_callG ok f hs hm hxs hr hal S fun v h' tk x1 r1 _ => k v h' tk x1 (.of S.st.sys r1)
  · cases he
end
end Mine
-- MEv4
set_option autoImplicit false
set_option linter.all false
namespace Mine
open PySem PyProof.Rows

theorem b1_mem (b : B1) : (b1Name b, b1Val b) ∈ biNames := by cases b <;> (repeat (first | exact List.Mem.head _ | apply List.Mem.tail))
theorem b2_mem (b : B2) : (b2Name b, b2Val b) ∈ biNames := by cases b <;> (repeat (first | exact List.Mem.head _ | apply List.Mem.tail))
theorem ty_mem {t : Ty} (h : plainTy t = true) : (tyName t, tyVal t) ∈ biNames := by cases t <;> first | exact Bool.noConfusion h | (repeat (first | exact List.Mem.head _ | apply List.Mem.tail))
theorem b1_kind (b : B1) : (∃ id, b1Val b = .builtin id) ∨ ∃ T, b1Val b = .type T := by cases b <;> first | exact .inl ⟨_, rfl⟩ | exact .inr ⟨_, rfl⟩
theorem b2_kind (b : B2) : (∃ id, b2Val b = .builtin id) ∨ ∃ T, b2Val b = .type T := by cases b <;> exact .inl ⟨_, rfl⟩
noncomputable def IntText (prog : Program) (w : World) : Prop := ∀ (A : Around) (E : Value → Shared → Prop) (s : Shared) (Q : Value → Shared → Prop) (x : Str) (t : Tok) (i : Int), intOf x = some i → (∀ u tk, Q (.int i u) { s with toks := tk }) → wpAny (model prog w) A (call (.type "int") [.str x t]) Q E s
section
variable {c : Fx} (ok : c.OkN) (hit : IntText c.t.prog c.t.w)
include ok

theorem Fx.one_arg {a : ME} (ha : c.EvOk a) {f : Value} (hf : (∃ id, f = .builtin id) ∨ ∃ T, f = .type T) {x : Str} {p pos : Pos} {y : Expr} {d : D} {o : Nat → Option Addr} {ρ : Env} {s : Shared} {Q E : Value → Shared → Prop}
    (hx : isGl c.C x = true) (hv : (x, f) ∈ biNames) (hm : matchE c.C a y = true) (he : ev c.O c.t.G ρ a = .ok d) (S : c.St o ρ s.heap)
    (k : ∀ v h' tk, ExtF (stk c.A) s.heap h' → EvRep c.t.prog c.t.w c.X c.L o ρ a.esc h' v d → wpAny c.M c.A (call f [v]) Q E { s with heap := h', toks := tk }) : wpAny c.M c.A (eval (.Call (.Name x p) [y] [] pos) c.env) Q E s := by
  refine Call_Name (trees_plain (C := c.C) (ms := .cons a .nil) (es := [y]) (Bool.and_eq_true_iff.mpr ⟨hm, rfl⟩) _ _) (Fx.bname ok.toOk hx hv S.h0 (callB hf ?_))
  exact Calls.spliced_cons (ha _ d o ρ s _ E hm he S fun v h1 t1 x1 r1 => Calls.spliced_nil (k v h1 t1 x1 r1))
theorem Fx.two_args {a b : ME} (ha : c.EvOk a) (hb : c.EvOk b) {f : Value} (hf : (∃ id, f = .builtin id) ∨ ∃ T, f = .type T) {x : Str} {p pos : Pos} {y z : Expr} {d d' : D} {o : Nat → Option Addr} {ρ : Env} {s : Shared} {Q E : Value → Shared → Prop}
    (hx : isGl c.C x = true) (hv : (x, f) ∈ biNames) (hm : matchE c.C a y = true) (hm' : matchE c.C b z = true) (he : ev c.O c.t.G ρ a = .ok d) (he' : ev c.O c.t.G ρ b = .ok d') (S : c.St o ρ s.heap)
    (k : ∀ v u h' tk, ExtF (stk c.A) s.heap h' → EvRep c.t.prog c.t.w c.X c.L o ρ a.esc h' v d → EvRep c.t.prog c.t.w c.X c.L o ρ b.esc h' u d' → wpAny c.M c.A (call f [v, u]) Q E { s with heap := h', toks := tk }) : wpAny c.M c.A (eval (.Call (.Name x p) [y, z] [] pos) c.env) Q E s := by
  refine Call_Name (trees_plain (C := c.C) (ms := .cons a (.cons b .nil)) (es := [y, z]) (Bool.and_eq_true_iff.mpr ⟨hm, Bool.and_eq_true_iff.mpr ⟨hm', rfl⟩⟩) _ _) (Fx.bname ok.toOk hx hv S.h0 (callB hf ?_))
  refine Calls.spliced_cons (ha _ d o ρ s _ E hm he S fun v h1 t1 x1 r1 => Calls.spliced_cons (hb _ d' o ρ _ _ E hm' he' (S.extF x1) fun u h2 t2 x2 r2 => Calls.spliced_nil ?_))
  exact k v u h2 t2 (x1.trans x2) (r1.ext x2 S.frm.x) r2
include hit in
theorem Fx.ev_bi1 (b : B1) {a : ME} (ha : c.EvOk a) : c.EvOk (.bi1 b a) := by
  intro e d o ρ s Q E hm he S k
  refine inv_bi1 (P := fun E0 => wpAny _ _ (eval E0 _) _ _ _) e hm fun _ _ _ _ hm => ?_
  · simp only [Bool.and_eq_true, beq_iff_eq] at hm
    obtain ⟨⟨rfl, h2⟩, h3⟩ := hm
    simp only [Zaa, evq_own, evq_glob, evq_cint, evq_cstr, evq_cbool, evq_cnone, Zab, evq_neg, evq_nt, evq_and, evq_or, evq_cmp, evq_cmp2, evq_call, evq_bi1, evq_bi2, evq_isi, evq_find, evq_idx, evq_slice, evq_tupD, evq_lstD, evq_dctD, ] at he
    obtain ⟨x, hx, he⟩ := R.bind_inv he
    refine Fx.one_arg ok ha (b1_kind b) h2 (b1_mem b) h3 hx S fun v h1 t1 x1 r1 => ?_
    by_cases hb : ∃ t, x = .str t ∧ b = .int
    · obtain ⟨t, rfl, rfl⟩ := hb
      obtain ⟨u, rfl⟩ := r1.out.str_inv
      change (match intOf t with | some i => R.ok (PyData.int i) | none => R.stuck) = _ at he
      cases hi : intOf t with
      | none => rw [hi] at he; cases he
      | some i =>
        rw [hi] at he
        cases he
        exact hit _ _ _ _ _ _ _ hi fun u tk => k _ h1 tk x1 (.of S.st.sys (.int _ _))
    · exact b1_sound ok.hn (S.extF x1).st.live r1.out he (fun v' h2 t2 x2 r => k v' h2 t2 (x1.te x2) (.of S.st.sys r)) fun t q q' => hb ⟨t, q, q'⟩
theorem Fx.ev_bi2 (b : B2) {a a' : ME} (ha : c.EvOk a) (ha' : c.EvOk a') : c.EvOk (.bi2 b a a') := by
  intro e d o ρ s Q E hm he S k
  refine inv_bi2 (P := fun E0 => wpAny _ _ (eval E0 _) _ _ _) e hm fun _ _ _ _ _ hm => ?_
  · simp only [Bool.and_eq_true, beq_iff_eq] at hm
    obtain ⟨⟨⟨rfl, h2⟩, h3⟩, h4⟩ := hm
    simp only [Zaa, evq_own, evq_glob, evq_cint, evq_cstr, evq_cbool, evq_cnone, Zab, evq_neg, evq_nt, evq_and, evq_or, evq_cmp, evq_cmp2, evq_call, evq_bi1, evq_bi2, evq_isi, evq_find, evq_idx, evq_slice, evq_tupD, evq_lstD, evq_dctD, ] at he
    obtain ⟨x, hx, he⟩ := R.bind_inv he
    obtain ⟨y, hy, he⟩ := R.bind_inv he
    refine Fx.two_args ok ha ha' (b2_kind b) h2 (b2_mem b) h3 h4 hx hy S fun v u h1 t1 x1 r1 r2 => ?_
    exact b2_sound ok.hn r1.out r2.out he fun v' h2 t2 x2 r => k v' h2 t2 (x1.te x2) (.of S.st.sys r)
theorem Fx.ev_isi {a : ME} (t : Ty) (ha : c.EvOk a) : c.EvOk (.isi a t) := by
  intro e d o ρ s Q E hm he S k
  refine inv_isi (P := fun E0 => wpAny _ _ (eval E0 _) _ _ _) e hm fun _ _ _ _ _ _ hm => ?_
  · rename_i x p y z pz pos
    simp only [Bool.and_eq_true, beq_iff_eq] at hm
    obtain ⟨⟨⟨⟨⟨rfl, h2⟩, h3⟩, h4⟩, rfl⟩, h6⟩ := hm
    simp only [Zaa, evq_own, evq_glob, evq_cint, evq_cstr, evq_cbool, evq_cnone, Zab, evq_neg, evq_nt, evq_and, evq_or, evq_cmp, evq_cmp2, evq_call, evq_bi1, evq_bi2, evq_isi, evq_find, evq_idx, evq_slice, evq_tupD, evq_lstD, evq_dctD, ] at he
    obtain ⟨x, hx, he⟩ := R.bind_inv he
    refine Call_Name (trees := [(false, eval y c.env), (false, eval (.Name (tyName t) pz) c.env)]) ?_ (Fx.bname ok.toOk (v := .builtin "isinstance") h2 (by repeat (first | exact List.Mem.head _ | apply List.Mem.tail)) S.h0 ?_)
    · rw [match_star h3]; rfl
    refine callB (es := [.Name (tyName t) pz]) (.inl ⟨"isinstance", rfl⟩) ?_
    refine Calls.spliced_cons (ha _ x o ρ s _ E h3 hx S fun v h1 t1 x1 r1 => Calls.spliced_cons (Fx.bname ok.toOk h6 (ty_mem h4) (S.extF x1).h0 (Calls.spliced_nil ?_)))
    exact isi_sound r1.out he fun v' h2 t2 x2 r => k v' h2 t2 (x1.te x2) (.of S.st.sys r)
theorem Fx.ev_find {a b : ME} (ha : c.EvOk a) (hb : c.EvOk b) : c.EvOk (.find a b) := by
  intro e d o ρ s Q E hm he S k
  refine inv_find (P := fun E0 => wpAny _ _ (eval E0 _) _ _ _) e hm fun _ _ _ _ _ hm => ?_
  · rename_i oe n ap y cp
    simp only [Bool.and_eq_true, beq_iff_eq] at hm
    obtain ⟨⟨⟨h1, rfl⟩, h3⟩, h4⟩ := hm
    simp only [Zaa, evq_own, evq_glob, evq_cint, evq_cstr, evq_cbool, evq_cnone, Zab, evq_neg, evq_nt, evq_and, evq_or, evq_cmp, evq_cmp2, evq_call, evq_bi1, evq_bi2, evq_isi, evq_find, evq_idx, evq_slice, evq_tupD, evq_lstD, evq_dctD, ] at he
    obtain ⟨x, hx, he⟩ := R.bind_inv he
    obtain ⟨y, hy, he⟩ := R.bind_inv he
    refine Call_method1 (match_base h3 _ _ _) (match_star h4 _ _) (by simpa using h1) (ha _ x o ρ s _ E h3 hx S fun v h1 t1 x1 r1 => ?_)
    obtain ⟨t, tk, rfl⟩ : ∃ t tk, v = .str t tk := by
      unfold findD at he
      split at he
      · obtain ⟨u, rfl⟩ := r1.out.str_inv; exact ⟨_, _, rfl⟩
      · cases he
    refine ⟨"str", "str.find", F.plainAttrs_str, F.slot_str_find, F.type_str_find, typeIs_str _ _ _, (fun _ q => by cases q), ?_⟩
    refine Calls.callWith_builtin rfl (Calls.evalArgs_plain (Calls.spliced_cons (hb _ y o ρ _ _ E h4 hy (S.extF x1) fun u h2 t2 x2 r2 => Calls.spliced_nil ?_)))
    obtain ⟨_, _, _, q⟩ := find_sound (A := c.A) (E := E) (Q := Q) (s := { s with heap := h2, toks := t2 }) (r1.ext x2 S.frm.x).out r2.out he fun v' h3 t3 x3 r => k v' h3 t3 ((x1.trans x2).te x3) (.of S.st.sys r)
    exact q
noncomputable def plainTest : Expr → Bool
  | .UnaryOp .Not _ _ => false
  | .BoolOp _ _ _ => false
  | .IfExp _ _ _ _ => false
  | .Compare _ _ _ _ => false
  | _ => true
omit ok in
theorem isTrue_of_plain {e : Expr} (h : plainTest e = true) (env : PySem.Env) (whole : Sem Value) : isTrue e env whole = (do let v ← whole; standAt e.pos; holding [v] (truthy v)) := by
  cases e with
  | UnaryOp op x p => cases op <;> first | (cases h; done) | rfl
  | BoolOp => cases h
  | IfExp => cases h
  | Compare => cases h
  | _ => rfl
noncomputable def plainMTest : ME → Bool
  | .nt _ | .and _ _ | .or _ _ | .cmp _ _ _ | .cmp2 _ _ _ _ _ => false
  | _ => true
omit ok in
theorem match_plainTest {C : MC} {m : ME} {e : Expr} (h : matchE C m e = true) (hp : plainMTest m = true) : plainTest e = true := by
  cases e with
  | UnaryOp op x p => cases op <;> first | rfl | (cases m <;> first | exact Bool.noConfusion hp | exact Bool.noConfusion h)
  | BoolOp => cases m <;> first | exact Bool.noConfusion hp | exact Bool.noConfusion h
  | IfExp => cases m <;> first | exact Bool.noConfusion hp | exact Bool.noConfusion h
  | Compare => cases m <;> first | exact Bool.noConfusion hp | exact Bool.noConfusion h
  | _ => rfl
omit ok in
theorem Fx.tr_plain {m : ME} (hp : plainMTest m = true) (ha : c.EvOk m) : c.TrOk m := by
  intro e b o ρ s Q E hm he S k
  refine wpAny_isTrue_value (ha _ _ o ρ s _ E hm he S fun v h1 t1 x1 r1 => ?_) (isTrue_of_plain (match_plainTest hm hp) _ _)
  obtain rfl := r1.out.bool_inv
  exact wpAny_truthy_bool (k h1 t1 x1)
end
end Mine
-- MEx
set_option autoImplicit false
set_option linter.all false
namespace Mine
open PySem PyProof.Rows

noncomputable def Wr (L : Addr) (o : Nat → Option Addr) : Addr → Prop := fun a => a = L ∨ ∃ i, o i = some a
theorem wr_av {X : Addr → Prop} {L : Addr} {o : Nat → Option Addr} : ∀ a, Wr L o a → Av X L o a := fun a q => .inr q
noncomputable def upd {α : Type} (o : Nat → α) (i : Nat) (v : α) : Nat → α := fun j => if j = i then v else o j
theorem upd_same {α : Type} (o : Nat → α) (i : Nat) (v : α) : upd o i v i = v := if_pos rfl
theorem upd_other {α : Type} (o : Nat → α) {i j : Nat} (v : α) (h : j ≠ i) : upd o i v j = o j := if_neg h
theorem sameBut_keep {L : Addr} {h h' : Heap} (sb : Heap.SameBut L h h') {W : Addr → Prop} (hw : W L) : Keep W h h' := fun b o e n => (sb.2 b fun q => n (q ▸ hw)).trans e
theorem Kp.but {F W : Addr → Prop} {h h1 h2 : Heap} {a : Addr} (x : Kp F W h h1) (sb : Heap.ExtBut a h1 h2) (n : ∀ ob, h.get? a = some ob → ¬ W a → False) : Kp F W h h2 := fun b o e nw => by
  have hb : b ≠ a := fun q => n o (q ▸ e) (q ▸ nw)
  rcases x b o e nw with q | ⟨f, sl, q⟩
  · exact .inl (sb b _ hb q)
  · exact .inr ⟨f, sl, sb b _ hb q⟩
section
variable {xe : XE} {prog : Program} {w : World} {X : Addr → Prop} {L : Addr} {slots : List Str} {o : Nat → Option Addr} {ρ : Env} {h h' : Heap}

theorem slot_ne (nd : slots.Nodup) {i j : Nat} {x y : Str} (hi : slots[i]? = some x) (hj : slots[j]? = some y) (hne : j ≠ i) : y ≠ x := by
  intro e
  subst e
  have h1 := (List.getElem?_eq_some_iff.mp hi)
  have h2 := (List.getElem?_eq_some_iff.mp hj)
  obtain ⟨l1, e1⟩ := h1
  obtain ⟨l2, e2⟩ := h2
  exact hne ((List.getElem_inj nd).mp (e2.trans e1.symm))
theorem St.set_sl (S : St xe prog w X L slots o ρ h) (nd : slots.Nodup) {i : Nat} {x : Str} (hx : slots[i]? = some x) {v : Value} {sl : Slot} {m : Str → Option Value} (hm : h.Ns L m) (hs : ∀ i x, slots[i]? = some x → SlotOk xe prog w (Av X L o) h (o i) (m x) (ρ[i]?))
    (r : SlotOk xe prog w (Av X L o) h none (some v) (some sl)) (hn : h'.Ns L (fun y => if y = x then some v else m y)) (sb : Heap.SameBut L h h') : St xe prog w X L slots (upd o i none) (ρ.set i sl) h' := by
  have kp : Keep (Av X L o) h h' := sameBut_keep sb (.inr (.inl rfl))
  have av : ∀ a, Av X L (upd o i none) a → Av X L o a := fun a q => by
    rcases q with q | q | ⟨j, q⟩
    · exact .inl q
    · exact .inr (.inl q)
    · by_cases hj : j = i
      · subst hj; rw [upd_same] at q; cases q
      · rw [upd_other _ _ hj] at q; exact .inr (.inr ⟨j, q⟩)
  have hi : i < ρ.length := by rw [S.len]; exact (List.getElem?_eq_some_iff.mp hx).1
  refine ⟨⟨_, hn, fun j y hy => ?_⟩, S.xl, fun j a q => ?_, fun j k a q q' => ?_, fun a q => ?_, S.sys, by rw [List.length_set, S.len]⟩
  · by_cases hj : j = i
    · subst hj
      rw [hx] at hy; cases hy
      rw [List.getElem?_set_self hi, upd_same]
      rw [if_pos rfl]
      exact (r.mono kp fun _ q => nomatch q).avoid fun a _ _ n q => n (av a q)
    · have hne := slot_ne nd hx hy hj
      rw [List.getElem?_set_ne (Ne.symm hj), upd_other _ _ hj, if_neg hne]
      exact ((hs j y hy).mono kp fun a q ob e => (sb.2 a fun q' => (S.xo j a q).2.1 q').trans e).avoid fun a _ _ n q => n (av a q)
  · by_cases hj : j = i
    · subst hj; rw [upd_same] at q; cases q
    · rw [upd_other _ _ hj] at q; exact S.xo j a q
  · by_cases hj : j = i
    · subst hj; rw [upd_same] at q; cases q
    · by_cases hk : k = i
      · subst hk; rw [upd_same] at q'; cases q'
      · rw [upd_other _ _ hj] at q; rw [upd_other _ _ hk] at q'; exact S.inj j k a q q'
  · obtain ⟨ob, e, f⟩ := S.xok a q
    exact ⟨ob, (sb.2 a fun q' => S.xl (q' ▸ q)).trans e, f⟩
theorem St.set_own {F : Addr → Prop} {h1 : Heap} (S : St xe prog w X L slots o ρ h1) (nd : slots.Nodup) {i : Nat} {x : Str} (hx : slots[i]? = some x) {a : Addr} {d : D} (ha : h1.get? a = none) (x1 : ExtF F h1 h) (hF : ∀ a, F a → AvL X L a) (r : OwnRep prog w (fun b => Av X L o b ∨ b = a) h a d)
    {m : Str → Option Value} (hm : h1.Ns L m) (hs : ∀ i x, slots[i]? = some x → SlotOk xe prog w (Av X L o) h1 (o i) (m x) (ρ[i]?))
    (hn : h'.Ns L (fun y => if y = x then some (.ref a) else m y)) (sb : Heap.SameBut L h h') : St xe prog w X L slots (upd o i (some a)) (ρ.set i (.own d)) h' := by
  have lv := S.live
  have na : ¬ Av X L o a := fun q => by obtain ⟨ob, e, _⟩ := lv a q; rw [ha] at e; cases e
  have kp : Keep (fun b => Av X L o b ∨ b = a) h h' := sameBut_keep sb (.inl (.inr (.inl rfl)))
  have av : ∀ b, Av X L (upd o i (some a)) b → Av X L o b ∨ b = a := fun b q => by
    rcases q with q | q | ⟨j, q⟩
    · exact .inl (.inl q)
    · exact .inl (.inr (.inl q))
    · by_cases hj : j = i
      · subst hj; rw [upd_same] at q; cases q; exact .inr rfl
      · rw [upd_other _ _ hj] at q; exact .inl (.inr (.inr ⟨j, q⟩))
  have hi : i < ρ.length := by rw [S.len]; exact (List.getElem?_eq_some_iff.mp hx).1
  have nL : a ≠ L := fun q => na (.inr (.inl q))
  refine ⟨⟨_, hn, fun j y hy => ?_⟩, S.xl, fun j b q => ?_, fun j k b q q' => ?_, fun b q => ?_, S.sys, by rw [List.length_set, S.len]⟩
  · by_cases hj : j = i
    · subst hj
      rw [hx] at hy; cases hy
      rw [List.getElem?_set_self hi, upd_same]
      exact ⟨a, rfl, if_pos rfl, (r.mono kp fun ob e => (sb.2 a nL).trans e).avoid fun b _ _ n q => n (av b q)⟩
    · have hne := slot_ne nd hx hy hj
      rw [List.getElem?_set_ne (Ne.symm hj), upd_other _ _ hj, if_neg hne]
      have s1 := (hs j y hy).avoid (Y' := fun b => Av X L o b ∨ b = a) fun b ob e n q => q.elim n fun q => by rw [q, ha] at e; cases e
      have s2 := s1.mono (h' := h) (x1.keep fun a q => .inl ((hF a q).elim .inl fun q => .inr (.inl q))) fun b q ob e => x1.get e fun y => (hF b y).elim (S.xo j b q).1 (S.xo j b q).2.1
      exact (s2.mono kp fun b q ob e => (sb.2 b fun q' => (S.xo j b q).2.1 q').trans e).avoid fun b _ _ n q => n (av b q)
  · by_cases hj : j = i
    · subst hj; rw [upd_same] at q; cases q
      exact ⟨fun q => na (.inl q), nL, (List.getElem?_eq_some_iff.mp hx).1⟩
    · rw [upd_other _ _ hj] at q; exact S.xo j b q
  · by_cases hj : j = i
    · subst hj; rw [upd_same] at q; cases q
      by_cases hk : k = j
      · exact hk.symm
      · rw [upd_other _ _ hk] at q'; exact absurd (.inr (.inr ⟨k, q'⟩)) na
    · by_cases hk : k = i
      · subst hk; rw [upd_same] at q'; cases q'
        rw [upd_other _ _ hj] at q; exact absurd (.inr (.inr ⟨j, q⟩)) na
      · rw [upd_other _ _ hj] at q; rw [upd_other _ _ hk] at q'; exact S.inj j k b q q'
  · obtain ⟨ob, e, f⟩ := (S.xok.extF x1) b q
    exact ⟨ob, (sb.2 b fun q' => S.xl (q' ▸ q)).trans e, f⟩
theorem St.turn_own (S : St xe prog w X L slots o ρ h) {i : Nat} {a : Addr} {d : D} (ha : o i = some a) (sb : Heap.SameBut a h h') (r : OwnRep prog w (Av X L o) h' a d) : St xe prog w X L slots o (ρ.set i (.own d)) h' := by
  have kp : Keep (Av X L o) h h' := sameBut_keep sb (.inr (.inr ⟨i, ha⟩))
  obtain ⟨nx, nL, hi⟩ := S.xo i a ha
  have hi' : i < ρ.length := by rw [S.len]; exact hi
  obtain ⟨m, hm, hs⟩ := S.ns
  refine ⟨⟨m, hm.sameBut sb (Ne.symm nL), fun j y hy => ?_⟩, S.xl, S.xo, S.inj, fun b q => ?_, S.sys, by rw [List.length_set, S.len]⟩
  · by_cases hj : j = i
    · subst hj
      have := hs j y hy
      rw [List.getElem?_set_self hi']
      obtain ⟨d0, e0, _⟩ := S.own_slot ha
      rw [e0] at this
      obtain ⟨a', e1, e2, _⟩ := this
      exact ⟨a', e1, e2, by rw [ha] at e1; cases e1; exact r⟩
    · rw [List.getElem?_set_ne (Ne.symm hj)]
      exact (hs j y hy).mono kp fun b q ob e => (sb.2 b fun q' => hj (S.inj j i b q (q' ▸ ha))).trans e
  · obtain ⟨ob, e, f⟩ := S.xok b q
    exact ⟨ob, (sb.2 b fun q' => nx (q' ▸ q)).trans e, f⟩
end

theorem swaps_no {C : MC} {m : ME} {v : Expr} (h : matchE C m v = true) (hn : notComp m = true) (t : Option Expr) (line : Nat) (env : PySem.Env) : swapsWith v t line env = pure false := by
  cases v with
  | ListComp => cases m <;> first | exact Bool.noConfusion hn | exact Bool.noConfusion h
  | SetComp => cases m <;> exact Bool.noConfusion h
  | DictComp => cases m <;> exact Bool.noConfusion h
  | _ => rfl
noncomputable def OG (p : Option Nat) (o o' : Nat → Option Addr) (h : Heap) : Prop := (∀ i a, o' i = some a → (∃ j, o j = some a) ∨ h.get? a = none) ∧ ∀ i, p = some i → o' i = o i
theorem OG.refl (p : Option Nat) (o : Nat → Option Addr) (h : Heap) : OG p o o h := ⟨fun i a q => .inl ⟨i, q⟩, fun _ _ => rfl⟩
structure Nw (c : Fx) (o : Nat → Option Addr) (hb : Heap) (a : Addr) : Prop where
  n0 : c.t.h0.get? a = none
  nE : c.hE.get? a = none ∨ c.Z a
  nw : (∃ i, o i = some a) ∨ hb.get? a = none
structure Fly (c : Fx) (o : Nat → Option Addr) (hb h : Heap) (e : Addr) (x : EC) : Prop where
  nw : Nw c o hb e
  cls : ∃ C bm oe vs, c.t.cx (ecTy x) = some (C, bm) ∧ h.get? e = some oe ∧ oe.cls = .ref C ∧ oe.data = .fields vs ∧
    (vs[1]? = some .none ∨ ∃ T oT ts, vs[1]? = some (.ref T) ∧ Nw c o hb T ∧ T ≠ e ∧ h.get? T = some oT ∧ oT.data = .fields ts ∧ (ts[3]? = some .none ∨ ts[3]? = some (rawInt c.L)))
noncomputable def Fx.WY (c : Fx) (o : Nat → Option Addr) : Addr → Prop := fun a => Av c.X c.L o a ∨ ((∃ ob, c.hE.get? a = some ob) ∧ ¬ c.Z a)
noncomputable def Wd (c : Fx) (o : Nat → Option Addr) (h : Heap) (e : Addr) (x : EC) : Prop := ∃ oe, h.get? e = some oe ∧ WordAt (c.WY o) h oe x
noncomputable def Fx.PassOk (c : Fx) : Prop := ∀ (o o0 : Nat → Option Addr) (ρ : Env) (hb : Heap) (s : Shared) (e : Addr) (x : EC) (K E0 : Value → Shared → Prop), c.St o ρ s.heap → Fly c o0 hb s.heap e x → Kp (stk c.A) (Wr c.L o0) hb s.heap → Wd c o s.heap e x → (∀ v s', cameBackBy c.M c.A c.env E0 v s' → K v s') →
  (∀ h1, c.St o ρ h1 → Kp (stk c.A) (Wr c.L o0) hb h1 → Fly c o0 hb h1 e x → Wd c o h1 e x → E0 (.ref e) { s with heap := h1 }) → notedBy c.M c.A c.env K (.ref e) s
noncomputable def Fx.Post (c : Fx) (o : Nat → Option Addr) (s : Shared) (r : SR) (Q : Flow → Shared → Prop) (E : Value → Shared → Prop) : Prop := match r with
  | .next ρ' => ∀ o' h' tk, c.St o' ρ' h' → Kp (stk c.A) (Wr c.L o) s.heap h' → OG c.C.pin o o' s.heap → Q .next { s with heap := h', toks := tk }
  | .ret d fr _ => ∀ v h' tk, Ext c.t.h0 h' → Kp (stk c.A) c.Z c.hE h' → Rep c.t.prog c.t.w (AvL c.X c.L) h' v d → (fr = true → ∃ a, v = .ref a ∧ (c.hE.get? a = none ∨ c.Z a)) → (∃ m, h'.Ns c.L m) → Q (.ret v) { s with heap := h', toks := tk }
  | .exc x ρ' => ∀ o' e h' tk, c.St o' ρ' h' → Kp (stk c.A) (Wr c.L o) s.heap h' → OG c.C.pin o o' s.heap → Fly c o s.heap h' e x → Wd c o' h' e x → E (.ref e) { s with heap := h', toks := tk }
  | .stuck => False
noncomputable def Fx.ExOk (c : Fx) (ms : MS) : Prop := ∀ (st : Stmt) (o : Nat → Option Addr) (ρ : Env) (s : Shared) (Q : Flow → Shared → Prop) (E : Value → Shared → Prop), matchS c.C ms st = true → c.St o ρ s.heap → c.Post o s (ex c.O c.t.G ms ρ) Q E → wpAny c.M c.A (exec st c.env) Q E s
noncomputable def Fx.ExB (c : Fx) (ms : MS) : Prop := ∀ (l : List Stmt) (o : Nat → Option Addr) (ρ : Env) (s : Shared) (Q : Flow → Shared → Prop) (E : Value → Shared → Prop), matchB c.C ms l = true → c.St o ρ s.heap → c.Post o s (ex c.O c.t.G ms ρ) Q E → wpAny c.M c.A (execs l c.env) Q E s
section
variable {c : Fx} (ok : c.Ok)
theorem Fx.keep_trans {o o1 : Nat → Option Addr} {h h1 h2 : Heap} (k1 : Kp (stk c.A) (Wr c.L o) h h1) (g1 : OG c.C.pin o o1 h) (k2 : Kp (stk c.A) (Wr c.L o1) h1 h2) : Kp (stk c.A) (Wr c.L o) h h2 := fun b ob e n =>
  Kp.step (k1 b ob e n) fun o' e' => k2 b o' e' fun q => by
    rcases q with q | ⟨i, q⟩
    · exact n (.inl q)
    · rcases g1.1 i b q with ⟨j, q'⟩ | q'
      · exact n (.inr ⟨j, q'⟩)
      · rw [e] at q'; cases q'
theorem Fx.og_trans {o o1 o2 : Nat → Option Addr} {ρ2 : Env} {h h1 h2 : Heap} (k1 : Kp (stk c.A) (Wr c.L o) h h1) (g1 : OG c.C.pin o o1 h) (g2 : OG c.C.pin o1 o2 h1) (S2 : c.St o2 ρ2 h2) : OG c.C.pin o o2 h := by
  refine ⟨fun i a q => ?_, fun i hi => (g2.2 i hi).trans (g1.2 i hi)⟩
  rcases g2.1 i a q with ⟨j, q'⟩ | q'
  · exact g1.1 j a q'
  · by_cases hw : Wr c.L o a
    · rcases hw with hw | hw
      · exact absurd hw (S2.st.xo i a q).2.1
      · exact .inl hw
    · exact .inr (k1.none q' hw)
theorem Nw.after {o o1 : Nat → Option Addr} {h h1 : Heap} {a : Addr} (k1 : Kp (stk c.A) (Wr c.L o) h h1) (g1 : OG c.C.pin o o1 h) (N : Nw c o1 h1 a) (hL : a ≠ c.L) : Nw c o h a := by
  refine ⟨N.n0, N.nE, ?_⟩
  rcases N.nw with ⟨i, q⟩ | q
  · exact g1.1 i a q
  · by_cases hw : Wr c.L o a
    · exact .inl (hw.resolve_left hL)
    · exact .inr (k1.none q hw)
theorem Fx.St.neL {o : Nat → Option Addr} {ρ : Env} {h : Heap} (S : c.St o ρ h) {a : Addr} {oa : Obj} {vs : Array Value} (e : h.get? a = some oa) (d : oa.data = .fields vs) : a ≠ c.L := fun q => by
  obtain ⟨m, ⟨ob, _, _, e', dd, _⟩, _⟩ := S.st.ns
  rw [← q, e] at e'; cases e'; rw [d] at dd; cases dd
theorem Fly.after {o o1 o2 : Nat → Option Addr} {ρ2 : Env} {h h1 h2 : Heap} {e : Addr} {x : EC} (k1 : Kp (stk c.A) (Wr c.L o) h h1) (g1 : OG c.C.pin o o1 h) (Y : Fly c o1 h1 h2 e x) (S : c.St o2 ρ2 h2) : Fly c o h h2 e x := by
  obtain ⟨N, C, bm, oe, vs, q1, q2, q3, q4, q5⟩ := Y
  refine ⟨N.after k1 g1 (S.neL q2 q4), C, bm, oe, vs, q1, q2, q3, q4, ?_⟩
  rcases q5 with q5 | ⟨T, oT, ts, r1, r2, r3, r4, r5, r6⟩
  · exact .inl q5
  · exact .inr ⟨T, oT, ts, r1, r2.after k1 g1 (S.neL r4 r5), r3, r4, r5, r6⟩
theorem Fx.Post.after {o o1 : Nat → Option Addr} {s : Shared} {h1 : Heap} {t1 : Nat} {r : SR} {Q : Flow → Shared → Prop} {E : Value → Shared → Prop} (P : c.Post o s r Q E) (k1 : Kp (stk c.A) (Wr c.L o) s.heap h1) (g1 : OG c.C.pin o o1 s.heap) : c.Post o1 { s with heap := h1, toks := t1 } r Q E := by
  cases r with
  | next ρ' => exact fun o' h' tk S k g => P o' h' tk S (Fx.keep_trans k1 g1 k) (Fx.og_trans k1 g1 g S)
  | ret d fr ρ' => exact fun v h' tk a b c d e => P v h' tk a b c d e
  | exc x ρ' => exact fun o' e h' tk S k g f w => P o' e h' tk S (Fx.keep_trans k1 g1 k) (Fx.og_trans k1 g1 g S) (f.after k1 g1 S) w
  | stuck => exact P
theorem Fx.Post.extF {o : Nat → Option Addr} {s : Shared} {h1 : Heap} {t1 : Nat} {r : SR} {Q : Flow → Shared → Prop} {E : Value → Shared → Prop} (P : c.Post o s r Q E) (x1 : ExtF (stk c.A) s.heap h1) : c.Post o { s with heap := h1, toks := t1 } r Q E := P.after x1.kp (OG.refl _ _ _)
theorem SR.of_post {α : Type} {r : R α} {ρ : Env} {f : α → SR} {o : Nat → Option Addr} {s : Shared} {Q : Flow → Shared → Prop} {E : Value → Shared → Prop} (P : c.Post o s (SR.of r ρ f) Q E) : ∃ a, r = .ok a ∧ c.Post o s (f a) Q E := by
  cases r with
  | ok a => exact ⟨a, rfl, P⟩
  | exc _ => exact P.elim
  | stuck => exact P.elim
include ok
theorem Fx.exb_skip : c.ExB .skip := by
  intro l o ρ s Q E hm S P
  replace hm : l = [] := List.isEmpty_iff.mp hm
  subst hm
  simp only [exq_skip, exq_seq, exq_asg, exq_asgOwn, exq_asgFresh, exq_append, exq_store, exq_pop, exq_update, exq_ite, exq_forL, exq_forR, exq_loop, exq_ret, exq_retX, exq_raise, exq_tryx] at P
  exact wpAny_execs_nil (P o s.heap s.toks S (Kp.refl _) (OG.refl _ _ _))
theorem Fx.exb_seq {a b : MS} (ha : c.ExOk a) (hb : c.ExB b) : c.ExB (.seq a b) := by
  intro l o ρ s Q E hm S P
  replace hm := lc_inv hm
  obtain ⟨st, rest, rfl, hm⟩ := hm
  · simp only [Bool.and_eq_true] at hm
    simp only [exq_skip, exq_seq, exq_asg, exq_asgOwn, exq_asgFresh, exq_append, exq_store, exq_pop, exq_update, exq_ite, exq_forL, exq_forR, exq_loop, exq_ret, exq_retX, exq_raise, exq_tryx] at P
    refine wpAny_execs_cons (ha st o ρ s _ E hm.1 S ?_)
    cases hr : ex c.O c.t.G a ρ with
    | next ρ1 =>
      rw [hr] at P
      intro o1 h1 t1 S1 k1 g1
      exact hb rest o1 ρ1 _ Q E hm.2 S1 (Fx.Post.after P k1 g1)
    | ret d fr ρ1 => rw [hr] at P; exact P
    | exc _ _ => rw [hr] at P; exact P
    | stuck => rw [hr] at P; exact P
theorem Fx.store_sl {i : Nat} {x : Str} {v : Value} {sl : Slot} {o : Nat → Option Addr} {ρ : Env} {s : Shared} {E : Value → Shared → Prop} {T : Unit → Shared → Prop} (hx : isSt c.C i x = true) (S : c.St o ρ s.heap) (r : SlotOk c.xe c.t.prog c.t.w (Av c.X c.L o) s.heap none (some v) (some sl))
    (k : ∀ h', c.St (upd o i none) (ρ.set i sl) h' → Kp (stk c.A) (Wr c.L o) s.heap h' → OG c.C.pin o (upd o i none) s.heap → Heap.SameBut c.L s.heap h' → (∀ m, s.heap.Ns c.L m → h'.Ns c.L (fun y => if y = x then some v else m y)) → T () { s with heap := h', toks := s.toks + 1 }) : wpAny c.M c.A (storeName c.env x v) T E s := by
  obtain ⟨hx, hpin⟩ := isSt_inv hx
  obtain ⟨h1, h2, h3⟩ := isLoc_inv hx
  obtain ⟨m, hm, hs⟩ := S.st.ns
  refine wpAny_storeName_local (by rw [Fx.kindOf ok, h2]) (by rw [ok.loc]; exact hm) (fun h' hn sb => ?_) (by rw [ok.kind]; rfl)
  rw [ok.loc] at hn sb
  have sub : ∀ j a, upd o i none j = some a → o j = some a := fun j a q => by
    by_cases hj : j = i
    · subst hj; rw [upd_same] at q; cases q
    · rw [upd_other _ _ hj] at q; exact q
  refine k h' ⟨S.st.set_sl ok.nodup h1 hm hs r hn sb, fun b ob e => (sb.2 b fun q => ?_).trans (S.h0 b ob e), fun j a q => S.o0 j a (sub j a q), S.kE.but sb.extBut fun ob e _ => ok.lE ⟨ob, e⟩, fun j a q => S.oE j a (sub j a q), S.frm⟩ (sameBut_keep sb (.inl rfl)).kp ⟨fun j a q => .inl ⟨j, sub j a q⟩, fun j hj => upd_other _ _ fun q => hpin (q ▸ hj)⟩ sb fun m' hm' => by rw [ns_same hm' hm]; exact hn
  · rw [q, ok.l0] at e; cases e
theorem Fx.store_fr {i : Nat} {x : Str} {v : Value} {d : D} {o : Nat → Option Addr} {ρ : Env} {s : Shared} {E : Value → Shared → Prop} {T : Unit → Shared → Prop} (hx : isSt c.C i x = true) (S : c.St o ρ s.heap) (r : Rep c.t.prog c.t.w (Av c.X c.L o) s.heap v d)
    (k : ∀ h', c.St (upd o i none) (ρ.set i (.fr d)) h' → Kp (stk c.A) (Wr c.L o) s.heap h' → OG c.C.pin o (upd o i none) s.heap → T () { s with heap := h', toks := s.toks + 1 }) : wpAny c.M c.A (storeName c.env x v) T E s :=
  Fx.store_sl (sl := .fr d) ok hx S ⟨rfl, v, rfl, r⟩ fun h' a b c _ _ => k h' a b c
theorem Fx.ex_asg (i : Nat) {e : ME} (he : c.EvOk e) : c.ExOk (.asg i e) := by
  intro st o ρ s Q E hm S P
  refine inv_asg (P := fun E0 => wpAny _ _ (exec E0 _) _ _ _) st hm fun _ _ _ _ hm => ?_
  · simp only [Bool.and_eq_true] at hm
    obtain ⟨⟨h1, h2⟩, h3⟩ := hm
    simp only [exq_skip, exq_seq, exq_asg, exq_asgOwn, exq_asgFresh, exq_append, exq_store, exq_pop, exq_update, exq_ite, exq_forL, exq_forR, exq_loop, exq_ret, exq_retX, exq_raise, exq_tryx] at P
    split at P
    · exact P.elim
    · rename_i hesc
      obtain ⟨d, hd, P⟩ := SR.of_post P
      refine wpAny_Assign_Name (he _ d o ρ s _ E h2 hd S fun v h' tk x1 r => ?_) (swaps_no h2 h3 _ _ _)
      exact Fx.store_fr ok h1 (S.extF x1) (r.av (by simpa using hesc)) fun h'' S' k' g' => P _ h'' _ S' (Fx.keep_trans x1.kp (OG.refl _ _ _) k') (Fx.og_trans x1.kp (OG.refl _ _ _) g' S')
theorem Fx.ex_ret {e : ME} (he : c.EvOk e) : c.ExOk (.ret e) := by
  intro st o ρ s Q E hm S P
  refine inv_ret (P := fun E0 => wpAny _ _ (exec E0 _) _ _ _) st hm fun w _ hm => ?_
  · simp only [exq_skip, exq_seq, exq_asg, exq_asgOwn, exq_asgFresh, exq_append, exq_store, exq_pop, exq_update, exq_ite, exq_forL, exq_forR, exq_loop, exq_ret, exq_retX, exq_raise, exq_tryx] at P
    obtain ⟨d, hd, P⟩ := SR.of_post P
    cases hio : isOwn e with
    | false =>
      refine wpAny_Return_some (he _ d o ρ s _ E hm hd S fun v h' tk x1 r => ?_)
      exact P v h' tk (S.extF x1).h0 (S.extF x1).kE r.avl (fun hf => by rw [hio] at hf; cases hf) ((S.extF x1).st.ns.imp fun _ q => q.1)
    | true =>
      cases e with
      | own i =>
        refine wpAny_Return_some ?_
        refine inv_own (P := fun E0 => wpAny _ _ (eval E0 _) _ _ _) w hm fun _ _ hm => ?_
        · simp only [Zaa, evq_own, evq_glob, evq_cint, evq_cstr, evq_cbool, evq_cnone, Zab, evq_neg, evq_nt, evq_and, evq_or, evq_cmp, evq_cmp2, evq_call, evq_bi1, evq_bi2, evq_isi, evq_find, evq_idx, evq_slice, evq_tupD, evq_lstD, evq_dctD, ] at hd
          split at hd
          · rename_i d' hq
            cases hd
            refine Fx.oname ok hm S hq fun a e1 r => ?_
            exact P _ s.heap s.toks S.h0 S.kE (S.st.own_ref e1 r).2 (fun _ => ⟨a, rfl, S.oE i a e1⟩) (S.st.ns.imp fun _ q => q.1)
          · cases hd
      | _ => cases hio
theorem Fx.ex_ite {t : ME} {a b : MS} (ht : c.TrOk t) (ha : c.ExB a) (hb : c.ExB b) : c.ExOk (.ite t a b) := by
  intro st o ρ s Q E hm S P
  refine inv_ite (P := fun E0 => wpAny _ _ (exec E0 _) _ _ _) st hm fun _ _ _ _ hm => ?_
  · simp only [Bool.and_eq_true] at hm
    simp only [exq_skip, exq_seq, exq_asg, exq_asgOwn, exq_asgFresh, exq_append, exq_store, exq_pop, exq_update, exq_ite, exq_forL, exq_forR, exq_loop, exq_ret, exq_retX, exq_raise, exq_tryx] at P
    obtain ⟨d, hd, P⟩ := SR.of_post P
    split at P
    · refine wpAny_If (ht _ true o ρ s _ E hm.1.1 hd S fun h' tk x1 => ?_)
      exact ha _ o ρ _ Q E hm.1.2 (S.extF x1) (P.extF x1)
    · refine wpAny_If (ht _ false o ρ s _ E hm.1.1 hd S fun h' tk x1 => ?_)
      exact hb _ o ρ _ Q E hm.2 (S.extF x1) (P.extF x1)
    · exact P.elim
end
end Mine
-- MEx2
set_option autoImplicit false
set_option linter.all false
namespace Mine
open PySem PyProof.Rows

section
variable {xe : XE} {prog : Program} {w : World} {X : Addr → Prop} {h h' : Heap} {it : Addr} {ob : Obj} {fs : Array Value}
theorem goF (e : h.get? it = some ob) (f : ob.data = .fields fs) : Go true true X (fun a => X a ∨ a = it) h h :=
  ⟨fun a vs n q nx => ⟨q, fun z => z.elim nx fun z => by rw [z, e] at q; cases q; cases f⟩, fun _ a vs n q nx => ⟨q, fun z => z.elim nx fun z => by rw [z, e] at q; cases q; cases f⟩,
    fun _ a o2 es n q q3 nx => ⟨q, fun z => z.elim nx fun z => by rw [z, e] at q; cases q; rw [f] at q3; cases q3⟩⟩
theorem Rep.avoidF {v : Value} {d : D} (e : h.get? it = some ob) (f : ob.data = .fields fs) (r : Rep prog w X h v d) : Rep prog w (fun a => X a ∨ a = it) h v d := r.go (goF e f) (within_all d)
theorem RepAll.avoidF {vs : List Value} {ds : List D} (e : h.get? it = some ob) (f : ob.data = .fields fs) (r : RepAll prog w X h vs ds) : RepAll prog w (fun a => X a ∨ a = it) h vs ds := r.go (goF e f) (withins_all ds)
theorem OwnRep.ne_it {Y : Addr → Prop} {a : Addr} {d : D} (r : OwnRep prog w Y h a d) (e : h.get? it = some ob) (f : ob.data = .fields fs) : a ≠ it := by
  intro z
  subst z
  cases d with
  | list l => obtain ⟨vs, n, q, _⟩ := r; rw [e] at q; cases q; cases f
  | dict l => obtain ⟨es, ⟨o2, es2, n2, q2, _, q3, _⟩, _⟩ := r; rw [e] at q2; cases q2; rw [f] at q3; cases q3
  | _ => cases r
theorem OwnRep.avoidF {Y : Addr → Prop} {a : Addr} {d : D} (r : OwnRep prog w Y h a d) (e : h.get? it = some ob) (f : ob.data = .fields fs) : OwnRep prog w (fun a => Y a ∨ a = it) h a d := by
  cases d with
  | list l => obtain ⟨vs, n, q, z⟩ := r; exact ⟨vs, n, q, z.avoidF e f⟩
  | dict l => exact r
  | _ => cases r
theorem SlotOk.avoidF (hx : ∀ e x o, ¬ xe e x o) {Y : Addr → Prop} {oi : Option Addr} {mx : Option Value} {sl : Option Slot} (r : SlotOk xe prog w Y h oi mx sl) (e : h.get? it = some ob) (f : ob.data = .fields fs) : SlotOk xe prog w (fun a => Y a ∨ a = it) h oi mx sl := by
  match sl, r with
  | some (.fr d), ⟨e1, v, e', q⟩ => exact ⟨e1, v, e', q.avoidF e f⟩
  | some (.own d), ⟨a, e1, e', q⟩ => exact ⟨a, e1, e', q.avoidF e f⟩
  | some .unset, r => exact r
  | some (.ex c), ⟨_, _, _, _, _, _, q, _⟩ => exact absurd q (hx _ _ _)
  | none, r => exact r
theorem St.other {L : Addr} {slots : List Str} {o : Nat → Option Addr} {ρ : Env} (S : St xe prog w X L slots o ρ h) (e : h.get? it = some ob) (f : ob.data = .fields fs) (sb : Heap.ExtBut it h h') (nx : ¬ X it) (hx : ∀ e x o, ¬ xe e x o) : St xe prog w X L slots o ρ h' := by
  obtain ⟨m, hm, hs⟩ := S.ns
  have nL : L ≠ it := fun z => by
    obtain ⟨o2, es, n, q, q2, _⟩ := hm
    rw [z, e] at q; cases q; rw [f] at q2; cases q2
  have kp : Keep (fun a => Av X L o a ∨ a = it) h h' := fun b ob q n => sb b ob (fun z => n (.inr z)) q
  refine ⟨⟨m, ?_, fun j y hy => ?_⟩, S.xl, S.xo, S.inj, fun a q => ?_, S.sys, S.len⟩
  · obtain ⟨o2, es, n, q, r⟩ := hm
    exact ⟨o2, es, n, sb _ _ nL q, r⟩
  · refine (((hs j y hy).avoidF hx e f).mono kp fun a q ob2 q2 => sb a ob2 (fun z => ?_) q2).avoid fun a _ _ n q => n (.inl q)
    obtain ⟨d, _, ow⟩ := S.own_slot q
    exact ow.ne_it e f z
  · obtain ⟨ob2, q2, f2⟩ := S.xok a q
    exact ⟨ob2, sb a ob2 (fun z => nx (z ▸ q)) q2, f2⟩
end

section
variable {c : Fx} (ok : c.OkN)
theorem Fx.St.other (hx : ∀ e x o, ¬ c.xe e x o) {o : Nat → Option Addr} {ρ : Env} {h h' : Heap} {it : Addr} {ob : Obj} {fs : Array Value} (S : c.St o ρ h) (e : h.get? it = some ob) (f : ob.data = .fields fs) (sb : Heap.ExtBut it h h') (nx : ¬ c.X it)
    (n0 : c.t.h0.get? it = none) (nE : ¬ c.Z it → c.hE.get? it = none) : c.St o ρ h' :=
  ⟨S.st.other e f sb nx hx, fun b ob q => sb b ob (fun z => by rw [z, n0] at q; cases q) (S.h0 b ob q), S.o0, S.kE.but sb fun ob q n => (by rw [nE n] at q; cases q), S.oE, S.frm⟩
theorem Fx.St.new0 {o : Nat → Option Addr} {ρ : Env} {h : Heap} (S : c.St o ρ h) : c.t.h0.get? h.objs.size = none ∧ (¬ c.Z h.objs.size → c.hE.get? h.objs.size = none) := by
  have q : h.get? h.objs.size = none := Heap.get?_none_of_le (Nat.le_refl _)
  refine ⟨?_, fun n => ?_⟩
  · cases e : c.t.h0.get? h.objs.size with
    | none => rfl
    | some ob => rw [S.h0 _ _ e] at q; cases q
  · exact S.kE.none q n
structure IterOk (c : Fx) (hb : Heap) (o : Nat → Option Addr) (it : Addr) (J : List D → Heap → Prop) : Prop where
  obj : ∀ rest h, J rest h → ∃ ob fs, h.get? it = some ob ∧ ob.data = .fields fs
  keep : ∀ rest h h' o', J rest h → Kp (stk c.A) (Wr c.L o') h h' → OG c.C.pin o o' hb → Kp (stk c.A) (Wr c.L o) hb h → (∀ j a, o' j = some a → a ≠ it) → it ≠ c.L → J rest h'
  item : ∀ d rest o' ρ' s' (T : Option Value → Shared → Prop) (E : Value → Shared → Prop), J (d :: rest) s'.heap → c.St o' ρ' s'.heap → Kp (stk c.A) (Wr c.L o) hb s'.heap → OG c.C.pin o o' hb →
    (∀ v h' tk, Heap.ExtBut it s'.heap h' → J rest h' → Rep c.t.prog c.t.w (Av c.X c.L o') s'.heap v d → T (some v) { s' with heap := h', toks := tk }) → wpAny c.M c.A (pyNext (.ref it)) T E s'
  stop : ∀ o' ρ' s' (T : Option Value → Shared → Prop) (E : Value → Shared → Prop), J [] s'.heap → c.St o' ρ' s'.heap → (∀ h' tk, Heap.ExtBut it s'.heap h' → T none { s' with heap := h', toks := tk }) → wpAny c.M c.A (pyNext (.ref it)) T E s'
  new : hb.get? it = none
  nx : ¬ c.X it
  ns : ¬ stk c.A it
include ok in
theorem Fx.for_loop {i : Nat} {b : MS} (hb : c.ExB b) {x : Str} {px : Pos} {body : List Stmt} {base : Heap} {o : Nat → Option Addr} {it : Addr} {J : List D → Heap → Prop} (IT : IterOk c base o it J) (hx : isSt c.C i x = true) (hm : matchB c.C b body = true)
    {s₀ : Shared} {Q : Flow → Shared → Prop} {E0 : Value → Shared → Prop} {R : Result → Shared → Prop} (hR : ∀ f s', R (.ok f) s' ↔ Q f s') (hp : c.PassOk) (hRe : ∀ v s', cameBackBy c.M c.A c.env E0 v s' → R (.error v) s') (hbase : s₀.heap = base) (n0 : c.t.h0.get? it = none) (nE : ¬ c.Z it → c.hE.get? it = none)
    {l : List D} {ρ : Env} (P : c.Post o s₀ (forLoop (fun d ρ' => ex c.O c.t.G b (ρ'.set i (.fr d))) l ρ) Q E0) {h1 : Heap} {t1 : Nat} (hJ : J l h1) (S : c.St o ρ h1) (kp : Ext base h1) :
    codeAny c.M c.A (.forLoop (.Name x px) (.ref it) body [] c.env) R { s₀ with heap := h1, toks := t1 } := by
  refine codeAny_forLoop (fun n s' => ∃ o' ρ' rest h' tk, s' = { s₀ with heap := h', toks := tk } ∧ n = rest.length ∧ c.St o' ρ' h' ∧ Kp (stk c.A) (Wr c.L o) base h' ∧ OG c.C.pin o o' base ∧ J rest h' ∧ c.Post o s₀ (forLoop (fun d ρ' => ex c.O c.t.G b (ρ'.set i (.fr d))) rest ρ') Q E0) ?_ l.length ⟨o, ρ, l, h1, t1, rfl, rfl, S, kp.kp, OG.refl _ _ _, hJ, P⟩
  rintro n s' ⟨o', ρ', rest, h', tk, rfl, rfl, S', kp', og', hJ', P'⟩
  obtain ⟨ob, fs, e1, e2⟩ := IT.obj _ _ hJ'
  cases rest with
  | nil =>
    refine IT.stop o' ρ' _ _ _ hJ' S' fun h2 t2 eb => ?_
    dsimp only
    refine wpAny_execs_nil ((hR _ _).mpr ?_)
    refine P' o' h2 t2 (S'.other ok.xn e1 e2 eb IT.nx n0 nE) ?_ (hbase ▸ og')
    subst hbase
    exact kp'.but eb fun ob' q _ => by rw [IT.new] at q; cases q
  | cons d rest =>
    refine IT.item d rest o' ρ' _ _ _ hJ' S' kp' og' fun v h2 t2 eb hJ2 rv => ?_
    dsimp only
    obtain ⟨ob2, fs2, f1, f2⟩ := IT.obj _ _ hJ2
    have S2 := S'.other ok.xn e1 e2 eb IT.nx n0 nE
    have rv2 : Rep c.t.prog c.t.w (Av c.X c.L o') h2 v d := ((rv.avoidF e1 e2).mono fun b' ob' q n' => eb b' ob' (fun z => n' (.inr z)) q).less fun a q => .inl q
    refine wpAny_assign_Name (Fx.store_fr ok.toOk hx S2 rv2 fun h3 S3 k3 g3 => ?_)
    have itL : it ≠ c.L := fun z => by
      obtain ⟨m, ⟨o9, es, n9, q, q2, _⟩, _⟩ := S'.st.ns
      rw [← z, e1] at q; cases q; rw [e2] at q2; cases q2
    have oit : ∀ j a, o' j = some a → a ≠ it := fun j a q => by
      obtain ⟨d9, _, ow⟩ := S'.st.own_slot q
      exact ow.ne_it e1 e2
    have sub : ∀ j a, upd o' i none j = some a → o' j = some a := fun j a q => by
      by_cases hj : j = i
      · subst hj; rw [upd_same] at q; cases q
      · rw [upd_other _ _ hj] at q; exact q
    have og3 : OG c.C.pin o (upd o' i none) base := ⟨fun j a q => og'.1 j a (sub j a q), fun j hj => (upd_other o' none (fun q : j = i => (isSt_inv hx).2 (q ▸ hj))).trans (og'.2 j hj)⟩
    have kp2 : Kp (stk c.A) (Wr c.L o) base h2 := kp'.but eb fun ob' q _ => by rw [IT.new] at q; cases q
    have kp3 : Kp (stk c.A) (Wr c.L o) base h3 := Fx.keep_trans kp2 og' k3
    have hJ3 : J rest h3 := IT.keep rest h2 h3 o' hJ2 k3 og' kp2 oit itL
    simp only [forLoop] at P'
    refine hb body _ _ { s₀ with heap := h3, toks := t2 + 1 } _ _ hm S3 ?_
    cases hr : ex c.O c.t.G b (ρ'.set i (.fr d)) with
    | next ρ4 =>
      rw [hr] at P'
      intro o4 h4 t4 S4 k4 g4
      refine ⟨rest.length, by simp, o4, ρ4, rest, h4, t4, rfl, rfl, S4, ?_, ?_, ?_, P'⟩
      · exact Fx.keep_trans kp3 og3 k4
      · exact Fx.og_trans kp3 og3 g4 S4
      · refine IT.keep rest h3 h4 (upd o' i none) hJ3 k4 og3 kp3 (fun j a q => oit j a (sub j a q)) itL
    | ret d' fr ρ4 =>
      rw [hr] at P'
      intro v' h4 t4 q1 q2 q3 q4 q5
      exact (hR _ _).mpr (P' v' h4 t4 q1 q2 q3 q4 q5)
    | exc x4 ρ4 =>
      rw [hr] at P'
      intro o4 e4 h4 t4 S4 k4 g4 f4 w4
      have P' : c.Post o s₀ (.exc x4 ρ4) Q E0 := P'
      have kp4 := Fx.keep_trans kp3 og3 k4
      subst hbase
      exact hp o4 o ρ4 s₀.heap { s₀ with heap := h4, toks := t4 } e4 x4 _ E0 S4 (f4.after kp3 og3 S4) kp4 w4 hRe fun h5 S5 k5 f5 w5 => P' o4 e4 h5 t4 S5 k5 (Fx.og_trans kp3 og3 g4 S4) f5 w5
    | stuck => rw [hr] at P'; exact P'.elim
theorem Fx.later {o o' : Nat → Option Addr} {hb h : Heap} (kp : Kp (stk c.A) (Wr c.L o) hb h) (frm : Frm c.A (AvL c.X c.L) c.t.h0) (og : OG c.C.pin o o' hb) {v : Value} {d : D} (r : Rep c.t.prog c.t.w (Av c.X c.L o) hb v d) : Rep c.t.prog c.t.w (Av c.X c.L o') h v d := by
  have r1 := r.avoid (X' := fun a => Av c.X c.L o a ∨ Av c.X c.L o' a) (fun a ob e na z => by
    rcases z with z | z | z | ⟨j, z⟩
    · exact na z
    · exact na (.inl z)
    · exact na (.inr (.inl z))
    · rcases og.1 j a z with z' | z'
      · exact na (.inr (.inr z'))
      · rw [e] at z'; cases z')
  exact (r1.mono (h' := h) (fun b ob e nb => kp.get e (fun z => nb (.inl (wr_av b z))) fun z => nb (.inl ((frm.x b z).elim .inl fun q => .inr (.inl q))))).less fun a q => .inr q
theorem Fx.St.notStk {o : Nat → Option Addr} {ρ : Env} {h : Heap} (S : c.St o ρ h) {a : Addr} (hn : h.get? a = none) : ¬ stk c.A a := fun q => by
  obtain ⟨ob, e, _⟩ := S.st.liveL a (S.frm.x a q)
  rw [hn] at e; cases e
theorem Fx.iter_list (ok : c.OkN) {o : Nat → Option Addr} {ρ : Env} {hb : Heap} {it la : Addr} {vs : List Value} {n : Nat} {ds : List D} (S : c.St o ρ hb) (nx : ¬ Av c.X c.L o la) (hl : hb.get? la = some (lstO vs n)) (rl : RepAll c.t.prog c.t.w (Av c.X c.L o) hb vs ds) (hn : hb.get? it = none) :
    IterOk c hb o it (fun rest h => ∃ k, h.IsListIter it la k ∧ h.get? la = some (lstO vs n) ∧ rest = ds.drop k) := by
  refine ⟨?_, ?_, ?_, ?_, hn, fun q => (by obtain ⟨ob, e, _⟩ := S.st.xok it q; rw [hn] at e; cases e), S.notStk hn⟩
  · rintro rest h ⟨k, ⟨ob, e, _, f⟩, _, _⟩; exact ⟨ob, _, e, f⟩
  · rintro rest h h' o' ⟨k, ⟨ob, e, q, f⟩, hl', hr⟩ kp og kb oit itL
    refine ⟨k, ⟨ob, kp.get e (fun z => ?_) (S.notStk hn), q, f⟩, kp.get hl' (fun z => ?_) fun z => nx ((S.frm.x la z).elim .inl fun q => .inr (.inl q)), hr⟩
    · rcases z with z | ⟨j, z⟩
      · exact itL z
      · exact oit j it z rfl
    · rcases z with z | ⟨j, z⟩
      · exact nx (.inr (.inl z))
      · rcases og.1 j la z with z' | z'
        · exact nx (.inr (.inr z'))
        · rw [hl] at z'; cases z'
  · rintro d rest o' ρ' s' T E ⟨k, hi, hl', hr⟩ S' kb og kk
    have hd : ds[k]? = some d := by
      have : (ds.drop k)[0]? = some d := by rw [← hr]; rfl
      simpa using this
    obtain ⟨v, hv, rv⟩ := rl.get hd
    refine wpAny_pyNext_list_item hi (isLst hl') (x := v) (by simpa using hv) fun h' hi' sb => ?_
    refine kk v h' _ (fun b ob nb e => (sb.2 b nb).trans e) ⟨k + 1, hi', ?_, ?_⟩ (Fx.later kb S.frm og rv)
    · refine (sb.2 la fun z => ?_).trans hl'
      obtain ⟨ob, e, _, f⟩ := hi
      rw [← z, hl'] at e; cases e; cases f
    · have : ds.drop (k + 1) = (ds.drop k).drop 1 := by rw [List.drop_drop]
      rw [this, ← hr]; rfl
  · rintro o' ρ' s' T E ⟨k, hi, hl', hr⟩ S' kk
    refine wpAny_pyNext_list_end ok.hn hi (isLst hl') ?_ fun h' eb => kk h' _ eb
    have : ds.length ≤ k := by
      have := congrArg List.length hr
      simp at this; omega
    have := rl.length
    simp; omega
end
end Mine
-- MEx3
set_option autoImplicit false
set_option linter.all false
namespace Mine
open PySem PyProof.Rows

theorem match_notSetIter {C : MC} {m : ME} {e : Expr} (h : matchE C m e = true) (env : PySem.Env) : ∀ x, foldedSetIterable e env x = pure x := by
  cases e with
  | Set es k p => cases m <;> exact Bool.noConfusion h
  | _ => intro x; rfl
section
variable {c : Fx} (ok : c.OkN)

include ok
theorem Fx.iter_tuple {o : Nat → Option Addr} {ρ : Env} {hb : Heap} {it la : Addr} {vs : List Value} {n : Nat} {ds : List D} (S : c.St o ρ hb) (nx : ¬ Av c.X c.L o la) (hl : hb.get? la = some (tupO vs n)) (rl : RepAll c.t.prog c.t.w (Av c.X c.L o) hb vs ds) (hn : hb.get? it = none) :
    IterOk c hb o it (fun rest h => ∃ k, h.IsTupleIter it la k ∧ h.get? la = some (tupO vs n) ∧ rest = ds.drop k) := by
  refine ⟨?_, ?_, ?_, ?_, hn, fun q => (by obtain ⟨ob, e, _⟩ := S.st.xok it q; rw [hn] at e; cases e), S.notStk hn⟩
  · rintro rest h ⟨k, ⟨ob, e, _, f⟩, _, _⟩; exact ⟨ob, _, e, f⟩
  · rintro rest h h' o' ⟨k, ⟨ob, e, q, f⟩, hl', hr⟩ kp og kb oit itL
    refine ⟨k, ⟨ob, kp.get e (fun z => ?_) (S.notStk hn), q, f⟩, kp.get hl' (fun z => ?_) fun z => nx ((S.frm.x la z).elim .inl fun q => .inr (.inl q)), hr⟩
    · rcases z with z | ⟨j, z⟩
      · exact itL z
      · exact oit j it z rfl
    · rcases z with z | ⟨j, z⟩
      · exact nx (.inr (.inl z))
      · rcases og.1 j la z with z' | z'
        · exact nx (.inr (.inr z'))
        · rw [hl] at z'; cases z'
  · rintro d rest o' ρ' s' T E ⟨k, hi, hl', hr⟩ S' kb og kk
    have hd : ds[k]? = some d := by
      have : (ds.drop k)[0]? = some d := by rw [← hr]; rfl
      simpa using this
    obtain ⟨v, hv, rv⟩ := rl.get hd
    refine wpAny_pyNext_tuple_item hi ⟨_, hl', rfl, _, rfl⟩ (x := v) (by simpa using hv) fun h' hi' sb => ?_
    refine kk v h' _ (fun b ob nb e => (sb.2 b nb).trans e) ⟨k + 1, hi', ?_, ?_⟩ (Fx.later kb S.frm og rv)
    · refine (sb.2 la fun z => ?_).trans hl'
      obtain ⟨ob, e, _, f⟩ := hi
      rw [← z, hl'] at e; cases e; cases f
    · have : ds.drop (k + 1) = (ds.drop k).drop 1 := by rw [List.drop_drop]
      rw [this, ← hr]; rfl
  · rintro o' ρ' s' T E ⟨k, hi, hl', hr⟩ S' kk
    refine wpAny_pyNext_tuple_end ok.hn hi ⟨_, hl', rfl, _, rfl⟩ ?_ fun h' eb => kk h' _ eb
    have : ds.length ≤ k := by
      have := congrArg List.length hr
      simp at this; omega
    have := rl.length
    simp; omega
theorem Fx.iter_str {o : Nat → Option Addr} {ρ : Env} {hb : Heap} {it : Addr} {x : Str} {t : Tok} {ty : String} (S : c.St o ρ hb) (hty : ty = "str_ascii_iterator" ∨ ty = "str_iterator") (hn : hb.get? it = none) :
    IterOk c hb o it (fun rest h => ∃ k, h.IsStrIter it ty x t k ∧ rest = (x.cps.toList.drop k).map fun c => PyData.str (sone c)) := by
  refine ⟨?_, ?_, ?_, ?_, hn, fun q => (by obtain ⟨ob, e, _⟩ := S.st.xok it q; rw [hn] at e; cases e), S.notStk hn⟩
  · rintro rest h ⟨k, ⟨ob, e, _, f⟩, _⟩; exact ⟨ob, _, e, f⟩
  · rintro rest h h' o' ⟨k, ⟨ob, e, q, f⟩, hr⟩ kp og kb oit itL
    refine ⟨k, ⟨ob, kp.get e (fun z => ?_) (S.notStk hn), q, f⟩, hr⟩
    rcases z with z | ⟨j, z⟩
    · exact itL z
    · exact oit j it z rfl
  · rintro d rest o' ρ' s' T E ⟨k, hi, hr⟩ S' kb og kk
    have hlt : k < x.cps.toList.length := by
      have := congrArg List.length hr
      simp at this ⊢; omega
    have hd : x.cps.toList.drop k = x.cps.toList[k] :: x.cps.toList.drop (k + 1) := List.drop_eq_getElem_cons hlt
    rw [hd, List.map_cons] at hr
    injection hr with hr1 hr2
    have hx : x.cps[k]? = some x.cps.toList[k] := by rw [← Array.getElem?_toList]; exact List.getElem?_eq_getElem hlt
    have fin : ∀ h', h'.IsStrIter it ty x t (k + 1) → Heap.SameBut it s'.heap h' → T (some (.str ⟨#[x.cps.toList[k]]⟩ s'.toks)) { s' with heap := h', toks := s'.toks + 1 } := fun h' hi' sb =>
      kk _ h' _ (fun b ob nb e => (sb.2 b nb).trans e) ⟨k + 1, hi', hr2⟩ (by rw [hr1]; exact .str _ _)
    rcases hty with rfl | rfl
    · exact wpAny_pyNext_ascii_item hi hx fin
    · exact wpAny_pyNext_wide_item hi hx fin
  · rintro o' ρ' s' T E ⟨k, hi, hr⟩ S' kk
    have hx : x.cps[k]? = none := by
      have := congrArg List.length hr
      simp at this
      simp; omega
    rcases hty with rfl | rfl
    · exact wpAny_pyNext_ascii_end ok.hn hi hx fun h' eb => kk h' _ eb
    · exact wpAny_pyNext_wide_end ok.hn hi hx fun h' eb => kk h' _ eb
theorem Fx.iter_range {o : Nat → Option Addr} {ρ : Env} {hb : Heap} {it : Addr} (S : c.St o ρ hb) (hn : hb.get? it = none) :
    IterOk c hb o it (fun rest h => ∃ (x : Int) (m : Nat), IsRangeIter h it x m 1 ∧ rest = (List.range m).map fun (k : Nat) => PyData.int (x + (k : Int))) := by
  refine ⟨?_, ?_, ?_, ?_, hn, fun q => (by obtain ⟨ob, e, _⟩ := S.st.xok it q; rw [hn] at e; cases e), S.notStk hn⟩
  · rintro rest h ⟨x, m, e, _⟩; exact ⟨_, _, e, rfl⟩
  · rintro rest h h' o' ⟨x, m, e, hr⟩ kp og kb oit itL
    refine ⟨x, m, kp.get e (fun z => ?_) (S.notStk hn), hr⟩
    rcases z with z | ⟨j, z⟩
    · exact itL z
    · exact oit j it z rfl
  · rintro d rest o' ρ' s' T E ⟨x, m, hi, hr⟩ S' kb og kk
    cases m with
    | zero => simp at hr
    | succ m =>
      rw [List.range_succ_eq_map, List.map_cons, List.map_map] at hr
      injection hr with hr1 hr2
      refine wpAny_pyNext_range_item hi (by omega) fun h' hi' sb => ?_
      refine kk _ h' _ (fun b ob nb e => (sb.2 b nb).trans e) ⟨x + 1, m, ?_, ?_⟩ (by rw [hr1]; simpa using .int _ _)
      · have : ((m + 1 : Nat) : Int) - 1 = (m : Int) := by omega
        rw [this] at hi'; exact hi'
      · rw [hr2]
        refine List.map_congr_left fun k _ => ?_
        show PyData.int (x + ((k + 1 : Nat) : Int)) = PyData.int (x + 1 + (k : Int))
        congr 1; omega
  · rintro o' ρ' s' T E ⟨x, m, hi, hr⟩ S' kk
    cases m with
    | succ m => rw [List.range_succ_eq_map, List.map_cons] at hr; cases hr
    | zero => exact wpAny_pyNext_range_end ok.hn hi (by simp) fun h' eb => kk h' _ eb
theorem Fx.ex_forL (hp : c.PassOk) (i : Nat) {e : ME} {b : MS} (he : c.EvOk e) (hb : c.ExB b) : c.ExOk (.forL i e b) := by
  intro st o ρ s Q E hm S P
  refine inv_forL (P := fun E0 => wpAny _ _ (exec E0 _) _ _ _) st hm fun _ _ _ _ _ hm => ?_
  · simp only [Bool.and_eq_true] at hm
    obtain ⟨⟨h1, h2⟩, h3⟩ := hm
    simp only [exq_skip, exq_seq, exq_asg, exq_asgOwn, exq_asgFresh, exq_append, exq_store, exq_pop, exq_update, exq_ite, exq_forL, exq_forR, exq_loop, exq_ret, exq_retX, exq_raise, exq_tryx] at P
    split at P
    · exact P.elim
    · rename_i hesc
      obtain ⟨d, hd, P⟩ := SR.of_post P
      refine wpAny_For (he _ d o ρ s _ E h2 hd S fun v h' tk x1 r => ?_) (match_notSetIter h2 _)
      have hav := r.av (by simpa using hesc)
      have S1 := S.extF x1
      have n0 := S1.new0
      have hnew : h'.get? h'.objs.size = none := Heap.get?_none_of_le (Nat.le_refl _)
      cases hi : itemsD d with
      | none => rw [hi] at P; exact P.elim
      | some l =>
        rw [hi] at P
        dsimp only at P
        split at P
        · cases d with
          | list l' =>
            cases hi
            obtain ⟨ca, vs, n, rfl, nx, hg, rl⟩ := hav.list_inv
            refine wpAny_pyIter_list (isLst hg) ?_
            exact Fx.for_loop ok hb (Fx.iter_list ok S1 nx hg rl hnew) h1 h3 (Q := Q) (s₀ := { s with heap := h', toks := tk }) (fun f s' => Iff.rfl) hp (fun _ _ h => h) rfl n0.1 n0.2 (P.extF x1) ⟨0, ⟨_, Heap.get?_push_size _ rfl, rfl, rfl⟩, Heap.get?_push_of_some _ hg, by simp⟩ (S1.ext (Ext.push _ _)) (Ext.push _ _)
          | tuple l' =>
            cases hi
            obtain ⟨ca, vs, n, rfl, nx, hg, rl⟩ := hav.tuple_inv
            refine wpAny_pyIter_tuple ⟨_, hg, rfl, _, rfl⟩ ?_
            exact Fx.for_loop ok hb (Fx.iter_tuple ok S1 nx hg rl hnew) h1 h3 (Q := Q) (s₀ := { s with heap := h', toks := tk }) (fun f s' => Iff.rfl) hp (fun _ _ h => h) rfl n0.1 n0.2 (P.extF x1) ⟨0, ⟨_, Heap.get?_push_size _ rfl, rfl, rfl⟩, Heap.get?_push_of_some _ hg, by simp⟩ (S1.ext (Ext.push _ _)) (Ext.push _ _)
          | str x =>
            cases hi
            obtain ⟨t, rfl⟩ := hav.str_inv
            cases ha : x.cps.all (· < 128) with
            | true =>
              refine wpAny_pyIter_ascii ha ?_
              exact Fx.for_loop ok hb (Fx.iter_str ok S1 (x := x) (t := t) (.inl rfl) hnew) h1 h3 (Q := Q) (s₀ := { s with heap := h', toks := tk }) (fun f s' => Iff.rfl) hp (fun _ _ h => h) rfl n0.1 n0.2 (P.extF x1) ⟨0, ⟨_, Heap.get?_push_size _ rfl, rfl, rfl⟩, by simp⟩ (S1.ext (Ext.push _ _)) (Ext.push _ _)
            | false =>
              refine wpAny_pyIter_wide ha ?_
              exact Fx.for_loop ok hb (Fx.iter_str ok S1 (x := x) (t := t) (.inr rfl) hnew) h1 h3 (Q := Q) (s₀ := { s with heap := h', toks := tk }) (fun f s' => Iff.rfl) hp (fun _ _ h => h) rfl n0.1 n0.2 (P.extF x1) ⟨0, ⟨_, Heap.get?_push_size _ rfl, rfl, rfl⟩, by simp⟩ (S1.ext (Ext.push _ _)) (Ext.push _ _)
          | _ => cases hi
        · exact P.elim
theorem range_small {u v : Int} (hu : idxInt u = true) (hv : idxInt v = true) : Builtin.Range.small u v 1 = true := by
  simp only [idxInt, Bool.and_eq_true, decide_eq_true_eq] at hu hv
  unfold Builtin.Range.small
  have f : ∀ z : Int, -2147483648 < z → z < 2147483648 → Builtin.Range.rangeFitsLong z = true := fun z h1 h2 => by
    unfold Builtin.Range.rangeFitsLong; simp; omega
  simp only [rangeSize_one]
  rw [f u (by omega) (by omega), f v (by omega) (by omega), f 1 (by omega) (by omega), f (if u < v then v - u else 0) (by split <;> omega) (by split <;> omega)]
  simp only [Bool.true_and, if_pos (show (1 : Int) > 0 by omega)]
  rw [f (v + (1 - 1)) (by omega) (by omega), Bool.or_true]
theorem Fx.range_loop (hp : c.PassOk) {i : Nat} {b : MS} (hb : c.ExB b) {x : Str} {px : Pos} {body : List Stmt} {o : Nat → Option Addr} {ρ : Env} {s : Shared} {Q : Flow → Shared → Prop} {E : Value → Shared → Prop} {u v : Int} {t1 t2 t3 : Tok} {ra : Addr} (h1 : isSt c.C i x = true) (h3 : matchB c.C b body = true)
    (hu : idxInt u = true) (hv : idxInt v = true) (S : c.St o ρ s.heap) (hr : IsRange s.heap ra u v 1 t1 t2 t3) (P : c.Post o s (forLoop (fun d ρ' => ex c.O c.t.G b (ρ'.set i (.fr d))) (rangeD u v) ρ) Q E) :
    wpAny c.M c.A (pyIter (.ref ra)) (fun it s₂ => codeAny c.M c.A (.forLoop (.Name x px) it body [] c.env) (fun r s' => match r with | .ok f => Q f s' | .error e => cameBackBy c.M c.A c.env E e s') s₂) E s := by
  refine wpAny_pyIter_range hr (range_small ok hu hv) ?_
  have n0 := S.new0
  have hnew : s.heap.get? s.heap.objs.size = none := Heap.get?_none_of_le (Nat.le_refl _)
  refine Fx.for_loop ok hb (Fx.iter_range ok S hnew) h1 h3 (Q := Q) (s₀ := s) (fun f s' => Iff.rfl) hp (fun _ _ h => h) rfl n0.1 n0.2 P ⟨u, (v - u).toNat, ?_, rfl⟩ (S.ext (Ext.push _ _)) (Ext.push _ _)
  have e : Builtin.Range.rangeSize u v 1 = (((v - u).toNat : Nat) : Int) := by
    rw [rangeSize_one]; split <;> omega
  rw [e]
  exact Heap.get?_push_size _ rfl
theorem Fx.ex_forR (hp : c.PassOk) (i : Nat) {lo hi : ME} {b : MS} (hl : c.EvOk lo) (hh : c.EvOk hi) (hb : c.ExB b) : c.ExOk (.forR i lo hi b) := by
  intro st o ρ s Q E hm S P
  refine inv_forR (P := fun E0 => wpAny _ _ (exec E0 _) _ _ _) st hm fun x px r pr ue us pc body pos hm => ?_
  simp only [exq_skip, exq_seq, exq_asg, exq_asgOwn, exq_asgFresh, exq_append, exq_store, exq_pop, exq_update, exq_ite, exq_forL, exq_forR, exq_loop, exq_ret, exq_retX, exq_raise, exq_tryx] at P
  obtain ⟨d, hd, P⟩ := SR.of_post P
  obtain ⟨d', hd', P⟩ := SR.of_post P
  split at P
  · rename_i u v
    split at P
    · rename_i hb2
      simp only [Bool.and_eq_true] at hb2
      simp only [Bool.and_eq_true, beq_iff_eq, Bool.or_eq_true] at hm
      obtain ⟨⟨⟨⟨h1, rfl⟩, h3⟩, h6⟩, hm⟩ := hm
      rcases hm with hm | hm
      · obtain ⟨rfl, hm⟩ := l0_inv hm
        obtain ⟨h4, h5⟩ := Bool.and_eq_true_iff.mp hm
        cases lo with
        | cint z =>
          obtain rfl := beq_iff_eq.mp h4
          simp only [Zaa, evq_own, evq_glob, evq_cint, evq_cstr, evq_cbool, evq_cnone, Zab, evq_neg, evq_nt, evq_and, evq_or, evq_cmp, evq_cmp2, evq_call, evq_bi1, evq_bi2, evq_isi, evq_find, evq_idx, evq_slice, evq_tupD, evq_lstD, evq_dctD, ] at hd; cases hd
          refine wpAny_For (Fx.one_arg ok hh (.inr ⟨"range", rfl⟩) h3 (by repeat (first | exact List.Mem.head _ | apply List.Mem.tail)) h5 hd' S fun w h' tk x1 r1 => ?_) (by intro _; rfl)
          obtain ⟨t, rfl⟩ := r1.out.int_inv
          refine call_range_1 ?_
          exact Fx.range_loop ok hp hb h1 h6 hb2.1 hb2.2 (s := { s with heap := _, toks := _ }) ((S.extF x1).ext (Ext.push _ _)) (IsRange.new _ _ _ _ _ _ _) (P.extF (x1.te (Ext.push _ _)))
        | _ => exact Bool.noConfusion h4
      · obtain ⟨ve, rfl, hm⟩ := l1_inv hm
        obtain ⟨h4, h5⟩ := Bool.and_eq_true_iff.mp hm
        refine wpAny_For (Fx.two_args ok hl hh (.inr ⟨"range", rfl⟩) h3 (by repeat (first | exact List.Mem.head _ | apply List.Mem.tail)) h4 h5 hd hd' S fun w w' h' tk x1 r1 r2 => ?_) (by intro _; rfl)
        obtain ⟨t, rfl⟩ := r1.out.int_inv
        obtain ⟨t', rfl⟩ := r2.out.int_inv
        refine call_range_2 ?_
        exact Fx.range_loop ok hp hb h1 h6 hb2.1 hb2.2 (s := { s with heap := _, toks := _ }) ((S.extF x1).ext (Ext.push _ _)) (IsRange.new _ _ _ _ _ _ _) (P.extF (x1.te (Ext.push _ _)))
    · exact P.elim
  · exact P.elim
end
end Mine
-- MEx4
set_option autoImplicit false
set_option linter.all false
namespace Mine
open PySem PyProof.Rows

section
variable {c : Fx} (ok : c.OkN)

theorem Fx.St.turn {o : Nat → Option Addr} {ρ : Env} {h h' : Heap} {i : Nat} {a : Addr} {d : D} (S : c.St o ρ h) (ha : o i = some a) (sb : Heap.SameBut a h h') (r : OwnRep c.t.prog c.t.w (Av c.X c.L o) h' a d) : c.St o (ρ.set i (.own d)) h' := by
  refine ⟨S.st.turn_own ha sb r, fun b ob e => (sb.2 b fun q => ?_).trans (S.h0 b ob e), S.o0, S.kE.but sb.extBut fun ob e n => ?_, S.oE, S.frm⟩
  · rw [q, S.o0 i a ha] at e; cases e
  · rcases S.oE i a ha with z | z
    · rw [z] at e; cases e
    · exact n z
include ok
theorem Fx.store_own {i : Nat} {x : Str} {a : Addr} {d : D} {o : Nat → Option Addr} {ρ : Env} {s : Shared} {h1 : Heap} {E : Value → Shared → Prop} {T : Unit → Shared → Prop} (hx : isSt c.C i x = true) (S : c.St o ρ h1) (ha : h1.get? a = none) (x1 : ExtF (stk c.A) h1 s.heap)
    (r : OwnRep c.t.prog c.t.w (fun b => Av c.X c.L o b ∨ b = a) s.heap a d)
    (k : ∀ h', c.St (upd o i (some a)) (ρ.set i (.own d)) h' → Kp (stk c.A) (Wr c.L o) h1 h' → OG c.C.pin o (upd o i (some a)) h1 → T () { s with heap := h', toks := s.toks + 1 }) : wpAny c.M c.A (storeName c.env x (.ref a)) T E s := by
  obtain ⟨hx, hpin⟩ := isSt_inv hx
  obtain ⟨h1', h2, h3⟩ := isLoc_inv hx
  obtain ⟨m, hm, hs⟩ := S.st.ns
  refine wpAny_storeName_local (by rw [Fx.kindOf ok.toOk, h2]) (by rw [ok.loc]; exact Kp.ns x1 hm id) (fun h' hn sb => ?_) (by rw [ok.kind]; rfl)
  rw [ok.loc] at hn sb
  have n0 : c.t.h0.get? a = none := by
    cases e : c.t.h0.get? a with
    | none => rfl
    | some ob => rw [S.h0 _ _ e] at ha; cases ha
  have nE : c.hE.get? a = none ∨ c.Z a := by
    by_cases z : c.Z a
    · exact .inr z
    · exact .inl (S.kE.none ha z)
  refine k h' ⟨S.st.set_own ok.nodup h1' ha x1 S.frm.x r hm hs hn sb, fun b ob e => (sb.2 b fun q => ?_).trans ((x1.ext S.frm.n0 S.h0) b ob e), fun j b q => ?_, (S.kE.trans x1.kp).but sb.extBut fun ob e n => ok.lE ⟨ob, e⟩, fun j b q => ?_, S.frm⟩
    (Kp.trans x1.kp (sameBut_keep (W := Wr c.L o) sb (.inl rfl)).kp) ⟨fun j b q => ?_, fun j hj => upd_other _ _ fun q => hpin (q ▸ hj)⟩
  · rw [q, ok.l0] at e; cases e
  · by_cases hj : j = i
    · subst hj; rw [upd_same] at q; cases q; exact n0
    · rw [upd_other _ _ hj] at q; exact S.o0 j b q
  · by_cases hj : j = i
    · subst hj; rw [upd_same] at q; cases q; exact nE
    · rw [upd_other _ _ hj] at q; exact S.oE j b q
  · by_cases hj : j = i
    · subst hj; rw [upd_same] at q; cases q; exact .inr ha
    · rw [upd_other _ _ hj] at q; exact .inl ⟨j, q⟩
noncomputable def Fx.NewOk (c : Fx) (m : ME) : Prop := ∀ (e : Expr) (d : D) (o : Nat → Option Addr) (ρ : Env) (s : Shared) (Q E : Value → Shared → Prop), matchE c.C m e = true → ev c.O c.t.G ρ m = .ok d → c.St o ρ s.heap →
  (∀ a h1 h2 tk, ExtF (stk c.A) s.heap h1 → h1.get? a = none → Ext h1 h2 → OwnRep c.t.prog c.t.w (fun b => Av c.X c.L o b ∨ b = a) h2 a d → Q (.ref a) { s with heap := h2, toks := tk }) → wpAny c.M c.A (eval e c.env) Q E s
theorem Fx.new_lstD {as : MEs} (hs : c.EvsOk as) : c.NewOk (.lstD as) := by
  intro e d o ρ s Q E hm he S k
  refine inv_lstD (P := fun E0 => wpAny _ _ (eval E0 _) _ _ _) e hm fun _ _ hm => ?_
  · simp only [Zaa, evq_own, evq_glob, evq_cint, evq_cstr, evq_cbool, evq_cnone, Zab, evq_neg, evq_nt, evq_and, evq_or, evq_cmp, evq_cmp2, evq_call, evq_bi1, evq_bi2, evq_isi, evq_find, evq_idx, evq_slice, evq_tupD, evq_lstD, evq_dctD, ] at he
    split at he
    · cases he
    · rename_i hesc
      obtain ⟨xs, hxs, he⟩ := R.bind_inv he
      split at he
      · rename_i hb
        cases he
        refine List_ ?_
        rw [trees_plain hm]
        refine hs _ xs o ρ s _ E hm hxs S fun vs h1 t1 x1 r1 => ?_
        have rl := r1.av (by simpa using hesc)
        refine wpAny_newObj_type ?_ (by show vs.toArray.size ≤ sizeLine; rw [List.size_toArray, rl.length, sizeLine_eq]; simp only [big] at hb; omega)
        have hnew : h1.get? h1.objs.size = none := Heap.get?_none_of_le (Nat.le_refl _)
        refine k _ h1 _ _ x1 hnew (Ext.push _ _) ⟨vs, 0, Heap.get?_push_size _ rfl, ?_⟩
        exact (rl.avoid fun a ob q n z => z.elim n fun z => by rw [z, hnew] at q; cases q).ext (Ext.push _ _)
      · cases he
theorem Fx.new_dctD : c.NewOk .dctD := by
  intro e d o ρ s Q E hm he S k
  refine inv_dctD (P := fun E0 => wpAny _ _ (eval E0 _) _ _ _) e hm fun _ hm => ?_
  · simp only [Zaa, evq_own, evq_glob, evq_cint, evq_cstr, evq_cbool, evq_cnone, Zab, evq_neg, evq_nt, evq_and, evq_or, evq_cmp, evq_cmp2, evq_call, evq_bi1, evq_bi2, evq_isi, evq_find, evq_idx, evq_slice, evq_tupD, evq_lstD, evq_dctD, ] at he; cases he
    refine wpAny_Dict_empty (k _ s.heap _ _ (ExtF.refl _) (Heap.get?_none_of_le (Nat.le_refl _)) (Ext.push _ _) ?_)
    exact ⟨[], Heap.DictOf.new _, .nil⟩
theorem Fx.ex_new (i : Nat) {e : ME} (he : c.NewOk e) {v : Expr} {x : Str} {px pos : Pos} {d : D} {o : Nat → Option Addr} {ρ : Env} {s : Shared} {Q : Flow → Shared → Prop} {E : Value → Shared → Prop} (h1 : isSt c.C i x = true) (h2 : matchE c.C e v = true) (h3 : notComp e = true) (S : c.St o ρ s.heap)
    (hd : ev c.O c.t.G ρ e = .ok d) (P : c.Post o s (.next (ρ.set i (.own d))) Q E) : wpAny c.M c.A (exec (.Assign [.Name x px] v pos) c.env) Q E s := by
  refine wpAny_Assign_Name (he _ d o ρ s _ E h2 hd S fun a ha hb tk x1 hn x2 r => ?_) (swaps_no h2 h3 _ _ _)
  exact Fx.store_own ok h1 (S.extF x1) hn x2.f r fun h'' S' k' g' => P _ h'' _ S' (Fx.keep_trans x1.kp (OG.refl _ _ _) k') (Fx.og_trans x1.kp (OG.refl _ _ _) g' S')
theorem Fx.ex_append (i : Nat) {e : ME} (he : c.EvOk e) : c.ExOk (.append i e) := by
  intro st o ρ s Q E hm S P
  refine inv_append (P := fun E0 => wpAny _ _ (exec E0 _) _ _ _) st hm fun _ _ _ _ _ _ _ hm => ?_
  · rename_i x px n ap y cp pos
    simp only [Bool.and_eq_true, beq_iff_eq] at hm
    obtain ⟨⟨⟨h1, h2⟩, rfl⟩, h4⟩ := hm
    simp only [exq_skip, exq_seq, exq_asg, exq_asgOwn, exq_asgFresh, exq_append, exq_store, exq_pop, exq_update, exq_ite, exq_forL, exq_forR, exq_loop, exq_ret, exq_retX, exq_raise, exq_tryx] at P
    split at P
    · exact P.elim
    · rename_i hesc
      split at P
      · rename_i l hq
        obtain ⟨d, hd, P⟩ := SR.of_post P
        split at P
        · rename_i hb
          refine wpAny_Expr_any (Q := Q) ?_ (by simp [interactive, ok.kind]) rfl
          refine Call_method1 rfl (match_star h4 _ _) (by simpa using h1) (Fx.oname ok.toOk h2 S hq fun a ha r => ?_)
          obtain ⟨vs, n, hg, rl⟩ := r
          refine ⟨"list", "list.append", F.plainAttrs_list, F.slot_list_append, F.type_list_append, ⟨_, hg, rfl⟩, (fun b q => ?_), ?_⟩
          · cases q; exact ⟨_, hg, rfl⟩
          refine PySem.P.append_list (he _ d o ρ s _ E h4 hd S fun v h1 t1 x1 r1 => ?_)
          have hg1 := x1.get hg fun q => (S.frm.x a q).elim (S.st.xo i a ha).1 (S.st.xo i a ha).2.1
          refine ⟨vs.toArray, n, ?_, hg1, ?_⟩
          · rw [List.size_toArray, rl.length, sizeLine_eq]; simp only [big] at hb; omega
          have S1 := S.extF x1
          have sb : Heap.SameBut a h1 (h1.update a (Obj.mapSeq fun xs => xs.push v)) := Heap.SameBut.update ..
          have hu : (h1.update a (Obj.mapSeq fun xs => xs.push v)).get? a = some (lstO (vs ++ [v]) (n + 1)) := by
            rw [Heap.get?_update_self _ hg1 (by rw [mapSeq_push]; rfl), mapSeq_push]; simp [lstO]
          have kp : Keep (Av c.X c.L o) h1 (h1.update a (Obj.mapSeq fun xs => xs.push v)) := sameBut_keep sb (.inr (.inr ⟨i, ha⟩))
          refine P o _ _ (S1.turn ha sb ⟨vs ++ [v], n + 1, hu, ((rl.extF x1 fun a q => (S.frm.x a q).elim .inl fun q => .inr (.inl q)).mono kp).append (.cons ((r1.av (by simpa using hesc)).mono kp) .nil)⟩) ?_ (OG.refl _ _ _)
          exact Kp.trans x1.kp (sameBut_keep (W := Wr c.L o) sb (.inr ⟨i, ha⟩)).kp
        · exact P.elim
      · exact P.elim
theorem Fx.ex_loop {t : ME} {b : MS} (ht : c.TrOk t) (hb : c.ExB b) : c.ExOk (.loop t b) := by
  intro st o ρ s Q E hm S P
  refine inv_loop (P := fun E0 => wpAny _ _ (exec E0 _) _ _ _) st hm fun _ _ _ hm => ?_
  · rename_i te body pos
    simp only [Bool.and_eq_true] at hm
    simp only [exq_skip, exq_seq, exq_asg, exq_asgOwn, exq_asgFresh, exq_append, exq_store, exq_pop, exq_update, exq_ite, exq_forL, exq_forR, exq_loop, exq_ret, exq_retX, exq_raise, exq_tryx] at P
    refine wpAny_While ?_
    refine codeAny_whileLoop (fun n s' => ∃ o' ρ' h' tk, s' = { s with heap := h', toks := tk } ∧ c.St o' ρ' h' ∧ c.Post o' { s with heap := h', toks := tk } (whileLoop (fun ρ' => ev c.O c.t.G ρ' t) (fun ρ' => ex c.O c.t.G b ρ') n ρ') Q E) ?_ whileFuel ⟨o, ρ, s.heap, s.toks, rfl, S, P⟩
    rintro n s' ⟨o', ρ', h', tk, rfl, S', P'⟩
    cases n with
    | zero => exact P'.elim
    | succ n =>
      simp only [whileLoop] at P'
      obtain ⟨d, hd, P'⟩ := SR.of_post P'
      split at P'
      · refine ht _ true o' ρ' _ _ _ hm.1 hd S' fun h2 t2 x2 => ?_
        simp only [if_true]
        refine hb _ o' ρ' _ _ _ hm.2 (S'.extF x2) ?_
        have P2 := Fx.Post.extF (t1 := t2) P' x2
        cases hr : ex c.O c.t.G b ρ' with
        | next ρ4 =>
          rw [hr] at P2
          intro o4 h4 t4 S4 k4 g4
          exact ⟨n, Nat.lt_succ_self n, o4, ρ4, h4, t4, rfl, S4, Fx.Post.after (s := { s with heap := h2, toks := t2 }) (t1 := t4) P2 k4 g4⟩
        | ret d' fr ρ4 => rw [hr] at P2; exact P2
        | exc _ _ => rw [hr] at P2; exact P2.elim
        | stuck => rw [hr] at P2; exact P2.elim
      · refine ht _ false o' ρ' _ _ _ hm.1 hd S' fun h2 t2 x2 => ?_
        simp only [Bool.false_eq_true, if_false]
        exact wpAny_execs_nil (P' o' h2 t2 (S'.extF x2) x2.kp (OG.refl _ _ _))
      · exact P'.elim
end
end Mine
-- MExc
set_option autoImplicit false
set_option linter.all false
namespace Mine
open PySem PyProof.Rows

open Classical in
noncomputable def hole (h : Heap) (P : Addr → Prop) : Heap := ⟨h.objs.mapIdx fun i o => if P i then ⟨.none, none, .freed, #[]⟩ else o, h.life⟩
theorem hole_in {h : Heap} {P : Addr → Prop} {b : Addr} (n : P b) : (hole h P).get? b = none := by
  unfold Heap.get? hole
  simp only [Array.getElem?_mapIdx]
  cases h.objs[b]? with
  | none => rfl
  | some o => simp only [Option.map_some, if_pos n]
section
variable {xe : XE} {prog : Program} {w : World} {X P : Addr → Prop} {h h' : Heap}
theorem goP (hP : ∀ b, P b → ∃ ob fs, h.get? b = some ob ∧ ob.data = .fields fs) : Go true true X (fun a => X a ∨ P a) h h :=
  ⟨fun a vs n q nx => ⟨q, fun z => z.elim nx fun z => by obtain ⟨ob, fs, e, f⟩ := hP a z; rw [e] at q; cases q; cases f⟩, fun _ a vs n q nx => ⟨q, fun z => z.elim nx fun z => by obtain ⟨ob, fs, e, f⟩ := hP a z; rw [e] at q; cases q; cases f⟩,
    fun _ a o2 es n q q3 nx => ⟨q, fun z => z.elim nx fun z => by obtain ⟨ob, fs, e, f⟩ := hP a z; rw [e] at q; cases q; rw [f] at q3; cases q3⟩⟩
theorem OwnRep.notP {Y : Addr → Prop} {a : Addr} {d : D} (r : OwnRep prog w Y h a d) (hP : ∀ b, P b → ∃ ob fs, h.get? b = some ob ∧ ob.data = .fields fs) : ¬ P a := fun z => by
  obtain ⟨ob, fs, e, f⟩ := hP a z
  obtain ⟨o2, e2, n2⟩ := r.live
  rw [e] at e2; cases e2; exact n2 _ f
theorem SlotOk.avoidP (hx : ∀ e x o, ¬ xe e x o) {Y : Addr → Prop} {oi : Option Addr} {mx : Option Value} {sl : Option Slot} (r : SlotOk xe prog w Y h oi mx sl) (hP : ∀ b, P b → ∃ ob fs, h.get? b = some ob ∧ ob.data = .fields fs) : SlotOk xe prog w (fun a => Y a ∨ P a) h oi mx sl := by
  match sl, r with
  | some (.fr d), ⟨e1, v, e', q⟩ => exact ⟨e1, v, e', q.go (goP hP) (within_all d)⟩
  | some (.own d), ⟨a, e1, e', q⟩ =>
    refine ⟨a, e1, e', ?_⟩
    cases d with
    | list l => obtain ⟨vs, n, q1, z⟩ := q; exact ⟨vs, n, q1, z.go (goP hP) (withins_all l)⟩
    | dict l => exact q
    | _ => cases q
  | some .unset, r => exact r
  | some (.ex c), ⟨_, _, _, _, _, _, q, _⟩ => exact absurd q (hx _ _ _)
  | none, r => exact r
theorem St.flds {F : Addr → Prop} {L : Addr} {slots : List Str} {o : Nat → Option Addr} {ρ : Env} (S : St xe prog w X L slots o ρ h) (hx : ∀ e x o, ¬ xe e x o) (hF : ∀ a, F a → AvL X L a) (hP : ∀ b, P b → ∃ ob fs, h.get? b = some ob ∧ ob.data = .fields fs) (k : Kp F P h h') : St xe prog w X L slots o ρ h' := by
  obtain ⟨m, hm, hs⟩ := S.ns
  have nL : ¬ P L := fun z => by
    obtain ⟨o2, es, n, q, q2, _⟩ := hm
    obtain ⟨ob, fs, e, f⟩ := hP L z
    rw [e] at q; cases q; rw [f] at q2; cases q2
  have kp : Keep (fun a => Av X L o a ∨ P a) h h' := (k.mono fun _ q => .inr q).exact fun a q => .inl ((hF a q).elim .inl fun q => .inr (.inl q))
  refine ⟨⟨m, k.ns hm nL, fun j y hy => ?_⟩, S.xl, S.xo, S.inj, fun a q => ?_, S.sys, S.len⟩
  · refine (((hs j y hy).avoidP hx hP).mono kp fun a q ob2 q2 => ?_).avoid fun a _ _ n q => n (.inl q)
    obtain ⟨d, _, ow⟩ := S.own_slot q
    exact k.get q2 (ow.notP hP) fun y => (hF a y).elim (S.xo j a q).1 (S.xo j a q).2.1
  · obtain ⟨ob2, q2, f2⟩ := S.xok a q
    obtain ⟨o3, q3, q4, _⟩ := k.live q2 fun z => by obtain ⟨ob, fs, e, f⟩ := hP a z; rw [e] at q2; cases q2; exact f2 _ f
    exact ⟨o3, q3, fun vs z => f2 vs (q4 ▸ z)⟩
end

section
variable {c : Fx}
theorem Fx.St.flds {P : Addr → Prop} {o : Nat → Option Addr} {ρ : Env} {h h' : Heap} (S : c.St o ρ h) (hx : ∀ e x o, ¬ c.xe e x o) (hP : ∀ b, P b → ∃ ob fs, h.get? b = some ob ∧ ob.data = .fields fs) (k : Kp (stk c.A) P h h') (n0 : ∀ b, P b → c.t.h0.get? b = none) (nE : ∀ b, P b → c.hE.get? b = none ∨ c.Z b) : c.St o ρ h' := by
  refine ⟨S.st.flds hx S.frm.x hP k, fun b ob e => ?_, S.o0, fun b ob e n => ?_, S.oE, S.frm⟩
  · exact k.get (S.h0 b ob e) (fun z => by rw [n0 b z] at e; cases e) fun z => by rw [S.frm.n0 b z] at e; cases e
  · exact Kp.step (S.kE b ob e n) fun o' e' => k b o' e' fun z => (nE b z).elim (fun q => by rw [q] at e; cases e) n
theorem Frm.fun {A : Around} {X : Addr → Prop} {h0 h base : Heap} (f : Frm A X h0) (x : XOk X h) (hb : ∀ b, stk A b → base.get? b = none) {l : List PySem.Env} (hl : A.frames = some l) : h.FunFrames base l := by
  obtain ⟨l', hl', hf⟩ := f.fr
  rw [hl] at hl'; cases hl'
  have key : ∀ m : List PySem.Env, (∀ env ∈ m, env ∈ l) → h.FunFrames base m := by
    intro m
    induction m with
    | nil => intro _; trivial
    | cons env m ih =>
      intro hm
      obtain ⟨hk, b, hb'⟩ := hf env (hm env (.head _))
      have hs : stk A b := ⟨l, env, hl, hm env (.head _), hb'⟩
      obtain ⟨ob, e, nf⟩ := x b (f.x b hs)
      exact ⟨hk, ⟨b, ob, hb', hb b hs, e, nf⟩, ih fun env' q => hm env' (.tail _ q)⟩
  exact key l fun _ q => q
theorem Fx.nw_of {o : Nat → Option Addr} {ρ : Env} {h : Heap} (S : c.St o ρ h) {a : Addr} (n : h.get? a = none) : Nw c o h a := by
  refine ⟨?_, ?_, .inr n⟩
  · cases e : c.t.h0.get? a with
    | none => rfl
    | some ob => rw [S.h0 _ _ e] at n; cases n
  · by_cases z : c.Z a
    · exact .inr z
    · exact .inl (S.kE.none n z)
theorem dict_map (o : Obj) (f : Array Value → Array Value) : (o.mapFields f).dict = o.dict := by
  obtain ⟨c, d, dd, sl⟩ := o
  cases dd <;> rfl
theorem Fx.entry (ok : c.Ok) {o : Nat → Option Addr} {ρ : Env} {s : Shared} {e : Addr} {oe : Obj} {vs : Array Value} {head : Value} {had : Bool} {Q : Unit → Shared → Prop} {E : Value → Shared → Prop} (S : c.St o ρ s.heap) (he : s.heap.get? e = some oe) (hd : oe.data = .fields vs) (hsz : 1 < vs.size)
    (k : ∀ h1 T oe' vs' oT ts, Kp (stk c.A) (fun b => b = e) s.heap h1 → s.heap.get? T = none → h1.get? e = some oe' → oe'.cls = oe.cls → oe'.dict = oe.dict → oe'.data = .fields vs' → vs'[1]? = some (.ref T) → T ≠ e → h1.get? T = some oT → oT.data = .fields ts → ts[3]? = some (rawInt c.L) → Q () { s with heap := h1 }) :
    wpAny c.M c.A (do let a ← frameOf c.env; let pl ← entryPlaceOf c.L had; let b ← EntryCells.newEntry head a .none (rawInt c.L) .none pl; setField (.ref e) 1 b) Q E s := by
  obtain ⟨outer, hfr⟩ := ok.frx
  have hfun : s.heap.FunFrames (hole s.heap (stk c.A)) (c.env :: outer) := S.frm.fun S.st.liveL (fun b q => hole_in q) hfr
  have mem : ∀ b, b ∈ (c.env :: outer).filterMap (·.frame) → stk c.A b := fun b hb => by
    obtain ⟨env, h1, h2⟩ := List.mem_filterMap.mp hb
    exact ⟨_, env, hfr, h1, h2⟩
  have nstk : ¬ stk c.A e := fun z => by
    obtain ⟨ob, e1, nf⟩ := S.st.liveL e (S.frm.x e z)
    rw [he] at e1; cases e1; exact nf _ hd
  refine wpAny_bind (wpAny_frameOf_fun hfr hfun ok.efr fun h₁ hs₁ => wpAny_bind (wpAny_entryPlaceOf fun pl hpl => ?_))
  unfold EntryCells.newEntry newFields
  refine wpAny_bind (wpAny_newObj_type ?_ (hpl.sizeOk5 _ _ _ _ _))
  generalize htb : ({ cls := .type "traceback", dict := none, data := .fields ([head, .ref c.L, .none, rawInt c.L, .none] ++ (if pl.isEmpty then List.replicate 6 Value.none else pl)).toArray } : Obj) = tb
  have he₁ : h₁.get? e = some oe := (hs₁.2.1 e fun z => nstk (mem e z)).trans he
  have he₂ := Heap.get?_push_of_some (h := h₁) tb he₁
  have hTe : h₁.objs.size ≠ e := Nat.ne_of_gt (Heap.lt_size he₁)
  have htd : tb.data = .fields ([head, .ref c.L, .none, rawInt c.L, .none] ++ (if pl.isEmpty then List.replicate 6 Value.none else pl)).toArray := by rw [← htb]
  refine wpAny_setField he₂ hd hsz ?_
  have hd₃ := Obj.data_mapFields hd (·.setIfInBounds 1 (Value.ref h₁.objs.size))
  refine k _ h₁.objs.size _ _ tb _ (fun b ob eb nb => ?_) ?_ (Heap.get?_update_self _ he₂ (Obj.isFreed_of_fields hd₃)) (Obj.cls_mapFields _ _) (dict_map _ _) hd₃ (by simp [hsz]) hTe ?_ htd (by simp)
  · have go : ∀ ob', h₁.get? b = some ob' → ((h₁.push tb).update e (Obj.mapFields (·.setIfInBounds 1 (Value.ref h₁.objs.size)))).get? b = some ob' := fun ob' z => (Heap.get?_update_other _ _ (Ne.symm nb)).trans (Heap.get?_push_of_some _ z)
    by_cases hm : b ∈ (c.env :: outer).filterMap (·.frame)
    · obtain ⟨sl, z⟩ := hs₁.2.2 b ob eb
      exact .inr ⟨mem b hm, sl, go _ z⟩
    · exact .inl (go _ ((hs₁.2.1 b hm).trans eb))
  · rw [hs₁.1]; exact Heap.get?_none_of_le (Nat.le_refl _)
  · exact (Heap.get?_update_other _ _ (Ne.symm hTe)).trans (Heap.get?_push_size h₁ (by rw [← htb]; rfl))
theorem Wd.step {o : Nat → Option Addr} {h h' : Heap} {P : Addr → Prop} {e : Addr} {x : EC} {oe oe' : Obj} (W : Wd c o h e x) (f : Frm c.A (AvL c.X c.L) c.t.h0) (he : h.get? e = some oe) (he' : h'.get? e = some oe') (hdd : oe'.dict = oe.dict) (hP : ∀ b, P b → ∃ ob fs, h.get? b = some ob ∧ ob.data = .fields fs) (k : Kp (stk c.A) P h h') : Wd c o h' e x := by
  obtain ⟨oe2, e1, r⟩ := W
  rw [he] at e1; cases e1
  exact ⟨oe', he', r.step hdd fun a m n q => ⟨n, k.ns q fun z => by
    obtain ⟨ob, fs, z1, z2⟩ := hP a z
    obtain ⟨o2, es, ep, q1, q2, _⟩ := q
    rw [z1] at q1; cases q1; rw [z2] at q2; cases q2⟩⟩
theorem Fx.tset (ok : c.Ok) (hx : ∀ e x o, ¬ c.xe e x o) {o o0 : Nat → Option Addr} {ρ : Env} {hb : Heap} {h : Heap} {e T : Addr} {oe oT : Obj} {ts : Array Value} (S : c.St o ρ h) (K : Kp (stk c.A) (Wr c.L o0) hb h) {x : EC} (W : Wd c o h e x) (NT : Nw c o0 hb T) (he : h.get? e = some oe) (hTe : T ≠ e) (hT : h.get? T = some oT) (hd : oT.data = .fields ts) (h3 : 3 < ts.size) (f : Value) :
    c.St o ρ (h.update T (Obj.mapFields (·.setIfInBounds 3 f))) ∧ Kp (stk c.A) (Wr c.L o0) hb (h.update T (Obj.mapFields (·.setIfInBounds 3 f))) ∧ Wd c o (h.update T (Obj.mapFields (·.setIfInBounds 3 f))) e x ∧ (h.update T (Obj.mapFields (·.setIfInBounds 3 f))).get? e = some oe ∧
    ∃ oT' ts', (h.update T (Obj.mapFields (·.setIfInBounds 3 f))).get? T = some oT' ∧ oT'.data = .fields ts' ∧ ts'[3]? = some f := by
  have hsb : Heap.SameBut T h (h.update T (Obj.mapFields (·.setIfInBounds 3 f))) := Heap.SameBut.update ..
  have kp1 : Kp (stk c.A) (fun b => b = T) h (h.update T (Obj.mapFields (·.setIfInBounds 3 f))) := (sameBut_keep (W := fun b => b = T) hsb rfl).kp
  refine ⟨S.flds (P := fun b => b = T) hx (fun b q => ⟨oT, ts, q ▸ hT, hd⟩) kp1 (fun b q => q ▸ NT.n0) fun b q => q ▸ NT.nE, K.but hsb.extBut fun ob q n => ?_, W.step (P := fun b => b = T) S.frm he ((hsb.2 e (Ne.symm hTe)).trans he) rfl (fun b q => ⟨oT, ts, q ▸ hT, hd⟩) kp1, (hsb.2 e (Ne.symm hTe)).trans he, _, _, Heap.get?_update_self _ hT (Obj.isFreed_of_fields (Obj.data_mapFields hd _)), Obj.data_mapFields hd _, by simp [h3]⟩
  rcases NT.nw with ⟨j, z⟩ | z
  · exact n (.inr ⟨j, z⟩)
  · rw [q] at z; cases z
theorem Fx.noted (ok : c.Ok) (hx : ∀ e x o, ¬ c.xe e x o) {o o0 : Nat → Option Addr} {ρ : Env} {hb : Heap} {s : Shared} {e : Addr} {x : EC} {Q : Unit → Shared → Prop} {E : Value → Shared → Prop} (S : c.St o ρ s.heap) (Y : Fly c o0 hb s.heap e x) (K : Kp (stk c.A) (Wr c.L o0) hb s.heap) (W : Wd c o s.heap e x)
    (k : ∀ h1 C bm T oe vs oT ts, c.St o ρ h1 → Kp (stk c.A) (Wr c.L o0) hb h1 → Wd c o h1 e x → Nw c o0 hb T → c.t.cx (ecTy x) = some (C, bm) → h1.get? e = some oe → oe.cls = .ref C → oe.data = .fields vs → vs[1]? = some (.ref T) → T ≠ e → h1.get? T = some oT → oT.data = .fields ts → ts[3]? = some (rawInt c.L) → Q () { s with heap := h1 }) :
    wpAny c.M c.A (noteFrame (.ref e) c.env) Q E s := by
  obtain ⟨N, C, bm, oe, vs, q1, q2, q3, q4, q5⟩ := Y
  have go : ∀ (h : Heap) (head : Value) (had : Bool), c.St o ρ h → Kp (stk c.A) (Wr c.L o0) hb h → Wd c o h e x → h.get? e = some oe → 1 < vs.size → wpAny c.M c.A (do let a ← frameOf c.env; let pl ← entryPlaceOf c.L had; let b ← EntryCells.newEntry head a .none (rawInt c.L) .none pl; setField (.ref e) 1 b) Q E { s with heap := h } := fun h head had S K W he hsz => by
    refine Fx.entry (s := { s with heap := h }) ok S he q4 hsz fun h1 T oe' vs' oT ts kp nT e1 e2 e3 e4 e5 e6 e7 e8 e9 => ?_
    have hPf : ∀ b, b = e → ∃ ob fs, h.get? b = some ob ∧ ob.data = .fields fs := fun b q => ⟨oe, vs, q ▸ he, q4⟩
    have S1 := S.flds hx hPf kp (fun b q => q ▸ N.n0) fun b q => q ▸ N.nE
    have K1 : Kp (stk c.A) (Wr c.L o0) hb h1 := fun b ob eb nb => Kp.step (K b ob eb nb) fun o' e' => kp b o' e' fun z => by
      rcases N.nw with ⟨i, z'⟩ | z'
      · exact nb (.inr ⟨i, z ▸ z'⟩)
      · rw [z, z'] at eb; cases eb
    have NN := Fx.nw_of S nT
    have NT : Nw c o0 hb T := ⟨NN.n0, NN.nE, by
      by_cases hw : Wr c.L o0 T
      · exact .inl (hw.resolve_left (S1.neL e7 e8))
      · exact .inr (K.none nT hw)⟩
    exact k h1 C bm T oe' vs' oT ts S1 K1 (W.step S.frm he e1 e3 hPf kp) NT q1 e1 (e2.trans q3) e4 e5 e6 e7 e8 e9
  unfold noteFrame
  simp only [ok.efr]
  rcases q5 with q5 | ⟨T, oT, ts, r1, r2, r3, r4, r5, r6 | r6⟩
  · refine wpAny_bind (wpAny_field q2 q4 q5 ?_)
    rw [if_neg (by decide)]
    exact go s.heap _ _ S K W q2 (Array.getElem?_eq_some_iff.mp q5).1
  · refine wpAny_bind (wpAny_field q2 q4 r1 ?_)
    rw [if_pos (show (Value.ref T != Value.none) = true from by simp)]
    refine wpAny_bind (wpAny_field r4 r5 r6 ?_)
    rw [if_neg (show ¬ ((Value.none == rawInt c.L) = true) from by simp [rawInt])]
    refine wpAny_bind (wpAny_setField r4 r5 (Array.getElem?_eq_some_iff.mp r6).1 ?_)
    obtain ⟨S2, K2, W2, g1, _⟩ := Fx.tset ok hx S K W r2 q2 r3 r4 r5 (Array.getElem?_eq_some_iff.mp r6).1 .none
    exact go _ _ _ S2 K2 W2 g1 (Array.getElem?_eq_some_iff.mp r1).1
  · refine wpAny_bind (wpAny_field q2 q4 r1 ?_)
    rw [if_pos (show (Value.ref T != Value.none) = true from by simp)]
    refine wpAny_bind (wpAny_field r4 r5 r6 ?_)
    rw [if_pos (show (rawInt c.L == rawInt c.L) = true from by simp)]
    exact wpAny_pure (k s.heap C bm T oe vs oT ts S K W r2 q1 q2 q3 q4 r1 r3 r4 r5 r6)
theorem Fx.note (ok : c.Ok) (hx : ∀ e x o, ¬ c.xe e x o) {o o0 : Nat → Option Addr} {ρ : Env} {hb : Heap} {s : Shared} {e : Addr} {x : EC} {Q : Unit → Shared → Prop} {E : Value → Shared → Prop} (S : c.St o ρ s.heap) (Y : Fly c o0 hb s.heap e x) (K : Kp (stk c.A) (Wr c.L o0) hb s.heap) (W : Wd c o s.heap e x)
    (k : ∀ h1, c.St o ρ h1 → Kp (stk c.A) (Wr c.L o0) hb h1 → Wd c o h1 e x → Nw c o0 hb e → (∃ C bm T, c.t.cx (ecTy x) = some (C, bm) ∧ Nw c o0 hb T ∧ ∃ oe vs oT ts, h1.get? e = some oe ∧ oe.cls = .ref C ∧ oe.data = .fields vs ∧ vs[1]? = some (.ref T) ∧ T ≠ e ∧ h1.get? T = some oT ∧ oT.data = .fields ts ∧ ts[3]? = some .none) → Q () { s with heap := h1 }) :
    wpAny c.M c.A (noteFrame (.ref e) c.env) (fun _ s' => wpAny c.M c.A (setFlight (.ref e) none) Q E s') E s := by
  refine Fx.noted ok hx S Y K W fun h1 C bm T oe vs oT ts S1 K1 W1 NT q1 q2 q3 q4 r1 r3 r4 r5 r6 => ?_
  obtain ⟨S2, K2, W2, g1, oT', ts', g2, g3, g4⟩ := Fx.tset ok hx S1 K1 W1 NT q2 r3 r4 r5 (Array.getElem?_eq_some_iff.mp r6).1 .none
  exact wpAny_setFlight_none q2 q4 r1 r4 r5 (Array.getElem?_eq_some_iff.mp r6).1 (k _ S2 K2 W2 Y.nw ⟨C, bm, T, q1, NT, oe, vs, oT', ts', g1, q3, q4, r1, r3, g2, g3, g4⟩)
theorem Fx.pass (ok : c.Ok) (hx : ∀ e x o, ¬ c.xe e x o) : c.PassOk := by
  intro o o0 ρ hb s e x K E0 S Y Kp0 W hK k
  unfold notedBy
  refine Fx.noted ok hx S Y Kp0 W fun h1 C bm T oe vs oT ts S1 K1 W1 NT q1 he hc hd h1' hTe hT hdT r6 => hK _ _ ?_
  have h3 := (Array.getElem?_eq_some_iff.mp r6).1
  obtain ⟨S2, K2, W2, g1, oT', ts', g2, g3, g4⟩ := Fx.tset ok hx S1 K1 W1 NT he hTe hT hdT h3 (rawInt c.L)
  unfold cameBackBy
  refine wpAny_bind (wpAny_field he hd h1' ?_)
  rw [if_neg (show ¬ ((Value.ref T == Value.none) = true) from by simp)]
  unfold setFlight
  refine wpAny_bind (wpAny_field he hd h1' ?_)
  rw [if_pos (show (Value.ref T != Value.none) = true from by simp), ok.efr]
  exact wpAny_setField hT hdT h3 (k _ S2 K2 ⟨Y.nw, C, bm, oe, vs, q1, g1, hc, hd, .inr ⟨T, oT', ts', h1', NT, hTe, g2, g3, .inr g4⟩⟩ W2)
end
end Mine
-- MExc2
set_option autoImplicit false
set_option linter.all false
namespace Mine
open PySem PyProof.Rows

theorem Flew.back {t : Tx} {F : Addr → Prop} {hb h1 h : Heap} {e : Addr} {x : EC} (x1 : ExtF F hb h1) (f : Flew t h1 h e x) : Flew t hb h e x := by
  obtain ⟨n, ⟨C, bm, q1, oe, vs, T, oT, ts, q2, q3, q4, q5, q6, q7⟩, oe', w1, w2⟩ := f
  exact ⟨x1.none n, ⟨C, bm, q1, oe, vs, T, oT, ts, q2, q3, q4, q5, x1.none q6, q7⟩, oe', w1, w2.step rfl fun a m n r => ⟨fun ⟨ob, z⟩ => by obtain ⟨ob', z', _⟩ := Kp.live x1 z id; exact n ⟨ob', z'⟩, r⟩⟩
theorem OwnT.keeps {h h' : Heap} {tl : List Value} (T : OwnT h tl) (hk : ∀ b o, h.get? b = some o → h'.get? b = some o) : OwnT h' tl := by
  induction T with
  | base => exact .base
  | own a b n _ ih => exact .own (hk _ _ a) (b.keeps hk) n ih
theorem OwnT.tail {h : Heap} {tl : List Value} (T : OwnT h tl) : OwnTail h bmV tl := by
  induction T with
  | base => exact .base
  | own a b n _ ih => exact .own a b (n _ (.head _)) ih
section
variable {c : Fx}
theorem Flew.fly {o : Nat → Option Addr} {ρ : Env} {hb h : Heap} {e : Addr} {x : EC} (f : Flew c.t hb h e x) (S : c.St o ρ hb) : Fly c o hb h e x := by
  obtain ⟨n, ⟨C, bm, q1, oe, vs, T, oT, ts, q2, q3, q4, q5, q6, q7, q8, q9, q10⟩, _⟩ := f
  exact ⟨Fx.nw_of S n, C, bm, oe, vs, q1, q2, q3, q4, .inr ⟨T, oT, ts, q5, Fx.nw_of S q6, q7, q8, q9, .inl q10⟩⟩
theorem Flew.word {o : Nat → Option Addr} {ρ : Env} {hb h : Heap} {e : Addr} {x : EC} (f : Flew c.t hb h e x) (S : c.St o ρ hb) : Wd c o h e x := by
  obtain ⟨oe, w1, w2⟩ := f.wd
  refine ⟨oe, w1, w2.step rfl fun a m n r => ⟨fun z => n ?_, r⟩⟩
  rcases z with z | ⟨⟨ob, z⟩, z2⟩
  · obtain ⟨ob, z, _⟩ := S.st.live a z; exact ⟨ob, z⟩
  · obtain ⟨ob', z', _⟩ := S.kE.live z z2; exact ⟨ob', z'⟩
noncomputable def Fx.EvxOk (c : Fx) (m : ME) : Prop := ∀ (e : Expr) (o : Nat → Option Addr) (ρ : Env) (s : Shared) (Q E : Value → Shared → Prop), matchE c.C m e = true → c.St o ρ s.heap → evx c.O c.t.G ρ m ≠ .stuck →
  (∀ d, evx c.O c.t.G ρ m = .ok d → ∀ v h' tk, ExtF (stk c.A) s.heap h' → EvRep c.t.prog c.t.w c.X c.L o ρ m.esc h' v d → Q v { s with heap := h', toks := tk }) →
  (∀ x, evx c.O c.t.G ρ m = .exc x → ∀ a h' tk, ExtF (stk c.A) s.heap h' → Flew c.t s.heap h' a x → E (.ref a) { s with heap := h', toks := tk }) → wpAny c.M c.A (eval e c.env) Q E s
noncomputable def Fx.EvxsOk (c : Fx) (ms : MEs) : Prop := ∀ (es : List Expr) (o : Nat → Option Addr) (ρ : Env) (s : Shared) (Q : List Value → Shared → Prop) (E : Value → Shared → Prop), matchEs c.C ms es = true → c.St o ρ s.heap → evxs c.O c.t.G ρ ms ≠ .stuck →
  (∀ ds, evxs c.O c.t.G ρ ms = .ok ds → ∀ vs h' tk, ExtF (stk c.A) s.heap h' → EvRepAll c.t.prog c.t.w c.X c.L o ρ ms.esc h' vs ds → Q vs { s with heap := h', toks := tk }) →
  (∀ x, evxs c.O c.t.G ρ ms = .exc x → ∀ a h' tk, ExtF (stk c.A) s.heap h' → Flew c.t s.heap h' a x → E (.ref a) { s with heap := h', toks := tk }) → wpAny c.M c.A (spliced (es.map fun e => (false, eval e c.env))) Q E s
theorem Fx.evx_plain {m : ME} (hq : ∀ ρ, evx c.O c.t.G ρ m = (ev c.O c.t.G ρ m).q) (ha : c.EvOk m) : c.EvxOk m := by
  intro e o ρ s Q E hm S ns k _
  rw [hq] at ns k
  cases hr : ev c.O c.t.G ρ m with
  | ok d => rw [hr] at k; exact ha e d o ρ s Q E hm hr S fun v h' tk x1 r => k d rfl v h' tk x1 r
  | exc x => rw [hr] at ns; exact absurd rfl ns
  | stuck => rw [hr] at ns; exact absurd rfl ns
theorem Fx.evxs_nil : c.EvxsOk .nil := by
  intro es o ρ s Q E hm S ns k _
  replace hm : es = [] := List.isEmpty_iff.mp hm
  subst hm
  exact Calls.spliced_nil (k [] (by simp only [evxsq_nil, evxsq_cons]) _ s.heap s.toks (.refl _) ⟨fun _ => .nil, .nil, fun _ => .nil⟩)
theorem Fx.evxs_cons {a : ME} {as : MEs} (ha : c.EvxOk a) (hs : c.EvxsOk as) : c.EvxsOk (.cons a as) := by
  intro es o ρ s Q E hm S ns k kx
  replace hm := lc_inv hm
  obtain ⟨_, _, rfl, hm⟩ := hm
  simp only [Bool.and_eq_true] at hm
  simp only [evxsq_nil, evxsq_cons] at ns k kx
  rw [List.map_cons]
  refine Calls.spliced_cons (ha _ o ρ s _ E hm.1 S (fun q => ns (by rw [q]; rfl)) (fun x hx v h1 t1 x1 r1 => ?_) fun x hx a h' tk x1 f => kx x (by rw [hx]; rfl) a h' tk x1 f)
  rw [hx] at ns k kx
  simp only [R.bind_ok] at ns k kx
  refine hs _ o ρ _ _ E hm.2 (S.extF x1) (fun q => ns (by rw [q]; rfl)) (fun xs hxs vs h2 t2 x2 r2 => k (x :: xs) (by rw [hxs]; rfl) _ h2 t2 (x1.trans x2) ⟨fun q => ?_, .cons (r1.ext x2 S.frm.x).avl r2.avl, fun q => ?_⟩) fun y hy a h' tk x2 f => kx y (by rw [hy]; rfl) a h' tk (x1.trans x2) (f.back x1)
  · simp only [MEs.esc, Bool.or_eq_false_iff] at q
    exact .cons ((r1.ext x2 S.frm.x).av q.1) (r2.av q.2)
  · simp only [List.all_cons, Bool.and_eq_true] at q
    exact .cons ((r1.ext x2 S.frm.x).avd q.1) (r2.avd q.2)
theorem Fx.evx_tupD {as : MEs} (hs : c.EvxsOk as) : c.EvxOk (.tupD as) := by
  intro e o ρ s Q E hm S ns k kx
  refine inv_tupD (P := fun E0 => wpAny _ _ (eval E0 _) _ _ _) e hm fun _ _ _ hm => ?_
  simp only [evxq_call, evxq_tupD] at ns k kx
  split at ns
  · exact absurd rfl ns
  · rename_i hesc
    rw [if_neg hesc] at k kx
    refine Tuple_ ?_
    rw [trees_plain hm]
    refine hs _ o ρ s _ E hm S (fun q => ns (by rw [q]; rfl)) (fun xs hxs vs h1 t1 x1 r1 => ?_) fun x hx a h' tk x1 f => kx x (by rw [hx]; rfl) a h' tk x1 f
    rw [hxs] at ns k
    simp only [R.bind_ok] at ns k
    split at ns
    · rename_i hb
      rw [if_pos hb] at k
      have rl := r1.av (by simpa using hesc)
      refine wpAny_newObj_type ?_ (by show vs.toArray.size ≤ sizeLine; rw [List.size_toArray, rl.length, sizeLine_eq]; simp only [big] at hb; omega)
      refine k _ rfl _ _ _ (x1.te (Ext.push _ _)) (.of S.st.sys ?_)
      exact .tuple (n := 0) (S.extF x1).st.live.new (Heap.get?_push_size _ rfl) (rl.ext (Ext.push _ _))
    · exact absurd rfl ns
theorem Fx.evx_call (ok : c.OkN) (f : Nat) {as : MEs} (hs : c.EvxsOk as) : c.EvxOk (.call f as) := by
  intro e o ρ s Q E hm S ns k kx
  simp only [evxq_call, evxq_tupD] at ns k kx
  refine inv_call (P := fun E0 => wpAny _ _ (eval E0 _) _ _ _) e hm fun _ _ _ _ _ hm => ?_
  simp only [Bool.and_eq_true, beq_iff_eq, decide_eq_true_eq] at hm
  obtain ⟨⟨⟨h1, h2⟩, h3⟩, h4⟩ := hm
  obtain ⟨F, hF, rfl⟩ := Fx.fn_of ok h1
  obtain ⟨fa, fd, body, FN⟩ := ok.t.fn f F hF
  obtain ⟨ob, ho, hd⟩ := FN.obj
  refine Call_Name (trees_plain h3 _ _) (Fx.gname ok.toOk h2 FN.name S.h0 ?_)
  rw [List.map_cons]
  refine Calls.callWith_function (o := ob) (fd := fd) (Calls.evalArgs_plain ?_)
  have := hs _ o ρ s (fun vs s₁ => (s₁.heap.get? fa = some ob ∧ ob.data = .func fd) ∧ wpAny c.M c.A (call (.ref fa) vs []) Q E s₁) E h3 S (fun q => ns (by rw [q]; rfl)) (fun xs hxs vs h1 t1 x1 r1 => ⟨⟨(S.extF x1).h0 _ _ ho, hd⟩, ?_⟩) fun x hx a h' tk x1 f => kx x (by rw [hx]; rfl) a h' tk x1 f
  · exact this
  · rw [hxs] at ns k kx
    simp only [R.bind_ok] at ns k kx
    cases hr : c.O.fn f xs with
    | ok r =>
      rw [hr] at ns k
      simp only [R.bind_ok] at ns k
      split at ns
      · rename_i hal
        rw [if_pos hal] at k
        exact Fx.call_fn ok hF FN.name hr hal (S.extF x1) r1 fun v h2 t2 x2 r2 _ => k _ rfl v h2 t2 (x1.trans x2) (.of S.st.sys r2)
      · exact absurd rfl ns
    | exc x =>
      rw [hr] at kx
      exact Fx.call_fx ok hF FN.name hr (S.extF x1) r1 fun a h2 t2 x2 f => kx x rfl a h2 t2 (x1.trans x2) (f.back x1)
    | stuck => rw [hr] at ns; exact absurd rfl ns
theorem SR.ox_post {α : Type} {r : R α} {ρ : Env} {f : α → SR} {o : Nat → Option Addr} {s : Shared} {Q : Flow → Shared → Prop} {E : Value → Shared → Prop} (P : c.Post o s (SR.ox r ρ f) Q E) : r ≠ .stuck ∧ (∀ a, r = .ok a → c.Post o s (f a) Q E) ∧ ∀ x, r = .exc x → c.Post o s (.exc x ρ) Q E := by
  cases r with
  | ok a => exact ⟨fun q => (by cases q), fun b q => (by cases q; exact P), fun x q => (by cases q)⟩
  | exc x => exact ⟨fun q => (by cases q), fun b q => (by cases q), fun y q => (by cases q; exact P)⟩
  | stuck => exact P.elim
theorem Fx.exc_out {o : Nat → Option Addr} {ρ : Env} {s : Shared} {x : EC} {Q : Flow → Shared → Prop} {E : Value → Shared → Prop} (S : c.St o ρ s.heap) (P : c.Post o s (.exc x ρ) Q E) {a : Addr} {h' : Heap} {tk : Nat} (x1 : ExtF (stk c.A) s.heap h') (f : Flew c.t s.heap h' a x) : E (.ref a) { s with heap := h', toks := tk } :=
  P o a h' tk (S.extF x1) x1.kp (OG.refl _ _ _) (f.fly S) (f.word S)
theorem Fx.ex_retX {e : ME} (he : c.EvxOk e) : c.ExOk (.retX e) := by
  intro st o ρ s Q E hm S P
  refine inv_retX (P := fun E0 => wpAny _ _ (exec E0 _) _ _ _) st hm fun _ _ hm => ?_
  simp only [exq_skip, exq_seq, exq_asg, exq_asgOwn, exq_asgFresh, exq_append, exq_store, exq_pop, exq_update, exq_ite, exq_forL, exq_forR, exq_loop, exq_ret, exq_retX, exq_raise, exq_tryx] at P
  split at P
  · exact P.elim
  · obtain ⟨ns, P1, P2⟩ := SR.ox_post P
    refine wpAny_Return_some (he _ o ρ s _ E hm S ns (fun d hd v h' tk x1 r => ?_) fun x hx a h' tk x1 f => Fx.exc_out S (P2 x hx) x1 f)
    exact P1 d hd v h' tk (S.extF x1).h0 (S.extF x1).kE r.avl (fun hf => by cases hf) ((S.extF x1).st.ns.imp fun _ q => q.1)
theorem excTy_inv {t : Ty} {d : D} {x : EC} (h : excTy t d = .ok x) : ecTy x = t ∧ tyName t = hdName t ∧ hdName t ≠ hdName .unset ∧ ∀ Y h oe, WordAt Y h oe x := by
  unfold excTy at h
  split at h <;> first | (cases h; exact ⟨rfl, rfl, by decide, fun _ _ _ => trivial⟩) | cases h
theorem Fx.ex_raise (ok : c.OkN) (t : Ty) {e : ME} (he : c.EvOk e) : c.ExOk (.raise t e) := by
  intro st o ρ s Q E hm S P
  refine inv_raise (P := fun E0 => wpAny _ _ (exec E0 _) _ _ _) st hm fun x px y pc p hm => ?_
  simp only [Bool.and_eq_true, beq_iff_eq] at hm
  obtain ⟨⟨⟨rfl, h2⟩, h3⟩, h4⟩ := hm
  simp only [exq_skip, exq_seq, exq_asg, exq_asgOwn, exq_asgFresh, exq_append, exq_store, exq_pop, exq_update, exq_ite, exq_forL, exq_forR, exq_loop, exq_ret, exq_retX, exq_raise, exq_tryx] at P
  obtain ⟨d, hd, P1⟩ := SR.of_post P
  obtain ⟨xc, hxc, P2⟩ := SR.of_post P1
  obtain ⟨rfl, hnm, hnu, hwd⟩ := excTy_inv hxc
  rw [hnm, ok.xnames] at h4
  obtain ⟨C, bm, hcx⟩ := ok.t.xn _ h4
  have CF := ok.t.cx _ _ _ hcx
  obtain ⟨xc, mN, hC, hN, _, hq⟩ := CF.obj
  have hpl : backTo pc (starEach [y] c.env) = [(false, eval y c.env)] := trees_plain (C := c.C) (ms := .cons e .nil) (es := [y]) (Bool.and_eq_true_iff.mpr ⟨h3, rfl⟩) _ _
  refine wpAny_Raise_call_subU (C := C) (nm := xc.nm) (q := xc.q) (N := xc.N) (bs := xc.bs) (bm := bm) (hdct := xc.hdct) (sn := xc.sn) (sub := xc.sub) (ab := xc.ab) (col := xc.col) (dd := xc.dd) (k0 := xc.k0) (k1 := xc.k1) (k2 := xc.k2) (k3 := xc.k3) (k5 := xc.k5) (mN := mN) F.excBase_ValueError F.excBase_ValueError.hasB F.excBase_ValueError
    (CF.tail.tail.hasType F.excBase_ValueError.hasBase) ok.hn (by rw [hpl]; rfl) (hq hnu) (Fx.gname ok.toOk h2 (hnm ▸ CF.name) S.h0 ⟨rfl, ?_⟩)
  rw [hpl]
  refine Calls.evalArgs_plain (Calls.spliced_cons (he _ d o ρ s _ E h3 hd S fun v h1 t1 x1 r1 => Calls.spliced_nil ?_))
  have S1 := S.extF x1
  refine ⟨rfl, by rw [sizeLine_eq]; simp, S1.h0 _ _ hC, hN.keeps S1.h0, (CF.tail.keeps S1.h0).tail, fun h' a hm => ?_⟩
  obtain ⟨tp, q1, q2, q3⟩ := hm.there
  have x2 : Ext h1 h' := hm.keeps
  exact P2 o a h' t1 (S1.ext x2) (x1.te x2).kp (OG.refl _ _ _) ⟨Fx.nw_of S (x1.none hm.new), C, bm, _, _, hcx, q1, rfl, rfl, .inl rfl⟩ ⟨_, q1, hwd _ _ _⟩
end
end Mine
-- MExc3
set_option autoImplicit false
set_option linter.all false
set_option maxRecDepth 100000
namespace Mine
open PySem PyProof.Rows

section
variable {M : Model} {A : Around} {E : Value → Shared → Prop}
variable {xc xd : XC} {C D : Addr} {bm bm' : List Value}
theorem wp_excMatches {h : Heap} {g : Array GenState} {d : Drawn} {t : Nat} {os : OsState} {e : Addr} {oe : Obj} {b : Bool} {Q : Bool → Shared → Prop}
    (hC : h.get? C = some (xc.obj C bm)) (hD : h.get? D = some (xd.obj D bm')) (he : h.get? e = some oe) (hcls : oe.cls = .ref C)
    (hbase : bm'.contains (.type "BaseException") = true) (hm : (Value.ref C :: bm).contains (.ref D) = b)
    (hq : Q b ⟨h, g, d, t, os⟩) : wpAny M A (excMatches (.ref e) (.ref D)) Q E ⟨h, g, d, t, os⟩ := by
  have hcB : (Value.ref D :: bm').contains (.type "BaseException") = true := by rw [List.contains_cons, hbase, Bool.or_true]
  have f := tc_notTuple
  unfold excMatches
  repeat (first | (with_reducible refine wpAny_loadPart_at he ?_; rw [hcls]) | with_reducible refine wpAny_loadPart_at hD ?_ | (with_reducible refine wpAny_isSubtype_exc hD ?_; rw [hcB]) | (with_reducible refine wpAny_isSubtype_exc hC ?_; rw [hm]) | wp_step)
  cases b <;> (wp_walk; exact hq)
end

section
variable {xe xe2 : XE} {prog : Program} {w : World} {X : Addr → Prop} {L : Addr} {slots : List Str} {o : Nat → Option Addr} {ρ : Env} {h h' : Heap}
theorem SlotOk.other {Y : Addr → Prop} {oi : Option Addr} {mx : Option Value} {sl : Option Slot} (hx : ∀ e x o, ¬ xe e x o) (r : SlotOk xe prog w Y h oi mx sl) : SlotOk xe2 prog w Y h oi mx sl := by
  match sl, r with
  | some (.fr d), r => exact r
  | some (.own d), r => exact r
  | some .unset, r => exact r
  | some (.ex c), ⟨_, _, _, _, _, _, q, _⟩ => exact absurd q (hx _ _ _)
  | none, r => exact r
theorem St.set_ex (hx : ∀ e x o, ¬ xe e x o) (S : St xe prog w X L slots o ρ h) (nd : slots.Nodup) {i : Nat} {y : Str} (hy : slots[i]? = some y) {e : Addr} {oe : Obj} {x : EC} {m : Str → Option Value} (hs : ∀ i x, slots[i]? = some x → SlotOk xe prog w (Av X L o) h (o i) (m x) (ρ[i]?))
    (ne : ¬ Av X L o e) (he : h.get? e = some oe) (hxe : xe2 e x oe) (hw : WordAt (Av X L o) h oe x) (hn : h'.Ns L (fun z => if z = y then some (.ref e) else m z)) (sb : Heap.SameBut L h h') : St xe2 prog w X L slots (upd o i none) (ρ.set i (.ex x)) h' := by
  have kp : Keep (Av X L o) h h' := sameBut_keep sb (.inr (.inl rfl))
  have av : ∀ a, Av X L (upd o i none) a → Av X L o a := fun a q => by
    rcases q with q | q | ⟨j, q⟩
    · exact .inl q
    · exact .inr (.inl q)
    · by_cases hj : j = i
      · subst hj; rw [upd_same] at q; cases q
      · rw [upd_other _ _ hj] at q; exact .inr (.inr ⟨j, q⟩)
  have hi : i < ρ.length := by rw [S.len]; exact (List.getElem?_eq_some_iff.mp hy).1
  refine ⟨⟨_, hn, fun j z hz => ?_⟩, S.xl, fun j a q => ?_, fun j k a q q' => ?_, fun a q => ?_, S.sys, by rw [List.length_set, S.len]⟩
  · by_cases hj : j = i
    · subst hj
      rw [hy] at hz; cases hz
      rw [List.getElem?_set_self hi, upd_same]
      exact ⟨rfl, e, oe, if_pos rfl, fun q => ne (av _ q), (sb.2 e fun q => ne (.inr (.inl q))).trans he, hxe, hw.step rfl fun a m n r => ⟨fun q => n (av _ q), by obtain ⟨o2, es, ep, z, r⟩ := r; exact ⟨o2, es, ep, (sb.2 a fun q => n (.inr (.inl q))).trans z, r⟩⟩⟩
    · have hne := slot_ne nd hy hz hj
      rw [List.getElem?_set_ne (Ne.symm hj), upd_other _ _ hj, if_neg hne]
      exact (((hs j z hz).other hx).mono kp fun a q ob e => (sb.2 a fun q' => (S.xo j a q).2.1 q').trans e).avoid fun a _ _ n q => n (av a q)
  · by_cases hj : j = i
    · subst hj; rw [upd_same] at q; cases q
    · rw [upd_other _ _ hj] at q; exact S.xo j a q
  · by_cases hj : j = i
    · subst hj; rw [upd_same] at q; cases q
    · by_cases hk : k = i
      · subst hk; rw [upd_same] at q'; cases q'
      · rw [upd_other _ _ hj] at q; rw [upd_other _ _ hk] at q'; exact S.inj j k a q q'
  · obtain ⟨ob, e, f⟩ := S.xok a q
    exact ⟨ob, (sb.2 a fun q' => S.xl (q' ▸ q)).trans e, f⟩
end

noncomputable def Fx.mkd (c : Fx) (v : Value) (xe : XE) : Fx := { c with A := c.A.mark (some v), xe := xe }
section
variable {c : Fx}
theorem Fx.mkd_ok {v : Value} {xe : XE} (ok : c.Ok) (xk : ∀ e x oe, xe e x oe → ∃ C bm vs, c.t.cx (ecTy x) = some (C, bm) ∧ oe.cls = .ref C ∧ oe.data = .fields vs) : (c.mkd v xe).Ok :=
  ⟨ok.t, ok.orc, ⟨ok.ar.depth, ok.ar.units⟩, ok.frx, ok.efr, ok.kind, ok.sc, ok.loc, ok.gl, ok.bu, ok.fnames, ok.gnames, ok.xnames, ok.knames, ok.x0, ok.l0, ok.nodup, ok.lE, xk⟩
theorem Fx.St.mkd {v : Value} {o : Nat → Option Addr} {ρ : Env} {h : Heap} (S : c.St o ρ h) : (c.mkd v c.xe).St o ρ h := ⟨S.st, S.h0, S.o0, S.kE, S.oE, ⟨S.frm.fr, S.frm.x, S.frm.n0⟩⟩
theorem Fx.St.unmkd {v : Value} {o : Nat → Option Addr} {ρ : Env} {h : Heap} (S : (c.mkd v c.xe).St o ρ h) : c.St o ρ h := ⟨S.st, S.h0, S.o0, S.kE, S.oE, ⟨S.frm.fr, S.frm.x, S.frm.n0⟩⟩
structure Got (c : Fx) (o : Nat → Option Addr) (hb h : Heap) (e : Addr) (x : EC) (C : Addr) (bm : List Value) (T : Addr) : Prop where
  cx : c.t.cx (ecTy x) = some (C, bm)
  nw : Nw c o hb T
  obj : ∃ oe vs oT ts, h.get? e = some oe ∧ oe.cls = .ref C ∧ oe.data = .fields vs ∧ vs[1]? = some (.ref T) ∧ T ≠ e ∧ h.get? T = some oT ∧ oT.data = .fields ts ∧ ts[3]? = some .none
noncomputable def xeOf (c : Fx) (e : Addr) (x : EC) : XE := fun a x' oe => a = e ∧ x' = x ∧ ∃ C bm vs, c.t.cx (ecTy x) = some (C, bm) ∧ oe.cls = .ref C ∧ oe.data = .fields vs
noncomputable def Fx.HdOk (c : Fx) (hs : MHs) : Prop := ∀ (l : List ExceptHandler) (o o0 : Nat → Option Addr) (ρ : Env) (s : Shared) (hb : Heap) (tb : Nat) (e : Addr) (x : EC) (C : Addr) (bm : List Value) (T : Addr) (Q : Flow → Shared → Prop) (E : Value → Shared → Prop),
  matchH c.C hs l = true → c.St o ρ s.heap → Kp (stk c.A) (Wr c.L o0) hb s.heap → OG c.C.pin o0 o hb → Got c o0 hb s.heap e x C bm T → Wd c o s.heap e x → c.Post o0 { s with heap := hb, toks := tb } (exh c.O c.t.G hs x ρ) Q E → wpAny c.M c.A (handleBy (.ref e) c.env l) Q E s
theorem wName_inv {E0 : PySem.Expr} {K0 : Str → Pos → Bool} (h : wName E0 K0 = true) : ∃ x p, E0 = .Name x p ∧ K0 x p = true :=
  wName_el (P := fun E0 => ∃ x p, E0 = .Name x p ∧ K0 x p = true) E0 h fun x p h => ⟨x, p, rfl, h⟩
theorem Fx.hd_nil : c.HdOk .nil := by
  intro l o o0 ρ s hb tb e x C bm T Q E hm S K g G W P
  simp only [exhq_nil, exhq_cons] at P
  exact P.elim
theorem Fx.hd_cons (ok : c.OkN) (t : Ty) (i : Option Nat) {b : MS} {hs : MHs} (hbd : ∀ c' : Fx, c'.Ok → c'.C = c.C → c'.ExB b) (ih : c.HdOk hs) : c.HdOk (.cons t i b hs) := by
  intro l o o0 ρ s hb tb e x C bm T Q E hm S K g G W P
  replace hm := lc_inv hm
  obtain ⟨⟨ty, n, body, pos⟩, rest, rfl, hm⟩ := hm
  obtain ⟨tn, rfl, hm⟩ := o1_inv (show (o1 ty fun tn => wName tn fun x _ => x == hdName t && isGl c.C x && c.C.xn.contains x && hdVar c.C i n && matchB c.C b body && !body.isEmpty && matchH c.C hs rest) = true from hm)
  obtain ⟨y, py, rfl, hm⟩ := wName_inv hm
  replace hm : (y == hdName t && isGl c.C y && c.C.xn.contains y && hdVar c.C i n && matchB c.C b body && !body.isEmpty && matchH c.C hs rest) = true := hm
  simp only [Bool.and_eq_true, beq_iff_eq, Bool.not_eq_true'] at hm
  obtain ⟨⟨⟨⟨⟨⟨rfl, h2⟩, h3⟩, h4⟩, h5⟩, h6⟩, h7⟩ := hm
  rw [ok.xnames] at h3
  obtain ⟨D, bmD, hcd⟩ := ok.t.xn _ h3
  have CD := ok.t.cx _ _ _ hcd
  have CC := ok.t.cx _ _ _ G.cx
  have hmem := ok.t.cm x t C bm D bmD G.cx hcd
  obtain ⟨xc, mN, hC, _⟩ := CC.obj
  obtain ⟨xd, mN', hD, _⟩ := CD.obj
  obtain ⟨oe, vs, oT, ts, g1, g2, g3, g4, g5, g6, g7, g8⟩ := G.obj
  refine wpAny_handleBy_cons (codeAny_handlers_test (Fx.gname (c := c.mkd (.ref e) c.xe) (Fx.mkd_ok ok.toOk ok.xk) h2 CD.name S.h0 ?_)) (by intro q; cases q)
  obtain ⟨hp, gg, d, tk, os⟩ := s
  refine wp_excMatches (S.h0 _ _ hC) (S.h0 _ _ hD) g1 g2 (CD.tail.tail.hasType F.excBase_ValueError.hasBase) hmem ?_
  simp only [exhq_nil, exhq_cons] at P
  cases hcb : caughtBy x t with
  | false =>
    rw [hcb] at P
    simp only [Bool.false_eq_true, if_false] at P ⊢
    exact ih rest o o0 ρ ⟨hp, gg, d, tk, os⟩ hb tb e x C bm T Q E h7 S K g G W P
  | true =>
    rw [hcb] at P
    simp only [if_true] at P ⊢
    have hT3 : 3 < ts.size := (Array.getElem?_eq_some_iff.mp g8).1
    have hsb : Heap.SameBut T hp (hp.update T (Obj.mapFields (·.setIfInBounds 3 .none))) := Heap.SameBut.update ..
    generalize hh1 : hp.update T (Obj.mapFields (·.setIfInBounds 3 .none)) = h1 at hsb
    have kp1 : Kp (stk c.A) (fun b => b = T) hp h1 := (sameBut_keep (W := fun b => b = T) hsb rfl).kp
    have S1 : c.St o ρ h1 := S.flds (P := fun b => b = T) ok.xn (fun b q => ⟨oT, ts, q ▸ g6, g7⟩) kp1 (fun b q => q ▸ G.nw.n0) fun b q => q ▸ G.nw.nE
    have K1 : Kp (stk c.A) (Wr c.L o0) hb h1 := K.but hsb.extBut fun ob q n => by
      rcases G.nw.nw with ⟨j, z⟩ | z
      · exact n (.inr ⟨j, z⟩)
      · rw [q] at z; cases z
    have ge1 : h1.get? e = some oe := (hsb.2 e (Ne.symm g5)).trans g1
    obtain ⟨b₀, body', rfl⟩ : ∃ b₀ body', body = b₀ :: body' := by
      cases body with
      | nil => cases h6
      | cons b₀ body' => exact ⟨b₀, body', rfl⟩
    cases i with
    | none =>
      obtain rfl : n = none := Option.isNone_iff_eq_none.mp h4
      refine codeAny_handlers_suite (wpAny_setFlight_none g1 g3 g4 g6 g7 hT3 ?_)
      show wpAny _ _ _ _ _ _
      dsimp only
      rw [hh1]
      simp only [hdE] at P
      refine hbd (c.mkd (.ref e) c.xe) (Fx.mkd_ok ok.toOk ok.xk) rfl _ o ρ ⟨h1, gg, d, tk, os⟩ _ _ h5 S1.mkd ?_
      show (c.mkd (.ref e) c.xe).Post o _ (ex c.O c.t.G b ρ) _ _
      cases hr : ex c.O c.t.G b ρ with
      | next ρ1 =>
        rw [hr] at P
        exact fun o' h' tk' S' k' g' => P o' h' tk' S'.unmkd (Fx.keep_trans K1 g k') (Fx.og_trans K1 g g' S'.unmkd)
      | ret d' fr ρ1 =>
        rw [hr] at P
        exact fun v h' tk' a1 a2 a3 a4 a5 => P v h' tk' a1 a2 a3 a4 a5
      | exc _ _ => rw [hr] at P; exact P.elim
      | stuck => rw [hr] at P; exact P.elim
    | some k =>
      obtain ⟨y, rfl, h4⟩ := o1_inv (show (o1 n fun y => isLoc c.C k y) = true from h4)
      obtain ⟨l1, l2, l3⟩ := isLoc_inv h4
      refine codeAny_handlers_suite_as (wpAny_setFlight_none g1 g3 g4 g6 g7 hT3 ?_)
      show wpAny _ _ _ _ _ _
      dsimp only
      rw [hh1]
      obtain ⟨m, hmN, hs⟩ := S1.st.ns
      obtain ⟨oe2, w1, w2⟩ := Wd.step (P := fun b => b = T) W S.frm g1 ge1 rfl (fun b q => ⟨oT, ts, q ▸ g6, g7⟩) kp1
      rw [ge1] at w1; cases w1
      have nAv : ¬ Av c.X c.L o e := fun z => by
        obtain ⟨ob, z1, z2⟩ := S1.st.live e z
        rw [ge1] at z1; cases z1; exact z2 _ g3
      have hp2 : (c.env.scope.kind == .class || (c.env.scope.kind == .module && c.env.locals != c.env.globals)) = false := by rw [ok.kind]; rfl
      refine wpAny_storeName_local (by rw [Fx.kindOf ok.toOk, l2]) (by rw [ok.loc]; exact hmN) (fun h2' hn2 sb2 => ?_) hp2
      rw [ok.loc] at hn2 sb2
      have sub : ∀ j a, upd o k none j = some a → o j = some a := fun j a q => by
        by_cases hj : j = k
        · subst hj; rw [upd_same] at q; cases q
        · rw [upd_other _ _ hj] at q; exact q
      have S2 : (c.mkd (.ref e) (xeOf c e x)).St (upd o k none) (ρ.set k (.ex x)) h2' :=
        ⟨S1.st.set_ex (xe2 := xeOf c e x) ok.xn ok.nodup l1 hs nAv ge1 ⟨rfl, rfl, C, bm, vs, G.cx, g2, g3⟩ (w2.step rfl fun a m n r => ⟨fun q => n (.inl q), r⟩) hn2 sb2, fun b ob (z : c.t.h0.get? b = some ob) => (sb2.2 b fun z' => by rw [z', ok.l0] at z; cases z).trans (S1.h0 b ob z), fun j a z => S1.o0 j a (sub j a z), S1.kE.but sb2.extBut fun ob z _ => ok.lE ⟨ob, z⟩, fun j a z => S1.oE j a (sub j a z), ⟨S1.frm.fr, S1.frm.x, S1.frm.n0⟩⟩
      simp only [hdE] at P
      refine hbd (c.mkd (.ref e) (xeOf c e x)) (Fx.mkd_ok ok.toOk fun _ _ _ q => q.2.1 ▸ q.2.2) rfl _ (upd o k none) (ρ.set k (.ex x)) ⟨h2', gg, d, tk + 1, os⟩ _ _ h5 S2 ?_
      show (c.mkd (.ref e) (xeOf c e x)).Post _ _ (ex c.O c.t.G b (ρ.set k (.ex x))) _ _
      cases hr : ex c.O c.t.G b (ρ.set k (.ex x)) with
      | next ρ1 => rw [hr] at P; exact P.elim
      | ret d' fr ρ1 =>
        rw [hr] at P
        rintro v h' tk' a1 a2 a3 a4 ⟨mm, a5⟩
        refine wpAny_nameGoes (by rw [Fx.kindOf ok.toOk, l2]) (by rw [ok.loc]; exact a5) hp2 fun h3 m3 hn3 sb3 => ?_
        rw [ok.loc] at hn3 sb3
        exact P v h3 _ (fun b ob z => (sb3.2 b fun z' => by rw [z', ok.l0] at z; cases z).trans (a1 b ob z)) (Kp.but a2 sb3.extBut fun ob z _ => ok.lE ⟨ob, z⟩) (Rep.mono (sameBut_keep sb3 (.inr rfl)) a3) a4 ⟨m3, hn3⟩
      | exc _ _ => rw [hr] at P; exact P.elim
      | stuck => rw [hr] at P; exact P.elim
theorem Fx.ex_tryx (ok : c.OkN) {b : MS} {hs : MHs} (hb : c.ExB b) (hh : c.HdOk hs) : c.ExOk (.tryx b hs) := by
  intro st o ρ s Q E hm S P
  refine inv_tryx (P := fun E0 => wpAny _ _ (exec E0 _) _ _ _) st hm fun body handlers p hm => ?_
  simp only [Bool.and_eq_true, Bool.not_eq_true'] at hm
  obtain ⟨⟨h1, h2⟩, h3⟩ := hm
  cases handlers with
  | nil => cases h3
  | cons h₀ rest =>
    refine wpAny_Try_except (hb body o ρ s _ _ h1 S ?_)
    simp only [exq_skip, exq_seq, exq_asg, exq_asgOwn, exq_asgFresh, exq_append, exq_store, exq_pop, exq_update, exq_ite, exq_forL, exq_forR, exq_loop, exq_ret, exq_retX, exq_raise, exq_tryx] at P
    cases hr : ex c.O c.t.G b ρ with
    | next ρ1 =>
      rw [hr] at P
      exact fun o' h' tk S' k' g' => wpAny_execs_nil (P o' h' tk S' k' g')
    | ret d fr ρ1 => rw [hr] at P; exact P
    | exc x ρ1 =>
      rw [hr] at P
      intro o' e h' tk S' k' g' f' w'
      refine Fx.note ok.toOk ok.xn S' f' k' w' fun h1 S1 K1 W1 _ ⟨C, bm, T, q1, q2, q3⟩ => ?_
      exact hh _ o' o ρ1 { s with heap := h1, toks := tk } s.heap s.toks e x C bm T Q E h2 S1 K1 g' ⟨q1, q2, q3⟩ W1 P
    | stuck => rw [hr] at P; exact P.elim
end
end Mine
-- MIsx
set_option autoImplicit false
set_option linter.all false
set_option maxRecDepth 100000
namespace Mine
open PySem PyProof.Rows

section
variable {M : Model} {prog : Program} {w : World} {A : Around} {E : Value → Shared → Prop} {h : Heap} {g : Array GenState} {d : Drawn} {t : Nat} {os : OsState}
variable {xc : XC} {C e : Addr} {oe : Obj} {bm : List Value} {mN : Str → Option Value}

theorem OwnT.along {n : Str} {y : Option Value} {Q : Option Value → Shared → Prop} {tl : List Value} (hn : n ∈ clsNames) (T : OwnT h tl) (hrest : lookupAlong bmV n = pure y) (hq : Q y ⟨h, g, d, t, os⟩) : wpAny M A (lookupAlong tl n) Q E ⟨h, g, d, t, os⟩ := by
  induction T with
  | base => rw [hrest]; exact wpAny_pure hq
  | own hA hN hni _ ih =>
    rw [lookupAlong_cons]
    refine wpAny_bind (wpAny_classOwn_cls hA hN ?_)
    rw [hni n hn]
    exact ih
structure ExO (h : Heap) (e C : Addr) (xc : XC) (oe : Obj) (bm : List Value) (mN : Str → Option Value) : Prop where
  he : h.get? e = some oe
  hc : oe.cls = .ref C
  hC : h.get? C = some (xc.obj C bm)
  hN : h.Ns xc.N mN
  hq : ∀ n ∈ clsNames.tail, mN n = none
  T : OwnT h bm
theorem ExO.lookup (X : ExO h e C xc oe bm mN) {n : Str} {y : Option Value} {Q : Option Value → Shared → Prop} (hn : n ∈ clsNames.tail) (hB : typeLookup (.type "ValueError") n = pure y) (hq : Q y ⟨h, g, d, t, os⟩) : wpAny M A (typeLookup (.ref C) n) Q E ⟨h, g, d, t, os⟩ := by
  have hC := X.hC
  have hrest : lookupAlong bmV n = pure y := by rw [typeLookup_eq, F.attrBase_ValueError.mro] at hB; exact hB
  rw [typeLookup_eq]
  refine wpAny_bind (wpAny_mroOf_exc hC ?_)
  rw [lookupAlong_cons]
  refine wpAny_bind (wpAny_classOwn_exc hC X.hN ?_)
  rw [X.hq n hn]
  exact X.T.along (.tail _ hn) hrest hq
end

section
variable {prog : Program} {w : World} {A : Around} {E : Value → Shared → Prop} {s : Shared} {xc : XC} {C e : Addr} {oe : Obj} {bm : List Value} {mN : Str → Option Value}
end

end Mine
-- MComp
set_option autoImplicit false
set_option linter.all false
namespace Mine
open PySem PyProof.Rows

section
variable {prog : Program} {w : World} {A : Around} {E : Value → Shared → Prop} {s : Shared}
end

section
variable {c : Fx} (ok : c.OkN)
include ok

end
end Mine
-- MMax
set_option autoImplicit false
set_option linter.all false
set_option maxRecDepth 100000
namespace Mine
open PySem PyProof.Rows

section
variable {prog : Program} {w : World} {A : Around} {E : Value → Shared → Prop} {s : Shared}

end

section
variable {c : Fx} (ok : c.OkN)
include ok
end
end Mine
-- MEx5
set_option autoImplicit false
set_option linter.all false
namespace Mine
open PySem PyProof.Rows

section
variable {c : Fx} (ok : c.OkN)
include ok

theorem Fx.ex_asgOwn (i : Nat) {e : ME} (hn : c.NewOk e) : c.ExOk (.asgOwn i e) := by
  intro st o ρ s Q E hm S P
  refine inv_asgOwn (P := fun E0 => wpAny _ _ (exec E0 _) _ _ _) st hm fun _ _ _ _ hm => ?_
  simp only [Bool.and_eq_true] at hm
  obtain ⟨⟨h1, h2⟩, h3⟩ := hm
  simp only [exq_skip, exq_seq, exq_asg, exq_asgOwn, exq_asgFresh, exq_append, exq_store, exq_pop, exq_update, exq_ite, exq_forL, exq_forR, exq_loop, exq_ret, exq_retX, exq_raise, exq_tryx] at P
  split at P
  · exact P.elim
  · split at P
    · obtain ⟨d, hd, P⟩ := SR.of_post P
      exact Fx.ex_new ok i hn h1 h2 h3 S hd P
    · obtain ⟨d, hd, P⟩ := SR.of_post P
      exact Fx.ex_new ok i hn h1 h2 h3 S hd P
    · obtain ⟨d, hd, P⟩ := SR.of_post P
      exact Fx.ex_new ok i hn h1 h2 h3 S hd P
    · exact P.elim
omit ok in
theorem strs_any {prog : Program} {w : World} {X X' : Addr → Prop} {h h' : Heap} {l : List D} {vs : List Value} (hs : (strsD l).isSome = true) (r : RepAll prog w X h vs l) : RepAll prog w X' h' vs l := by
  induction l generalizing vs with
  | nil => cases r; exact .nil
  | cons d l ih =>
    cases r with
    | cons a b =>
      cases d with
      | str x =>
        simp only [strsD, Option.isSome_map] at hs
        obtain ⟨t, rfl⟩ := a.str_inv
        exact .cons (.str _ _) (ih hs b)
      | _ => cases hs
theorem Fx.ex_asgFresh (i f : Nat) {as : MEs} (hs : c.EvsOk as) : c.ExOk (.asgFresh i f as) := by
  intro st o ρ s Q E hm S P
  refine inv_asgFresh (P := fun E0 => wpAny _ _ (exec E0 _) _ _ _) st hm fun _ _ _ _ hm => ?_
  simp only [Bool.and_eq_true] at hm
  obtain ⟨h1, h2⟩ := hm
  simp only [exq_skip, exq_seq, exq_asg, exq_asgOwn, exq_asgFresh, exq_append, exq_store, exq_pop, exq_update, exq_ite, exq_forL, exq_forR, exq_loop, exq_ret, exq_retX, exq_raise, exq_tryx] at P
  split at P
  · exact P.elim
  · rename_i hesc
    obtain ⟨xs, hxs, P⟩ := SR.of_post P
    obtain ⟨r, hr, P⟩ := SR.of_post P
    split at P
    · rename_i hf
      rw [Bool.and_eq_true] at hf
      have hesc' : as.esc = false := by simpa using hesc
      refine wpAny_Assign_Name (Fx.ev_callG ok f hs h2 hxs hr (by simp [aliasOk, hesc']) S fun v h' tk x1 r1 fr => ?_) (swaps_no h2 rfl _ _ _)
      obtain ⟨a, rfl, hn⟩ := fr hf.1
      have ow : OwnRep c.t.prog c.t.w (fun b => Av c.X c.L o b ∨ b = a) h' a r.1 := by
        cases hd : r.1 with
        | dict kv =>
          rw [hd] at r1
          obtain ⟨_, es, e1, _, dc, pr⟩ := r1.dict_inv
          cases e1
          exact ⟨es, dc, pr⟩
        | list l =>
          rw [hd] at r1
          obtain ⟨_, vs, n, e1, _, hg, rl⟩ := r1.list_inv
          cases e1
          have hq := hf.2
          rw [hd] at hq
          exact ⟨vs, n, hg, strs_any hq rl⟩
        | _ => have hq := hf.2; rw [hd] at hq; cases hq
      refine Fx.store_own ok h1 S hn x1 ow fun h'' S' k' g' => P _ h'' _ S' k' g'
    · exact P.elim
end

section
variable {c : Fx} (ok : c.OkN)
include ok
end
end Mine
-- MDct
set_option autoImplicit false
set_option linter.all false
namespace Mine
open PySem PyProof.Rows

theorem PairsAre.any {es : List (Str × Value)} {kv : List (D × D)} (r : PairsAre es kv) (k : Str) : (es.any fun p => decide (p.1 = k)) = (dget k kv).isSome := by
  induction r with
  | nil => rfl
  | @cons c v u es kv r ih =>
    rw [List.any_cons, ih]
    simp only [dget]
    by_cases h : c = k
    · rw [if_pos (beq_iff_eq.mpr h), decide_eq_true h]; rfl
    · rw [if_neg (by simpa using h), decide_eq_false h]; rfl
theorem PairsAre.append {es es' : List (Str × Value)} {kv kv' : List (D × D)} (r : PairsAre es kv) (r' : PairsAre es' kv') : PairsAre (es ++ es') (kv ++ kv') := by
  induction r with
  | nil => exact r'
  | cons _ ih => exact .cons ih
theorem PairsAre.put {es : List (Str × Value)} {kv : List (D × D)} (r : PairsAre es kv) (k : Str) (b : Int) (t : Tok) : PairsAre (stored es k (.int b t)) (dput k (.int b) kv) := by
  unfold stored dput
  rw [r.any k]
  cases h : (dget k kv).isSome with
  | true =>
    simp only [if_true]
    clear h
    induction r with
    | nil => exact .nil
    | @cons c v u es kv r ih =>
      rw [List.map_cons, List.map_cons]
      by_cases hc : c = k
      · rw [if_pos hc, if_pos (show keyIs k (.str c) = true from beq_iff_eq.mpr hc)]; exact .cons ih
      · rw [if_neg hc, if_neg (show ¬ keyIs k (.str c) = true from fun q => hc (beq_iff_eq.mp q))]; exact .cons ih
  | false =>
    simp only [Bool.false_eq_true, if_false]
    exact r.append (.cons .nil)
theorem PairsAre.del {es : List (Str × Value)} {kv : List (D × D)} (r : PairsAre es kv) (k : Str) : PairsAre (without es k) (ddel k kv) := by
  unfold without ddel
  induction r with
  | nil => exact .nil
  | @cons c v u es kv r ih =>
    rw [List.filter_cons, List.filter_cons]
    by_cases hc : c = k
    · rw [if_neg (by simp [hc]), if_neg (by simp [keyIs, hc])]; exact ih
    · rw [if_pos (by simp [hc]), if_pos (by simp [keyIs, hc])]; exact .cons ih
theorem PairsAre.upd {es' : List (Str × Value)} {kv' : List (D × D)} (r' : PairsAre es' kv') : ∀ {es : List (Str × Value)} {kv : List (D × D)}, PairsAre es kv → PairsAre (merged es es') (dupd kv kv') := by
  induction r' with
  | nil => exact fun r => r
  | @cons c v u es' kv' _ ih => exact fun r => ih (r.put c v u)
section
variable {c : Fx} (ok : c.OkN)
include ok
theorem Fx.new_dict {a : ME} (ha : c.EvOk a) : c.NewOk (.bi1 .dict a) := by
  intro e d o ρ s Q E hm he S k
  refine inv_bi1 (P := fun E0 => wpAny _ _ (eval E0 _) _ _ _) e hm fun _ _ _ _ hm => ?_
  simp only [Bool.and_eq_true, beq_iff_eq] at hm
  obtain ⟨⟨rfl, h2⟩, h3⟩ := hm
  simp only [Zaa, evq_own, evq_glob, evq_cint, evq_cstr, evq_cbool, evq_cnone, Zab, evq_neg, evq_nt, evq_and, evq_or, evq_cmp, evq_cmp2, evq_call, evq_bi1, evq_bi2, evq_isi, evq_find, evq_idx, evq_slice, evq_tupD, evq_lstD, evq_dctD, ] at he
  obtain ⟨x, hx, he⟩ := R.bind_inv he
  refine Fx.one_arg ok ha (b1_kind .dict) h2 (b1_mem .dict) h3 hx S fun v h1 t1 x1 r1 => ?_
  cases x with
  | dict kv =>
    obtain ⟨da, es, rfl, nx, dc, pr⟩ := r1.out.dict_inv
    obtain ⟨hb, rfl⟩ := iteok he
    refine kt_call_dict nx dc (by rw [pr.length, sizeLine_eq]; simp only [big] at hb; omega) fun h' dn sb => ?_
    have x2 : Ext h1 h' := fun b ob q => (sb.2 b (Nat.ne_of_lt (Heap.lt_size q))).trans (Heap.get?_push_of_some _ q)
    exact k _ h1 h' _ x1 (Heap.get?_none_of_le (Nat.le_refl _)) x2 ⟨es, dn, pr⟩
  | _ => cases he
theorem Fx.turn_dict {i : Nat} {a : Addr} {kv' : List (D × D)} {es : List (Str × Value)} {o : Nat → Option Addr} {ρ : Env} {s : Shared} {h1 h' : Heap} {tk : Nat} {Q : Flow → Shared → Prop} {E : Value → Shared → Prop} (S : c.St o ρ s.heap) (ha : o i = some a) (x1 : ExtF (stk c.A) s.heap h1) (sb : Heap.SameBut a h1 h') (dc : h'.DictOf (strKind c.t.prog c.t.w) a es) (pr : PairsAre es kv')
    (P : c.Post o s (.next (ρ.set i (.own (.dict kv')))) Q E) : Q .next { s with heap := h', toks := tk } :=
  P o h' tk ((S.extF x1).turn ha sb ⟨es, dc, pr⟩) (Kp.trans x1.kp (sameBut_keep (W := Wr c.L o) sb (.inr ⟨i, ha⟩)).kp) (OG.refl _ _ _)
theorem Fx.St.own_dict {i : Nat} {a : Addr} {kv : List (D × D)} {o : Nat → Option Addr} {ρ : Env} {h : Heap} (S : c.St o ρ h) (ha : o i = some a) (hq : ρ[i]? = some (.own (.dict kv))) : ∃ es, h.DictOf (strKind c.t.prog c.t.w) a es ∧ PairsAre es kv := by
  obtain ⟨d, e, r⟩ := S.st.own_slot ha
  rw [hq] at e; cases e
  exact r
theorem Fx.ex_store (i : Nat) {k v : ME} (hk : c.EvOk k) (hv : c.EvOk v) : c.ExOk (.store i k v) := by
  intro st o ρ s Q E hm S P
  refine inv_store (P := fun E0 => wpAny _ _ (exec E0 _) _ _ _) st hm fun x px sb ps y p hm => ?_
  simp only [Bool.and_eq_true] at hm
  obtain ⟨⟨⟨h1, h2⟩, h3⟩, h4⟩ := hm
  simp only [exq_skip, exq_seq, exq_asg, exq_asgOwn, exq_asgFresh, exq_append, exq_store, exq_pop, exq_update, exq_ite, exq_forL, exq_forR, exq_loop, exq_ret, exq_retX, exq_raise, exq_tryx] at P
  split at P
  · rename_i kv hq
    obtain ⟨dv, hdv, P1⟩ := SR.of_post P
    obtain ⟨dk, hdk, P2⟩ := SR.of_post P1
    clear P P1
    obtain ⟨a, rfl⟩ : ∃ a, dk = .str a := by cases dk <;> first | exact ⟨_, rfl⟩ | exact P2.elim
    obtain ⟨b, rfl⟩ : ∃ b, dv = .int b := by cases dv <;> first | exact ⟨_, rfl⟩ | exact P2.elim
    replace P2 : c.Post o s (if kv.length < big then .next (ρ.set i (.own (.dict (dput a (.int b) kv)))) else .stuck) Q E := P2
    · split at P2
      · rename_i hb
        refine wpAny_Assign_Subscript (hv _ _ o ρ s _ E h3 hdv S fun vv g1 t1 x1 r1 => Fx.oname ok.toOk h1 (S.extF x1) hq fun da ha _ => hk _ _ o ρ _ _ E h2 hdk (S.extF x1) fun kk g2 t2 x2 r2 => ?_) (swaps_no h3 h4 _ _ _)
        obtain ⟨tv, rfl⟩ := r1.out.int_inv
        obtain ⟨tk, rfl⟩ := r2.out.str_inv
        obtain ⟨es, dc, pr⟩ := Fx.St.own_dict ok ((S.extF x1).extF x2) ha hq
        exact wpAny_setItem_pairs (knd := strKind c.t.prog c.t.w) (k := a) (beq_self_eq_true a) dc (fun h' dn sb => Fx.turn_dict (s := s) (h1 := g2) ok S ha (x1.trans x2) sb dn (pr.put a b tv) P2) (by rw [pr.length, sizeLine_eq]; simp only [big] at hb; omega)
      · exact P2.elim
  · exact P.elim
theorem Fx.ex_pop (i : Nat) {k : ME} (hk : c.EvOk k) : c.ExOk (.pop i k) := by
  intro st o ρ s Q E hm S P
  refine inv_pop (P := fun E0 => wpAny _ _ (exec E0 _) _ _ _) st hm fun x px n ap y nn pn cp pos hm => ?_
  simp only [Bool.and_eq_true, beq_iff_eq] at hm
  obtain ⟨⟨⟨h1, h2⟩, rfl⟩, h4⟩ := hm
  simp only [exq_skip, exq_seq, exq_asg, exq_asgOwn, exq_asgFresh, exq_append, exq_store, exq_pop, exq_update, exq_ite, exq_forL, exq_forR, exq_loop, exq_ret, exq_retX, exq_raise, exq_tryx] at P
  split at P
  · rename_i kv hq
    obtain ⟨dk, hdk, P1⟩ := SR.of_post P
    obtain ⟨a, rfl⟩ : ∃ a, dk = .str a := by cases dk <;> first | exact ⟨_, rfl⟩ | exact P1.elim
    replace P1 : c.Post o s (if kv.length ≤ big then .next (ρ.set i (.own (.dict (ddel a kv)))) else .stuck) Q E := P1
    split at P1
    · rename_i hb
      refine wpAny_Expr_any (Q := Q) ?_ (by simp [interactive, ok.kind]) rfl
      refine Call_method2 rfl (by rw [match_star h4]; rfl) (by simpa using h1) (Fx.oname ok.toOk h2 S hq fun da ha r => ?_)
      obtain ⟨es, dc, pr⟩ := Fx.St.own_dict ok S ha hq
      refine ⟨"dict", "dict.pop", F.plainAttrs_dict, F.slot_dict_pop, F.type_dict_pop, dc.typeIs, dc.mapOf.noDict, method_meetsIn F.slot_dict_pop F.entry_dict_pop rfl ?_⟩
      refine Calls.evalArgs_plain (Calls.spliced_cons (hk _ _ o ρ s _ E h4 hdk S fun kk g1 t1 x1 r1 => Calls.spliced_cons (Fx.ev_cnone ok.toOk _ .none o ρ _ _ E rfl rfl (S.extF x1) fun u g2 t2 x2 r2 => Calls.spliced_nil ?_)))
      obtain ⟨tk, rfl⟩ := r1.out.str_inv
      obtain rfl := r2.out.none_inv
      have S2 := (S.extF x1).extF x2
      obtain ⟨es, dc, pr⟩ := Fx.St.own_dict ok S2 ha hq
      have hsz : es.length ≤ sizeLine := by rw [pr.length, sizeLine_eq]; simp only [big] at hb; omega
      refine ⟨rfl, dc.typeIs, F.args_dict_pop_3 _ _ _, ?_⟩
      cases hv : valueAt es a with
      | some v => exact ⟨_, meets_dict_pop_there (strKind c.t.prog c.t.w) da (k := a) (key := .str a tk) (beq_self_eq_true a) [.none] (.inr ⟨_, rfl⟩) rfl, es, v, dc, hsz, hv, fun h' dn sb => Fx.turn_dict (s := s) (h1 := g2) ok S ha (x1.trans x2) sb dn (pr.del a) P1⟩
      | none =>
        refine ⟨_, meets_dict_pop_default (strKind c.t.prog c.t.w) da (k := a) (key := .str a tk) (beq_self_eq_true a) (by rw [beq_eq_false_iff_ne]; intro q; exact (S.st.xo i da ha).1 (q ▸ S.st.sys)) rfl .none, es, dc, hv, ?_⟩
        have e : without es a = es := List.filter_eq_self.mpr fun p hp => by
          have hv' : (es.find? fun kv => decide (kv.1 = a)) = none := by simpa [valueAt] using hv
          simpa using List.find?_eq_none.mp hv' p hp
        have pr' := pr.del a
        rw [e] at pr'
        exact Fx.turn_dict (s := s) (h1 := g2) ok S ha (x1.trans x2) (Heap.SameBut.refl _ _) dc pr' P1
    · exact P1.elim
  · exact P.elim
theorem Fx.ex_update (i : Nat) {e : ME} (he : c.EvOk e) : c.ExOk (.update i e) := by
  intro st o ρ s Q E hm S P
  refine inv_update (P := fun E0 => wpAny _ _ (exec E0 _) _ _ _) st hm fun x px n ap y cp pos hm => ?_
  simp only [Bool.and_eq_true, beq_iff_eq] at hm
  obtain ⟨⟨⟨h1, h2⟩, rfl⟩, h4⟩ := hm
  simp only [exq_skip, exq_seq, exq_asg, exq_asgOwn, exq_asgFresh, exq_append, exq_store, exq_pop, exq_update, exq_ite, exq_forL, exq_forR, exq_loop, exq_ret, exq_retX, exq_raise, exq_tryx] at P
  split at P
  · exact P.elim
  · rename_i hesc
    split at P
    · rename_i kv hq
      obtain ⟨d, hd, P⟩ := SR.of_post P
      split at P
      · rename_i kw
        split at P
        · rename_i hb
          refine wpAny_Expr_any (Q := Q) ?_ (by simp [interactive, ok.kind]) rfl
          refine Call_method1 rfl (match_star h4 _ _) (by simpa using h1) (Fx.oname ok.toOk h2 S hq fun da ha r => ?_)
          obtain ⟨es, dc, pr⟩ := Fx.St.own_dict ok S ha hq
          refine ⟨"dict", "dict.update", F.plainAttrs_dict, F.slot_dict_update, F.type_dict_update, dc.typeIs, dc.mapOf.noDict, method_meetsIn F.slot_dict_update F.entry_dict_update rfl ?_⟩
          refine Calls.evalArgs_plain (Calls.spliced_cons (he _ _ o ρ s _ E h4 hd S fun v g1 t1 x1 r1 => Calls.spliced_nil ?_))
          obtain ⟨es1, dc1, pr1⟩ := Fx.St.own_dict ok (S.extF x1) ha hq
          obtain ⟨db, es2, rfl, nb, dc2, pr2⟩ := (r1.av (by simpa using hesc)).dict_inv
          have hne : da ≠ db := fun q => nb (q ▸ .inr (.inr ⟨i, ha⟩))
          have hsy : (db == sysModules) = false := by rw [beq_eq_false_iff_ne]; intro q; exact nb (q ▸ .inl S.st.sys)
          refine ⟨rfl, dc1.typeIs, F.args_dict_update_2 _ _, _, meets_dict_update (strKind c.t.prog c.t.w) da db hne hsy, es1, es2, dc1, dc2, ?_, fun h' dn _ sb => ?_⟩
          · rw [pr1.length, pr2.length, sizeLine_eq]; simp only [big] at hb; omega
          · exact Fx.turn_dict (s := s) (h1 := g1) ok S ha x1 sb dn (pr2.upd pr1) P
        · exact P.elim
      · exact P.elim
    · exact P.elim
end
end Mine
-- MFor
set_option autoImplicit false
set_option linter.all false
namespace Mine
open PySem PyProof.Rows

section
variable {c : Fx} (ok : c.OkN)
noncomputable def ItemsAt (c : Fx) (it d : Addr) (es : List (Str × Value)) (ep k : Nat) (h : Heap) : Prop := (∃ a b, IsItemIter h it d k es.length ep a b) ∧ h.DictAt (strKind c.t.prog c.t.w) d es ep
theorem PairsAre.dropC {es : List (Str × Value)} {kv : List (D × D)} (r : PairsAre es kv) {k : Nat} {x y : D} {rest : List (D × D)} (h : (x, y) :: rest = kv.drop k) : ∃ s v t, x = .str s ∧ y = .int v ∧ es[k]? = some (s, .int v t) ∧ rest = kv.drop (k + 1) := by
  have hlt : k < kv.length := by
    have := congrArg List.length h
    simp at this; omega
  obtain ⟨s, v, t, e1, e2⟩ := r.at hlt
  have e3 : (kv.drop k)[0]? = some (x, y) := by rw [← h]; rfl
  rw [List.getElem?_drop, Nat.add_zero, e1] at e3
  cases e3
  refine ⟨s, v, t, rfl, rfl, e2, ?_⟩
  have : kv.drop (k + 1) = (kv.drop k).drop 1 := by rw [List.drop_drop]
  rw [this, ← h]; rfl
theorem ItemsAt.keep {it d : Addr} {es : List (Str × Value)} {ep k : Nat} {h h' hb : Heap} {o o' : Nat → Option Addr} {ρ : Env} (J : ItemsAt c it d es ep k h) (S : c.St o ρ hb) (hn : hb.get? it = none) (nx : ¬ Av c.X c.L o d) (hd : hb.get? d ≠ none)
    (kp : Kp (stk c.A) (Wr c.L o') h h') (og : OG c.C.pin o o' hb) (oit : ∀ j a, o' j = some a → a ≠ it) (itL : it ≠ c.L) : ItemsAt c it d es ep k h' := by
  obtain ⟨⟨a, b, e⟩, od, xs, e2, r⟩ := J
  refine ⟨⟨a, b, kp.get e (fun z => ?_) (S.notStk hn)⟩, od, xs, kp.get e2 (fun z => ?_) fun z => nx ((S.frm.x d z).elim .inl fun q => .inr (.inl q)), r⟩
  · rcases z with z | ⟨j, z⟩
    · exact itL z
    · exact oit j it z rfl
  · rcases z with z | ⟨j, z⟩
    · exact nx (.inr (.inl z))
    · rcases og.1 j d z with z' | z'
      · exact nx (.inr (.inr z'))
      · exact hd z'
end
end Mine
-- MDeal
set_option autoImplicit false
set_option linter.all false
namespace Mine
open PySem PyProof.Rows

section
variable {xe : XE} {prog : Program} {w : World} {X : Addr → Prop} {L : Addr} {slots : List Str} {o : Nat → Option Addr} {ρ : Env} {h h' : Heap}
theorem St.more {N : Addr → Prop} (S : St xe prog w X L slots o ρ h) (k : Ext h h') (hn : ∀ a, N a → h.get? a = none) (hx : XOk N h') : St xe prog w (fun a => X a ∨ N a) L slots o ρ h' := by
  have lv : ∀ a, Av X L o a → ¬ N a := fun a q z => by
    obtain ⟨ob, e, _⟩ := S.live a q
    rw [hn a z] at e; cases e
  obtain ⟨m, hm, hs⟩ := S.ns
  refine ⟨⟨m, hm.keeps k, fun i x e => ?_⟩, fun q => q.elim S.xl (lv L (.inr (.inl rfl))), fun i a q => ⟨fun z => z.elim (S.xo i a q).1 (lv a (.inr (.inr ⟨i, q⟩))), (S.xo i a q).2⟩, S.inj, fun a q => q.elim (S.xok.ext k a) (hx a), .inl S.sys, S.len⟩
  refine ((hs i x e).avoid (Y' := Av (fun a => X a ∨ N a) L o) fun a ob z n q => ?_).mono (k.keep _) fun a _ ob z => k _ _ z
  rcases q with (q | q) | q
  · exact n (.inl q)
  · rw [hn a q] at z; cases z
  · exact n (.inr q)
theorem St.fewer {X' : Addr → Prop} (S : St xe prog w X' L slots o ρ h) (k : ∀ a, X a → X' a) (hs : X sysModules) : St xe prog w X L slots o ρ h := by
  obtain ⟨m, hm, hs'⟩ := S.ns
  refine ⟨⟨m, hm, fun i x e => (hs' i x e).avoid fun a _ _ n q => n (q.elim (fun q => .inl (k a q)) .inr)⟩, fun q => S.xl (k _ q), fun i a q => ⟨fun z => (S.xo i a q).1 (k a z), (S.xo i a q).2⟩, S.inj, fun a q => S.xok a (k a q), hs, S.len⟩
theorem St.xbut {d : Addr} {ob : Obj} (S : St xe prog w X L slots o ρ h) (hd : X d) (sb : Heap.SameBut d h h') (e : h'.get? d = some ob) (f : ∀ vs, ob.data ≠ .fields vs) : St xe prog w X L slots o ρ h' := by
  obtain ⟨m, hm, hs⟩ := S.ns
  have nL : L ≠ d := fun q => S.xl (q ▸ hd)
  refine ⟨⟨m, ?_, fun i x e => (hs i x e).mono (sameBut_keep sb (.inl hd)) fun a q ob z => (sb.2 a fun q' => (S.xo i a q).1 (q' ▸ hd)).trans z⟩, S.xl, S.xo, S.inj, fun a q => ?_, S.sys, S.len⟩
  · obtain ⟨o2, es, ep, z, r⟩ := hm
    exact ⟨o2, es, ep, (sb.2 L nL).trans z, r⟩
  · by_cases q' : a = d
    · exact ⟨ob, q' ▸ e, f⟩
    · obtain ⟨o2, z, r⟩ := S.xok a q
      exact ⟨o2, (sb.2 a q').trans z, r⟩
end

noncomputable def Fx.aside (c : Fx) (d0 d1 : Addr) : Fx := { c with X := fun a => c.X a ∨ (a = d0 ∨ a = d1) }
theorem Fx.aside_ok {c : Fx} (ok : c.OkN) {d0 d1 : Addr} (h0 : c.t.h0.get? d0 = none) (h1 : c.t.h0.get? d1 = none) : (c.aside d0 d1).OkN :=
  ⟨⟨ok.t, ok.orc, ok.ar, ok.frx, ok.efr, ok.kind, ok.sc, ok.loc, ok.gl, ok.bu, ok.fnames, ok.gnames, ok.xnames, ok.knames, fun a q => q.elim (ok.x0 a) fun q => .inr (q.elim (fun q => q ▸ h0) fun q => q ▸ h1), ok.l0, ok.nodup, ok.lE, ok.xk⟩, ok.hn, ok.xn⟩
structure Duo (c : Fx) (x : Str) (la d0 d1 : Addr) (a b : List (D × D)) (h : Heap) : Prop where
  bd : ∃ m, h.Ns c.L m ∧ m x = some (.ref la)
  ls : h.get? la = some (lstO [.ref d0, .ref d1] 0)
  e0 : ∃ es, h.DictOf (strKind c.t.prog c.t.w) d0 es ∧ PairsAre es a
  e1 : ∃ es, h.DictOf (strKind c.t.prog c.t.w) d1 es ∧ PairsAre es b
structure DuoAt (c : Fx) (la d0 d1 : Addr) : Prop where
  sl : ¬ stk c.A la
  s0 : ¬ stk c.A d0
  s1 : ¬ stk c.A d1
  Ll : la ≠ c.L
  L0 : d0 ≠ c.L
  L1 : d1 ≠ c.L
  l0 : la ≠ d0
  l1 : la ≠ d1
  ne : d0 ≠ d1
section
variable {c : Fx} {x : Str} {la d0 d1 : Addr} {a b : List (D × D)} {h h' : Heap}
theorem Duo.step (U : Duo c x la d0 d1 a b h) (hb : ∀ m, h.Ns c.L m → ∃ m', h'.Ns c.L m' ∧ m' x = m x) (k : ∀ z, z = la ∨ z = d0 ∨ z = d1 → ∀ ob, h.get? z = some ob → h'.get? z = some ob) : Duo c x la d0 d1 a b h' := by
  obtain ⟨⟨m, h1, h2⟩, h3, ⟨es, h4, h5⟩, ⟨es', h6, h7⟩⟩ := U
  obtain ⟨m', g1, g2⟩ := hb m h1
  exact ⟨⟨m', g1, g2.trans h2⟩, k la (.inl rfl) _ h3, ⟨es, dictOf_keep h4 (k d0 (.inr (.inl rfl))), h5⟩, ⟨es', dictOf_keep h6 (k d1 (.inr (.inr rfl))), h7⟩⟩
theorem Duo.extF (U : Duo c x la d0 d1 a b h) (W : DuoAt c la d0 d1) (k : ExtF (stk c.A) h h') : Duo c x la d0 d1 a b h' :=
  U.step (fun m hm => ⟨m, Kp.ns k hm id, rfl⟩) fun z hz ob e => k.get e fun q => by
    rcases hz with rfl | rfl | rfl
    · exact W.sl q
    · exact W.s0 q
    · exact W.s1 q
theorem Duo.store {y : Str} {v : Value} (U : Duo c x la d0 d1 a b h) (W : DuoAt c la d0 d1) (sb : Heap.SameBut c.L h h') (hn : ∀ m, h.Ns c.L m → h'.Ns c.L (fun z => if z = y then some v else m z)) (ne : x ≠ y) : Duo c x la d0 d1 a b h' :=
  U.step (fun m hm => ⟨_, hn m hm, if_neg ne⟩) fun z hz ob e => (sb.2 z fun q => by
    rcases hz with rfl | rfl | rfl
    · exact W.Ll q
    · exact W.L0 q
    · exact W.L1 q).trans e
theorem Duo.but {it : Addr} (U : Duo c x la d0 d1 a b h) (eb : Heap.ExtBut it h h') (hL : it ≠ c.L) (hit : ∀ ob, h.get? it = some ob → ∃ fs, ob.data = .fields fs) : Duo c x la d0 d1 a b h' := by
  obtain ⟨⟨m, h1, h2⟩, h3, ⟨es, h4, h5⟩, ⟨es', h6, h7⟩⟩ := id U
  refine U.step (fun m hm => ⟨m, ?_, rfl⟩) fun z hz ob e => eb z ob (fun q => ?_) e
  · obtain ⟨o2, es, ep, z, r⟩ := hm
    exact ⟨o2, es, ep, eb _ _ (Ne.symm hL) z, r⟩
  · obtain ⟨fs, hf⟩ := hit ob (q ▸ e)
    rcases hz with rfl | rfl | rfl
    · rw [h3] at e; cases e; cases hf
    · obtain ⟨o2, e2, n2, g1, g2, g3, _⟩ := h4
      rw [e] at g1; cases g1; rw [hf] at g3; cases g3
    · obtain ⟨o2, e2, n2, g1, g2, g3, _⟩ := h6
      rw [e] at g1; cases g1; rw [hf] at g3; cases g3
end
theorem OG.upd {p : Option Nat} {o o' : Nat → Option Addr} {h : Heap} (g : OG p o o' h) {i : Nat} (hp : p ≠ some i) : OG p o (upd o' i none) h := by
  refine ⟨fun j a q => ?_, fun j hj => (upd_other o' none fun q : j = i => hp (q ▸ hj)).trans (g.2 j hj)⟩
  by_cases hj : j = i
  · subst hj; rw [upd_same] at q; cases q
  · rw [upd_other _ _ hj] at q; exact g.1 j a q
section
variable {c : Fx}
theorem Fx.keepW {W : Addr → Prop} {o o' : Nat → Option Addr} {b g g' : Heap} (k1 : Kp (stk c.A) (fun z => Wr c.L o z ∨ W z) b g) (og : OG c.C.pin o o' b) (k2 : Kp (stk c.A) (Wr c.L o') g g') : Kp (stk c.A) (fun z => Wr c.L o z ∨ W z) b g' := fun z ob e n =>
  Kp.step (k1 z ob e n) fun ob' e' => k2 z ob' e' fun q => by
    rcases q with q | ⟨i, q⟩
    · exact n (.inl (.inl q))
    · rcases og.1 i z q with ⟨j, q'⟩ | q'
      · exact n (.inl (.inr ⟨j, q'⟩))
      · rw [e] at q'; cases q'
theorem Fx.St.xbut {o : Nat → Option Addr} {ρ : Env} {h h' : Heap} {d : Addr} {ob : Obj} (S : c.St o ρ h) (hd : c.X d) (sb : Heap.SameBut d h h') (e : h'.get? d = some ob) (f : ∀ vs, ob.data ≠ .fields vs) (h0 : c.t.h0.get? d = none) (hE : ¬ c.Z d → c.hE.get? d = none) : c.St o ρ h' :=
  ⟨S.st.xbut hd sb e f, fun b ob z => (sb.2 b fun q => by rw [q, h0] at z; cases z).trans (S.h0 b ob z), S.o0, S.kE.but sb.extBut (fun ob z n => by rw [hE n] at z; cases z), S.oE, S.frm⟩
theorem ItemsAt.but {it d d0 : Addr} {es : List (Str × Value)} {ep k : Nat} {h h' : Heap} (J : ItemsAt c it d es ep k h) (sb : Heap.SameBut d0 h h') (n1 : it ≠ d0) (n2 : d ≠ d0) : ItemsAt c it d es ep k h' := by
  obtain ⟨⟨a, b, e⟩, od, xs, e2, r⟩ := J
  exact ⟨⟨a, b, (sb.2 it n1).trans e⟩, od, xs, (sb.2 d n2).trans e2, r⟩
theorem Duo.put0 {x : Str} {la d0 d1 : Addr} {a b : List (D × D)} {h h' : Heap} {es : List (Str × Value)} {a' : List (D × D)} (U : Duo c x la d0 d1 a b h) (W : DuoAt c la d0 d1) (sb : Heap.SameBut d0 h h') (dn : h'.DictOf (strKind c.t.prog c.t.w) d0 es) (pr : PairsAre es a') : Duo c x la d0 d1 a' b h' := by
  obtain ⟨⟨m, ⟨o2, es2, ep, z, r⟩, h2⟩, h3, _, ⟨es', h6, h7⟩⟩ := U
  exact ⟨⟨m, ⟨o2, es2, ep, (sb.2 _ (Ne.symm W.L0)).trans z, r⟩, h2⟩, (sb.2 _ W.l0).trans h3, ⟨es, dn, pr⟩, ⟨es', dictOf_keep h6 fun ob e => (sb.2 _ (Ne.symm W.ne)).trans e, h7⟩⟩
theorem Duo.put1 {x : Str} {la d0 d1 : Addr} {a b : List (D × D)} {h h' : Heap} {es : List (Str × Value)} {b' : List (D × D)} (U : Duo c x la d0 d1 a b h) (W : DuoAt c la d0 d1) (sb : Heap.SameBut d1 h h') (dn : h'.DictOf (strKind c.t.prog c.t.w) d1 es) (pr : PairsAre es b') : Duo c x la d0 d1 a b' h' := by
  obtain ⟨⟨m, ⟨o2, es2, ep, z, r⟩, h2⟩, h3, ⟨es', h4, h5⟩, _⟩ := U
  exact ⟨⟨m, ⟨o2, es2, ep, (sb.2 _ (Ne.symm W.L1)).trans z, r⟩, h2⟩, (sb.2 _ W.l1).trans h3, ⟨es', dictOf_keep h4 fun ob e => (sb.2 _ W.ne).trans e, h5⟩, ⟨es, dn, pr⟩⟩
theorem dealt_inv {cc j k : Nat} {s : Str} {v : Int} {r : List (D × D)} {ρ : Env} {a b : List (D × D)} {E : Env × List (D × D) × List (D × D)} (h : dealt cc j k ((.str s, .int v) :: r) ρ a b = some E) :
    ∃ n : Int, ((ρ.set j (.fr (.str s))).set k (.fr (.int v)))[cc]? = some (.fr (.int n)) ∧ smallInt n = true ∧ a.length < big ∧ b.length < big ∧
      ((n.fmod 2 = 0 ∧ dealt cc j k r (((ρ.set j (.fr (.str s))).set k (.fr (.int v))).set cc (.fr (.int (n.fdiv 2)))) (dput s (.int v) a) b = some E) ∨ (n.fmod 2 = 1 ∧ dealt cc j k r (((ρ.set j (.fr (.str s))).set k (.fr (.int v))).set cc (.fr (.int (n.fdiv 2)))) a (dput s (.int v) b) = some E)) := by
  generalize hq : ((ρ.set j (.fr (.str s))).set k (.fr (.int v)))[cc]? = q
  have h : (match ((ρ.set j (.fr (.str s))).set k (.fr (.int v)))[cc]? with
      | some (.fr (.int c)) => cond (smallInt c && Nat.blt a.length big && Nat.blt b.length big)
          (cond (c.fmod 2 == 0) (dealt cc j k r (((ρ.set j (.fr (.str s))).set k (.fr (.int v))).set cc (.fr (.int (c.fdiv 2)))) (dput s (.int v) a) b)
            (dealt cc j k r (((ρ.set j (.fr (.str s))).set k (.fr (.int v))).set cc (.fr (.int (c.fdiv 2)))) a (dput s (.int v) b))) none
      | _ => none) = some E := h
  rw [hq] at h
  cases q with
  | none => cases h
  | some sl =>
    cases sl with
    | fr d =>
      cases d with
      | int n =>
        refine ⟨n, rfl, ?_⟩
        change cond (smallInt n && Nat.blt a.length big && Nat.blt b.length big) _ none = _ at h
        cases h1 : (smallInt n && Nat.blt a.length big && Nat.blt b.length big) with
        | false => rw [h1] at h; cases h
        | true =>
          rw [h1, cond_true] at h
          have h2 := Bool.and_eq_true_iff.mp h1
          have h3 := Bool.and_eq_true_iff.mp h2.1
          refine ⟨h3.1, Nat.lt_of_lt_of_le (Nat.lt_succ_self _) (Nat.le_of_ble_eq_true h3.2), Nat.lt_of_lt_of_le (Nat.lt_succ_self _) (Nat.le_of_ble_eq_true h2.2), ?_⟩
          cases h4 : n.fmod 2 == 0 with
          | true => rw [h4, cond_true] at h; exact .inl ⟨beq_iff_eq.mp h4, h⟩
          | false =>
            rw [h4, cond_false] at h
            refine .inr ⟨?_, h⟩
            have := beq_eq_false_iff_ne.mp h4
            have g1 := Int.fmod_nonneg_of_pos n (show (0 : Int) < 2 by decide)
            have g2 := Int.fmod_lt_of_pos n (show (0 : Int) < 2 by decide)
            omega
      | _ => cases h
    | _ => cases h
end
section
variable {c : Fx} (ok : c.OkN)
structure DuoX (c : Fx) (d0 d1 : Addr) : Prop where
  X0 : c.X d0
  X1 : c.X d1
  z0 : c.t.h0.get? d0 = none
  z1 : c.t.h0.get? d1 = none
  y0 : ¬ c.Z d0 → c.hE.get? d0 = none
  y1 : ¬ c.Z d1 → c.hE.get? d1 = none
theorem dict_live {prog : Program} {w : World} {h : Heap} {d : Addr} {es : List (Str × Value)} (dc : h.DictOf (strKind prog w) d es) : ∃ ob, h.get? d = some ob ∧ ∀ vs, ob.data ≠ .fields vs := by
  obtain ⟨ob, e2, n2, g1, _, g3, _⟩ := dc
  exact ⟨ob, g1, fun vs q => by rw [g3] at q; cases q⟩
include ok in
theorem Fx.deal_a {i cc j k : Nat} {xi : Str} {st : Stmt} {o : Nat → Option Addr} {la d0 d1 : Addr} (hxi : isLoc c.C i xi = true) (ha : dealSa c.C i cc j k st = true) (W : DuoAt c la d0 d1) (V : DuoX c d0 d1)
    {s : Shared} {Q : Flow → Shared → Prop} {E : Value → Shared → Prop} {ρ : Env} {sx : Str} {vy n : Int} {a b : List (D × D)} (S : c.St o ρ s.heap) (hj : ρ[j]? = some (.fr (.str sx))) (hk : ρ[k]? = some (.fr (.int vy))) (hc : ρ[cc]? = some (.fr (.int n))) (la1 : a.length < big) (lb1 : b.length < big)
    (U : Duo c xi la d0 d1 a b s.heap) (hn : n.fmod 2 = 0 ∨ n.fmod 2 = 1)
    (k0 : n.fmod 2 = 0 → ∀ h1 h' tk, ExtF (stk c.A) s.heap h1 → Heap.SameBut d0 h1 h' → c.St o ρ h' → Duo c xi la d0 d1 (dput sx (.int vy) a) b h' → Q .next { s with heap := h', toks := tk })
    (k1 : n.fmod 2 = 1 → ∀ h1 h' tk, ExtF (stk c.A) s.heap h1 → Heap.SameBut d1 h1 h' → c.St o ρ h' → Duo c xi la d0 d1 a (dput sx (.int vy) b) h' → Q .next { s with heap := h', toks := tk }) : wpAny c.M c.A (exec st c.env) Q E s := by
  refine inv_deala (P := fun E0 => wpAny _ _ (exec E0 _) _ _ _) st ha fun z pz e2 ps2 e1 ps v p hm => ?_
  simp only [Bool.and_eq_true] at hm
  obtain ⟨⟨⟨m1, m2⟩, m3⟩, m4⟩ := hm
  obtain ⟨l1, l2, l3⟩ := isLoc_inv m1
  obtain ⟨l4, _⟩ := isLoc_inv hxi
  rw [l1] at l4; cases l4
  have evar : ∀ {q : Nat} {d : D}, ρ[q]? = some (.fr d) → ev c.O c.t.G ρ (.var q) = .ok d := fun {q d} h => by rw [Zaa, h]
  have emod : ev c.O c.t.G ρ (.bin .Mod (.var cc) (.cint 2)) = .ok (.int (n.fmod 2)) := by rw [Zab, evar hc]; rfl
  refine wpAny_Assign_Subscript (Fx.ev_var ok.toOk k v _ o ρ s _ E m4 (evar hk) S fun vv g1 t1 x1 r1 => ?_) (swaps_no m4 rfl _ _ _)
  obtain ⟨tv, rfl⟩ := r1.out.int_inv
  have U1 := U.extF W x1
  obtain ⟨m, hmN, hml⟩ := U1.bd
  refine Subscript_ (wpAny_Name (wpAny_loadName_local ok.kind (by rw [Fx.kindOf ok.toOk, l2]) (by rw [ok.loc]; exact hmN) hml ?_) l3)
  refine Fx.ev_bin ok.toOk .Mod (Fx.ev_var ok.toOk cc) (Fx.ev_cint ok.toOk 2) e2 _ o ρ _ _ E m2 emod (S.extF x1) fun iv g2 t2 x2 r2 => ?_
  obtain ⟨ti, rfl⟩ := r2.out.int_inv
  have U2 := U1.extF W x2
  have S2 := (S.extF x1).extF x2
  refine tail_any (isLst U2.ls).typeIs slot_list_getitem.lookup ?_ (sub_plain (match_noSlice m2) _ _)
  have key : ∀ (dX : Addr) (pX : List (D × D)), pX.length < big → (∀ g3, ExtF (stk c.A) g2 g3 → ∃ es, g3.DictOf (strKind c.t.prog c.t.w) dX es ∧ PairsAre es pX) → (∀ g3 h' tk es, ExtF (stk c.A) g2 g3 → Heap.SameBut dX g3 h' → h'.DictOf (strKind c.t.prog c.t.w) dX es → PairsAre es (dput sx (.int vy) pX) → Q .next { s with heap := h', toks := tk }) →
      wpAny c.M c.A (eval e1 c.env) (fun iv s₃ => wpAny c.M c.A (setItem (.ref dX) iv (.int vy tv)) (fun _ => Q .next) E s₃) E { s with heap := g2, toks := t2 } := fun dX pX hl hd kk => by
    refine Fx.ev_var ok.toOk j e1 _ o ρ _ _ E m3 (evar hj) S2 fun kv g3 t3 x3 r3 => ?_
    obtain ⟨tk, rfl⟩ := r3.out.str_inv
    obtain ⟨es0, dc, pr⟩ := hd g3 x3
    exact wpAny_setItem_pairs (knd := strKind c.t.prog c.t.w) (k := sx) (beq_self_eq_true sx) dc (fun h' dn sb => kk g3 h' _ _ x3 sb dn (pr.put sx vy tv)) (by rw [pr.length, sizeLine_eq]; simp only [big] at hl; omega)
  rcases hn with h0 | h0
  · rw [h0]
    refine wpAny_getItem_list (isLst U2.ls) (by decide) (by decide) rfl (key d0 a la1 (fun g3 x3 => (U2.extF W x3).e0) fun g3 h' tk es x3 sb dn pr => ?_)
    obtain ⟨ob, q1, q2⟩ := dict_live dn
    exact k0 h0 g3 h' tk (x1.trans (x2.trans x3)) sb ((S2.extF x3).xbut V.X0 sb q1 q2 V.z0 V.y0) ((U2.extF W x3).put0 W sb dn pr)
  · rw [h0]
    refine wpAny_getItem_list (isLst U2.ls) (by decide) (by decide) rfl (key d1 b lb1 (fun g3 x3 => (U2.extF W x3).e1) fun g3 h' tk es x3 sb dn pr => ?_)
    obtain ⟨ob, q1, q2⟩ := dict_live dn
    exact k1 h0 g3 h' tk (x1.trans (x2.trans x3)) sb ((S2.extF x3).xbut V.X1 sb q1 q2 V.z1 V.y1) ((U2.extF W x3).put1 W sb dn pr)
include ok in
theorem Fx.deal_b {i cc : Nat} {xi : Str} {st : Stmt} {o : Nat → Option Addr} {la d0 d1 : Addr} (hxi : isLoc c.C i xi = true) (nic : i ≠ cc) (hb : dealSb c.C cc st = true) (W : DuoAt c la d0 d1)
    {s : Shared} {Q : Flow → Shared → Prop} {E : Value → Shared → Prop} {ρ : Env} {n : Int} {a b : List (D × D)} (S : c.St o ρ s.heap) (hc : ρ[cc]? = some (.fr (.int n))) (hn : smallInt n = true) (U : Duo c xi la d0 d1 a b s.heap)
    (kk : ∀ h' tk, c.St (upd o cc none) (ρ.set cc (.fr (.int (n.fdiv 2)))) h' → Kp (stk c.A) (Wr c.L o) s.heap h' → c.C.pin ≠ some cc → Duo c xi la d0 d1 a b h' → Q .next { s with heap := h', toks := tk }) : wpAny c.M c.A (exec st c.env) Q E s := by
  refine inv_dealb (P := fun E0 => wpAny _ _ (exec E0 _) _ _ _) st hb fun x px v p hm => ?_
  simp only [Bool.and_eq_true] at hm
  have efd : ev c.O c.t.G ρ (.bin .FloorDiv (.var cc) (.cint 2)) = .ok (.int (n.fdiv 2)) := by
    rw [Zab, Zaa, hc]
    show (if (smallInt n && smallInt 2 && !((2 : Int) == 0)) = true then R.ok (PyData.int (n.fdiv 2)) else .stuck) = _
    rw [hn]; rfl
  refine wpAny_Assign_Name (Fx.ev_bin ok.toOk .FloorDiv (Fx.ev_var ok.toOk cc) (Fx.ev_cint ok.toOk 2) v _ o ρ s _ E hm.2 efd S fun vv g1 t1 x1 r1 => ?_) (swaps_no hm.2 rfl _ _ _)
  obtain ⟨hl, hp⟩ := isSt_inv hm.1
  refine Fx.store_sl (sl := .fr (.int (n.fdiv 2))) ok.toOk hm.1 (S.extF x1) ⟨rfl, vv, rfl, r1.av rfl⟩ fun h' S' k' g' sb hn' => ?_
  exact kk h' _ S' (Fx.keep_trans x1.kp (OG.refl _ _ _) k') hp ((U.extF W x1).store W sb hn' (slot_ne ok.nodup (isLoc_inv hl).1 (isLoc_inv hxi).1 nic))
end
section
variable {c : Fx} (ok : c.OkN)
include ok in
theorem Fx.deal_loop {i cc j k : Nat} {xi xj xk : Str} {px py pt : Pos} {kt} {s1 s2 : Stmt} {base : Heap} {o : Nat → Option Addr} {it d la d0 d1 : Addr} {es : List (Str × Value)} {kv : List (D × D)} {ep : Nat} {ρ0 : Env} (S0 : c.St o ρ0 base) (hn : base.get? it = none) (nx : ¬ Av c.X c.L o d) (hd : base.get? d ≠ none) (pr : PairsAre es kv)
    (hxi : isLoc c.C i xi = true) (hx : isSt c.C j xj = true) (hy : isSt c.C k xk = true) (ha : dealSa c.C i cc j k s1 = true) (hb : dealSb c.C cc s2 = true) (nic : i ≠ cc) (nij : i ≠ j) (nik : i ≠ k) (njk : j ≠ k)
    (W : DuoAt c la d0 d1) (V : DuoX c d0 d1) {s₀ : Shared} {R : Result → Shared → Prop} (n0 : c.t.h0.get? it = none) (nE : ¬ c.Z it → c.hE.get? it = none)
    {ρ ρE : Env} {aE bE : List (D × D)} (hr : dealt cc j k kv ρ [] [] = some (ρE, aE, bE))
    (K : ∀ o' h' tk, c.St o' ρE h' → Kp (stk c.A) (fun z => Wr c.L o z ∨ (z = d0 ∨ z = d1)) base h' → OG c.C.pin o o' base → Duo c xi la d0 d1 aE bE h' → R (.ok .next) { s₀ with heap := h', toks := tk })
    {h1 : Heap} {t1 : Nat} (hJ : ItemsAt c it d es ep 0 h1) (S : c.St o ρ h1) (kp : Ext base h1) (U : Duo c xi la d0 d1 [] [] h1) :
    codeAny c.M c.A (.forLoop (.Tuple [.Name xj px, .Name xk py] kt pt) (.ref it) [s1, s2] [] c.env) R { s₀ with heap := h1, toks := t1 } := by
  refine codeAny_forLoop_any (fun n s' => ∃ o' ρ' rest kk h' tk a b, s' = { s₀ with heap := h', toks := tk } ∧ n = rest.length ∧ rest = kv.drop kk ∧ c.St o' ρ' h' ∧ Kp (stk c.A) (fun z => Wr c.L o z ∨ (z = d0 ∨ z = d1)) base h' ∧ OG c.C.pin o o' base ∧ ItemsAt c it d es ep kk h' ∧ Duo c xi la d0 d1 a b h' ∧ dealt cc j k rest ρ' a b = some (ρE, aE, bE)) ?_ kv.length ⟨o, ρ, kv, 0, h1, t1, [], [], rfl, rfl, rfl, S, kp.kp, OG.refl _ _ _, hJ, U, hr⟩
  have inx : ¬ c.X it := fun q => by obtain ⟨ob, e, _⟩ := S0.st.xok it q; rw [hn] at e; cases e
  rintro n s' ⟨o', ρ', rest, kk, h', tk, a, b, rfl, rfl, hrest, S', kp', og', hJ', U', P'⟩
  obtain ⟨⟨a1, a2, e1⟩, hm'⟩ := id hJ'
  have itL : it ≠ c.L := fun z => by
    obtain ⟨m, ⟨o9, es, n9, q, q2, _⟩, _⟩ := S'.st.ns
    rw [← z, e1] at q; cases q; cases q2
  have hit : ∀ ob, h'.get? it = some ob → ∃ fs, ob.data = .fields fs := fun ob q => by rw [e1] at q; cases q; exact ⟨_, rfl⟩
  cases rest with
  | nil =>
    have hend : es[kk]? = none := by
      have := congrArg List.length hrest
      simp at this
      rw [List.getElem?_eq_none_iff, pr.length]; omega
    refine wpAny_pyNext_items_end ok.hn e1 hm' hend fun h2 eb => ?_
    dsimp only
    cases P'
    exact wpAny_execs_nil (K o' h2 tk (S'.other ok.xn e1 rfl eb inx n0 nE) (kp'.but eb fun ob' q _ => by rw [hn] at q; cases q) og' (U'.but eb itL hit))
  | cons p rest =>
    obtain ⟨dx, dy⟩ := p
    obtain ⟨sx, vy, tv, rfl, rfl, hk, hr2⟩ := pr.dropC hrest
    obtain ⟨n, hc, hsm, la1, lb1, P2⟩ := dealt_inv P'
    refine wpAny_pyNext_items_item e1 hm' hk fun key g1 hkey heo ht hz hk1 => ?_
    dsimp only
    refine wpAny_letOwnedTupleGo_items heo fun g2 he2 hs2 => ?_
    replace hs2 : Heap.SameBut it g1 g2 := hs2
    have hlt : it < h'.objs.size := Heap.lt_size e1
    have eb2 : Heap.ExtBut it h' g2 := fun b' ob nb q => hs2.extBut b' ob nb (hk1 b' ob nb q)
    refine wpAny_assign_Tuple ok.hn (items := #[key, .int vy tv]) ⟨_, (hs2.2 _ (Nat.ne_of_gt hlt)).trans ht, rfl, _, rfl⟩ rfl rfl fun g3 hx3 => ?_
    replace hx3 : Heap.ExtBut g2.objs.size g2 g3 := hx3
    have eb3 : Heap.ExtBut it h' g3 := fun b' ob nb q => hx3 b' ob (Nat.ne_of_lt (Heap.lt_size (eb2 b' ob nb q))) (eb2 b' ob nb q)
    have it3 : IsItemIter g3 it d (kk + 1) es.length ep key (.int vy tv) := hx3 it _ (Nat.ne_of_lt (Heap.lt_size he2)) he2
    have itd : d ≠ it := fun z => hd (z ▸ hn)
    have hJ3 : ItemsAt c it d es ep (kk + 1) g3 := ⟨⟨_, _, it3⟩, hm'.extBut eb3 itd⟩
    have S3 := S'.other ok.xn e1 rfl eb3 inx n0 nE
    have U3 := U'.but eb3 itL hit
    obtain ⟨tkey, rfl⟩ := Value.isStrOf_shape hkey
    have kp3 : Kp (stk c.A) (fun z => Wr c.L o z ∨ (z = d0 ∨ z = d1)) base g3 := kp'.but eb3 fun ob' q _ => by rw [hn] at q; cases q
    obtain ⟨hlx, hpx⟩ := isSt_inv hx
    obtain ⟨hly, hpy⟩ := isSt_inv hy
    have lj := (isLoc_inv hlx).1
    have lk := (isLoc_inv hly).1
    have li := (isLoc_inv hxi).1
    show wpAny _ _ (do holding [.int vy tv] (assign (.Name xj px) c.env (.str sx tkey)); do holding [] (assign (.Name xk py) c.env (.int vy tv)); pure ()) _ _ _
    refine wpAny_bind (wpAny_holding (wpAny_assign_Name (Fx.store_sl (sl := .fr (.str sx)) ok.toOk hx S3 ⟨rfl, _, rfl, .str sx tkey⟩ fun g4 S4 k4 _ sb4 hn4 => ?_)))
    refine wpAny_bind (wpAny_holding (wpAny_assign_Name (Fx.store_sl (sl := .fr (.int vy)) ok.toOk hy S4 ⟨rfl, _, rfl, .int vy tv⟩ fun g5 S5 k5 _ sb5 hn5 => wpAny_pure ?_)))
    have U5 := (U3.store W sb4 hn4 (slot_ne ok.nodup lj li nij)).store W sb5 hn5 (slot_ne ok.nodup lk li nik)
    have oit : ∀ l a, o' l = some a → a ≠ it := fun l a q => by
      obtain ⟨d9, _, ow⟩ := S'.st.own_slot q
      exact ow.ne_it e1 rfl
    have ogA := og'.upd hpx
    have ogB := ogA.upd hpy
    have subU : ∀ (q : Nat → Option Addr) (m : Nat), (∀ l a, q l = some a → a ≠ it) → ∀ l a, upd q m none l = some a → a ≠ it := fun q m h l a z => by
      by_cases hj : l = m
      · subst hj; rw [upd_same] at z; cases z
      · rw [upd_other _ _ hj] at z; exact h l a z
    have kpB := Fx.keepW (Fx.keepW kp3 og' k4) ogA k5
    have hJ5 := (hJ3.keep S0 hn nx hd k4 og' oit itL).keep S0 hn nx hd k5 ogA (subU _ _ oit) itL
    have lenj : j < ρ'.length := by rw [S'.st.len]; exact (List.getElem?_eq_some_iff.mp lj).1
    have lenk : k < ρ'.length := by rw [S'.st.len]; exact (List.getElem?_eq_some_iff.mp lk).1
    have ej : ((ρ'.set j (.fr (.str sx))).set k (.fr (.int vy)))[j]? = some (.fr (.str sx)) := by rw [List.getElem?_set_ne (Ne.symm njk), List.getElem?_set_self lenj]
    have ek : ((ρ'.set j (.fr (.str sx))).set k (.fr (.int vy)))[k]? = some (.fr (.int vy)) := List.getElem?_set_self (by rw [List.length_set]; exact lenk)
    have n5 : ∀ {g : Heap} {z : Addr}, (∃ ob, g.get? z = some ob ∧ ∀ vs, ob.data ≠ .fields vs) → ItemsAt c it d es ep (kk + 1) g → it ≠ z := fun {g z} ⟨ob, q1, q2⟩ J q => by
      obtain ⟨⟨_, _, e⟩, _⟩ := J
      replace e : g.get? it = some _ := e
      rw [q, q1] at e; cases e; exact q2 _ rfl
    -- behind the first statement
    have rest2 : ∀ (dX : Addr) (g6 g7 : Heap) (t7 : Nat) (a' b' : List (D × D)), dX = d0 ∨ dX = d1 → ExtF (stk c.A) g5 g6 → Heap.SameBut dX g6 g7 → c.St (upd (upd o' j none) k none) ((ρ'.set j (.fr (.str sx))).set k (.fr (.int vy))) g7 → Duo c xi la d0 d1 a' b' g7 → dealt cc j k rest (((ρ'.set j (.fr (.str sx))).set k (.fr (.int vy))).set cc (.fr (.int (n.fdiv 2)))) a' b' = some (ρE, aE, bE) →
        wpAny c.M c.A (execs [s2] c.env) (fun f s' => f = .next ∧ ∃ n' < ((PyData.str sx, PyData.int vy) :: rest).length, ∃ o' ρ' rest kk h' tk a b, s' = { s₀ with heap := h', toks := tk } ∧ n' = rest.length ∧ rest = kv.drop kk ∧ c.St o' ρ' h' ∧ Kp (stk c.A) (fun z => Wr c.L o z ∨ (z = d0 ∨ z = d1)) base h' ∧ OG c.C.pin o o' base ∧ ItemsAt c it d es ep kk h' ∧ Duo c xi la d0 d1 a b h' ∧ dealt cc j k rest ρ' a b = some (ρE, aE, bE)) (fun _ _ => False) { s₀ with heap := g7, toks := t7 } := fun dX g6 g7 t7 a' b' hX x6 sb S7 U7 P7 => by
      have lX : ∃ ob, g5.get? dX = some ob ∧ ∀ vs, ob.data ≠ .fields vs := by
        rcases hX with rfl | rfl
        · obtain ⟨es, dc, _⟩ := U5.e0; exact dict_live dc
        · obtain ⟨es, dc, _⟩ := U5.e1; exact dict_live dc
      have xX : c.X dX := by
        rcases hX with rfl | rfl
        · exact V.X0
        · exact V.X1
      have hJ6 := hJ5.keep S0 hn nx hd x6.kp ogB (subU _ _ (subU _ _ oit)) itL
      have hJ7 := hJ6.but sb (n5 lX hJ5) fun q => nx (q ▸ .inl xX)
      have kp7 : Kp (stk c.A) (fun z => Wr c.L o z ∨ (z = d0 ∨ z = d1)) base g7 := (Kp.trans kpB x6.kp).but sb.extBut fun ob z nn => nn (.inr hX)
      refine wpAny_execs_cons (Fx.deal_b ok hxi nic hb W (s := { s₀ with heap := g7, toks := t7 }) S7 hc hsm U7 fun h8 t8 S8 k8 p8 U8 => wpAny_execs_nil ⟨rfl, rest.length, by simp, _, _, rest, kk + 1, h8, t8, a', b', rfl, rfl, hr2, S8, Fx.keepW kp7 ogB k8, ogB.upd p8, ?_, U8, P7⟩)
      exact hJ7.keep S0 hn nx hd k8 ogB (subU _ _ (subU _ _ oit)) itL
    have fin : wpAny c.M c.A (execs [s1, s2] c.env) (fun f s' => f = .next ∧ ∃ n' < ((PyData.str sx, PyData.int vy) :: rest).length, ∃ o' ρ' rest kk h' tk a b, s' = { s₀ with heap := h', toks := tk } ∧ n' = rest.length ∧ rest = kv.drop kk ∧ c.St o' ρ' h' ∧ Kp (stk c.A) (fun z => Wr c.L o z ∨ (z = d0 ∨ z = d1)) base h' ∧ OG c.C.pin o o' base ∧ ItemsAt c it d es ep kk h' ∧ Duo c xi la d0 d1 a b h' ∧ dealt cc j k rest ρ' a b = some (ρE, aE, bE)) (fun _ _ => False) { s₀ with heap := g5, toks := tk + 1 + 1 } := by
      refine wpAny_execs_cons (Fx.deal_a ok hxi ha W V (s := { s₀ with heap := g5, toks := tk + 1 + 1 }) S5 ej ek hc la1 lb1 U5 (P2.imp (·.1) (·.1)) (fun q g6 g7 t7 x6 sb S7 U7 => ?_) fun q g6 g7 t7 x6 sb S7 U7 => ?_)
      · rcases P2 with P2 | P2
        · exact rest2 d0 g6 g7 t7 _ _ (.inl rfl) x6 sb S7 U7 P2.2
        · rw [P2.1] at q; cases q
      · rcases P2 with P2 | P2
        · rw [P2.1] at q; cases q
        · exact rest2 d1 g6 g7 t7 _ _ (.inr rfl) x6 sb S7 U7 P2.2
    exact wpAny_mono fin (fun f s' q => by obtain ⟨rfl, q⟩ := q; exact q) fun _ _ q => q.elim
end
theorem dealt_at {cc j k i : Nat} (n1 : i ≠ cc) (n2 : i ≠ j) (n3 : i ≠ k) : ∀ {kv : List (D × D)} {ρ ρE : Env} {a b aE bE : List (D × D)}, (∀ p ∈ kv, ∃ s v, p = (.str s, .int v)) → dealt cc j k kv ρ a b = some (ρE, aE, bE) → ρE[i]? = ρ[i]?
  | [], ρ, ρE, a, b, aE, bE, _, h => by cases h; rfl
  | p :: r, ρ, ρE, a, b, aE, bE, hp, h => by
    obtain ⟨s, v, rfl⟩ := hp p (.head _)
    obtain ⟨n, _, _, _, _, h | h⟩ := dealt_inv h
    · rw [dealt_at n1 n2 n3 (fun p hq => hp p (.tail _ hq)) h.2, List.getElem?_set_ne (Ne.symm n1), List.getElem?_set_ne (Ne.symm n3), List.getElem?_set_ne (Ne.symm n2)]
    · rw [dealt_at n1 n2 n3 (fun p hq => hp p (.tail _ hq)) h.2, List.getElem?_set_ne (Ne.symm n1), List.getElem?_set_ne (Ne.symm n3), List.getElem?_set_ne (Ne.symm n2)]
theorem PairsAre.all {es : List (Str × Value)} {kv : List (D × D)} (r : PairsAre es kv) : ∀ p ∈ kv, ∃ s v, p = (PyData.str s, PyData.int v) := by
  induction r with
  | nil => intro p hp; cases hp
  | cons _ ih =>
    intro p hp
    rcases List.mem_cons.mp hp with rfl | hp
    · exact ⟨_, _, rfl⟩
    · exact ih p hp
section
variable {xe : XE} {prog : Program} {w : World} {X : Addr → Prop} {L : Addr} {slots : List Str} {o : Nat → Option Addr} {ρ : Env} {h : Heap}
theorem St.fill (S : St xe prog w X L slots o ρ h) (nd : slots.Nodup) {i : Nat} {x : Str} (hx : slots[i]? = some x) (hi : ρ[i]? = some .unset) {v : Value} {d : D} (hv : ∃ m, h.Ns L m ∧ m x = some v) (r : Rep prog w (Av X L o) h v d) : St xe prog w X L slots o (ρ.set i (.fr d)) h := by
  obtain ⟨m, hm, hs⟩ := S.ns
  obtain ⟨m', hm', hv⟩ := hv
  cases ns_same hm hm'
  refine ⟨⟨m, hm, fun j y hy => ?_⟩, S.xl, S.xo, S.inj, S.xok, S.sys, by rw [List.length_set, S.len]⟩
  have hj := hs j y hy
  by_cases q : j = i
  · subst q
    rw [hx] at hy; cases hy
    rw [hi] at hj
    rw [List.getElem?_set_self (List.getElem?_eq_some_iff.mp hi).1]
    exact ⟨hj, v, hv, r⟩
  · rw [List.getElem?_set_ne (Ne.symm q)]; exact hj
end
section
variable {c : Fx} (ok : c.OkN)
noncomputable def duoH (h : Heap) : Heap := ((h.push { cls := .type "dict", data := .dict #[] }).push { cls := .type "dict", data := .dict #[] }).push (lstO [.ref h.objs.size, .ref (h.objs.size + 1)] 0)
theorem duo_ext (h : Heap) : Ext h (duoH h) := fun b o e => Heap.get?_push_of_some _ (Heap.get?_push_of_some _ (Heap.get?_push_of_some _ e))
theorem duo_0 (prog : Program) (w : World) (h : Heap) : (duoH h).DictOf (strKind prog w) h.objs.size [] := dictOf_keep (Heap.DictOf.new h) fun o e => Heap.get?_push_of_some _ (Heap.get?_push_of_some _ e)
theorem duo_1 (prog : Program) (w : World) (h : Heap) : (duoH h).DictOf (strKind prog w) (h.objs.size + 1) [] := by
  have := Heap.DictOf.new (knd := strKind prog w) (h.push { cls := .type "dict", data := .dict #[] })
  rw [Heap.size_push] at this
  exact dictOf_keep this fun o e => Heap.get?_push_of_some _ e
theorem duo_2 (h : Heap) : (duoH h).get? (h.objs.size + 2) = some (lstO [.ref h.objs.size, .ref (h.objs.size + 1)] 0) := by
  have := Heap.get?_push_size ((h.push { cls := .type "dict", data := .dict #[] }).push { cls := .type "dict", data := .dict #[] }) (o := lstO [.ref h.objs.size, .ref (h.objs.size + 1)] 0) rfl
  rw [Heap.size_push, Heap.size_push] at this
  exact this
theorem Fx.St.aside {o : Nat → Option Addr} {ρ : Env} {h : Heap} (S : c.St o ρ h) : (c.aside h.objs.size (h.objs.size + 1)).St o ρ (duoH h) := by
  have e := duo_ext h
  have S1 := S.ext e
  refine ⟨S.st.more (N := fun a => a = h.objs.size ∨ a = h.objs.size + 1) e (fun a q => ?_) (fun a q => ?_), S1.h0, S1.o0, S1.kE, S1.oE, S1.frm.mono fun a q => q.elim (fun q => .inl (.inl q)) .inr⟩
  · rcases q with rfl | rfl
    · exact Heap.get?_none_of_le (Nat.le_refl _)
    · exact Heap.get?_none_of_le (Nat.le_succ _)
  · rcases q with rfl | rfl
    · exact dict_live (duo_0 c.t.prog c.t.w h)
    · exact dict_live (duo_1 c.t.prog c.t.w h)
end
section
variable {c : Fx} (ok : c.OkN)
include ok in
theorem Fx.deal_end {i : Nat} {xi : Str} {o o6 o8 : Nat → Option Addr} {ρ ρE : Env} {s : Shared} {la d0 d1 : Addr} {aE bE : List (D × D)} {base h8 : Heap} {t8 : Nat} {b : MS} {l : List Stmt} {Q : Flow → Shared → Prop} {E : Value → Shared → Prop} (hb : c.ExB b) (hm : matchB c.C b l = true) (hxi : isLoc c.C i xi = true)
    (S : c.St o ρ s.heap) (n0 : s.heap.get? d0 = none) (n1 : s.heap.get? d1 = none) (nl : s.heap.get? la = none) (bl : base.get? la ≠ none) (W : DuoAt c la d0 d1) (hE : ρE[i]? = some .unset)
    (KB : Kp (stk c.A) (Wr c.L o) s.heap base) (gB : OG c.C.pin o o6 s.heap) (hs6 : ∀ j z, o6 j = some z → o j = some z) (S8 : (c.aside d0 d1).St o8 ρE h8) (K8 : Kp (stk c.A) (fun z => Wr c.L o6 z ∨ (z = d0 ∨ z = d1)) base h8) (g8 : OG c.C.pin o6 o8 base) (U : Duo c xi la d0 d1 aE bE h8)
    (P : c.Post o s (ex c.O c.t.G b (ρE.set i (.fr (.list [.dict aE, .dict bE])))) Q E) : wpAny c.M c.A (execs l c.env) Q E { s with heap := h8, toks := t8 } := by
  have lv : ∀ {z : Addr}, s.heap.get? z = none → ¬ Av c.X c.L o z := fun {z} n q => by obtain ⟨ob, e, _⟩ := S.st.live z q; rw [n] at e; cases e
  have S9 : c.St o8 ρE h8 := ⟨S8.st.fewer (fun a q => .inl q) S.st.sys, S8.h0, S8.o0, S8.kE, S8.oE, S.frm⟩
  have k9 : Kp (stk c.A) (Wr c.L o) s.heap h8 := fun z ob e n => Kp.step (KB z ob e n) fun ob' e' => K8 z ob' e' fun q => by
    rcases q with (q | ⟨i, q⟩) | q | q
    · exact n (.inl q)
    · exact n (.inr ⟨i, hs6 i z q⟩)
    · rw [q, n0] at e; cases e
    · rw [q, n1] at e; cases e
  have na : ∀ {z : Addr}, s.heap.get? z = none → (∀ j, o8 j ≠ some z) → ¬ Av c.X c.L o8 z := fun {z} n ow q => by
    rcases q with q | q | ⟨j, q⟩
    · exact lv n (.inl q)
    · exact lv n (.inr (.inl q))
    · exact ow j q
  obtain ⟨es, dc0, pr0⟩ := U.e0
  obtain ⟨es', dc1, pr1⟩ := U.e1
  have r : Rep c.t.prog c.t.w (Av c.X c.L o8) h8 (.ref la) (.list [.dict aE, .dict bE]) := .list (n := 0) (na nl fun j q => by
      rcases g8.1 j la q with ⟨j', q'⟩ | q'
      · exact lv nl (.inr (.inr ⟨j', hs6 j' la q'⟩))
      · exact bl q') U.ls (.cons (.dict (na n0 fun j q => (S8.st.xo j d0 q).1 (.inr (.inl rfl))) dc0 pr0) (.cons (.dict (na n1 fun j q => (S8.st.xo j d1 q).1 (.inr (.inr rfl))) dc1 pr1) .nil))
  exact hb l o8 _ { s with heap := h8, toks := t8 } Q E hm ⟨S9.st.fill ok.nodup (isLoc_inv hxi).1 hE U.bd r, S9.h0, S9.o0, S9.kE, S9.oE, S9.frm⟩ (P.after k9 (Fx.og_trans KB gB g8 S9))
theorem Duo.aside {x : Str} {la d0 d1 p0 p1 : Addr} {a b : List (D × D)} {h : Heap} (U : Duo c x la d0 d1 a b h) : Duo (c.aside p0 p1) x la d0 d1 a b h := ⟨U.bd, U.ls, U.e0, U.e1⟩
theorem upd_sub {o : Nat → Option Addr} {i j : Nat} {a : Addr} (q : upd o i none j = some a) : o j = some a := by
  by_cases hj : j = i
  · subst hj; rw [upd_same] at q; cases q
  · rw [upd_other _ _ hj] at q; exact q
include ok in
theorem Fx.exb_deal (i cc j k : Nat) {e0 e : ME} {b : MS} (he0 : ∀ c2 : Fx, c2.OkN → c2.EvOk e0) (he : ∀ c2 : Fx, c2.OkN → c2.EvOk e) (hb : c.ExB b) : c.ExB (.deal i cc j k e0 e b) := by
  intro l o ρ s Q E hm S P
  replace hm := lc_inv (show lc l _ = true from hm)
  obtain ⟨s1, r1, rfl, hm⟩ := hm
  replace hm := lc_inv hm
  obtain ⟨s2, r2, rfl, hm⟩ := hm
  replace hm := lc_inv hm
  obtain ⟨s3, r3, rfl, hm⟩ := hm
  simp only [Bool.and_eq_true] at hm
  obtain ⟨⟨⟨m1, m2⟩, m3⟩, m4⟩ := hm
  simp only [exq_deal] at P
  split at P
  · exact P.elim
  rename_i hesc
  obtain ⟨dc, hdc, P1⟩ := SR.of_post P
  obtain ⟨dk, hdk, P2⟩ := SR.of_post P1
  clear P P1
  obtain ⟨kv, rfl⟩ : ∃ kv, dk = .dict kv := by cases dk <;> first | exact ⟨_, rfl⟩ | exact P2.elim
  replace P2 : c.Post o s (if kv.length ≤ big then dealR (dealt cc j k kv ((ρ.set i .unset).set cc (.fr dc)) [] []) fun ρ' a a' => ex c.O c.t.G b (ρ'.set i (.fr (.list [.dict a, .dict a']))) else .stuck) Q E := P2
  split at P2
  case isFalse => exact P2.elim
  cases hdl : dealt cc j k kv ((ρ.set i .unset).set cc (.fr dc)) [] [] with
  | none => rw [hdl] at P2; exact P2.elim
  | some E3 =>
  obtain ⟨ρE, aE, bE⟩ := E3
  rw [hdl] at P2
  replace P2 : c.Post o s (ex c.O c.t.G b (ρE.set i (.fr (.list [.dict aE, .dict bE])))) Q E := P2
  have hes := Bool.or_eq_false_iff.mp (Bool.eq_false_iff.mpr hesc)
  refine inv_deal1 (P := fun E0 => wpAny _ _ (execs (E0 :: s2 :: s3 :: r3) _) _ _ _) s1 m1 fun x px v p hm1 => ?_
  have hm1 := Bool.and_eq_true_iff.mp hm1
  obtain ⟨hxi, hpi⟩ := isSt_inv hm1.1
  refine inv_lstD (P := fun v => wpAny _ _ (execs (.Assign [.Name x px] v p :: s2 :: s3 :: r3) _) _ _ _) v hm1.2 fun vs pv hmv => ?_
  have htr := trees_plain hmv
  obtain ⟨v0, vr, rfl, hq0⟩ := lc_inv (show lc vs _ = true from hmv)
  have hq0 := Bool.and_eq_true_iff.mp hq0
  obtain ⟨v1, vr, rfl, hq1⟩ := lc_inv (show lc vr _ = true from hq0.2)
  have hq1 := Bool.and_eq_true_iff.mp hq1
  obtain rfl : vr = [] := List.isEmpty_iff.mp hq1.2
  refine wpAny_execs_cons (wpAny_Assign_Name (List_ ?_) rfl)
  rw [htr]
  -- the three new things
  have d01 : wpAny c.M c.A (spliced (([v0, v1] : List Expr).map fun e => (false, eval e c.env))) (fun vs s' => vs = [.ref s.heap.objs.size, .ref (s.heap.objs.size + 1)] ∧ ∃ tk, s' = { s with heap := (s.heap.push { cls := .type "dict", data := .dict #[] }).push { cls := .type "dict", data := .dict #[] }, toks := tk }) E s := by
    refine Calls.spliced_cons (inv_dctD (P := fun E0 => wpAny _ _ (eval E0 _) _ _ _) v0 hq0.1 fun p0 _ => wpAny_Dict_empty (Calls.spliced_cons (inv_dctD (P := fun E0 => wpAny _ _ (eval E0 _) _ _ _) v1 hq1.1 fun p1 _ => wpAny_Dict_empty (Calls.spliced_nil ⟨?_, _, rfl⟩))))
    rw [Heap.size_push]
  have x0 := duo_ext s.heap
  have q0 : s.heap.get? s.heap.objs.size = none := Heap.get?_none_of_le (Nat.le_refl _)
  have q1 : s.heap.get? (s.heap.objs.size + 1) = none := Heap.get?_none_of_le (Nat.le_succ _)
  have q2 : s.heap.get? (s.heap.objs.size + 2) = none := Heap.get?_none_of_le (Nat.le_add_right _ 2)
  have lL : ∀ {z : Addr}, s.heap.get? z = none → z ≠ c.L := fun {z} n q => by
    obtain ⟨ob, e, _⟩ := S.st.live c.L (.inr (.inl rfl))
    rw [← q, n] at e; cases e
  have W : DuoAt c (s.heap.objs.size + 2) s.heap.objs.size (s.heap.objs.size + 1) := ⟨S.notStk q2, S.notStk q0, S.notStk q1, lL q2, lL q0, lL q1, Nat.ne_of_gt (Nat.lt_add_of_pos_right (by decide)), Nat.succ_ne_self _, (Nat.succ_ne_self _).symm⟩
  have nz : ∀ {z : Addr}, s.heap.get? z = none → c.t.h0.get? z = none ∧ (¬ c.Z z → c.hE.get? z = none) := fun {z} n => ⟨(Fx.nw_of S n).n0, fun q => (Fx.nw_of S n).nE.resolve_right q⟩
  have V : DuoX (c.aside s.heap.objs.size (s.heap.objs.size + 1)) s.heap.objs.size (s.heap.objs.size + 1) := ⟨.inr (.inl rfl), .inr (.inr rfl), (nz q0).1, (nz q1).1, (nz q0).2, (nz q1).2⟩
  have ok2 : (c.aside s.heap.objs.size (s.heap.objs.size + 1)).OkN := Fx.aside_ok ok (nz q0).1 (nz q1).1
  have S3 := S.aside
  refine wpAny_mono d01 (fun vs s' q => ?_) fun _ _ q => q
  obtain ⟨rfl, tk, rfl⟩ := q
  refine wpAny_newObj_type ?_ (by show (2 : Nat) ≤ sizeLine; rw [sizeLine_eq]; decide)
  show wpAny _ _ (storeName c.env x (.ref _)) _ _ { s with heap := duoH s.heap, toks := tk }
  rw [Heap.size_push, Heap.size_push]
  refine Fx.store_sl (c := c.aside s.heap.objs.size (s.heap.objs.size + 1)) (sl := .unset) ok2.toOk hm1.1 (s := { s with heap := duoH s.heap, toks := tk }) S3 rfl fun h4 S4 k4 og4 sb4 hn4 => ?_
  have U4 : Duo c x (s.heap.objs.size + 2) s.heap.objs.size (s.heap.objs.size + 1) [] [] h4 := by
    obtain ⟨m, hm, _⟩ := S3.st.ns
    have kz : ∀ {z : Addr}, s.heap.get? z = none → ∀ ob, (duoH s.heap).get? z = some ob → h4.get? z = some ob := fun n ob e => (sb4.2 _ (lL n)).trans e
    exact ⟨⟨_, hn4 m hm, if_pos rfl⟩, kz q2 _ (duo_2 s.heap), ⟨[], dictOf_keep (duo_0 _ _ s.heap) (kz q0), .nil⟩, ⟨[], dictOf_keep (duo_1 _ _ s.heap) (kz q1), .nil⟩⟩
  have K4 : Kp (stk c.A) (Wr c.L o) s.heap h4 := Kp.trans x0.kp k4
  have g4 : OG c.C.pin o (upd o i none) s.heap := (OG.refl _ _ _).upd hpi
  refine inv_deal2 (P := fun E0 => wpAny _ _ (execs (E0 :: s3 :: r3) _) _ _ _) s2 m2 fun xc pxc v2 p2 hm2 => ?_
  simp only [Bool.and_eq_true] at hm2
  obtain ⟨⟨hxc, hmv2⟩, hnc⟩ := hm2
  obtain ⟨hlc, hpc⟩ := isSt_inv hxc
  refine inv_deal3 (P := fun E0 => wpAny _ _ (execs (_ :: E0 :: r3) _) _ _ _) s3 m3 fun xj pxj xk pxk kt pt ob nn ap cp sa sb p3 hm3 => ?_
  simp only [Bool.and_eq_true, beq_iff_eq, Bool.not_eq_true', beq_eq_false_iff_ne] at hm3
  obtain ⟨⟨⟨⟨⟨⟨⟨⟨⟨⟨⟨⟨hline, hxj⟩, hxk⟩, rfl⟩, hme⟩, hsa⟩, hsb⟩, nic⟩, nij⟩, nik⟩, ncj⟩, nck⟩, njk⟩ := hm3
  refine wpAny_execs_cons (wpAny_Assign_Name (he0 _ ok2 v2 dc (upd o i none) (ρ.set i .unset) { s with heap := h4, toks := tk + 1 } _ E hmv2 hdc S4 fun vv h5 t5 x5 r5 => ?_) (swaps_no hmv2 hnc _ _ _))
  refine Fx.store_sl (c := c.aside s.heap.objs.size (s.heap.objs.size + 1)) (sl := .fr dc) ok2.toOk hxc (s := { s with heap := h5, toks := t5 }) (S4.extF x5) ⟨rfl, vv, rfl, r5.av hes.1⟩ fun h6 S6 k6 og6 sb6 hn6 => ?_
  have U6 := (U4.extF W x5).store W sb6 hn6 (slot_ne ok.nodup (isLoc_inv hlc).1 (isLoc_inv hxi).1 nic)
  have K6 : Kp (stk c.A) (Wr c.L o) s.heap h6 := Fx.keep_trans (Kp.trans K4 x5.kp) g4 k6
  have g6 : OG c.C.pin o (upd (upd o i none) cc none) s.heap := g4.upd hpc
  refine wpAny_execs_cons (wpAny_For (Call_method0 (match_base hme _ _ _) (by simpa using hline) (he _ ok2 ob _ _ _ { s with heap := h6, toks := t5 + 1 } _ E hme hdk S6 fun v7 h7 t7 x7 r7 => ?_)) (fun _ => rfl))
  obtain ⟨da, es, rfl, na, dcd, pr⟩ := (r7.av hes.2).dict_inv
  refine ⟨"dict", "dict.items", F.plainAttrs_dict, F.slot_dict_items, F.type_dict_items, dcd.typeIs, dcd.mapOf.noDict, method_meetsIn F.slot_dict_items F.entry_dict_items rfl ?_⟩
  have S7 := S6.extF x7
  have hsy : (da == sysModules) = false := by rw [beq_eq_false_iff_ne]; intro q; exact na (q ▸ .inl S6.st.sys)
  refine evalArgs_nil3 (show _ ∧ _ from ⟨rfl, dcd.typeIs, F.args_dict_items_1 _, _, meets_dict_items (strKind c.t.prog c.t.w) da hsy, ⟨es, dcd⟩, ?_⟩)
  obtain ⟨ep, dat⟩ := dcd.dictAt
  refine wpAny_pyIter_items (knd := strKind c.t.prog c.t.w) (d := da) (kvs := es) (ep := ep) ⟨_, Heap.get?_push_size _ rfl, rfl, rfl⟩ (dat.push _) ?_
  have S8 : (c.aside s.heap.objs.size (s.heap.objs.size + 1)).St _ _ (h7.push { cls := .type "dict_items", data := .fields #[.ref da] }) := S7.ext (Ext.push _ _)
  have n0 := S8.new0
  have hnew : (h7.push { cls := .type "dict_items", data := .fields #[.ref da] }).get? (h7.push { cls := .type "dict_items", data := .fields #[.ref da] }).objs.size = none := Heap.get?_none_of_le (Nat.le_refl _)
  obtain ⟨od, _, god, _⟩ := id (dat.push { cls := .type "dict_items", data := .fields #[.ref da] })
  have U8 := (U6.extF W x7).extF W (Ext.push h7 { cls := .type "dict_items", data := .fields #[.ref da] }).f
  have K8 : Kp (stk c.A) (Wr c.L o) s.heap (h7.push { cls := .type "dict_items", data := .fields #[.ref da] }) := Kp.trans (Kp.trans K6 x7.kp) (Ext.push _ _).kp
  have hiu : ((ρ.set i .unset).set cc (.fr dc))[i]? = some .unset := by
    rw [List.getElem?_set_ne (Ne.symm nic), List.getElem?_set_self (by rw [S.st.len]; exact (List.getElem?_eq_some_iff.mp (isLoc_inv hxi).1).1)]
  have W2 : DuoAt (c.aside s.heap.objs.size (s.heap.objs.size + 1)) (s.heap.objs.size + 2) s.heap.objs.size (s.heap.objs.size + 1) := ⟨W.sl, W.s0, W.s1, W.Ll, W.L0, W.L1, W.l0, W.l1, W.ne⟩
  refine Fx.deal_loop ok2 (es := es) (ep := ep) (d := da) (kv := kv) S8 hnew na (by rw [god]; exact fun q => nomatch q) pr hxi hxj hxk hsa hsb nic nij nik njk W2 V (s₀ := { s with heap := h7.push { cls := .type "dict_items", data := .fields #[.ref da] }, toks := t7 }) n0.1 n0.2 hdl (fun o8 h8 t8 S9 k9 g9 U9 => ?_) ⟨⟨_, _, Heap.get?_push_size _ rfl⟩, (dat.push _).push _⟩ (S8.ext (Ext.push _ _)) (Ext.push _ _) ?_
  · exact Fx.deal_end (s := s) ok (t8 := t8) hb m4 hxi S q0 q1 q2 (by rw [U8.ls]; exact fun q => nomatch q) W ((dealt_at nic nij nik pr.all hdl).trans hiu) K8 g6 (fun j z q => upd_sub (upd_sub q)) S9 k9 g9 ⟨U9.bd, U9.ls, U9.e0, U9.e1⟩ P2
  · exact Duo.aside (U8.extF W (Ext.push _ _).f)
end
end Mine
-- MInt
set_option autoImplicit false
set_option linter.all false
set_option maxRecDepth 100000
namespace Mine
open PySem PySem.NumText PyProof.Rows

theorem no_dint : typeLookup (.type "str") "__int__" = pure none := by rw [typeLookup_type, builtinLookup_eq_fast]; kernel_rfl
theorem no_idx : typeLookup (.type "str") "__index__" = pure none := by rw [typeLookup_type, builtinLookup_eq_fast]; kernel_rfl
theorem no_trunc : typeLookup (.type "str") "__trunc__" = pure none := by rw [typeLookup_type, builtinLookup_eq_fast]; kernel_rfl
structure Whole (t : List Nat) (n : Int) : Prop where
  short : (t.takeWhile (· != 0)).length ≤ 640
  value : (int_private% "readNumeral") 0 10 (t.takeWhile (· != 0)) = (int_private% "Numeral.value") n
  all : ((t.takeWhile (· != 0)).length == t.length) = true
theorem whole_of {x : Str} {n : Int} (hl : x.length ≤ 640) (hn : intText? x = some n) : Whole (numTextOf x) n := by
  have hs := Nat.le_trans (seen_length x) hl
  rcases read0 x hs with ⟨m, a, b, c⟩ | ⟨a, _⟩
  · rw [hn] at a; cases a; exact ⟨hs, c, b⟩
  · rw [hn] at a; cases a
theorem from_text {M : Model} {A : Around} {E : Value → Shared → Prop} {s : Shared} {Q : Value → Shared → Prop} {v : Value} {t : List Nat} {n : Int} (W : Whole t n) (k : Q (.int n s.toks) { s with toks := s.toks + 1 }) :
    wpAny M A ((int_private% "intFromText") v t 10) Q E s := by
  obtain ⟨hp, g, d, tk, os⟩ := s
  have c1 := decide_eq_true W.short
  have c2 := decide_eq_true W.all
  have c3 := W.value
  clear W
  repeat' first
    | exact k
    | with_reducible refine wpAny_ite_true c1 ?_
    | with_reducible refine wpAny_ite_true c2 ?_
    | wp_step
    | (rw [c3]; dsimp only)
set_option maxHeartbeats 4000000 in
theorem int_gives {x : Str} {u : Tok} {n : Int} (W : Whole (numTextOf x) n) : Gives (Builtin.«int.__new__» ⟨[.type "int", .str x u], []⟩) (.int n) :=
  .of_wp fun M A E s Q k => by
    obtain ⟨hp, g, d, tk, os⟩ := s
    have a1 := F.conv_sub_int
    have a2 := F.madeHere_int
    have a3 := no_dint
    have a4 := no_idx
    have a5 := no_trunc
    have a6 : typeOf (.str x u) = pure (.type "str") := rfl
    have b : ∀ {A : Around} {E : Value → Shared → Prop} {s : Shared} {Q : Value → Shared → Prop} {v : Value}, Q (.int n s.toks) { s with toks := s.toks + 1 } → wpAny M A ((int_private% "intFromText") v (numTextOf x) 10) Q E s := from_text W
    clear W
    repeat (any_goals (first
      | assumption
      | ((with_reducible show wpAny _ _ ((int_private% "intFromText") _ _ _) _ _ _); refine b ?_)
      | wp_step))
    all_goals first | exact ⟨_, rfl, k⟩ | skip
theorem intText (prog : Program) (w : World) : IntText prog w := fun A E s Q x t i h k => by
  unfold intOf at h
  split at h
  · rename_i hl
    exact PySem.call_int_1 (int_gives (whole_of hl h)).meets (show (Made.int i).post _ s from ⟨rfl, k _ _⟩)
  · cases h
end Mine
-- MUn1
set_option autoImplicit false
set_option linter.all false
set_option maxRecDepth 100000
namespace Mine
open PySem PyProof.Rows Builtin Builtin.ObjectAttr

section
variable {prog : Program} {w : World} {A : Around} {E : Value → Shared → Prop} {h : Heap} {g : Array GenState} {d : Drawn} {t : Nat} {os : OsState}
variable {xc : XC} {C : Addr} {bm : List Value} {mN : Str → Option Value}

end

section
variable {prog : Program} {w : World} {A : Around} {E : Value → Shared → Prop} {s : Shared} {env : PySem.Env}
end

section
variable {prog : Program} {w : World} {A : Around} {E : Value → Shared → Prop} {h : Heap} {g : Array GenState} {d : Drawn} {t : Nat} {os : OsState}
variable {xc : XC} {C e : Addr} {oe : Obj} {bm : List Value} {mN : Str → Option Value}
end
section
variable {prog : Program} {w : World} {A : Around} {E : Value → Shared → Prop} {h : Heap} {g : Array GenState} {d : Drawn} {t : Nat} {os : OsState}
variable {xc : XC} {C e B : Addr} {oe : Obj} {bm : List Value} {mN : Str → Option Value} {v : Value}
end
section
variable {prog : Program} {w : World} {A : Around} {E : Value → Shared → Prop} {h : Heap} {g : Array GenState} {d : Drawn} {t : Nat} {os : OsState}
variable {xc : XC} {C e ad : Addr} {oe : Obj} {bm : List Value} {mN m : Str → Option Value} {v : Value}
end
end Mine
-- MUn2
set_option autoImplicit false
set_option linter.all false
set_option maxRecDepth 100000
namespace Mine
open PySem PyProof.Rows

theorem UnFact.keeps {h h' : Heap} {C : Addr} {bm : List Value} (U : UnFact h C bm) (k : Ext h h') : UnFact h' C bm := ⟨U.no⟩
theorem CFact.keeps {h h' : Heap} {mg : Str → Option Value} {x : Str} {C : Addr} {bm : List Value} (F : CFact h mg x C bm) (k : Ext h h') : CFact h' mg x C bm := by
  obtain ⟨xc, mN, hC, hN, hq⟩ := F.obj
  exact ⟨F.name, ⟨xc, mN, k _ _ hC, hN.keeps k, hq⟩, F.tail.keeps k⟩
section
variable {c : Fx}
end
end Mine
-- MAll
set_option autoImplicit false
set_option linter.all false
namespace Mine
open PySem PyProof.Rows

mutual
noncomputable def okE (n : Bool) : ME → Bool
  | .var _ => true
  | .own _ => true
  | .glob _ => true
  | .cint _ => true
  | .cstr _ => true
  | .cbool _ => true
  | .cnone => true
  | .dctD => true
  | .bin _ a b => okE n a && okE n b
  | .neg a => okE n a
  | .nt a => okE n a
  | .and a b => okE n a && okE n b
  | .or a b => okE n a && okE n b
  | .cmp _ a b => okE n a && okE n b
  | .cmp2 _ _ a b c => okE n a && (okE n b && okE n c)
  | .call _ as => n && okEs n as
  | .tupD as => okEs n as
  | .lstD as => okEs n as
  | .bi1 _ a => n && okE n a
  | .bi2 _ a b => n && (okE n a && okE n b)
  | .isi a _ => n && okE n a
  | .find a b => n && (okE n a && okE n b)
  | .idx a b => okE n a && okE n b
  | .slice a lo hi => okE n a && (okO n lo && okO n hi)
noncomputable def okEs (n : Bool) : MEs → Bool
  | .nil => true
  | .cons a as => okE n a && okEs n as
noncomputable def okO (n : Bool) : MO → Bool
  | .none => true
  | .some a => okE n a
end
mutual
noncomputable def okX (n : Bool) : ME → Bool
  | .call _ as => okXs n as
  | .tupD as => okXs n as
  | e => okE n e
noncomputable def okXs (n : Bool) : MEs → Bool
  | .nil => true
  | .cons a as => okX n a && okXs n as
end
noncomputable def okNew : ME → Bool
  | .lstD as => okEs true as
  | .dctD => true
  | .bi1 .dict a => okE true a
  | _ => false
mutual
noncomputable def okS (n : Bool) : MS → Bool
  | .skip => true
  | .seq a b => okS n a && okS n b
  | .asg _ e => okE n e
  | .append _ e => n && okE n e
  | .ret e => okE n e
  | .asgOwn _ e => n && okNew e
  | .asgFresh _ _ as => n && okEs n as
  | .ite c a b => okE n c && (okS n a && okS n b)
  | .forL _ e b => n && (okE n e && okS n b)
  | .forR _ lo hi b => n && (okE n lo && (okE n hi && okS n b))
  | .loop c b => n && (okE n c && okS n b)
  | .raise _ e => n && okE n e
  | .retX e => n && okX n e
  | .deal _ _ _ _ e0 e b => n && (okE n e0 && (okE n e && okS n b))
  | .tryx b hs => n && (okS n b && okH hs)
  | .store _ k v => n && (okE n k && okE n v)
  | .pop _ k => n && okE n k
  | .update _ e => n && okE n e
noncomputable def okH : MHs → Bool
  | .nil => true
  | .cons _ _ b hs => okS false b && okH hs
end

theorem and3 {n a b : Bool} (h : (n && (a && b)) = true) : (n && a) = true ∧ (n && b) = true := by
  cases n with
  | false => cases h
  | true => exact Bool.and_eq_true_iff.mp h
section
variable {c : Fx} {n : Bool} (ok : c.Ok) (okn : n = true → c.OkN)
include ok okn

mutual
theorem Fx.ev_all : (m : ME) → okE n m = true → c.EvOk m ∧ c.TrOk m := fun m h => by
  match m, h with
  | .var i, h =>
    have q := Fx.ev_var ok i
    exact ⟨q, Fx.tr_plain rfl q⟩
  | .own i, h =>
    have q := Fx.ev_own ok i
    exact ⟨q, Fx.tr_plain rfl q⟩
  | .glob i, h =>
    have q := Fx.ev_glob ok i
    exact ⟨q, Fx.tr_plain rfl q⟩
  | .cint i, h =>
    have q := Fx.ev_cint ok i
    exact ⟨q, Fx.tr_plain rfl q⟩
  | .cstr i, h =>
    have q := Fx.ev_cstr ok i
    exact ⟨q, Fx.tr_plain rfl q⟩
  | .cbool i, h =>
    have q := Fx.ev_cbool ok i
    exact ⟨q, Fx.tr_plain rfl q⟩
  | .cnone, h =>
    have q := Fx.ev_cnone ok
    exact ⟨q, Fx.tr_plain rfl q⟩
  | .dctD, h =>
    have q := Fx.ev_dctD ok
    exact ⟨q, Fx.tr_plain rfl q⟩
  | .bin op a b, h =>
    replace h := Bool.and_eq_true_iff.mp h
    have q := Fx.ev_bin ok op (Fx.ev_all a h.1).1 (Fx.ev_all b h.2).1
    exact ⟨q, Fx.tr_plain rfl q⟩
  | .neg a, h =>
    have q := Fx.ev_neg ok (Fx.ev_all a h).1
    exact ⟨q, Fx.tr_plain rfl q⟩
  | .nt a, h =>
    exact ⟨Fx.ev_nt ok (Fx.ev_all a h).1, Fx.tr_nt ok (Fx.ev_all a h).2⟩
  | .and a b, h =>
    replace h := Bool.and_eq_true_iff.mp h
    exact ⟨Fx.ev_and ok (Fx.ev_all a h.1).1 (Fx.ev_all b h.2).1, Fx.tr_and ok (Fx.ev_all a h.1).2 (Fx.ev_all b h.2).2⟩
  | .or a b, h =>
    replace h := Bool.and_eq_true_iff.mp h
    exact ⟨Fx.ev_or ok (Fx.ev_all a h.1).1 (Fx.ev_all b h.2).1, Fx.tr_or ok (Fx.ev_all a h.1).2 (Fx.ev_all b h.2).2⟩
  | .cmp op a b, h =>
    replace h := Bool.and_eq_true_iff.mp h
    exact ⟨Fx.ev_cmp ok cmp_full op (Fx.ev_all a h.1).1 (Fx.ev_all b h.2).1, Fx.tr_cmp ok cmp_full op (Fx.ev_all a h.1).1 (Fx.ev_all b h.2).1⟩
  | .cmp2 o1 o2 a b d, h =>
    replace h := Bool.and_eq_true_iff.mp h
    replace h := And.intro h.1 (Bool.and_eq_true_iff.mp h.2)
    exact ⟨Fx.ev_cmp2 ok cmp_full o1 o2 (Fx.ev_all a h.1).1 (Fx.ev_all b h.2.1).1 (Fx.ev_all d h.2.2).1, Fx.tr_cmp2 ok cmp_full o1 o2 (Fx.ev_all a h.1).1 (Fx.ev_all b h.2.1).1 (Fx.ev_all d h.2.2).1⟩
  | .call f as, h =>
    replace h := Bool.and_eq_true_iff.mp h
    have hn := h.1
    have okN := okn hn
    replace h := h.2
    have q := Fx.ev_call okN f (Fx.evs_all as h)
    exact ⟨q, Fx.tr_plain rfl q⟩
  | .tupD as, h =>
    have q := Fx.ev_tupD ok (Fx.evs_all as h)
    exact ⟨q, Fx.tr_plain rfl q⟩
  | .lstD as, h =>
    have q := Fx.ev_lstD ok (Fx.evs_all as h)
    exact ⟨q, Fx.tr_plain rfl q⟩
  | .bi1 b a, h =>
    replace h := Bool.and_eq_true_iff.mp h
    have hn := h.1
    have okN := okn hn
    replace h := h.2
    have q := Fx.ev_bi1 okN (intText c.t.prog c.t.w) b (Fx.ev_all a h).1
    exact ⟨q, Fx.tr_plain rfl q⟩
  | .bi2 op a b, h =>
    replace h := Bool.and_eq_true_iff.mp h
    have hn := h.1
    have okN := okn hn
    replace h := h.2
    replace h := Bool.and_eq_true_iff.mp h
    have q := Fx.ev_bi2 okN op (Fx.ev_all a h.1).1 (Fx.ev_all b h.2).1
    exact ⟨q, Fx.tr_plain rfl q⟩
  | .isi a t, h =>
    replace h := Bool.and_eq_true_iff.mp h
    have hn := h.1
    have okN := okn hn
    replace h := h.2
    have q := Fx.ev_isi okN t (Fx.ev_all a h).1
    exact ⟨q, Fx.tr_plain rfl q⟩
  | .find a b, h =>
    replace h := Bool.and_eq_true_iff.mp h
    have hn := h.1
    have okN := okn hn
    replace h := h.2
    replace h := Bool.and_eq_true_iff.mp h
    have q := Fx.ev_find okN (Fx.ev_all a h.1).1 (Fx.ev_all b h.2).1
    exact ⟨q, Fx.tr_plain rfl q⟩
  | .idx a b, h =>
    replace h := Bool.and_eq_true_iff.mp h
    have q := Fx.ev_idx ok (Fx.ev_all a h.1).1 (Fx.ev_all b h.2).1
    exact ⟨q, Fx.tr_plain rfl q⟩
  | .slice a lo hi, h =>
    replace h := Bool.and_eq_true_iff.mp h
    replace h := And.intro h.1 (Bool.and_eq_true_iff.mp h.2)
    have q := Fx.ev_slice ok (Fx.ev_all a h.1).1 (Fx.evo_all lo h.2.1) (Fx.evo_all hi h.2.2)
    exact ⟨q, Fx.tr_plain rfl q⟩
theorem Fx.evs_all : (m : MEs) → okEs n m = true → c.EvsOk m
  | .nil, _ => Fx.evs_nil ok
  | .cons a as, h => Fx.evs_cons ok (Fx.ev_all a (Bool.and_eq_true_iff.mp h).1).1 (Fx.evs_all as (Bool.and_eq_true_iff.mp h).2)
theorem Fx.evo_all : (m : MO) → okO n m = true → c.EvoOk m
  | .none, _ => Fx.evo_none ok
  | .some a, h => Fx.evo_some ok (Fx.ev_all a h).1
end

mutual
theorem Fx.evx_all : (m : ME) → (n && okX n m) = true → c.EvxOk m := fun m h => by
  have hn := (Bool.and_eq_true_iff.mp h).1
  have okN := okn hn
  replace h := (Bool.and_eq_true_iff.mp h).2
  match m, h with
  | .call f as, h => exact Fx.evx_call okN f (Fx.evxs_all as (Bool.and_eq_true_iff.mpr ⟨hn, h⟩))
  | .tupD as, h => exact Fx.evx_tupD (Fx.evxs_all as (Bool.and_eq_true_iff.mpr ⟨hn, h⟩))
  | .var i, h => exact Fx.evx_plain (fun _ => rfl) (Fx.ev_all ok okn (.var i) h).1
  | .own i, h => exact Fx.evx_plain (fun _ => rfl) (Fx.ev_all ok okn (.own i) h).1
  | .glob i, h => exact Fx.evx_plain (fun _ => rfl) (Fx.ev_all ok okn (.glob i) h).1
  | .cint i, h => exact Fx.evx_plain (fun _ => rfl) (Fx.ev_all ok okn (.cint i) h).1
  | .cstr i, h => exact Fx.evx_plain (fun _ => rfl) (Fx.ev_all ok okn (.cstr i) h).1
  | .cbool i, h => exact Fx.evx_plain (fun _ => rfl) (Fx.ev_all ok okn (.cbool i) h).1
  | .cnone, h => exact Fx.evx_plain (fun _ => rfl) (Fx.ev_all ok okn (.cnone) h).1
  | .dctD, h => exact Fx.evx_plain (fun _ => rfl) (Fx.ev_all ok okn (.dctD) h).1
  | .bin op a b, h => exact Fx.evx_plain (fun _ => rfl) (Fx.ev_all ok okn (.bin op a b) h).1
  | .neg a, h => exact Fx.evx_plain (fun _ => rfl) (Fx.ev_all ok okn (.neg a) h).1
  | .nt a, h => exact Fx.evx_plain (fun _ => rfl) (Fx.ev_all ok okn (.nt a) h).1
  | .and a b, h => exact Fx.evx_plain (fun _ => rfl) (Fx.ev_all ok okn (.and a b) h).1
  | .or a b, h => exact Fx.evx_plain (fun _ => rfl) (Fx.ev_all ok okn (.or a b) h).1
  | .cmp op a b, h => exact Fx.evx_plain (fun _ => rfl) (Fx.ev_all ok okn (.cmp op a b) h).1
  | .cmp2 o1 o2 a b d, h => exact Fx.evx_plain (fun _ => rfl) (Fx.ev_all ok okn (.cmp2 o1 o2 a b d) h).1
  | .lstD as, h => exact Fx.evx_plain (fun _ => rfl) (Fx.ev_all ok okn (.lstD as) h).1
  | .bi1 b a, h => exact Fx.evx_plain (fun _ => rfl) (Fx.ev_all ok okn (.bi1 b a) h).1
  | .bi2 op a b, h => exact Fx.evx_plain (fun _ => rfl) (Fx.ev_all ok okn (.bi2 op a b) h).1
  | .isi a t, h => exact Fx.evx_plain (fun _ => rfl) (Fx.ev_all ok okn (.isi a t) h).1
  | .find a b, h => exact Fx.evx_plain (fun _ => rfl) (Fx.ev_all ok okn (.find a b) h).1
  | .idx a b, h => exact Fx.evx_plain (fun _ => rfl) (Fx.ev_all ok okn (.idx a b) h).1
  | .slice a lo hi, h => exact Fx.evx_plain (fun _ => rfl) (Fx.ev_all ok okn (.slice a lo hi) h).1
theorem Fx.evxs_all : (m : MEs) → (n && okXs n m) = true → c.EvxsOk m
  | .nil, _ => Fx.evxs_nil
  | .cons a as, h => Fx.evxs_cons (Fx.evx_all a (and3 h).1) (Fx.evxs_all as (and3 h).2)
end

end
section
variable {c : Fx} (ok : c.OkN)
include ok
theorem Fx.new_all (e : ME) (h : okNew e = true) : c.NewOk e := by
  cases e with
  | lstD as => exact Fx.new_lstD ok (Fx.evs_all ok.toOk (fun _ => ok) as h)
  | dctD => exact Fx.new_dctD ok
  | bi1 b a =>
    cases b with
    | dict => exact Fx.new_dict ok (Fx.ev_all ok.toOk (fun _ => ok) a h).1
    | _ => exact Bool.noConfusion h
  | _ => exact Bool.noConfusion h
end

theorem exb_no {c : Fx} {m : MS} (q : ∀ C l, matchB C m l = false) : c.ExB m := fun l _ _ _ _ _ hm => by rw [q] at hm; cases hm
mutual
theorem ex_all : (m : MS) → ∀ (n : Bool) (c : Fx), c.Ok → (n = true → c.OkN) → okS n m = true → c.ExOk m ∧ c.ExB m := fun m n c ok okn h => by
  match m, h with
  | .skip, _ => exact ⟨fun _ _ _ _ _ _ hm => Bool.noConfusion hm, Fx.exb_skip ok⟩
  | .seq a b, h =>
    replace h := Bool.and_eq_true_iff.mp h
    exact ⟨fun _ _ _ _ _ _ hm => Bool.noConfusion hm, Fx.exb_seq ok (ex_all a n c ok okn h.1).1 (ex_all b n c ok okn h.2).2⟩
  | .asg i e, h =>
    exact ⟨Fx.ex_asg ok i (Fx.ev_all ok okn e h).1, exb_no fun _ _ => rfl⟩
  | .append i e, h =>
    replace h := Bool.and_eq_true_iff.mp h
    have hn := h.1
    have okN := okn hn
    replace h := h.2
    exact ⟨Fx.ex_append okN i (Fx.ev_all ok okn e h).1, exb_no fun _ _ => rfl⟩
  | .ret e, h =>
    exact ⟨Fx.ex_ret ok (Fx.ev_all ok okn e h).1, exb_no fun _ _ => rfl⟩
  | .asgOwn i e, h =>
    replace h := Bool.and_eq_true_iff.mp h
    have hn := h.1
    have okN := okn hn
    replace h := h.2
    exact ⟨Fx.ex_asgOwn okN i (Fx.new_all okN e h), exb_no fun _ _ => rfl⟩
  | .asgFresh i f as, h =>
    replace h := Bool.and_eq_true_iff.mp h
    have hn := h.1
    have okN := okn hn
    replace h := h.2
    exact ⟨Fx.ex_asgFresh okN i f (Fx.evs_all ok okn as h), exb_no fun _ _ => rfl⟩
  | .ite t a b, h =>
    replace h := Bool.and_eq_true_iff.mp h
    replace h := And.intro h.1 (Bool.and_eq_true_iff.mp h.2)
    exact ⟨Fx.ex_ite ok (Fx.ev_all ok okn t h.1).2 (ex_all a n c ok okn h.2.1).2 (ex_all b n c ok okn h.2.2).2, exb_no fun _ _ => rfl⟩
  | .forL i e b, h =>
    replace h := Bool.and_eq_true_iff.mp h
    have hn := h.1
    have okN := okn hn
    replace h := h.2
    replace h := Bool.and_eq_true_iff.mp h
    exact ⟨Fx.ex_forL okN (Fx.pass ok okN.xn) i (Fx.ev_all ok okn e h.1).1 (ex_all b n c ok okn h.2).2, exb_no fun _ _ => rfl⟩
  | .forR i lo hi b, h =>
    replace h := Bool.and_eq_true_iff.mp h
    have hn := h.1
    have okN := okn hn
    replace h := h.2
    replace h := Bool.and_eq_true_iff.mp h
    replace h := And.intro h.1 (Bool.and_eq_true_iff.mp h.2)
    exact ⟨Fx.ex_forR okN (Fx.pass ok okN.xn) i (Fx.ev_all ok okn lo h.1).1 (Fx.ev_all ok okn hi h.2.1).1 (ex_all b n c ok okn h.2.2).2, exb_no fun _ _ => rfl⟩
  | .loop t b, h =>
    replace h := Bool.and_eq_true_iff.mp h
    have hn := h.1
    have okN := okn hn
    replace h := h.2
    replace h := Bool.and_eq_true_iff.mp h
    exact ⟨Fx.ex_loop okN (Fx.ev_all ok okn t h.1).2 (ex_all b n c ok okn h.2).2, exb_no fun _ _ => rfl⟩
  | .raise t e, h =>
    replace h := Bool.and_eq_true_iff.mp h
    have hn := h.1
    have okN := okn hn
    replace h := h.2
    exact ⟨Fx.ex_raise okN t (Fx.ev_all ok okn e h).1, exb_no fun _ _ => rfl⟩
  | .retX e, h =>
    exact ⟨Fx.ex_retX (Fx.evx_all ok okn e h), exb_no fun _ _ => rfl⟩
  | .deal i cc j k e0 e b, h =>
    replace h := Bool.and_eq_true_iff.mp h
    have hn := h.1
    have okN := okn hn
    replace h := h.2
    replace h := Bool.and_eq_true_iff.mp h
    replace h := And.intro h.1 (Bool.and_eq_true_iff.mp h.2)
    exact ⟨fun _ _ _ _ _ _ hm => Bool.noConfusion hm, Fx.exb_deal okN i cc j k (fun c2 okN2 => (Fx.ev_all okN2.toOk (fun _ => okN2) e0 h.1).1) (fun c2 okN2 => (Fx.ev_all okN2.toOk (fun _ => okN2) e h.2.1).1) (ex_all b n c ok okn h.2.2).2⟩
  | .tryx b hs, h =>
    replace h := Bool.and_eq_true_iff.mp h
    have hn := h.1
    have okN := okn hn
    replace h := h.2
    replace h := Bool.and_eq_true_iff.mp h
    exact ⟨Fx.ex_tryx okN (ex_all b n c ok okn h.1).2 (hd_all hs c okN h.2), exb_no fun _ _ => rfl⟩
  | .store i k v, h =>
    replace h := Bool.and_eq_true_iff.mp h
    have hn := h.1
    have okN := okn hn
    replace h := h.2
    replace h := Bool.and_eq_true_iff.mp h
    exact ⟨Fx.ex_store okN i (Fx.ev_all ok okn k h.1).1 (Fx.ev_all ok okn v h.2).1, exb_no fun _ _ => rfl⟩
  | .pop i k, h =>
    replace h := Bool.and_eq_true_iff.mp h
    have hn := h.1
    have okN := okn hn
    replace h := h.2
    exact ⟨Fx.ex_pop okN i (Fx.ev_all ok okn k h).1, exb_no fun _ _ => rfl⟩
  | .update i e, h =>
    replace h := Bool.and_eq_true_iff.mp h
    have hn := h.1
    have okN := okn hn
    replace h := h.2
    exact ⟨Fx.ex_update okN i (Fx.ev_all ok okn e h).1, exb_no fun _ _ => rfl⟩
theorem hd_all : (m : MHs) → ∀ (c : Fx), c.OkN → okH m = true → c.HdOk m
  | .nil, _, _, _ => Fx.hd_nil
  | .cons t i b hs, c, ok, h => Fx.hd_cons ok t i (fun c' ok' _ => (ex_all b false c' ok' (fun q => nomatch q) (Bool.and_eq_true_iff.mp h).1).2) (hd_all hs c ok (Bool.and_eq_true_iff.mp h).2)
end
end Mine
-- MCall
set_option autoImplicit false
set_option linter.all false
namespace Mine
open PySem PyProof.Rows

theorem Ext.none {h h' : Heap} (x : Ext h h') {a : Addr} (e : h'.get? a = none) : h.get? a = none := by
  cases q : h.get? a with
  | none => rfl
  | some ob => rw [x _ _ q] at e; cases e
theorem Ar.step {n : Nat} {A : Around} {env : PySem.Env} (hA : Ar (n + 1) A) : Ar n (A.deeper env) :=
  ⟨⟨by have := hA.depth; show A.depth + 1 + n + 1 < recursionLimit; omega, by have := hA.units; show A.units + 3 + 4 * n + 100 < cLine; omega⟩, hA.handled⟩
theorem Kp.less {F F' W : Addr → Prop} {h h' : Heap} (x : Kp F W h h') (k : ∀ b, F b → F' b ∨ h.get? b = Option.none) : Kp F' W h h' := fun b o e n => by
  rcases x b o e n with q | ⟨f, r⟩
  · exact .inl q
  · rcases k b f with q | q
    · exact .inr ⟨q, r⟩
    · rw [e] at q; cases q
theorem stk_deeper {A : Around} {env : PySem.Env} {L b : Addr} (hf : env.frame = some L) (q : stk (A.deeper env) b) : b = L ∨ stk A b := by
  obtain ⟨l, e, h1, h2, h3⟩ := q
  cases hA : A.frames with
  | none => rw [show (A.deeper env).frames = A.frames.map _ from rfl, hA] at h1; cases h1
  | some l' =>
    rw [Around.frames_deeper hA] at h1
    cases h1
    rcases List.mem_cons.mp h2 with rfl | h2
    · rw [hf] at h3; cases h3; exact .inl rfl
    · exact .inr ⟨l', e, hA, h2, h3⟩
theorem orc_run {t : Tx} (T : t.Ok) {n : Nat} (ih : OrcOk t n (orc t.fns t.G n)) {F : MFn} (hS : okS true F.body = true) {f : Nat} {xs : List D} {a : Addr} {A : Around} {s : Shared} {X : Addr → Prop} {vs : List Value} {Q E : Value → Shared → Prop}
    (hF : t.fns[f]? = some F) (hn : t.mg F.name = some (.ref a)) (hA : Ar (n + 1) A) (x0 : Ext t.h0 s.heap) (hX : XOk X s.heap) (hsys : X sysModules) (hav : ∀ a, X a → t.X0 a ∨ t.h0.get? a = none) (rl : RepAll t.prog t.w X s.heap vs xs) (frm : Frm A X t.h0)
    (hr : runF (orc t.fns t.G n) t.G F xs ≠ .stuck)
    (k : ∀ r, runF (orc t.fns t.G n) t.G F xs = .ok r → ∀ v h' tk, ExtF (stk A) s.heap h' → Rep t.prog t.w X h' v r.1 → (r.2 = true → ∃ c, v = .ref c ∧ s.heap.get? c = none) → Q v { s with heap := h', toks := tk })
    (kx : ∀ x, runF (orc t.fns t.G n) t.G F xs = .exc x → ∀ e h' tk, ExtF (stk A) s.heap h' → Flew t s.heap h' e x → E (.ref e) { s with heap := h', toks := tk }) :
    wpAny (model t.prog t.w) A (call (.ref a) vs) Q E s := by
  simp only [runF] at hr k kx
  split at hr
  · rename_i hlen
    rw [if_pos hlen] at k kx
    obtain ⟨a', fd, body, FN⟩ := T.fn f F hF
    have : a' = a := by have := FN.name; rw [hn] at this; cases this; rfl
    subst this
    obtain ⟨ob, ho, hd⟩ := FN.obj
    have hok := FN.ok
    simp only [fnOk, Bool.and_eq_true, decide_eq_true_eq, Bool.not_eq_true', List.isEmpty_iff, Option.isNone_iff_eq_none, beq_iff_eq, List.all_eq_true] at hok
    obtain ⟨⟨⟨⟨⟨⟨⟨⟨⟨⟨⟨⟨⟨⟨hmatch, hkind⟩, hco⟩, hgen⟩, hcell⟩, hpo⟩, hargs⟩, hva⟩, hko⟩, hkd⟩, hkw⟩, hdf⟩, hle⟩, hnd⟩, hloc⟩ := hok
    have hlv : vs.length = (fd.params.args.map (·.arg)).length := by rw [rl.length, hlen, hargs, List.length_take, Nat.min_eq_left hle]
    have hnd' : (fd.params.args.map (·.arg)).Nodup := by rw [hargs]; exact (List.take_sublist _ _).nodup hnd
    have hnew : s.heap.get? s.heap.objs.size = none := Heap.get?_none_of_le (Nat.le_refl _)
    obtain ⟨fl, hfl, hfe⟩ := frm.fr
    refine wpAny_call (codeAny_call_def (o := ob) (fd := fd) (body := body) (binds := (fd.params.args.map (·.arg)).zip vs) (by have := hA.depth; omega) (x0 _ _ ho) hd (T.lim.keeps x0) (FN.code.keeps x0) FN.bdy
      (BindsTo.of_eq (bind_plain hpo hva hko hkw FN.dfl hnd' hlv)) hcell (fun p hp => ?_) (fun h1 hns hext => ?_) hco hgen hkind)
    · obtain ⟨x, v⟩ := p
      exact hloc x (by rw [← hargs]; exact (List.of_mem_zip hp).1)
    let c : Fx := { t := t, n := n, O := orc t.fns t.G n, C := ⟨F.slots, t.fns.map (·.name), t.gn, fd.scope, pinOf F, t.xn, t.kn⟩, env := callEnv fd s.heap.objs.size a', L := s.heap.objs.size, X := X, A := A.deeper (callEnv fd s.heap.objs.size a'), hE := s.heap, Z := fun _ => False }
    have ok : c.OkN := {
      t := T, orc := ih
      ar := hA.step.toAr0
      frx := ⟨fl, Around.frames_deeper hfl⟩
      efr := rfl
      kind := hkind, sc := rfl, loc := rfl, gl := FN.gl, bu := FN.bu, fnames := rfl, gnames := rfl, xnames := rfl, knames := rfl, x0 := hav
      l0 := Ext.none x0 hnew, nodup := hnd
      lE := fun ⟨o, e⟩ => by rw [show s.heap.get? s.heap.objs.size = some o from e] at hnew; cases hnew
      xk := fun _ _ _ q => q.elim
      hn := hA.handled
      xn := fun _ _ _ q => q }
    have hx1 : Ext s.heap h1 := hext
    have sd : ∀ b, stk c.A b → stk A b ∨ s.heap.get? b = none := fun b q => (stk_deeper rfl q).elim (fun q => .inr (q ▸ hnew)) .inl
    have S : c.St (fun _ => none) (initEnv F xs) h1 := {
      st := {
        ns := ⟨_, hns, fun i x hx => ?_⟩
        xl := fun q => hX.new q
        xo := fun i a q => by cases q
        inj := fun i j a q => by cases q
        xok := hX.ext hx1
        sys := hsys
        len := by simp only [initEnv, List.length_append, List.length_map, List.length_replicate]; exact Nat.add_sub_cancel' (hlen ▸ hle) }
      h0 := Ext.trans x0 hx1
      o0 := fun i a q => by cases q
      kE := hx1.kp
      oE := fun i a q => by cases q
      frm := ⟨⟨_, Around.frames_deeper hfl, fun env he => by
          rcases List.mem_cons.mp he with rfl | he
          · exact ⟨fun q => (by rw [show (callEnv fd s.heap.objs.size a').scope.kind = fd.scope.kind from rfl, hkind] at q; cases q), _, rfl⟩
          · exact hfe env he⟩,
        fun b q => (stk_deeper rfl q).elim .inr fun q => .inl (frm.x b q), fun b q => (stk_deeper rfl q).elim (fun q => q ▸ Ext.none x0 hnew) (frm.n0 b)⟩ }
    · refine (ex_all F.body true c ok.toOk (fun _ => ok) hS).2 body (fun _ => none) (initEnv F xs) _ _ _ hmatch S ?_
      show c.Post _ _ (ex (orc t.fns t.G n) t.G F.body (initEnv F xs)) _ _
      cases hex : ex (orc t.fns t.G n) t.G F.body (initEnv F xs) with
      | next ρ' =>
        rw [hex] at k
        intro o' h' tk S' _ _
        exact k _ rfl .none h' tk (Kp.less S'.kE sd) .none fun q => by cases q
      | ret d fr ρ' =>
        rw [hex] at k
        intro v h' tk q1 q2 q3 q4 _
        refine k _ rfl v h' tk (Kp.less q2 sd) (q3.less fun _ q => .inl q) fun q => ?_
        obtain ⟨b, e1, e2⟩ := q4 q
        exact ⟨b, e1, e2.elim id fun z => z.elim⟩
      | exc x ρ' =>
        rw [hex] at kx
        intro o' e h' tk S' k' g' f' w'
        unfold leaving
        have nE : ∀ {hb a}, Nw c (fun _ => none) hb a → s.heap.get? a = none := fun N => N.nE.elim id fun z => z.elim
        refine wpAny_bind (Fx.note ok.toOk ok.xn S' f' k' w' fun h1 S1 K1 W1 N1 G1 => ?_)
        obtain ⟨oe2, w1, w2⟩ := W1
        obtain ⟨C, bm, T, q1, q2, oe, vs', oT, ts, e1, e2, e3, e4, e5⟩ := G1
        exact kx x rfl e h1 tk (Kp.less S1.kE sd) ⟨nE N1, ⟨C, bm, q1, oe, vs', T, oT, ts, e1, e2, e3, e4, nE q2, e5⟩, oe2, w1, w2.step rfl fun a m n r => ⟨fun z => n (.inr ⟨z, id⟩), r⟩⟩
      | stuck => rw [hex] at hr; exact absurd rfl hr
    · have hx' : F.slots[i]? = some x := hx
      by_cases hi : i < xs.length
      · have e1 : (initEnv F xs)[i]? = some (.fr xs[i]) := by
          unfold initEnv
          rw [List.getElem?_append_left (by simpa using hi)]
          simp [hi]
        rw [e1]
        obtain ⟨v, hv, rv⟩ := rl.get (List.getElem?_eq_getElem hi)
        refine ⟨rfl, v, ?_, ?_⟩
        · refine lookup_bound hnd' hlv (i := i) ?_ hv
          rw [hargs, List.getElem?_take_of_lt (by omega)]
          exact hx'
        · refine (rv.avoid (X' := Av X s.heap.objs.size fun _ => none) fun b ob e nx q => ?_).ext hx1
          rcases q with q | q | ⟨j, q⟩
          · exact nx q
          · rw [q, hnew] at e; cases e
          · cases q
      · have hi2 : i < F.slots.length := (List.getElem?_eq_some_iff.mp hx').1
        have e1 : (initEnv F xs)[i]? = some .unset := by
          unfold initEnv
          rw [List.getElem?_append_right (by simp; omega)]
          simp [List.getElem?_replicate]; omega
        rw [e1]
        rfl
  · exact absurd rfl hr
theorem orc_ok {t : Tx} (T : t.Ok) (hS : ∀ F ∈ t.fns, okS true F.body = true) : ∀ n, OrcOk t n (orc t.fns t.G n)
  | 0 => ⟨fun f xs r hr => by simp [orc] at hr, fun f xs x hr => by simp [orc] at hr⟩
  | n + 1 => ⟨(fun f xs r hr F a A s X vs Q E hF hn hA x0 hX hsys hav rl frm k => by
      simp only [orc, hF] at hr
      exact orc_run T (orc_ok T hS n) (hS F (List.mem_of_getElem? hF)) hF hn hA x0 hX hsys hav rl frm (by rw [hr]; exact fun q => nomatch q) (fun r' q => by rw [hr] at q; cases q; exact k) fun x q => by rw [hr] at q; cases q),
    fun f xs x hr F a A s X vs Q E hF hn hA x0 hX hsys hav rl frm k => by
      simp only [orc, hF] at hr
      exact orc_run T (orc_ok T hS n) (hS F (List.mem_of_getElem? hF)) hF hn hA x0 hX hsys hav rl frm (by rw [hr]; exact fun q => nomatch q) (fun r' q => by rw [hr] at q; cases q) fun x' q => by rw [hr] at q; cases q; exact k⟩
end Mine
-- MHook
set_option autoImplicit false
set_option linter.all false
set_option maxRecDepth 100000
namespace Mine
open PySem PySem.W PyProof.Rows

noncomputable def tyOf (s : Str) (l : List Ty) (n : Ty → Str) : Option Ty := l.find? fun t => n t == s
theorem hd_of (t : Ty) : tyOf (hdName t) [.int, .bool, .str, .tuple, .list, .unset, .nought, .great, .bad, .valueError] hdName = some t := by cases t <;> rfl
theorem ty_of (t : Ty) : tyOf (tyName t) [.int, .bool, .str, .tuple, .list, .unset, .nought, .great, .bad, .valueError] tyName = some t := by cases t <;> rfl
theorem hd_inj (a b : Ty) (h : hdName a = hdName b) : a = b := Option.some.inj ((hd_of a).symm.trans (h ▸ hd_of b))
theorem ty_inj (a b : Ty) (h : tyName a = tyName b) : a = b := Option.some.inj ((ty_of a).symm.trans (h ▸ ty_of b))
theorem caughtTy_is {x : EC} {t : Ty} {b : Bool} (h : excIs x t = .ok (.bool b)) : caughtTy (ecTy x) t = b := by
  unfold excIs at h
  cases q : Nat.ble 5 t.ctorIdx with
  | false => rw [q] at h; cases h
  | true => rw [q] at h; cases h; rfl
noncomputable def vOf (mg : Str → Option Value) (n : Str) : Value := (mg n).getD .none
noncomputable def mroV (mg : Str → Option Value) (p : Ty × List Str) : List Value := vOf mg (hdName p.1) :: (p.2.map (vOf mg) ++ bmV)
noncomputable def quietAt (h : Heap) (n : Str) : Bool := match h.clsAt mainGlobals n with
  | some (_, _, cd) => clsNames.tail.all fun n => (h.nsMap cd.ns n).isNone
  | none => false
noncomputable def isUn : Ty → Bool
  | .unset => true
  | _ => false
noncomputable def unTest (_ : Heap) (_ : List Str) : Bool := false
theorem unTest_of {h : Heap} {chain : List Str} (t : unTest h chain = true) : ∃ C, h.nsMap mainGlobals (hdName .unset) = some (.ref C) ∧ UnFact h C (chain.map (vOf (h.nsMap mainGlobals)) ++ bmV) := nomatch t
noncomputable def xOk (c : Cls) (h : Heap) (p : Ty × List Str) : Bool := cond (isUn p.1) (unTest h p.2 && (p.2 == [hdName .valueError]) && c.xs.all fun p' => cond (hdName p'.1 == hdName .valueError) p'.2.isEmpty true) (h.ownExcOk (hdName p.1) p.2 bmV "ValueError.__new__" && quietAt h (hdName p.1))
noncomputable def clsTest (c : Cls) (h : Heap) : Bool :=
  h.isNs mainGlobals && c.xs.all (fun p => xOk c h p && p.2.all (fun n => c.xs.any fun p' => hdName p'.1 == n && !isUn p'.1) &&
    c.xs.all (fun p' => (mroV (h.nsMap mainGlobals) p).contains (vOf (h.nsMap mainGlobals) (hdName p'.1)) == caughtTy p.1 p'.1) &&
    c.ks.all (fun t => (mroV (h.nsMap mainGlobals) p).contains (vOf (h.nsMap mainGlobals) (tyName t)) == caughtTy p.1 t)) &&
  c.ks.all fun t => match h.clsAt mainGlobals (tyName t) with
    | some (_, o, _) => decide (o.cls = .type "type")
    | none => false
structure ClsSays (c : Cls) (mg : Str → Option Value) (h : Heap) : Prop where
  g : h.Ns mainGlobals mg
  xs : ∀ p ∈ c.xs, ∃ C, CFact h mg (hdName p.1) C (p.2.map (vOf mg) ++ bmV)
  ks : ∀ t ∈ c.ks, ∃ D, mg (tyName t) = some (.ref D) ∧ ∃ o cd, h.get? D = some o ∧ o.cls = .type "type" ∧ o.data = .cls cd
  m : ∀ p ∈ c.xs, ∀ p' ∈ c.xs, (mroV mg p).contains (vOf mg (hdName p'.1)) = caughtTy p.1 p'.1
  un : ∀ p ∈ c.xs, p.1 = .unset → (∃ C, mg (hdName .unset) = some (.ref C) ∧ UnFact h C (p.2.map (vOf mg) ++ bmV)) ∧ p.2 = [hdName .valueError] ∧ (∀ p' ∈ c.xs, p'.1 = .valueError → p'.2 = []) ∧ ∃ p' ∈ c.xs, p'.1 = .valueError
  k : ∀ p ∈ c.xs, ∀ t ∈ c.ks, (mroV mg p).contains (vOf mg (tyName t)) = caughtTy p.1 t
theorem ownExc4 {h : Heap} {n : Str} {chain : List Str} (x : h.ownExcOk n chain bmV "ValueError.__new__" = true) (y : quietAt h n = true) : ∃ (C : Addr) (xc : XC), h.nsMap mainGlobals n = some (.ref C) ∧
    h.get? C = some (xc.obj C (chain.map (vOf (h.nsMap mainGlobals)) ++ bmV)) ∧ h.Ns xc.N (h.nsMap xc.N) ∧ ∀ n ∈ clsNames, h.nsMap xc.N n = none := by
  obtain ⟨C, N, nm, q, bs, hdct, sn, sub, ab, col, dd, k0, k1, k2, k3, k5, hb, hC, hN, hi⟩ := Heap.ownExc_of_ok x
  refine ⟨C, ⟨nm, q, N, bs, hdct, sn, sub, ab, col, dd, k0, k1, k2, k3, k5⟩, hb, hC, hN, fun m hm => ?_⟩
  unfold quietAt at y
  cases hf : h.clsAt mainGlobals n with
  | none => rw [hf] at y; cases y
  | some z =>
    obtain ⟨C', o', cd'⟩ := z
    rw [hf] at y
    obtain ⟨hn', ho', hd'⟩ := Heap.clsAt_spec hf
    rw [hb] at hn'
    obtain rfl : C = C' := by injection hn' with q1; injection q1
    rw [hC] at ho'
    obtain rfl := Option.some.inj ho'
    obtain rfl : _ = cd' := by injection hd'
    rcases List.mem_cons.mp hm with rfl | hm
    · exact hi
    · exact Option.isNone_iff_eq_none.mp (List.all_eq_true.mp y m hm)
theorem ownT_of {h : Heap} {c : Cls} (H : ∀ p ∈ c.xs, isUn p.1 = false → h.ownExcOk (hdName p.1) p.2 bmV "ValueError.__new__" = true ∧ quietAt h (hdName p.1) = true) : ∀ chain : List Str, (∀ n ∈ chain, ∃ p ∈ c.xs, hdName p.1 = n ∧ isUn p.1 = false) → OwnT h (chain.map (vOf (h.nsMap mainGlobals)) ++ bmV)
  | [], _ => .base
  | n :: r, hc => by
    obtain ⟨p, hp, rfl, hu⟩ := hc n (.head _)
    obtain ⟨C, xc, hb, hC, hN, hi⟩ := ownExc4 (H p hp hu).1 (H p hp hu).2
    rw [List.map_cons, List.cons_append, show vOf (h.nsMap mainGlobals) (hdName p.1) = .ref C by rw [vOf, hb]; rfl]
    exact .own hC hN hi (ownT_of H r fun m hm => hc m (.tail _ hm))
theorem says_of {c : Cls} {h : Heap} (t : clsTest c h = true) : ClsSays c (h.nsMap mainGlobals) h := by
  simp only [clsTest, Bool.and_eq_true, List.all_eq_true, List.any_eq_true, beq_iff_eq, Bool.not_eq_true'] at t
  obtain ⟨⟨t1, t2⟩, t3⟩ := t
  have H : ∀ p ∈ c.xs, isUn p.1 = false → h.ownExcOk (hdName p.1) p.2 bmV "ValueError.__new__" = true ∧ quietAt h (hdName p.1) = true := fun p hp q => by
    have := (t2 p hp).1.1.1
    unfold xOk at this
    rw [q] at this
    exact Bool.and_eq_true_iff.mp this
  have U : ∀ p ∈ c.xs, isUn p.1 = true → (∃ C, h.nsMap mainGlobals (hdName .unset) = some (.ref C) ∧ UnFact h C (p.2.map (vOf (h.nsMap mainGlobals)) ++ bmV)) ∧ p.2 = [hdName .valueError] ∧ ∀ p' ∈ c.xs, p'.1 = .valueError → p'.2 = [] := fun p hp q => by
    have := (t2 p hp).1.1.1
    unfold xOk at this
    rw [q, cond_true] at this
    have this := Bool.and_eq_true_iff.mp this
    have a := Bool.and_eq_true_iff.mp this.1
    refine ⟨unTest_of a.1, beq_iff_eq.mp a.2, fun p' hp' e => ?_⟩
    have b := List.all_eq_true.mp this.2 p' hp'
    rw [e, beq_self_eq_true, cond_true] at b
    exact List.isEmpty_iff.mp b
  refine ⟨.of_isNs t1, fun p hp => ?_, fun t ht => ?_, fun p hp p' hp' => (t2 p hp).1.2 p' hp', fun p hp e => ?_, fun p hp t ht => (t2 p hp).2 t ht⟩
  · have T := ownT_of H p.2 fun n hn => (t2 p hp).1.1.2 n hn
    cases hu : isUn p.1 with
    | true =>
      exact (U p hp hu).1.elim fun _ q => q.2.no.elim
    | false =>
      obtain ⟨C, xc, hb, hC, hN, hi⟩ := ownExc4 (H p hp hu).1 (H p hp hu).2
      exact ⟨C, hb, ⟨xc, _, hC, hN, fun n hn => hi n (.tail _ hn), fun _ => hi _ (.head _)⟩, T⟩
  · have := t3 t ht
    split at this
    · rename_i D o cd hf
      obtain ⟨h1, h2, h3⟩ := Heap.clsAt_spec hf
      exact ⟨D, h1, o, cd, h2, of_decide_eq_true this, h3⟩
    · cases this
  · obtain ⟨u1, u2, u3⟩ := U p hp (by rw [e]; rfl)
    obtain ⟨p', hp', e1, _⟩ := (t2 p hp).1.1.2 (hdName .valueError) (by rw [u2]; exact .head _)
    exact ⟨u1, u2, u3, p', hp', hd_inj _ _ e1⟩
noncomputable def clsHook (c : Cls) : Hook where
  α := Bool
  obs := fun s => clsTest c s.heap
  val := fun _ => true
  says := fun _ h => ∃ mg, ClsSays c mg h
  of := fun _ _ e => ⟨_, says_of e⟩
  keeps := fun _ _ _ ⟨mg, S⟩ k => ⟨mg, S.g.keeps k, fun p hp => (S.xs p hp).imp fun _ F => F.keeps k, fun t ht => let ⟨D, h1, o, cd, h2, h3⟩ := S.ks t ht; ⟨D, h1, o, cd, k _ _ h2, h3⟩, S.m, fun p hp e => let ⟨⟨C, a, b⟩, r⟩ := S.un p hp e; ⟨⟨C, a, b.keeps k⟩, r⟩, S.k⟩
open Classical in
noncomputable def cxOf (c : Cls) (mg : Str → Option Value) (t : Ty) : Option (Addr × List Value) :=
  if q : ∃ C p, p ∈ c.xs ∧ p.1 = t ∧ mg (hdName t) = some (.ref C) then some (q.choose, q.choose_spec.choose.2.map (vOf mg) ++ bmV) else none
theorem cxOf_spec {c : Cls} {mg : Str → Option Value} {t : Ty} {C : Addr} {bm : List Value} (h : cxOf c mg t = some (C, bm)) : ∃ p ∈ c.xs, p.1 = t ∧ mg (hdName t) = some (.ref C) ∧ bm = p.2.map (vOf mg) ++ bmV := by
  unfold cxOf at h
  split at h
  · rename_i q
    cases h
    have s := q.choose_spec.choose_spec
    exact ⟨_, s.1, s.2.1, s.2.2, rfl⟩
  · cases h
open Classical in
noncomputable def kxOf (c : Cls) (mg : Str → Option Value) (t : Ty) : Option Addr :=
  if q : ∃ D, t ∈ c.ks ∧ mg (tyName t) = some (.ref D) then some q.choose else none
theorem kxOf_spec {c : Cls} {mg : Str → Option Value} {t : Ty} {D : Addr} (h : kxOf c mg t = some D) : t ∈ c.ks ∧ mg (tyName t) = some (.ref D) := by
  unfold kxOf at h
  split at h
  · rename_i q
    cases h
    exact q.choose_spec
  · cases h
end Mine
-- MTop
set_option autoImplicit false
set_option linter.all false
set_option maxRecDepth 100000
namespace Mine
open PySem PySem.W PyProof.Rows

noncomputable def recOk (fnames gn xn kn : List Str) (F : MFn) (d : DefRec) : Bool :=
  d.name == F.name && fnOk fnames gn xn kn F (Calls.docDef d.name d.params d.body d.scope .none .none .none) d.body
theorem bi_boot : ∀ x v, (x, v) ∈ biNames → bootBuiltins x = some v := by
  intro x v h
  have : ∀ q ∈ biNames, bootBuiltins q.1 = some q.2 := by
    simp only [biNames, List.forall_mem_cons, List.forall_mem_nil]
    refine ⟨?_, ?_, ?_, ?_, ?_, ?_, ?_, ?_, ?_, ?_, ?_, ?_, ?_, ?_, fun _ h => nomatch h⟩ <;> with_unfolding_all rfl
  exact this (x, v) h
noncomputable def biFree (p : Program) (loose : List Str) : Bool := biNames.all fun q =>
  !(startupNames.contains q.1) && !(loose.contains q.1) && !(((recsOf p).map (·.name)).contains q.1) && !(((litsOf p).map (·.1)).contains q.1) && !(((clssOf p loose).map (·.name)).contains q.1) && decide (q.1 ≠ "__name__")
noncomputable def atom : D → Bool
  | .int _ | .str _ | .bool _ | .none => true
  | _ => false
section
variable {p : Program} {loose : List Str} {mean : ExcName → Option Value} {mg mb : Str → Option Value} {h : Heap} {prog : Program} {w : World} {fns : List MFn} {gn : List Str} {G : List D}

noncomputable def Cls.xn (c : Cls) : List Str := c.xs.map fun p => hdName p.1
noncomputable def Cls.kn (c : Cls) : List Str := c.ks.map tyName
theorem tx_ok {c : Cls} (CS : ClsSays c mg h) (hks : (c.ks.all fun t => !isVE t) = true) (T : Top p loose mean mg mb h) (hf : ∀ F ∈ fns, ∃ d ∈ recsOf p, recOk (fns.map (·.name)) gn c.xn c.kn F d = true) (hb : biFree p loose = true)
    (hg : ∀ (i : Nat) (x : Str) (d : D), gn[i]? = some x → G[i]? = some d → ∃ v, mg x = some v ∧ Rep prog w (· = sysModules) h v d) : Tx.Ok ⟨prog, w, fns, gn, G, mg, mb, h, (· = sysModules), cxOf c mg, kxOf c mg, c.xn, c.kn⟩ where
  g := T.g
  b := T.b
  lim := T.nolimit
  bi := fun x v hx => by
    have := List.all_eq_true.mp hb (x, v) hx
    simp only [Bool.and_eq_true, Bool.not_eq_true', decide_eq_true_eq, List.contains_eq_mem, decide_eq_false_iff_not] at this
    obtain ⟨⟨⟨⟨⟨h1, h2⟩, h3⟩, h4⟩, h5⟩, h6⟩ := this
    exact ⟨T.free x h1 h2 h3 h4 h5, (T.builtins x h6).trans (bi_boot x v hx)⟩
  fn := fun i F hF => by
    obtain ⟨d, hd, hr⟩ := hf F (List.mem_of_getElem? hF)
    simp only [recOk, Bool.and_eq_true, beq_iff_eq] at hr
    obtain ⟨a, o, pm, code, doc, h1, h2, h3, h4⟩ := T.fn d hd
    refine ⟨a, Calls.docDef d.name d.params d.body d.scope pm code doc, d.body, ?_, ⟨o, h2, h3⟩, rfl, h4, rfl, rfl, rfl, rfl, rfl, ?_⟩
    · rw [← hr.1]; exact h1
    · exact hr.2
  gl := hg
  xn := fun ty hx => by
    obtain ⟨p, hp, e⟩ := List.mem_map.mp (List.contains_iff_mem.mp hx)
    obtain rfl := hd_inj _ _ e
    obtain ⟨C, F⟩ := CS.xs p hp
    have q : ∃ C q, q ∈ c.xs ∧ q.1 = p.1 ∧ mg (hdName p.1) = some (.ref C) := ⟨C, p, hp, rfl, F.name⟩
    exact ⟨_, _, dif_pos q⟩
  kn := fun ty hx => by
    obtain ⟨t, ht, e⟩ := List.mem_map.mp (List.contains_iff_mem.mp hx)
    obtain rfl := ty_inj _ _ e
    obtain ⟨D, h1, _⟩ := CS.ks t ht
    have q : ∃ D, t ∈ c.ks ∧ mg (tyName t) = some (.ref D) := ⟨D, ht, h1⟩
    exact ⟨_, dif_pos q⟩
  cx := fun ty C bm hc => by
    obtain ⟨p, hp, rfl, h1, rfl⟩ := cxOf_spec hc
    obtain ⟨C', F⟩ := CS.xs p hp
    have := F.name
    rw [h1] at this
    cases this
    exact F
  cm := fun x ty C bm D bm' hc hd => by
    obtain ⟨p, hp, e1, h1, rfl⟩ := cxOf_spec hc
    obtain ⟨p', hp', rfl, h2, _⟩ := cxOf_spec hd
    have := CS.m p hp p' hp'
    rw [mroV, vOf, vOf, h2, e1, h1] at this
    exact this
  un := fun C bm hc => by
    obtain ⟨p, hp, e1, h1, rfl⟩ := cxOf_spec hc
    obtain ⟨⟨C', a, b⟩, u2, u3, p', hp', u4⟩ := CS.un p hp e1
    rw [h1] at a
    cases a
    obtain ⟨B, BF⟩ := CS.xs p' hp'
    have hB := BF.name
    rw [u4] at hB
    obtain ⟨B', bm', hcB⟩ : ∃ B bm, cxOf c mg .valueError = some (B, bm) := ⟨_, _, dif_pos ⟨B, p', hp', u4, hB⟩⟩
    obtain ⟨p2, hp2, v1, v2, v3⟩ := cxOf_spec hcB
    rw [hB] at v2
    cases v2
    refine ⟨b, B, ?_, ?_⟩
    · show cxOf c mg .valueError = _
      rw [hcB, v3, u3 p2 hp2 v1]; rfl
    · rw [u2]
      show vOf mg (hdName .valueError) :: ([] ++ bmV) = _
      rw [vOf, hB]; rfl
  kx := fun ty D hd => by
    obtain ⟨ht, h1⟩ := kxOf_spec hd
    obtain ⟨D', h2, r⟩ := CS.ks ty ht
    rw [h1] at h2
    cases h2
    exact ⟨h1, r⟩
  km := fun x ty C bm D b hc hd he => by
    obtain ⟨p, hp, e1, h1, rfl⟩ := cxOf_spec hc
    obtain ⟨ht, h2⟩ := kxOf_spec hd
    have := CS.k p hp ty ht
    rw [mroV, vOf, vOf, h2, e1, h1] at this
    exact this.trans (caughtTy_is he)
theorem rep_const (T : Top p loose mean mg mb h) {x : Str} {d : D} (hv : valOf p x = some d) (ha : atom d = true) : ∃ v, mg x = some v ∧ Rep prog w (· = sysModules) h v d := by
  obtain ⟨v, h1, h2⟩ := T.const x d hv
  refine ⟨v, h1, ?_⟩
  have r := h2 h
  cases d with
  | int i => cases r; exact .int _ _
  | str i => cases r; exact .str _ _
  | bool i => cases r; exact .bool _
  | none => cases r; exact .none
  | _ => cases ha
theorem rep_ints {P : Params} {X : Addr → Prop} {a : Addr} {xs : List Int} (W : Well P h (.ref a) (ofPy (.list (xs.map PyData.int)))) (nx : ¬ X a) : Rep prog w X h (.ref a) (.list (xs.map PyData.int)) := by
  simp only [ofPy] at W
  cases W with
  | list e r =>
    refine .list nx e ?_
    clear e
    rename_i vs
    induction xs generalizing vs with
    | nil => cases r; exact .nil
    | cons x xs ih =>
      simp only [List.map_cons, ofPys, ofPy] at r
      cases r with
      | cons r1 r2 => cases r1; exact .cons (.int _ _) (ih r2)
theorem well_list {P : Params} {a : Addr} {l : List D} (W : Well P h (.ref a) (ofPy (.list l))) : ∃ vs : List Value, h.get? a = some { cls := .type "list", data := .seq vs.toArray } := by
  simp only [ofPy] at W
  cases W with
  | list e r => exact ⟨_, e⟩
theorem law_run {c : Cls} (CS : ∃ mg, ClsSays c mg h) (hks : (c.ks.all fun t => !isVE t) = true) (T : Top p loose mean mg mb h) (hi : importsNone p = true) (hff : (fns.all fun F => (recsOf p).any (recOk (fns.map (·.name)) gn c.xn c.kn F)) = true) (hb : biFree p loose = true)
    (hg : ∀ (i : Nat) (x : Str) (d : D), gn[i]? = some x → G[i]? = some d → ∃ v, mg x = some v ∧ Rep prog w (· = sysModules) h v d) (hS : ∀ F ∈ fns, okS true F.body = true)
    {i : Nat} {F : MFn} {fa a : Addr} {xs : List Int} {P : Params} {s : Shared} (hs : s.heap = h) (hF : fns[i]? = some F) (hn : mg F.name = some (.ref fa)) (W : Well P h (.ref a) (ofPy (.list (xs.map PyData.int)))) {b : Bool}
    (hr : callF fns G 600 i [.list (xs.map PyData.int)] = .ok (.bool true, b)) {Q E : Value → Shared → Prop}
    (k : ∀ h' tk, Ext h h' → Q (.bool true) { s with heap := h', toks := tk }) : wpAny (model prog w) callerA (call (.ref fa) [.ref a]) Q E s := by
  subst hs
  have hf : ∀ F ∈ fns, ∃ d ∈ recsOf p, recOk (fns.map (·.name)) gn c.xn c.kn F d = true := fun F hF => by
    obtain ⟨d, hd, hr⟩ := List.any_eq_true.mp (List.all_eq_true.mp hff F hF)
    exact ⟨d, hd, hr⟩
  obtain ⟨mg', CS⟩ := CS
  obtain rfl := ns_same CS.g T.g
  have TX := tx_ok (prog := prog) (w := w) (G := G) CS hks T hf hb hg
  obtain ⟨mm, ⟨o, es, n, e1, e2, e3⟩, _⟩ := (T.seer hi).mods
  have nx : ¬ a = sysModules := fun q => by
    obtain ⟨vs, e⟩ := well_list W
    rw [q, e1] at e
    cases e
    simp at e2
  refine (orc_ok TX hS 600).fn i _ _ hr F fa callerA s (· = sysModules) [.ref a] Q E hF hn ⟨⟨by decide, by decide⟩, rfl⟩ (Ext.refl _) (fun b q => ⟨o, q ▸ e1, fun vs z => by rw [e2] at z; cases z⟩) rfl (fun b q => .inl q) (.cons (rep_ints W nx) .nil) ⟨⟨[], rfl, fun _ q => nomatch q⟩, fun b ⟨l, env, q1, q2, _⟩ => (by cases q1; cases q2), fun b ⟨l, env, q1, q2, _⟩ => (by cases q1; cases q2)⟩ fun v h' tk x1 r1 _ => ?_
  obtain rfl := r1.bool_inv
  exact k h' tk fun b o e => x1.get e fun ⟨l, env, q1, q2, _⟩ => (by cases q1; cases q2)
end

section
variable {c : ClaimW} {cl : Str → Option Addr} {mean : ExcName → Option Value} {args : List WData} {s₁ s' : Shared}
theorem good_bool {b : Bool} (k : Ext s₁.heap s'.heap) (hg : s'.gens = #[]) (hn : ∀ cls, c.raises args cls = false) (hp : c.post args (.bool b) args = true) (hos : s'.os = s₁.os) : GoodWG c cl mean args s₁ (.ok (.ret (.bool b))) s' :=
  GoodW.toG ⟨.inl ⟨_, _, [], rfl, hn, .bool b, hp, unshared_nil⟩, k, hos, hg⟩
end
end Mine
-- MTup
set_option autoImplicit false
set_option linter.all false
namespace Mine
open PySem PySem.W PyProof.Rows

end Mine
-- MW
set_option autoImplicit false
set_option linter.all false
namespace Mine
open PySem

noncomputable abbrev KD := D → Prop
noncomputable abbrev KS := SR → Prop
noncomputable def OkS (r : SR) (K : KS) : Prop := match r with
  | .stuck => False
  | r => K r
noncomputable def frW : Option Slot → KD → Prop
  | some (.fr d), k => k d
  | _, _ => False
noncomputable def ownW : Option Slot → KD → Prop
  | some (.own d), k => k d
  | _, _ => False
noncomputable def optW : Option D → KD → Prop
  | some d, k => k d
  | _, _ => False
noncomputable def lstW : D → (List D → Prop) → Prop
  | .list l, k => k l
  | _, _ => False
noncomputable def dctW : D → (List (D × D) → Prop) → Prop
  | .dict l, k => k l
  | _, _ => False
noncomputable def strW : D → (Str → Prop) → Prop
  | .str l, k => k l
  | _, _ => False
noncomputable def intW : D → (Int → Prop) → Prop
  | .int l, k => k l
  | _, _ => False
noncomputable def boolW : D → (Bool → Prop) → Prop
  | .bool b, k => k b
  | _, _ => False
inductive MulW (a b : Int) (k : KD) : Prop
  | mk (h1 : smallInt a = true) (h2 : smallInt b = true) (h : k (.int (a * b)))
inductive DivW (a b : Int) (k : KD) : Prop
  | pos (h1 : smallInt a = true) (h2 : smallInt b = true) (h3 : 0 < b) (h : k (.int (a / b)))
  | any (h1 : smallInt a = true) (h2 : smallInt b = true) (h3 : b ≠ 0) (h : k (.int (a.fdiv b)))
inductive ModW (a b : Int) (k : KD) : Prop
  | pos (h3 : 0 < b) (h : k (.int (a % b)))
  | any (h3 : b ≠ 0) (h : k (.int (a.fmod b)))
inductive IfW (p : Bool) (P : Prop) : Prop
  | mk (h : p = true) (k : P)
inductive CatW (a b : Str) (k : KD) : Prop
  | mk (h : Nat.ble (slen a + slen b) big = true) (hk : k (.str (sapp a b)))
inductive LcatW (a b : List D) (k : KD) : Prop
  | mk (h : Nat.ble (a.length + b.length) big = true) (hk : k (.list (a ++ b)))
inductive LenW (n : Nat) (k : KD) : Prop
  | mk (h : Nat.ble n big = true) (hk : k (.int n))
inductive GetW (r : R D) (k : KD) : Prop
  | mk (d : D) (h : r = .ok d) (hk : k d)
inductive AndW (t : Bool) (B : KD → Prop) (k : KD) : Prop
  | mk (y : Bool) (h : t = true → B (fun d => d = .bool y)) (hk : k (.bool (t && y)))
  | cas (h1 : t = true → B k) (h2 : t = false → k (.bool false))
inductive OrW (t : Bool) (B : KD → Prop) (k : KD) : Prop
  | mk (y : Bool) (h : t = false → B (fun d => d = .bool y)) (hk : k (.bool (t || y)))
  | cas (h1 : t = true → k (.bool true)) (h2 : t = false → B k)
inductive IteW (t : Bool) (A B : Prop) : Prop
  | mk (h1 : t = true → A) (h2 : t = false → B)
inductive CallW (O : Orc) (f : Nat) (esc : Bool) (xs : List D) (k : KD) : Prop
  | mk (d : D) (b : Bool) (h : O.fn f xs = .ok (d, b)) (ha : aliasOk esc xs d = true) (hk : k d)
inductive CallX (O : Orc) (f : Nat) (esc : Bool) (xs : List D) (k : KD) (kx : EC → Prop) : Prop
  | ok (d : D) (b : Bool) (h : O.fn f xs = .ok (d, b)) (ha : aliasOk esc xs d = true) (hk : k d)
  | ex (c : EC) (h : O.fn f xs = .exc c) (hk : kx c)
inductive DealW (r : Option (Env × List (D × D) × List (D × D))) (k : Env → List (D × D) → List (D × D) → Prop) : Prop
  | mk (ρ : Env) (a b : List (D × D)) (h : r = some (ρ, a, b)) (hk : k ρ a b)
inductive FreshW (O : Orc) (f : Nat) (xs : List D) (k : KD) : Prop
  | mk (d : D) (h : O.fn f xs = .ok (d, true)) (hf : freshOk d = true) (hk : k d)
inductive ForW (body : D → Env → SR) (l : Option (List D)) (ρ : Env) (K : KS) : Prop
  | mk (xs : List D) (h : l = some xs) (hb : Nat.ble xs.length big = true) (hk : OkS (forLoop body xs ρ) K)
noncomputable def ints2W (o : Operator) (x y : D) (f : Int → Int → Prop) (k : KD) : Prop := match asNum x with
  | some a => (match asNum y with | some b => f a b | none => GetW (binD o x y) k)
  | none => GetW (binD o x y) k
noncomputable def lstsW (x y : D) (k : KD) : Prop := match asLst x with
  | some a => (match asLst y with | some b => LcatW a b k | none => GetW (binD .Add x y) k)
  | none => GetW (binD .Add x y) k
noncomputable def addW (x y : D) (k : KD) : Prop := match asTxt x with
  | some a => (match asTxt y with | some b => CatW a b k | none => GetW (binD .Add x y) k)
  | none => (match asNum x with
    | some a => (match asNum y with | some b => k (.int (a + b)) | none => GetW (binD .Add x y) k)
    | none => lstsW x y k)
noncomputable def binW (op : Operator) (x y : D) (k : KD) : Prop := match op with
  | .Add => addW x y k
  | .Sub => ints2W .Sub x y (fun a b => k (.int (a - b))) k
  | .Mult => ints2W .Mult x y (fun a b => MulW a b k) k
  | .FloorDiv => ints2W .FloorDiv x y (fun a b => DivW a b k) k
  | .Mod => ints2W .Mod x y (fun a b => ModW a b k) k
  | op => GetW (binD op x y) k
noncomputable def int2W (o : CmpOp) (x y : D) (f : Int → Int → Prop) (k : KD) : Prop := match asInt x with
  | some a => (match asInt y with | some b => f a b | none => GetW (cmpD o x y) k)
  | none => GetW (cmpD o x y) k
noncomputable def eqW (o : CmpOp) (x y : D) (f : Int → Int → Prop) (g : Str → Str → Prop) (k : KD) : Prop := match asStr x with
  | some a => (match asStr y with | some b => g a b | none => GetW (cmpD o x y) k)
  | none => int2W o x y f k
noncomputable def inW (o : CmpOp) (x y : D) (g : Str → List (D × D) → Prop) (k : KD) : Prop := match asStr x with
  | some a => (match asDict y with | some b => g a b | none => GetW (cmpD o x y) k)
  | none => GetW (cmpD o x y) k
noncomputable def cmpW (op : CmpOp) (x y : D) (k : KD) : Prop := match op with
  | .Eq => eqW .Eq x y (fun a b => k (.bool (a == b))) (fun a b => k (.bool (a == b))) k
  | .NotEq => eqW .NotEq x y (fun a b => k (.bool (!(a == b)))) (fun a b => k (.bool (!(a == b)))) k
  | .Lt => int2W .Lt x y (fun a b => k (.bool (decide (a < b)))) k
  | .LtE => int2W .LtE x y (fun a b => k (.bool (decide (a ≤ b)))) k
  | .Gt => int2W .Gt x y (fun a b => k (.bool (decide (b < a)))) k
  | .GtE => int2W .GtE x y (fun a b => k (.bool (decide (b ≤ a)))) k
  | .In => inW .In x y (fun a kv => k (.bool (dget a kv).isSome)) k
  | .NotIn => inW .NotIn x y (fun a kv => k (.bool (!(dget a kv).isSome))) k
  | op => GetW (cmpD op x y) k
noncomputable def b1W (b : B1) (x : D) (k : KD) : Prop := match b, x with
  | .len, .list l => LenW l.length k
  | .len, .tuple l => LenW l.length k
  | .len, .str s => LenW (slen s) k
  | .int, .bool b => k (.int (if b then 1 else 0))
  | .abs, .int i => k (.int (if i < 0 then -i else i))
  | b, x => GetW (b1D b x) k
noncomputable def lim30 : Nat := 1073741823
noncomputable def idxW (x y : D) (k : KD) : Prop := match x, y with
  | .tuple l, .int (.ofNat n) => cond (Nat.ble n lim30) (optW l[n]? k) False
  | x, y => GetW (idxD x y) k
mutual
noncomputable def evW (O : Orc) (G : List D) (ρ : Env) : ME → KD → Prop
  | .var i, k => frW ρ[i]? k
  | .own i, k => ownW ρ[i]? k
  | .glob g, k => optW G[g]? k
  | .cint i, k => k (.int i)
  | .cstr s, k => k (.str s)
  | .cbool b, k => k (.bool b)
  | .cnone, k => k .none
  | .bin op a b, k => evW O G ρ a fun x => evW O G ρ b fun y => binW op x y k
  | .neg a, k => evW O G ρ a fun x => intW x fun i => k (.int (-i))
  | .nt a, k => evW O G ρ a fun x => boolW x fun b => k (.bool (!b))
  | .and a b, k => evW O G ρ a fun x => boolW x fun t => AndW t (evW O G ρ b) k
  | .or a b, k => evW O G ρ a fun x => boolW x fun t => OrW t (evW O G ρ b) k
  | .cmp op a b, k => evW O G ρ a fun x => evW O G ρ b fun y => cmpW op x y k
  | .cmp2 o1 o2 a b c, k => evW O G ρ a fun x => evW O G ρ b fun y => cmpW o1 x y fun u => boolW u fun t => AndW t (fun k => evW O G ρ c fun z => cmpW o2 y z k) k
  | .call f as, k => evsW O G ρ as fun xs => CallW O f as.esc xs k
  | .bi1 b a, k => evW O G ρ a fun x => b1W b x k
  | .bi2 b a c, k => evW O G ρ a fun x => evW O G ρ c fun y => GetW (b2D b x y) k
  | .isi a t, k => evW O G ρ a fun x => GetW (isiD x t) k
  | .find a b, k => evW O G ρ a fun x => evW O G ρ b fun y => GetW (findD x y) k
  | .idx a i, k => evW O G ρ a fun x => evW O G ρ i fun y => idxW x y k
  | .slice a lo hi, k => evW O G ρ a fun x => evoW O G ρ lo fun l => evoW O G ρ hi fun h => GetW (sliceD x l h) k
  | .tupD as, k => cond as.esc False (evsW O G ρ as fun xs => cond (Nat.ble xs.length big) (k (.tuple xs)) False)
  | .lstD as, k => cond as.esc False (evsW O G ρ as fun xs => cond (Nat.ble xs.length big) (k (.list xs)) False)
  | .dctD, k => k (.dict [])
noncomputable def evsW (O : Orc) (G : List D) (ρ : Env) : MEs → (List D → Prop) → Prop
  | .nil, k => k []
  | .cons a as, k => evW O G ρ a fun x => evsW O G ρ as fun xs => k (x :: xs)
noncomputable def evoW (O : Orc) (G : List D) (ρ : Env) : MO → (Option Int → Prop) → Prop
  | .none, k => k none
  | .some a, k => evW O G ρ a fun x => intW x fun i => k (some i)
end
mutual
noncomputable def evxW (O : Orc) (G : List D) (ρ : Env) (kx : EC → Prop) : ME → KD → Prop
  | .call f as, k => evxsW O G ρ kx as fun xs => CallX O f as.esc xs k kx
  | .tupD as, k => cond as.esc False (evxsW O G ρ kx as fun xs => cond (Nat.ble xs.length big) (k (.tuple xs)) False)
  | e, k => evW O G ρ e k
noncomputable def evxsW (O : Orc) (G : List D) (ρ : Env) (kx : EC → Prop) : MEs → (List D → Prop) → Prop
  | .nil, k => k []
  | .cons a as, k => evxW O G ρ kx a fun x => evxsW O G ρ kx as fun xs => k (x :: xs)
end

noncomputable def isNew : ME → Bool
  | .lstD _ | .dctD | .bi1 .dict _ => true
  | _ => false
noncomputable def thenW (P : Env → Prop) (K : KS) (r : SR) : Prop := match r with
  | .next ρ => P ρ
  | .stuck => False
  | r => K r
noncomputable def turnW (P : Env → Prop) (K : KS) (r : SR) : Prop := match r with
  | .next ρ => P ρ
  | .ret d b ρ => K (.ret d b ρ)
  | .exc c ρ => K (.exc c ρ)
  | .stuck => False
noncomputable def turnQ (P : Env → Prop) (K : KS) (r : SR) : Prop := match r with
  | .next ρ => P ρ
  | .ret d b ρ => K (.ret d b ρ)
  | _ => False
noncomputable def hdW (i : Option Nat) (K : KS) (r : SR) : Prop := match r with
  | .ret d b ρ => K (.ret d b ρ)
  | .next ρ => (match i with | none => K (.next ρ) | some _ => False)
  | _ => False
mutual
noncomputable def exW (O : Orc) (G : List D) : MS → Env → KS → Prop
  | .skip, ρ, K => K (.next ρ)
  | .seq a b, ρ, K => exW O G a ρ (thenW (fun ρ' => exW O G b ρ' K) K)
  | .asg i e, ρ, K => cond e.esc False (evW O G ρ e fun d => K (.next (ρ.set i (.fr d))))
  | .asgOwn i e, ρ, K => cond e.esc False (cond (isNew e) (evW O G ρ e fun d => K (.next (ρ.set i (.own d)))) False)
  | .asgFresh i f as, ρ, K => cond as.esc False (evsW O G ρ as fun xs => FreshW O f xs fun d => K (.next (ρ.set i (.own d))))
  | .append i e, ρ, K => cond e.esc False (ownW ρ[i]? fun o => lstW o fun l => evW O G ρ e fun d => IfW (Nat.blt l.length big) (K (.next (ρ.set i (.own (.list (l ++ [d])))))))
  | .store i k v, ρ, K => ownW ρ[i]? fun o => dctW o fun kv => evW O G ρ v fun y => evW O G ρ k fun x => strW x fun a => intW y fun b => IfW (Nat.blt kv.length big) (K (.next (ρ.set i (.own (.dict (dput a (.int b) kv))))))
  | .pop i k, ρ, K => ownW ρ[i]? fun o => dctW o fun kv => evW O G ρ k fun x => strW x fun a => IfW (Nat.ble kv.length big) (K (.next (ρ.set i (.own (.dict (ddel a kv))))))
  | .update i e, ρ, K => cond e.esc False (ownW ρ[i]? fun o => dctW o fun kv => evW O G ρ e fun x => dctW x fun kw => IfW (Nat.blt (kv.length + kw.length) big) (K (.next (ρ.set i (.own (.dict (dupd kv kw)))))))
  | .ite c a b, ρ, K => evW O G ρ c fun d => boolW d fun t => IteW t (exW O G a ρ K) (exW O G b ρ K)
  | .forL i e b, ρ, K => cond e.esc False (evW O G ρ e fun d => ForW (fun x ρ' => ex O G b (ρ'.set i (.fr x))) (itemsD d) ρ K)
  | .forR i lo hi b, ρ, K => evW O G ρ lo fun x => evW O G ρ hi fun y => intW x fun u => intW y fun v => IfW (idxInt u && idxInt v) (OkS (forLoop (fun x ρ' => ex O G b (ρ'.set i (.fr x))) (rangeD u v) ρ) K)
  | .loop c b, ρ, K => OkS (whileLoop (fun ρ' => ev O G ρ' c) (fun ρ' => ex O G b ρ') whileFuel ρ) K
  | .ret e, ρ, K => evW O G ρ e fun d => K (.ret d (isOwn e) ρ)
  | .retX e, ρ, K => cond e.esc False (evxW O G ρ (fun c => K (.exc c ρ)) e fun d => K (.ret d false ρ))
  | .raise t e, ρ, K => evW O G ρ e fun d => (match excTy t d with | .ok c => K (.exc c ρ) | _ => False)
  | .deal i cc j k e0 e b, ρ, K => cond (e0.esc || e.esc) False (evW O G (ρ.set i .unset) e0 fun d => evW O G ((ρ.set i .unset).set cc (.fr d)) e fun x => dctW x fun kv => IfW (Nat.ble kv.length big) (DealW (dealt cc j k kv ((ρ.set i .unset).set cc (.fr d)) [] []) fun ρ' a a' => exW O G b (ρ'.set i (.fr (.list [.dict a, .dict a']))) K))
  | .tryx b hs, ρ, K => exW O G b ρ fun r => (match r with | .exc c ρ' => exhW O G hs c ρ' K | .stuck => False | r => K r)
noncomputable def exhW (O : Orc) (G : List D) : MHs → EC → Env → KS → Prop
  | .nil, _, _, _ => False
  | .cons t i b hs, c, ρ, K => cond (caughtBy c t) (exW O G b (hdE i c ρ) (hdW i K)) (exhW O G hs c ρ K)
end

noncomputable def Okl {α : Type} (r : R α) (k : α → Prop) : Prop := match r with
  | .ok d => k d
  | _ => False
theorem Okl.bind {α β : Type} {r : R α} {f : α → R β} {P : α → Prop} {k : β → Prop} (h : Okl r P) (g : ∀ d, P d → Okl (f d) k) : Okl (r.bind f) k := by
  cases r with
  | ok a => exact g a h
  | exc c => exact h.elim
  | stuck => exact h.elim
theorem GetW.ok {r : R D} {k : KD} (h : GetW r k) : Okl r k := by
  obtain ⟨d, rfl, h⟩ := h; exact h
theorem Okl.get {α : Type} {r : R α} {k : α → Prop} (h : Okl r k) : ∃ d, r = .ok d ∧ k d := by
  cases r with
  | ok a => exact ⟨a, rfl, h⟩
  | exc c => exact h.elim
  | stuck => exact h.elim
theorem frW_ok {o : Option Slot} {k : KD} (h : frW o k) : Okl (match o with | some (.fr d) => .ok d | _ => .stuck) k := by
  match o, h with
  | some (.fr d), h => exact h
theorem ownW_ok {o : Option Slot} {k : KD} (h : ownW o k) : ∃ d, o = some (.own d) ∧ k d := by
  match o, h with
  | some (.own d), h => exact ⟨d, rfl, h⟩
theorem optW_ok {o : Option D} {k : KD} (h : optW o k) : ∃ d, o = some d ∧ k d := by
  cases o with
  | some d => exact ⟨d, rfl, h⟩
  | none => exact h.elim
theorem boolW_ok {x : D} {k : Bool → Prop} (h : boolW x k) : ∃ b, x = .bool b ∧ k b := by
  match x, h with
  | .bool b, h => exact ⟨b, rfl, h⟩
theorem intW_ok {x : D} {k : Int → Prop} (h : intW x k) : ∃ b, x = .int b ∧ k b := by
  match x, h with
  | .int b, h => exact ⟨b, rfl, h⟩
theorem strW_ok {x : D} {k : Str → Prop} (h : strW x k) : ∃ b, x = .str b ∧ k b := by
  match x, h with
  | .str b, h => exact ⟨b, rfl, h⟩
theorem lstW_ok {x : D} {k : List D → Prop} (h : lstW x k) : ∃ b, x = .list b ∧ k b := by
  match x, h with
  | .list b, h => exact ⟨b, rfl, h⟩
theorem dctW_ok {x : D} {k : List (D × D) → Prop} (h : dctW x k) : ∃ b, x = .dict b ∧ k b := by
  match x, h with
  | .dict b, h => exact ⟨b, rfl, h⟩
theorem cond_no {b : Bool} {P : Prop} (h : cond b False P) : b = false ∧ P := by
  cases b with
  | true => exact h.elim
  | false => exact ⟨rfl, h⟩
theorem cond_yes {b : Bool} {P : Prop} (h : cond b P False) : b = true ∧ P := by
  cases b with
  | false => exact h.elim
  | true => exact ⟨rfl, h⟩
theorem fdiv_eq {a b : Int} (h : 0 < b) : a.fdiv b = a / b := by rw [Int.fdiv_eq_ediv_of_nonneg _ (Int.le_of_lt h)]
theorem fmod_eq {a b : Int} (h : 0 < b) : a.fmod b = a % b := by rw [Int.fmod_eq_emod_of_nonneg _ (Int.le_of_lt h)]
theorem div_d {a b : Int} (h1 : smallInt a = true) (h2 : smallInt b = true) (h3 : b ≠ 0) : binD .FloorDiv (.int a) (.int b) = .ok (.int (a.fdiv b)) := by
  show (if (smallInt a && smallInt b && !(b == 0)) = true then _ else _) = _
  rw [h1, h2, beq_eq_false_iff_ne.mpr h3]; rfl
theorem mod_d {a b : Int} (h3 : b ≠ 0) : binD .Mod (.int a) (.int b) = .ok (.int (a.fmod b)) := by
  show (if (b == 0) = true then _ else _) = _
  rw [beq_eq_false_iff_ne.mpr h3]; rfl
theorem mul_d {a b : Int} (h1 : smallInt a = true) (h2 : smallInt b = true) : binD .Mult (.int a) (.int b) = .ok (.int (a * b)) := by
  show (if (smallInt a && smallInt b) = true then _ else _) = _
  rw [h1, h2]; rfl
theorem if_ble {α : Type} {n : Nat} {a b : α} (h : Nat.ble n big = true) : (if n ≤ big then a else b) = a := if_pos (Nat.le_of_ble_eq_true h)
theorem if_blt {α : Type} {n : Nat} {a b : α} (h : Nat.blt n big = true) : (if n < big then a else b) = a := if_pos (Nat.le_of_ble_eq_true h)
theorem asNum_of' {x : D} {a : Int} (h : asNum x = some a) : x = .int a := by cases x <;> first | (cases h; rfl) | cases h
theorem asTxt_of' {x : D} {a : Str} (h : asTxt x = some a) : x = .str a := by cases x <;> first | (cases h; rfl) | cases h
theorem asLst_of' {x : D} {a : List D} (h : asLst x = some a) : x = .list a := by cases x <;> first | (cases h; rfl) | cases h
theorem ints2_ok {o : Operator} {x y : D} {f : Int → Int → Prop} {k : KD} (hf : ∀ a b, f a b → Okl (binD o (.int a) (.int b)) k) (h : ints2W o x y f k) : Okl (binD o x y) k := by
  unfold ints2W at h
  cases hx : asNum x with
  | none => rw [hx] at h; exact h.ok
  | some a =>
    rw [hx] at h
    cases hy : asNum y with
    | none => rw [hy] at h; exact h.ok
    | some b =>
      rw [hy] at h
      rw [asNum_of' hx, asNum_of' hy]
      exact hf a b h
theorem addW_ok {x y : D} {k : KD} (h : addW x y k) : Okl (binD .Add x y) k := by
  unfold addW at h
  cases hx : asTxt x with
  | some a =>
    rw [hx] at h
    cases hy : asTxt y with
    | none => rw [hy] at h; exact h.ok
    | some b =>
      rw [hy] at h
      rw [asTxt_of' hx, asTxt_of' hy]
      obtain ⟨h1, h⟩ := h
      show Okl (if _ then _ else _) k
      rw [if_ble h1]; exact h
  | none =>
    rw [hx] at h
    cases hx : asNum x with
    | some a =>
      rw [hx] at h
      cases hy : asNum y with
      | none => rw [hy] at h; exact h.ok
      | some b =>
        rw [hy] at h
        rw [asNum_of' hx, asNum_of' hy]
        exact h
    | none =>
      rw [hx] at h
      change lstsW x y k at h
      unfold lstsW at h
      cases hx : asLst x with
      | none => rw [hx] at h; exact h.ok
      | some a =>
        rw [hx] at h
        cases hy : asLst y with
        | none => rw [hy] at h; exact h.ok
        | some b =>
          rw [hy] at h
          rw [asLst_of' hx, asLst_of' hy]
          obtain ⟨h1, h⟩ := h
          show Okl (if _ then _ else _) k
          rw [if_ble h1]; exact h
theorem binW_ok {op : Operator} {x y : D} {k : KD} (h : binW op x y k) : Okl (binD op x y) k := by
  cases op with
  | Add => exact addW_ok h
  | Sub => exact ints2_ok (fun _ _ h => h) h
  | Mult => exact ints2_ok (fun a b h => by obtain ⟨h1, h2, h⟩ := h; rw [mul_d h1 h2]; exact h) h
  | FloorDiv => exact ints2_ok (fun a b h => by
      rcases h with ⟨h1, h2, h3, h⟩ | ⟨h1, h2, h3, h⟩
      · rw [div_d h1 h2 (Int.ne_of_gt h3), fdiv_eq h3]; exact h
      · rw [div_d h1 h2 h3]; exact h) h
  | Mod => exact ints2_ok (fun a b h => by
      rcases h with ⟨h3, h⟩ | ⟨h3, h⟩
      · rw [mod_d (Int.ne_of_gt h3), fmod_eq h3]; exact h
      · rw [mod_d h3]; exact h) h
  | _ => exact GetW.ok h
theorem asInt_of {x : D} {a : Int} (h : asInt x = some a) : x = .int a := by cases x <;> first | (cases h; rfl) | cases h
theorem asStr_of {x : D} {a : Str} (h : asStr x = some a) : x = .str a := by cases x <;> first | (cases h; rfl) | cases h
theorem asDict_of {x : D} {a : List (D × D)} (h : asDict x = some a) : x = .dict a := by cases x <;> first | (cases h; rfl) | cases h
theorem int2_ok {o : CmpOp} {x y : D} {f : Int → Int → Prop} {k : KD} (hf : ∀ a b, f a b → Okl (cmpD o (.int a) (.int b)) k) (h : int2W o x y f k) : Okl (cmpD o x y) k := by
  unfold int2W at h
  cases hx : asInt x with
  | none => rw [hx] at h; exact h.ok
  | some a =>
    rw [hx] at h
    cases hy : asInt y with
    | none => rw [hy] at h; exact h.ok
    | some b =>
      rw [hy] at h
      rw [asInt_of hx, asInt_of hy]
      exact hf a b h
theorem eqW_ok {o : CmpOp} {x y : D} {f : Int → Int → Prop} {g : Str → Str → Prop} {k : KD} (hf : ∀ a b, f a b → Okl (cmpD o (.int a) (.int b)) k) (hg : ∀ a b, g a b → Okl (cmpD o (.str a) (.str b)) k) (h : eqW o x y f g k) : Okl (cmpD o x y) k := by
  unfold eqW at h
  cases hx : asStr x with
  | none => rw [hx] at h; exact int2_ok hf h
  | some a =>
    rw [hx] at h
    cases hy : asStr y with
    | none => rw [hy] at h; exact h.ok
    | some b =>
      rw [hy] at h
      rw [asStr_of hx, asStr_of hy]
      exact hg a b h
theorem inW_ok {o : CmpOp} {x y : D} {g : Str → List (D × D) → Prop} {k : KD} (hg : ∀ a b, g a b → Okl (cmpD o (.str a) (.dict b)) k) (h : inW o x y g k) : Okl (cmpD o x y) k := by
  unfold inW at h
  cases hx : asStr x with
  | none => rw [hx] at h; exact h.ok
  | some a =>
    rw [hx] at h
    cases hy : asDict y with
    | none => rw [hy] at h; exact h.ok
    | some b =>
      rw [hy] at h
      rw [asStr_of hx, asDict_of hy]
      exact hg a b h
theorem cmpW_ok {op : CmpOp} {x y : D} {k : KD} (h : cmpW op x y k) : Okl (cmpD op x y) k := by
  cases op with
  | Eq => exact eqW_ok (fun _ _ h => h) (fun _ _ h => h) h
  | NotEq => exact eqW_ok (fun _ _ h => h) (fun _ _ h => h) h
  | Lt => exact int2_ok (fun _ _ h => h) h
  | LtE => exact int2_ok (fun _ _ h => h) h
  | Gt => exact int2_ok (fun _ _ h => h) h
  | GtE => exact int2_ok (fun _ _ h => h) h
  | In => exact inW_ok (fun _ _ h => h) h
  | NotIn => exact inW_ok (fun _ _ h => h) h
  | _ => exact GetW.ok h
theorem len_ok {n : Nat} {k : KD} (h : LenW n k) : Okl (if n ≤ big then R.ok (PyData.int n) else .stuck) k := by
  obtain ⟨h1, h⟩ := h
  rw [if_ble h1]; exact h
theorem b1W_ok {b : B1} {x : D} {k : KD} (h : b1W b x k) : Okl (b1D b x) k := by
  cases b with
  | len =>
    cases x with
    | list l => exact len_ok h
    | tuple l => exact len_ok h
    | str l => exact len_ok h
    | _ => exact GetW.ok h
  | int =>
    cases x with
    | bool b => exact h
    | _ => exact GetW.ok h
  | abs =>
    cases x with
    | int i => exact h
    | _ => exact GetW.ok h
  | _ => exact GetW.ok h
theorem place_nat {n m : Nat} (h : n < m) : place (n : Int) m = some n := by
  unfold place
  rw [if_pos (Int.natCast_nonneg n), if_pos (by omega)]; rfl
theorem idxInt_nat {n : Nat} (h : n ≤ lim30) : idxInt (n : Int) = true := by
  simp only [lim30] at h
  simp only [idxInt, Bool.and_eq_true, decide_eq_true_eq]
  omega
theorem idx_at {l : List D} {i : Int} {n : Nat} {d : D} (h1 : idxInt i = true) (h2 : place i l.length = some n) (h3 : l[n]? = some d) : idxD (.tuple l) (.int i) = .ok d := by
  unfold idxD
  simp only [h1, h2, h3, if_true]
theorem Okl.of {α : Type} {r : R α} {k : α → Prop} : (∃ d, r = .ok d ∧ k d) → Okl r k := fun ⟨d, e, h⟩ => by rw [e]; exact h
theorem optW_tup {l : List D} {n : Nat} {k : KD} (h : optW l[n]? k) (hn : n ≤ lim30) : ∃ d, idxD (.tuple l) (.int (.ofNat n)) = .ok d ∧ k d := by
  rw [Int.ofNat_eq_natCast]
  obtain ⟨d, e, h⟩ := optW_ok h
  exact ⟨d, idx_at (idxInt_nat hn) (place_nat (List.getElem?_eq_some_iff.mp e).1) e, h⟩
theorem idxW_ok {x y : D} {k : KD} (h : idxW x y k) : ∃ d, idxD x y = .ok d ∧ k d := by
  unfold idxW at h
  split at h
  · exact optW_tup (cond_yes h).2 (Nat.le_of_ble_eq_true (cond_yes h).1)
  · exact h.ok.get
theorem and_ok {t : Bool} {r : R D} {B : KD → Prop} {k : KD} (hB : ∀ k, B k → Okl r k) (h : AndW t B k) : Okl (match PyData.bool t with | .bool true => r | .bool false => .ok (.bool false) | _ => .stuck) k := by
  rcases h with ⟨y, h1, h⟩ | ⟨h1, h2⟩
  · cases t with
    | false => exact h
    | true =>
      obtain ⟨d, e, rfl⟩ := (hB _ (h1 rfl)).get
      rw [e]; exact h
  · cases t with
    | false => exact h2 rfl
    | true => exact hB _ (h1 rfl)
theorem or_ok {t : Bool} {r : R D} {B : KD → Prop} {k : KD} (hB : ∀ k, B k → Okl r k) (h : OrW t B k) : Okl (match PyData.bool t with | .bool true => .ok (.bool true) | .bool false => r | _ => .stuck) k := by
  rcases h with ⟨y, h1, h⟩ | ⟨h1, h2⟩
  · cases t with
    | true => exact h
    | false =>
      obtain ⟨d, e, rfl⟩ := (hB _ (h1 rfl)).get
      rw [e]; exact h
  · cases t with
    | true => exact h1 rfl
    | false => exact hB _ (h2 rfl)
theorem if_no {α : Type} {b : Bool} {x y : α} (h : b = false) : (if b = true then x else y) = y := if_neg (by rw [h]; exact Bool.noConfusion)
section
variable {O : Orc} {G : List D} {ρ : Env}
mutual
theorem evW_ok : (m : ME) → (k : KD) → evW O G ρ m k → Okl (ev O G ρ m) k := fun m k h => by
  match m, h with
  | .var i, h => simp only [Zaa, evq_own, evq_glob, evq_cint, evq_cstr, evq_cbool, evq_cnone, Zab, evq_neg, evq_nt, evq_and, evq_or, evq_cmp, evq_cmp2, evq_call, evq_bi1, evq_bi2, evq_isi, evq_find, evq_idx, evq_slice, evq_tupD, evq_lstD, evq_dctD, ]; exact frW_ok h
  | .own i, h => obtain ⟨d, e, h⟩ := ownW_ok h; simp only [Zaa, evq_own, evq_glob, evq_cint, evq_cstr, evq_cbool, evq_cnone, Zab, evq_neg, evq_nt, evq_and, evq_or, evq_cmp, evq_cmp2, evq_call, evq_bi1, evq_bi2, evq_isi, evq_find, evq_idx, evq_slice, evq_tupD, evq_lstD, evq_dctD, e]; exact h
  | .glob g, h => obtain ⟨d, e, h⟩ := optW_ok h; simp only [Zaa, evq_own, evq_glob, evq_cint, evq_cstr, evq_cbool, evq_cnone, Zab, evq_neg, evq_nt, evq_and, evq_or, evq_cmp, evq_cmp2, evq_call, evq_bi1, evq_bi2, evq_isi, evq_find, evq_idx, evq_slice, evq_tupD, evq_lstD, evq_dctD, e]; exact h
  | .cint i, h => simp only [Zaa, evq_own, evq_glob, evq_cint, evq_cstr, evq_cbool, evq_cnone, Zab, evq_neg, evq_nt, evq_and, evq_or, evq_cmp, evq_cmp2, evq_call, evq_bi1, evq_bi2, evq_isi, evq_find, evq_idx, evq_slice, evq_tupD, evq_lstD, evq_dctD, ]; exact h
  | .cstr s, h => simp only [Zaa, evq_own, evq_glob, evq_cint, evq_cstr, evq_cbool, evq_cnone, Zab, evq_neg, evq_nt, evq_and, evq_or, evq_cmp, evq_cmp2, evq_call, evq_bi1, evq_bi2, evq_isi, evq_find, evq_idx, evq_slice, evq_tupD, evq_lstD, evq_dctD, ]; exact h
  | .cbool b, h => simp only [Zaa, evq_own, evq_glob, evq_cint, evq_cstr, evq_cbool, evq_cnone, Zab, evq_neg, evq_nt, evq_and, evq_or, evq_cmp, evq_cmp2, evq_call, evq_bi1, evq_bi2, evq_isi, evq_find, evq_idx, evq_slice, evq_tupD, evq_lstD, evq_dctD, ]; exact h
  | .cnone, h => simp only [Zaa, evq_own, evq_glob, evq_cint, evq_cstr, evq_cbool, evq_cnone, Zab, evq_neg, evq_nt, evq_and, evq_or, evq_cmp, evq_cmp2, evq_call, evq_bi1, evq_bi2, evq_isi, evq_find, evq_idx, evq_slice, evq_tupD, evq_lstD, evq_dctD, ]; exact h
  | .dctD, h => simp only [Zaa, evq_own, evq_glob, evq_cint, evq_cstr, evq_cbool, evq_cnone, Zab, evq_neg, evq_nt, evq_and, evq_or, evq_cmp, evq_cmp2, evq_call, evq_bi1, evq_bi2, evq_isi, evq_find, evq_idx, evq_slice, evq_tupD, evq_lstD, evq_dctD, ]; exact h
  | .bin op a b, h => simp only [Zaa, evq_own, evq_glob, evq_cint, evq_cstr, evq_cbool, evq_cnone, Zab, evq_neg, evq_nt, evq_and, evq_or, evq_cmp, evq_cmp2, evq_call, evq_bi1, evq_bi2, evq_isi, evq_find, evq_idx, evq_slice, evq_tupD, evq_lstD, evq_dctD, ]; exact (evW_ok a _ h).bind fun x h => (evW_ok b _ h).bind fun y h => binW_ok h
  | .neg a, h => simp only [Zaa, evq_own, evq_glob, evq_cint, evq_cstr, evq_cbool, evq_cnone, Zab, evq_neg, evq_nt, evq_and, evq_or, evq_cmp, evq_cmp2, evq_call, evq_bi1, evq_bi2, evq_isi, evq_find, evq_idx, evq_slice, evq_tupD, evq_lstD, evq_dctD, ]; exact (evW_ok a _ h).bind fun x h => by obtain ⟨i, rfl, h⟩ := intW_ok h; exact h
  | .nt a, h => simp only [Zaa, evq_own, evq_glob, evq_cint, evq_cstr, evq_cbool, evq_cnone, Zab, evq_neg, evq_nt, evq_and, evq_or, evq_cmp, evq_cmp2, evq_call, evq_bi1, evq_bi2, evq_isi, evq_find, evq_idx, evq_slice, evq_tupD, evq_lstD, evq_dctD, ]; exact (evW_ok a _ h).bind fun x h => by obtain ⟨i, rfl, h⟩ := boolW_ok h; exact h
  | .and a b, h => simp only [Zaa, evq_own, evq_glob, evq_cint, evq_cstr, evq_cbool, evq_cnone, Zab, evq_neg, evq_nt, evq_and, evq_or, evq_cmp, evq_cmp2, evq_call, evq_bi1, evq_bi2, evq_isi, evq_find, evq_idx, evq_slice, evq_tupD, evq_lstD, evq_dctD, ]; exact (evW_ok a _ h).bind fun x h => by obtain ⟨i, rfl, h⟩ := boolW_ok h; exact and_ok (evW_ok b) h
  | .or a b, h => simp only [Zaa, evq_own, evq_glob, evq_cint, evq_cstr, evq_cbool, evq_cnone, Zab, evq_neg, evq_nt, evq_and, evq_or, evq_cmp, evq_cmp2, evq_call, evq_bi1, evq_bi2, evq_isi, evq_find, evq_idx, evq_slice, evq_tupD, evq_lstD, evq_dctD, ]; exact (evW_ok a _ h).bind fun x h => by obtain ⟨i, rfl, h⟩ := boolW_ok h; exact or_ok (evW_ok b) h
  | .cmp op a b, h => simp only [Zaa, evq_own, evq_glob, evq_cint, evq_cstr, evq_cbool, evq_cnone, Zab, evq_neg, evq_nt, evq_and, evq_or, evq_cmp, evq_cmp2, evq_call, evq_bi1, evq_bi2, evq_isi, evq_find, evq_idx, evq_slice, evq_tupD, evq_lstD, evq_dctD, ]; exact (evW_ok a _ h).bind fun x h => (evW_ok b _ h).bind fun y h => cmpW_ok h
  | .cmp2 o1 o2 a b c, h =>
    simp only [Zaa, evq_own, evq_glob, evq_cint, evq_cstr, evq_cbool, evq_cnone, Zab, evq_neg, evq_nt, evq_and, evq_or, evq_cmp, evq_cmp2, evq_call, evq_bi1, evq_bi2, evq_isi, evq_find, evq_idx, evq_slice, evq_tupD, evq_lstD, evq_dctD, ]
    exact (evW_ok a _ h).bind fun x h => (evW_ok b _ h).bind fun y h => (cmpW_ok h).bind fun u h => by
      obtain ⟨i, rfl, h⟩ := boolW_ok h
      exact and_ok (fun k h => (evW_ok c _ h).bind fun z h => cmpW_ok h) h
  | .call f as, h =>
    simp only [Zaa, evq_own, evq_glob, evq_cint, evq_cstr, evq_cbool, evq_cnone, Zab, evq_neg, evq_nt, evq_and, evq_or, evq_cmp, evq_cmp2, evq_call, evq_bi1, evq_bi2, evq_isi, evq_find, evq_idx, evq_slice, evq_tupD, evq_lstD, evq_dctD, ]
    exact (evsW_ok as _ h).bind fun xs h => by
      obtain ⟨d, b, e, ha, h⟩ := h
      rw [e]
      show Okl (if _ then _ else _) k
      rw [if_pos ha]; exact h
  | .bi1 b a, h => simp only [Zaa, evq_own, evq_glob, evq_cint, evq_cstr, evq_cbool, evq_cnone, Zab, evq_neg, evq_nt, evq_and, evq_or, evq_cmp, evq_cmp2, evq_call, evq_bi1, evq_bi2, evq_isi, evq_find, evq_idx, evq_slice, evq_tupD, evq_lstD, evq_dctD, ]; exact (evW_ok a _ h).bind fun x h => b1W_ok h
  | .bi2 b a c, h => simp only [Zaa, evq_own, evq_glob, evq_cint, evq_cstr, evq_cbool, evq_cnone, Zab, evq_neg, evq_nt, evq_and, evq_or, evq_cmp, evq_cmp2, evq_call, evq_bi1, evq_bi2, evq_isi, evq_find, evq_idx, evq_slice, evq_tupD, evq_lstD, evq_dctD, ]; exact (evW_ok a _ h).bind fun x h => (evW_ok c _ h).bind fun y h => h.ok
  | .isi a t, h => simp only [Zaa, evq_own, evq_glob, evq_cint, evq_cstr, evq_cbool, evq_cnone, Zab, evq_neg, evq_nt, evq_and, evq_or, evq_cmp, evq_cmp2, evq_call, evq_bi1, evq_bi2, evq_isi, evq_find, evq_idx, evq_slice, evq_tupD, evq_lstD, evq_dctD, ]; exact (evW_ok a _ h).bind fun x h => h.ok
  | .find a b, h => simp only [Zaa, evq_own, evq_glob, evq_cint, evq_cstr, evq_cbool, evq_cnone, Zab, evq_neg, evq_nt, evq_and, evq_or, evq_cmp, evq_cmp2, evq_call, evq_bi1, evq_bi2, evq_isi, evq_find, evq_idx, evq_slice, evq_tupD, evq_lstD, evq_dctD, ]; exact (evW_ok a _ h).bind fun x h => (evW_ok b _ h).bind fun y h => h.ok
  | .idx a b, h => simp only [Zaa, evq_own, evq_glob, evq_cint, evq_cstr, evq_cbool, evq_cnone, Zab, evq_neg, evq_nt, evq_and, evq_or, evq_cmp, evq_cmp2, evq_call, evq_bi1, evq_bi2, evq_isi, evq_find, evq_idx, evq_slice, evq_tupD, evq_lstD, evq_dctD, ]; exact (evW_ok a _ h).bind fun x h => (evW_ok b _ h).bind fun y h => Okl.of (idxW_ok h)
  | .slice a lo hi, h => simp only [Zaa, evq_own, evq_glob, evq_cint, evq_cstr, evq_cbool, evq_cnone, Zab, evq_neg, evq_nt, evq_and, evq_or, evq_cmp, evq_cmp2, evq_call, evq_bi1, evq_bi2, evq_isi, evq_find, evq_idx, evq_slice, evq_tupD, evq_lstD, evq_dctD, ]; exact (evW_ok a _ h).bind fun x h => (evoW_ok lo _ h).bind fun y h => (evoW_ok hi _ h).bind fun z h => h.ok
  | .tupD as, h =>
    simp only [Zaa, evq_own, evq_glob, evq_cint, evq_cstr, evq_cbool, evq_cnone, Zab, evq_neg, evq_nt, evq_and, evq_or, evq_cmp, evq_cmp2, evq_call, evq_bi1, evq_bi2, evq_isi, evq_find, evq_idx, evq_slice, evq_tupD, evq_lstD, evq_dctD, ]
    obtain ⟨e, h⟩ := cond_no h
    rw [if_no e]
    exact (evsW_ok as _ h).bind fun xs h => by
      obtain ⟨e, h⟩ := cond_yes h
      rw [if_ble e]; exact h
  | .lstD as, h =>
    simp only [Zaa, evq_own, evq_glob, evq_cint, evq_cstr, evq_cbool, evq_cnone, Zab, evq_neg, evq_nt, evq_and, evq_or, evq_cmp, evq_cmp2, evq_call, evq_bi1, evq_bi2, evq_isi, evq_find, evq_idx, evq_slice, evq_tupD, evq_lstD, evq_dctD, ]
    obtain ⟨e, h⟩ := cond_no h
    rw [if_no e]
    exact (evsW_ok as _ h).bind fun xs h => by
      obtain ⟨e, h⟩ := cond_yes h
      rw [if_ble e]; exact h
theorem evsW_ok : (m : MEs) → (k : List D → Prop) → evsW O G ρ m k → Okl (evs O G ρ m) k := fun m k h => by
  match m, h with
  | .nil, h => simp only [evsq_nil, evsq_cons]; exact h
  | .cons a as, h => simp only [evsq_nil, evsq_cons]; exact (evW_ok a _ h).bind fun x h => (evsW_ok as _ h).bind fun xs h => h
theorem evoW_ok : (m : MO) → (k : Option Int → Prop) → evoW O G ρ m k → Okl (evo O G ρ m) k := fun m k h => by
  match m, h with
  | .none, h => simp only [evoq_none, evoq_some]; exact h
  | .some a, h => simp only [evoq_none, evoq_some]; exact (evW_ok a _ h).bind fun x h => by obtain ⟨i, rfl, h⟩ := intW_ok h; exact h
end
end
end Mine
-- MW2
set_option autoImplicit false
set_option linter.all false
namespace Mine
open PySem

theorem OkS.then {r : SR} {f : Env → SR} {P : Env → Prop} {K : KS} (h : OkS r (thenW P K)) (g : ∀ ρ, P ρ → OkS (f ρ) K) : OkS (r.then f) K := by
  cases r with
  | next ρ => exact g ρ h
  | ret d b ρ => exact h
  | exc c ρ => exact h
  | stuck => exact h
theorem OkS.of {α : Type} {r : R α} {ρ : Env} {f : α → SR} {P : α → Prop} {K : KS} (h : Okl r P) (g : ∀ d, P d → OkS (f d) K) : OkS (SR.of r ρ f) K := by
  cases r with
  | ok d => exact g d h
  | exc c => exact h.elim
  | stuck => exact h.elim
noncomputable def Okx {α : Type} (r : R α) (kx : EC → Prop) (k : α → Prop) : Prop := match r with
  | .ok d => k d
  | .exc c => kx c
  | .stuck => False
theorem Okx.bind {α β : Type} {r : R α} {f : α → R β} {kx : EC → Prop} {P : α → Prop} {k : β → Prop} (h : Okx r kx P) (g : ∀ d, P d → Okx (f d) kx k) : Okx (r.bind f) kx k := by
  cases r with
  | ok a => exact g a h
  | exc c => exact h
  | stuck => exact h
theorem OkS.ox {r : R D} {ρ : Env} {f : D → SR} {kx : EC → Prop} {P : KD} {K : KS} (h : Okx r kx P) (hx : ∀ c, kx c → K (.exc c ρ)) (g : ∀ d, P d → OkS (f d) K) : OkS (SR.ox r ρ f) K := by
  cases r with
  | ok d => exact g d h
  | exc c => exact hx c h
  | stuck => exact h.elim
theorem turnW_ok {r : SR} {f : Env → SR} {P : Env → Prop} {K : KS} (h : OkS r (turnW P K)) (g : ∀ ρ, P ρ → OkS (f ρ) K) : OkS (r.then f) K := by
  cases r with
  | next ρ => exact g ρ h
  | ret d b ρ => exact h
  | exc c ρ => exact h
  | stuck => exact h
theorem turnQ_ok {r : SR} {f : Env → SR} {P : Env → Prop} {K : KS} (h : OkS r (turnQ P K)) (g : ∀ ρ, P ρ → OkS (f ρ) K) : OkS (r.thenQ f) K := by
  cases r with
  | next ρ => exact g ρ h
  | ret d b ρ => exact h
  | exc c ρ => exact h.elim
  | stuck => exact h
theorem Okx.of {r : R D} {kx : EC → Prop} {k : KD} (h : Okl r k) : Okx r.q kx k := by
  cases r with
  | ok d => exact h
  | exc c => exact h.elim
  | stuck => exact h.elim
section
variable {O : Orc} {G : List D} {ρ : Env} {kx : EC → Prop}
mutual
theorem evxW_ok : (m : ME) → (k : KD) → evxW O G ρ kx m k → Okx (evx O G ρ m) kx k
  | .call f as, k, h => by
    simp only [evxq_call, evxq_tupD]
    exact (evxsW_ok as _ h).bind fun xs h => by
      rcases h with ⟨d, b, e, ha, h⟩ | ⟨c, e, h⟩
      · rw [e]
        show Okx (if _ then _ else _) kx k
        rw [if_pos ha]; exact h
      · rw [e]; exact h
  | .tupD as, k, h => by
    simp only [evxq_call, evxq_tupD]
    obtain ⟨e, h⟩ := cond_no h
    rw [if_no e]
    exact (evxsW_ok as _ h).bind fun xs h => by
      obtain ⟨e, h⟩ := cond_yes h
      rw [if_ble e]; exact h
  | .var i, k, h => Okx.of (evW_ok _ k h)
  | .own i, k, h => Okx.of (evW_ok _ k h)
  | .glob i, k, h => Okx.of (evW_ok _ k h)
  | .cint i, k, h => Okx.of (evW_ok _ k h)
  | .cstr i, k, h => Okx.of (evW_ok _ k h)
  | .cbool i, k, h => Okx.of (evW_ok _ k h)
  | .cnone, k, h => Okx.of (evW_ok _ k h)
  | .dctD, k, h => Okx.of (evW_ok _ k h)
  | .bin a b c, k, h => Okx.of (evW_ok (.bin a b c) k h)
  | .neg a, k, h => Okx.of (evW_ok (.neg a) k h)
  | .nt a, k, h => Okx.of (evW_ok (.nt a) k h)
  | .and a b, k, h => Okx.of (evW_ok (.and a b) k h)
  | .or a b, k, h => Okx.of (evW_ok (.or a b) k h)
  | .cmp a b c, k, h => Okx.of (evW_ok (.cmp a b c) k h)
  | .cmp2 a b c d e, k, h => Okx.of (evW_ok (.cmp2 a b c d e) k h)
  | .bi1 a b, k, h => Okx.of (evW_ok (.bi1 a b) k h)
  | .bi2 a b c, k, h => Okx.of (evW_ok (.bi2 a b c) k h)
  | .isi a b, k, h => Okx.of (evW_ok (.isi a b) k h)
  | .find a b, k, h => Okx.of (evW_ok (.find a b) k h)
  | .idx a b, k, h => Okx.of (evW_ok (.idx a b) k h)
  | .slice a b c, k, h => Okx.of (evW_ok (.slice a b c) k h)
  | .lstD a, k, h => Okx.of (evW_ok (.lstD a) k h)
theorem evxsW_ok : (m : MEs) → (k : List D → Prop) → evxsW O G ρ kx m k → Okx (evxs O G ρ m) kx k
  | .nil, k, h => by simp only [evxsq_nil, evxsq_cons]; exact h
  | .cons a as, k, h => by simp only [evxsq_nil, evxsq_cons]; exact (evxW_ok a _ h).bind fun x h => (evxsW_ok as _ h).bind fun xs h => h
end
end

section
variable {O : Orc} {G : List D}
theorem isNew_ex {e : ME} (h : isNew e = true) (he : e.esc = false) (i : Nat) (ρ : Env) : ex O G (.asgOwn i e) ρ = SR.of (ev O G ρ e) ρ fun d => .next (ρ.set i (.own d)) := by
  simp only [exq_skip, exq_seq, exq_asg, exq_asgOwn, exq_asgFresh, exq_append, exq_store, exq_pop, exq_update, exq_ite, exq_forL, exq_forR, exq_loop, exq_ret, exq_retX, exq_raise, exq_tryx]
  rw [if_no he]
  unfold isNew at h
  split at h
  · rfl
  · rfl
  · rfl
  · cases h
mutual
theorem exW_ok : (m : MS) → (ρ : Env) → (K : KS) → exW O G m ρ K → OkS (ex O G m ρ) K := fun m ρ K h => by
  match m, h with
  | .skip, h => simp only [exq_skip, exq_seq, exq_asg, exq_asgOwn, exq_asgFresh, exq_append, exq_store, exq_pop, exq_update, exq_ite, exq_forL, exq_forR, exq_loop, exq_ret, exq_retX, exq_raise, exq_tryx]; exact h
  | .seq a b, h => simp only [exq_skip, exq_seq, exq_asg, exq_asgOwn, exq_asgFresh, exq_append, exq_store, exq_pop, exq_update, exq_ite, exq_forL, exq_forR, exq_loop, exq_ret, exq_retX, exq_raise, exq_tryx]; exact (exW_ok a ρ _ h).then fun ρ' h => exW_ok b ρ' K h
  | .asg i e, h => obtain ⟨q, h⟩ := cond_no h; simp only [exq_skip, exq_seq, exq_asg, exq_asgOwn, exq_asgFresh, exq_append, exq_store, exq_pop, exq_update, exq_ite, exq_forL, exq_forR, exq_loop, exq_ret, exq_retX, exq_raise, exq_tryx]; rw [if_no q]; exact .of (evW_ok e _ h) fun d h => h
  | .asgOwn i e, h =>
    obtain ⟨q, h⟩ := cond_no h
    obtain ⟨n, h⟩ := cond_yes h
    rw [isNew_ex n q]
    exact .of (evW_ok e _ h) fun d h => h
  | .asgFresh i f as, h =>
    obtain ⟨q, h⟩ := cond_no h
    simp only [exq_skip, exq_seq, exq_asg, exq_asgOwn, exq_asgFresh, exq_append, exq_store, exq_pop, exq_update, exq_ite, exq_forL, exq_forR, exq_loop, exq_ret, exq_retX, exq_raise, exq_tryx]; rw [if_no q]
    exact .of (evsW_ok as _ h) fun xs h => by
      obtain ⟨d, e, hf, h⟩ := h
      rw [e]
      show OkS (if (true && freshOk d) = true then _ else _) K
      rw [hf]; exact h
  | .append i e, h =>
    obtain ⟨q, h⟩ := cond_no h
    obtain ⟨o, q2, h⟩ := ownW_ok h
    obtain ⟨l, rfl, h⟩ := lstW_ok h
    simp only [exq_skip, exq_seq, exq_asg, exq_asgOwn, exq_asgFresh, exq_append, exq_store, exq_pop, exq_update, exq_ite, exq_forL, exq_forR, exq_loop, exq_ret, exq_retX, exq_raise, exq_tryx, q2]; rw [if_no q]
    exact .of (evW_ok e _ h) fun d h => by
      obtain ⟨q, h⟩ := h
      rw [if_blt q]; exact h
  | .store i k v, h =>
    obtain ⟨o, q2, h⟩ := ownW_ok h
    obtain ⟨l, rfl, h⟩ := dctW_ok h
    simp only [exq_skip, exq_seq, exq_asg, exq_asgOwn, exq_asgFresh, exq_append, exq_store, exq_pop, exq_update, exq_ite, exq_forL, exq_forR, exq_loop, exq_ret, exq_retX, exq_raise, exq_tryx, q2]
    exact .of (evW_ok v _ h) fun y h => .of (evW_ok k _ h) fun x h => by
      obtain ⟨a, rfl, h2⟩ := strW_ok h
      obtain ⟨b, rfl, q, h3⟩ := intW_ok h2
      show OkS (if _ then _ else _) K
      rw [if_blt q]; exact h3
  | .pop i k, h =>
    obtain ⟨o, q2, h⟩ := ownW_ok h
    obtain ⟨l, rfl, h⟩ := dctW_ok h
    simp only [exq_skip, exq_seq, exq_asg, exq_asgOwn, exq_asgFresh, exq_append, exq_store, exq_pop, exq_update, exq_ite, exq_forL, exq_forR, exq_loop, exq_ret, exq_retX, exq_raise, exq_tryx, q2]
    exact .of (evW_ok k _ h) fun x h => by
      obtain ⟨a, rfl, q, h⟩ := strW_ok h
      show OkS (if _ then _ else _) K
      rw [if_ble q]; exact h
  | .update i e, h =>
    obtain ⟨q, h⟩ := cond_no h
    obtain ⟨o, q2, h⟩ := ownW_ok h
    obtain ⟨l, rfl, h⟩ := dctW_ok h
    simp only [exq_skip, exq_seq, exq_asg, exq_asgOwn, exq_asgFresh, exq_append, exq_store, exq_pop, exq_update, exq_ite, exq_forL, exq_forR, exq_loop, exq_ret, exq_retX, exq_raise, exq_tryx, q2]; rw [if_no q]
    exact .of (evW_ok e _ h) fun x h => by
      obtain ⟨a, rfl, h⟩ := dctW_ok h
      obtain ⟨q, h⟩ := h
      show OkS (if _ then _ else _) K
      rw [if_blt q]; exact h
  | .ite c a b, h =>
    simp only [exq_skip, exq_seq, exq_asg, exq_asgOwn, exq_asgFresh, exq_append, exq_store, exq_pop, exq_update, exq_ite, exq_forL, exq_forR, exq_loop, exq_ret, exq_retX, exq_raise, exq_tryx]
    exact .of (evW_ok c _ h) fun d h => by
      obtain ⟨t, rfl, h⟩ := boolW_ok h
      obtain ⟨h1, h2⟩ := h
      cases t with
      | true => exact exW_ok a ρ K (h1 rfl)
      | false => exact exW_ok b ρ K (h2 rfl)
  | .forL i e b, h =>
    obtain ⟨q, h⟩ := cond_no h
    simp only [exq_skip, exq_seq, exq_asg, exq_asgOwn, exq_asgFresh, exq_append, exq_store, exq_pop, exq_update, exq_ite, exq_forL, exq_forR, exq_loop, exq_ret, exq_retX, exq_raise, exq_tryx]; rw [if_no q]
    exact .of (evW_ok e _ h) fun d h => by
      obtain ⟨xs, e, hb, h⟩ := h
      simp only [e]
      rw [if_ble hb]; exact h
  | .forR i lo hi b, h =>
    simp only [exq_skip, exq_seq, exq_asg, exq_asgOwn, exq_asgFresh, exq_append, exq_store, exq_pop, exq_update, exq_ite, exq_forL, exq_forR, exq_loop, exq_ret, exq_retX, exq_raise, exq_tryx]
    exact .of (evW_ok lo _ h) fun x h => .of (evW_ok hi _ h) fun y h => by
      obtain ⟨u, rfl, h2⟩ := intW_ok h
      obtain ⟨v, rfl, q, h3⟩ := intW_ok h2
      show OkS (if _ then _ else _) K
      rw [if_pos q]; exact h3
  | .loop c b, h => simp only [exq_skip, exq_seq, exq_asg, exq_asgOwn, exq_asgFresh, exq_append, exq_store, exq_pop, exq_update, exq_ite, exq_forL, exq_forR, exq_loop, exq_ret, exq_retX, exq_raise, exq_tryx]; exact h
  | .ret e, h => simp only [exq_skip, exq_seq, exq_asg, exq_asgOwn, exq_asgFresh, exq_append, exq_store, exq_pop, exq_update, exq_ite, exq_forL, exq_forR, exq_loop, exq_ret, exq_retX, exq_raise, exq_tryx]; exact .of (evW_ok e _ h) fun d h => h
  | .retX e, h => obtain ⟨q, h⟩ := cond_no h; simp only [exq_skip, exq_seq, exq_asg, exq_asgOwn, exq_asgFresh, exq_append, exq_store, exq_pop, exq_update, exq_ite, exq_forL, exq_forR, exq_loop, exq_ret, exq_retX, exq_raise, exq_tryx]; rw [if_no q]; exact .ox (evxW_ok e _ h) (fun c h => h) fun d h => h
  | .raise t e, h =>
    simp only [exq_skip, exq_seq, exq_asg, exq_asgOwn, exq_asgFresh, exq_append, exq_store, exq_pop, exq_update, exq_ite, exq_forL, exq_forR, exq_loop, exq_ret, exq_retX, exq_raise, exq_tryx]
    exact .of (evW_ok e _ h) fun d h => by
      cases hx : excTy t d with
      | ok c => rw [hx] at h; exact h
      | exc c => rw [hx] at h; exact h.elim
      | stuck => rw [hx] at h; exact h.elim
  | .deal i cc j k e0 e b, h =>
    obtain ⟨q, h⟩ := cond_no h
    simp only [exq_deal]; rw [if_no q]
    exact .of (evW_ok e0 _ h) fun d h => .of (evW_ok e _ h) fun x h => by
      obtain ⟨kv, rfl, h⟩ := dctW_ok h
      obtain ⟨q, ρ', a, a', h1, h⟩ := h
      show OkS (if _ then _ else _) K
      rw [if_ble q, h1]
      exact exW_ok b _ K h
  | .tryx b hs, h =>
    have h2 := exW_ok b ρ _ h
    simp only [exq_skip, exq_seq, exq_asg, exq_asgOwn, exq_asgFresh, exq_append, exq_store, exq_pop, exq_update, exq_ite, exq_forL, exq_forR, exq_loop, exq_ret, exq_retX, exq_raise, exq_tryx]
    cases hr : ex O G b ρ with
    | next ρ' => rw [hr] at h2; exact h2
    | ret d b ρ' => rw [hr] at h2; exact h2
    | exc c ρ' => rw [hr] at h2; exact exhW_ok hs c ρ' K h2
    | stuck => rw [hr] at h2; exact h2
theorem exhW_ok : (m : MHs) → (c : EC) → (ρ : Env) → (K : KS) → exhW O G m c ρ K → OkS (exh O G m c ρ) K := fun m c ρ K h => by
  match m, h with
  | .nil, h => exact h.elim
  | .cons t i b hs, h =>
    simp only [exhq_nil, exhq_cons]
    have h : cond (caughtBy c t) (exW O G b (hdE i c ρ) (hdW i K)) (exhW O G hs c ρ K) := h
    cases hc : caughtBy c t with
    | false => rw [hc] at h; rw [if_neg Bool.false_ne_true]; exact exhW_ok hs c ρ K h
    | true =>
      rw [hc] at h
      have h2 := exW_ok b _ _ h
      rw [if_pos rfl]
      cases hr : ex O G b (hdE i c ρ) with
      | next ρ' =>
        rw [hr] at h2
        cases i with
        | none => exact h2
        | some k => exact h2.elim
      | ret d b ρ' => rw [hr] at h2; exact h2
      | exc c ρ' => rw [hr] at h2; exact h2.elim
      | stuck => rw [hr] at h2; exact h2.elim
end
end

section
variable {O : Orc} {G : List D} {K : KS}
theorem for_ok {body : D → Env → SR} (I : List D → Env → Prop) (hs : ∀ x xs ρ, I (x :: xs) ρ → OkS (body x ρ) (turnW (I xs) K)) (he : ∀ ρ, I [] ρ → K (.next ρ)) : ∀ (xs : List D) (ρ : Env), I xs ρ → OkS (forLoop body xs ρ) K
  | [], ρ, h => he ρ h
  | x :: xs, ρ, h => turnW_ok (hs x xs ρ h) fun ρ' h => for_ok I hs he xs ρ' h
theorem OkS.get {r : SR} (h : OkS r K) : K r := by
  cases r with
  | stuck => exact h.elim
  | _ => exact h
theorem forW (I : List D → Env → Prop) {i : Nat} {b : MS} {xs : List D} {ρ : Env} (h0 : I xs ρ) (hs : ∀ x xs ρ, I (x :: xs) ρ → exW O G b (ρ.set i (.fr x)) (turnW (I xs) K)) (he : ∀ ρ, I [] ρ → K (.next ρ)) :
    OkS (forLoop (fun x ρ' => ex O G b (ρ'.set i (.fr x))) xs ρ) K :=
  (for_ok I (fun x xs ρ h => exW_ok b _ _ (hs x xs ρ h)) he xs ρ h0)
theorem while_ok {c : ME} {b : MS} (I : Nat → Env → Prop) (hs : ∀ n ρ, I n ρ → evW O G ρ c fun d => boolW d fun t => IteW t (exW O G b ρ (turnQ (fun ρ' => ∃ m, m < n ∧ I m ρ') K)) (K (.next ρ))) :
    ∀ (f n : Nat) (ρ : Env), n < f → I n ρ → OkS (whileLoop (fun ρ' => ev O G ρ' c) (fun ρ' => ex O G b ρ') f ρ) K
  | 0, n, ρ, hf, _ => absurd hf (Nat.not_lt_zero n)
  | f + 1, n, ρ, hf, h => by
    simp only [whileLoop]
    exact .of (evW_ok c _ (hs n ρ h)) fun d h => by
      obtain ⟨t, rfl, h1, h2⟩ := boolW_ok h
      cases t with
      | false => exact h2 rfl
      | true => exact turnQ_ok (exW_ok b ρ _ (h1 rfl)) fun ρ' ⟨m, hm, h⟩ => while_ok I hs f m ρ' (Nat.lt_of_lt_of_le hm (Nat.le_of_lt_succ hf)) h
theorem whileW {c : ME} {b : MS} (I : Nat → Env → Prop) {n : Nat} {ρ : Env} (hn : n < 1000000) (h0 : I n ρ) (hs : ∀ n ρ, I n ρ → evW O G ρ c fun d => boolW d fun t => IteW t (exW O G b ρ (turnQ (fun ρ' => ∃ m, m < n ∧ I m ρ') K)) (K (.next ρ))) :
    OkS (whileLoop (fun ρ' => ev O G ρ' c) (fun ρ' => ex O G b ρ') whileFuel ρ) K :=
  while_ok I hs whileFuel n ρ hn h0
end

noncomputable def retW (P : D → Bool → Prop) (r : SR) : Prop := match r with
  | .ret d b _ => P d b
  | .next _ => P .none false
  | _ => False
noncomputable def finS : SR → R (D × Bool)
  | .next _ => .ok (.none, false)
  | .ret d b _ => .ok (d, b)
  | .exc c _ => .exc c
  | .stuck => .stuck
theorem orc_fin {fns : List MFn} {G : List D} {n i : Nat} {F : MFn} {ds : List D} (h : fns[i]? = some F) (hl : ds.length = F.args) : (orc fns G (n + 1)).fn i ds = finS (ex (orc fns G n) G F.body (initEnv F ds)) := by
  simp only [orc, h, runF, if_pos hl]
  cases ex (orc fns G n) G F.body (initEnv F ds) <;> rfl
theorem fnW {fns : List MFn} {G : List D} {n i : Nat} (F : MFn) (ρ : Env) {ds : List D} {P : D → Bool → Prop} (h : fns[i]? = some F) (hl : ds.length = F.args) (hρ : initEnv F ds = ρ) (hw : exW (orc fns G n) G F.body ρ (retW P)) : ∃ d b, (orc fns G (n + 1)).fn i ds = .ok (d, b) ∧ P d b := by
  rw [orc_fin h hl, hρ]
  have := (exW_ok _ _ _ hw).get
  cases hr : ex (orc fns G n) G F.body ρ with
  | next ρ' => rw [hr] at this; exact ⟨_, _, rfl, this⟩
  | ret d b ρ' => rw [hr] at this; exact ⟨_, _, rfl, this⟩
  | exc c ρ' => rw [hr] at this; exact this.elim
  | stuck => rw [hr] at this; exact this.elim
theorem fnE {fns : List MFn} {G : List D} {n i : Nat} (F : MFn) (ρ : Env) {ds : List D} {r : R (D × Bool)} (h : fns[i]? = some F) (hl : ds.length = F.args) (hρ : initEnv F ds = ρ) (hw : exW (orc fns G n) G F.body ρ (fun s => finS s = r)) : (orc fns G (n + 1)).fn i ds = r := by
  rw [orc_fin h hl, hρ]
  exact (exW_ok _ _ _ hw).get
end Mine
-- MZ
set_option autoImplicit false
set_option linter.all false
namespace Mine
open PySem

theorem exk {N m k : Nat} (h : m + k ≤ N) : ∃ n, N = n + k := ⟨N - k, (Nat.sub_add_cancel (Nat.le_trans (Nat.le_add_left k m) h)).symm⟩
theorem sub_j2 {a t n : Nat} (h : a + 1 ≤ t) (k : 2 * t + 4 ≤ n + 6) : 2 * a + 4 ≤ n + 4 := by omega
theorem sub_ml {a b N : Nat} (h : 2 * max a b + 6 ≤ N) : 2 * a + 4 ≤ N := by omega
theorem sub_ml1 {a b N : Nat} (h : 2 * max a b + 6 ≤ N + 2) : 2 * a + 4 ≤ N + 1 := by omega
theorem sub_mr1 {a b N : Nat} (h : 2 * max a b + 6 ≤ N + 2) : 2 * b + 4 ≤ N + 1 := by omega
theorem nm1 {p j : Nat} (hp : p < j) (hj : j ≤ 7) : p + (1 + 1) ≤ 1000 ∧ p + (1 + 1) + (min 6 j - p) ≤ 1000 ∧ 1 ≤ p + (1 + 1) + (min 6 j - p) ∧ p + (1 + 1) + (min 6 j - p) ≤ 8 := (show ∀ j < 8, ∀ p < j, p + (1 + 1) ≤ 1000 ∧ p + (1 + 1) + (min 6 j - p) ≤ 1000 ∧ 1 ≤ p + (1 + 1) + (min 6 j - p) ∧ p + (1 + 1) + (min 6 j - p) ≤ 8 by decide +kernel) j (Nat.lt_succ_of_le hj) p hp
theorem nm2 {p j : Nat} (hp : p < j) (hj : j ≤ 7) : p + 1 ≤ 1000 ∧ p + 1 + (j - (p + 1)) ≤ 1000 ∧ 1 ≤ p + 1 + (j - (p + 1)) ∧ p + 1 + (j - (p + 1)) ≤ 8 := (show ∀ j < 8, ∀ p < j, p + 1 ≤ 1000 ∧ p + 1 + (j - (p + 1)) ≤ 1000 ∧ 1 ≤ p + 1 + (j - (p + 1)) ∧ p + 1 + (j - (p + 1)) ≤ 8 by decide +kernel) j (Nat.lt_succ_of_le hj) p hp
theorem nat_of {x : Int} {n : Nat} (h : 0 ≤ x ∧ x < n) : ∃ p : Nat, x = p ∧ p < n := ⟨x.toNat, (Int.toNat_of_nonneg h.1).symm, by omega⟩
theorem ex2 {N m : Nat} (h : m + 2 ≤ N) : ∃ n, N = n + 2 := ⟨N - 2, (Nat.sub_add_cancel (Nat.le_trans (Nat.le_add_left 2 m) h)).symm⟩
theorem sub_le {a t m : Nat} (h : a + 1 ≤ t) (k : t ≤ m) : a ≤ m := Nat.le_trans (Nat.le_of_succ_le h) k
theorem sub_add {a t l m : Nat} (h : a + 1 ≤ t) (k : l + t ≤ m) : l + a ≤ m := Nat.le_trans (Nat.add_le_add_left (Nat.le_of_succ_le h) l) k
theorem sub_1 {a t n m : Nat} (h : a + 1 ≤ t) (k : t + m ≤ n + 1) : a + m ≤ n := by omega
theorem sub_f2 {a t n : Nat} (h : a + 1 ≤ t) (k : 2 * t + 8 ≤ n + 2) : 2 * a + 8 ≤ n + 1 := by omega
theorem sub_j {x y a b t n : Nat} (hx : x ≤ a) (hy : y ≤ b) (h1 : a + 1 ≤ t) (h2 : b + 1 ≤ t) (k : 2 * t + 8 ≤ n + 2) : 2 * max x y + 6 ≤ n + 1 :=
  Nat.le_trans (Nat.le_add_right _ 2) (Nat.le_trans (show 2 * (max x y + 1) + 6 ≤ 2 * t + 6 from Nat.add_le_add_right (Nat.mul_le_mul_left 2 (Nat.succ_le_of_lt (Nat.max_lt.mpr ⟨Nat.lt_of_le_of_lt hx h1, Nat.lt_of_le_of_lt hy h2⟩))) 6) (Nat.le_succ_of_le (Nat.le_of_add_le_add_right (b := 2) k)))
theorem sub_c {x a t n : Nat} (hx : x ≤ a) (h1 : a + 1 ≤ t) (k : 2 * t + 8 ≤ n + 2) : x + 2 ≤ n + 1 := by omega
theorem sub_l {l l' b t m : Nat} (hp : l' ≤ l + 1) (h : b + 1 ≤ t) (k : l + t ≤ m) : l' + b ≤ m := by omega
theorem sub_l0 {l l' b t m : Nat} (hp : l' ≤ l) (h : b + 1 ≤ t) (k : l + t ≤ m) : l' + b ≤ m := by omega
theorem sub_b {l t m : Nat} (k : l + t ≤ m) : l ≤ m := Nat.le_trans (Nat.le_add_right l t) k
theorem iteT {t : Bool} {A B : Prop} (h : t = true) (a : A) : IteW t A B := ⟨fun _ => a, fun q => by rw [h] at q; cases q⟩
theorem iteF {t : Bool} {A B : Prop} (h : t = false) (b : B) : IteW t A B := ⟨fun q => (by rw [h] at q; cases q), fun _ => b⟩
theorem andT {t : Bool} {B : KD → Prop} {k : KD} (h : t = true) (hb : B k) : AndW t B k := .cas (fun _ => hb) fun q => by rw [h] at q; cases q
theorem andF {t : Bool} {B : KD → Prop} {k : KD} (h : t = false) (hk : k (.bool false)) : AndW t B k := .cas (fun q => by rw [h] at q; cases q) fun _ => hk
theorem orT {t : Bool} {B : KD → Prop} {k : KD} (h : t = true) (hk : k (.bool true)) : OrW t B k := .cas (fun _ => hk) fun q => by rw [h] at q; cases q
theorem orF {t : Bool} {B : KD → Prop} {k : KD} (h : t = false) (hb : B k) : OrW t B k := .cas (fun q => by rw [h] at q; cases q) fun _ => hb
def Sm (a : Int) : Prop := 0 ≤ a ∧ a < 1000000000000000003
def Ki (k : Int) : Prop := 0 ≤ k ∧ k < 1000
def L9 (a : Int) : Prop := -1000000000 ≤ a ∧ a ≤ 1000000000
theorem small_of {a : Int} (h1 : -100000000000000000000 ≤ a) (h2 : a ≤ 100000000000000000000) : smallInt a = true := by
  unfold smallInt
  simp only [decide_eq_true_eq]
  omega
theorem Sm.small {a : Int} (h : Sm a) : smallInt a = true := small_of (Int.le_trans (by decide) h.1) (Int.le_trans (Int.le_of_lt h.2) (by decide))
theorem L9.small {a : Int} (h : L9 a) : smallInt a = true := small_of (Int.le_trans (by decide) h.1) (Int.le_trans h.2 (by decide))
theorem Sm.div {a b : Int} (h : Sm a) (hb : 0 < b) : Sm (a / b) := by
  refine ⟨Int.ediv_nonneg h.1 (Int.le_of_lt hb), ?_⟩
  exact Int.lt_of_le_of_lt (Int.ediv_le_self _ h.1) h.2
theorem mod_lt {x m : Int} (hm : 0 < m) : 0 ≤ x % m ∧ x % m < m := ⟨Int.emod_nonneg _ (Int.ne_of_gt hm), Int.emod_lt_of_pos _ hm⟩
theorem Sm.mod {x m : Int} (h : (decide (0 < m) && decide (m ≤ 1000000000000000003)) = true) : Sm (x % m) := by
  rw [Bool.and_eq_true_iff, decide_eq_true_eq, decide_eq_true_eq] at h
  exact ⟨(mod_lt h.1).1, Int.lt_of_lt_of_le (mod_lt h.1).2 h.2⟩
theorem Ki.mod {x m : Int} (h : (decide (0 < m) && decide (m ≤ 1000)) = true) : Ki (x % m) := by
  rw [Bool.and_eq_true_iff, decide_eq_true_eq, decide_eq_true_eq] at h
  exact ⟨(mod_lt h.1).1, Int.lt_of_lt_of_le (mod_lt h.1).2 h.2⟩
theorem L9.modsub {x m a : Int} (h : (decide (0 < m) && (decide (-1000000000 ≤ 0 - a) && decide (m - a ≤ 1000000001))) = true) : L9 (x % m - a) := by
  rw [Bool.and_eq_true_iff, Bool.and_eq_true_iff, decide_eq_true_eq, decide_eq_true_eq, decide_eq_true_eq] at h
  have := mod_lt (x := x) h.1
  exact ⟨by omega, by omega⟩
theorem zidx_list {l : List D} {i : Int} {d : D} (h0 : 0 ≤ i) (h1 : i < 1000000) (h : l[i.toNat]? = some d) : idxD (.list l) (.int i) = .ok d := by
  have hl := (List.getElem?_eq_some_iff.mp h).1
  have e1 : idxInt i = true := by simp only [idxInt, Bool.and_eq_true, decide_eq_true_eq]; omega
  have e2 : place i l.length = some i.toNat := by
    unfold place
    rw [if_pos h0, if_pos (by omega)]
  unfold idxD
  simp only [e1, e2, h, if_true]
theorem pickW {l : List D} {n x : Int} {k : KD} (P : D → Prop) (hc : (decide (n ≤ l.length) && (decide (0 < n) && decide (n < 1000000))) = true) (hP : ∀ d ∈ l, P d) (hk : ∀ d, P d → k d) : GetW (idxD (.list l) (.int (x % n))) k := by
  rw [Bool.and_eq_true_iff, Bool.and_eq_true_iff, decide_eq_true_eq, decide_eq_true_eq, decide_eq_true_eq] at hc
  have := mod_lt (x := x) hc.2.1
  have hlt : (x % n).toNat < l.length := by omega
  exact .mk l[(x % n).toNat] (zidx_list this.1 (by omega) (List.getElem?_eq_getElem hlt)) (hk _ (hP _ (List.getElem_mem _)))
noncomputable def intsIn (lo hi : Int) : List D → Bool
  | [] => true
  | .int z :: l => decide (lo ≤ z) && (decide (z ≤ hi) && intsIn lo hi l)
  | _ :: _ => false
theorem intsIn_mem {lo hi : Int} : ∀ {l : List D}, intsIn lo hi l = true → ∀ d ∈ l, ∃ z, d = .int z ∧ lo ≤ z ∧ z ≤ hi
  | .int z :: l, h, d, hd => by
    simp only [intsIn, Bool.and_eq_true, decide_eq_true_eq] at h
    rcases List.mem_cons.mp hd with rfl | hd
    · exact ⟨z, rfl, h.1, h.2.1⟩
    · exact intsIn_mem h.2.2 d hd
theorem pick_int (lo hi : Int) {l : List D} {n x : Int} {k : KD} (hc : (decide (n ≤ l.length) && (decide (0 < n) && decide (n < 1000000))) = true) (hi' : intsIn lo hi l = true) (hk : ∀ z, lo ≤ z → z ≤ hi → k (.int z)) : GetW (idxD (.list l) (.int (x % n))) k :=
  pickW (fun d => ∃ z, d = .int z ∧ lo ≤ z ∧ z ≤ hi) hc (intsIn_mem hi') fun d ⟨z, e, h1, h2⟩ => e ▸ hk z h1 h2
noncomputable def strs1 (l : List String) : List D := l.map fun w => .str (Str.ofString w)
theorem pick_w (ws : List String) {n x : Int} {k : KD} (hc : (decide (n ≤ (strs1 ws).length) && (decide (0 < n) && decide (n < 1000000))) = true) (hk : ∀ w ∈ ws, k (.str (Str.ofString w))) : GetW (idxD (.list (strs1 ws)) (.int (x % n))) k :=
  pickW (fun d => ∃ w ∈ ws, d = .str (Str.ofString w)) hc (fun d hd => by obtain ⟨w, hw, rfl⟩ := List.mem_map.mp hd; exact ⟨w, hw, rfl⟩) fun d ⟨w, hw, e⟩ => e ▸ hk w hw
noncomputable def intR (P : Int → Prop) (d : D) (b : Bool) : Prop := ∃ z, d = .int z ∧ b = false ∧ P z
theorem fnI {fns : List MFn} {G : List D} {n i : Nat} (F : MFn) (ρ : Env) {ds : List D} {P : Int → Prop} (h : fns[i]? = some F) (hl : ds.length = F.args) (hρ : initEnv F ds = ρ) (hw : exW (orc fns G n) G F.body ρ (retW (intR P))) : ∃ z, (orc fns G (n + 1)).fn i ds = .ok (.int z, false) ∧ P z := by
  obtain ⟨d, b, e, z, rfl, rfl, h⟩ := fnW F ρ h hl hρ hw
  exact ⟨z, e, h⟩
theorem len_map_int (ys : List Int) : (ys.map PyData.int).length = ys.length := List.length_map ..
theorem ble_of {n m : Nat} (h : n ≤ m) : Nat.ble n m = true := Nat.ble_eq_true_of_le h
end Mine
-- MZ1
set_option autoImplicit false
set_option linter.all false
namespace Mine
open PySem
theorem div_bound {x c : Int} (hc : 0 < c) (h1 : -1000000000 ≤ x) (h2 : x ≤ 1000000000) : -1000000000 ≤ x / c ∧ x / c ≤ 1000000000 :=
  ⟨Int.le_ediv_of_mul_le hc (by omega), Int.ediv_le_of_le_mul hc (by omega)⟩
theorem fdiv_bound {a b : Int} (h1 : -1000000000 ≤ a) (h2 : a ≤ 1000000000) (hb : b ≠ 0) : -1000000000 ≤ a.fdiv b ∧ a.fdiv b ≤ 1000000000 := by
  rcases Int.lt_or_gt_of_ne hb with h | h
  · rw [← Int.neg_fdiv_neg, fdiv_eq (show 0 < -b by omega)]
    exact div_bound (by omega) (by omega) (by omega)
  · rw [fdiv_eq h]
    exact div_bound h h1 h2
theorem rest_l9 {a b : Int} (hb : L9 b) (hz : b ≠ 0) : L9 (a - b * a.fdiv b) := by
  rw [← Int.fmod_def]
  rcases Int.lt_or_gt_of_ne hz with h | h
  · have e : a.fmod b = -((-a) % (-b)) := by
      rw [← fmod_eq (Int.neg_pos_of_neg h), Int.fmod_def, Int.fmod_def, Int.neg_fdiv_neg, Int.neg_mul]
      rw [Int.sub_neg, Int.neg_add, Int.neg_neg]; rfl
    rw [e]
    have h1 := Int.emod_nonneg (-a) (Int.ne_of_gt (Int.neg_pos_of_neg h))
    have h2 := Int.emod_lt_of_pos (-a) (Int.neg_pos_of_neg h)
    generalize (-a) % (-b) = r at h1 h2
    have := hb.1
    exact ⟨by omega, by omega⟩
  · rw [fmod_eq h]
    have h1 := Int.emod_nonneg a (Int.ne_of_gt h)
    have h2 := Int.emod_lt_of_pos a h
    generalize a % b = r at h1 h2
    have := hb.2
    exact ⟨by omega, by omega⟩
end Mine
-- MT
set_option autoImplicit false
set_option linter.all false
namespace Mine
open PySem

noncomputable def Letters (x : Str) : Prop := ∀ c ∈ x.cps.toList, 97 ≤ c ∧ c ≤ 122
noncomputable def Ls (x : Str) (n : Nat) : Prop := Letters x ∧ slen x = n
noncomputable def Nm (x : Str) : Prop := Letters x ∧ 1 ≤ slen x ∧ slen x ≤ 8
noncomputable def abc : Str := Str.ofString "abcdefghijklmnopqrstuvwxyz"
theorem abc_list : abc.cps.toList = [97, 98, 99, 100, 101, 102, 103, 104, 105, 106, 107, 108, 109, 110, 111, 112, 113, 114, 115, 116, 117, 118, 119, 120, 121, 122] := by decide +kernel
theorem slen_list (x : Str) : slen x = x.cps.toList.length := by simp [slen]
theorem slen_smk (l : List Nat) : slen (smk l) = l.length := by simp [slen, smk]
theorem idxInt_of {i : Int} (h0 : -1000000 < i) (h1 : i < 1000000) : idxInt i = true := by
  simp only [idxInt, Bool.and_eq_true, decide_eq_true_eq]; omega
theorem zidx_str {x : Str} {i : Int} {c : Nat} (h0 : 0 ≤ i) (h1 : i < 1000000) (h : x.cps.toList[i.toNat]? = some c) : idxD (.str x) (.int i) = .ok (.str (sone c)) := by
  have hl := (List.getElem?_eq_some_iff.mp h).1
  have e1 := idxInt_of (i := i) (by omega) h1
  have e2 : place i (slen x) = some i.toNat := by
    unfold place
    rw [if_pos h0, if_pos (by rw [slen_list]; omega)]
  have e3 : x.cps[i.toNat]? = some c := by rw [← Array.getElem?_toList]; exact h
  unfold idxD
  simp only [e1, e2, e3, if_true]
theorem Ls.one {c : Nat} (h1 : 97 ≤ c) (h2 : c ≤ 122) : Ls (sone c) 1 := ⟨fun d hd => by
  simp only [sone, List.mem_singleton] at hd
  omega, rfl⟩
theorem signW {x : Str} {n : Nat} {i : Int} {k : KD} (h : Ls x n) (h0 : 0 ≤ i) (h1 : i < n) (hn : n ≤ 1000) (hk : ∀ s, Ls s 1 → k (.str s)) : GetW (idxD (.str x) (.int i)) k := by
  have hlt : i.toNat < x.cps.toList.length := by rw [← slen_list, h.2]; omega
  have := h.1 _ (List.getElem_mem hlt)
  exact .mk _ (zidx_str h0 (by omega) (List.getElem?_eq_getElem hlt)) (hk _ (.one this.1 this.2))
theorem abc_ls : Ls abc 26 := ⟨fun c hc => by
  rw [abc_list] at hc
  have : ∀ c ∈ ([97, 98, 99, 100, 101, 102, 103, 104, 105, 106, 107, 108, 109, 110, 111, 112, 113, 114, 115, 116, 117, 118, 119, 120, 121, 122] : List Nat), 97 ≤ c ∧ c ≤ 122 := by decide
  exact this c hc, by rw [slen_list, abc_list]; rfl⟩
theorem abcW {x : Int} {k : KD} (hk : ∀ s, Ls s 1 → k (.str s)) : GetW (idxD (.str (Str.ofString "abcdefghijklmnopqrstuvwxyz")) (.int (x % 26))) k :=
  have := mod_lt (x := x) (m := 26) (by decide)
  signW abc_ls this.1 this.2 (by decide) hk
theorem Ls.app {a b : Str} {n m : Nat} (ha : Ls a n) (hb : Ls b m) : Ls (sapp a b) (n + m) := ⟨fun c hc => by
  simp only [sapp, Array.toList_append, List.mem_append] at hc
  exact hc.elim (ha.1 c) (hb.1 c), by rw [← ha.2, ← hb.2]; simp [slen, sapp]⟩
theorem addS {a b : Str} {n m : Nat} {k : KD} (ha : Ls a n) (hb : Ls b m) (h : n + m ≤ 1000) (hk : ∀ x, Ls x (n + m) → k (.str x)) : CatW a b k :=
  .mk (by rw [ha.2, hb.2]; exact ble_of (Nat.le_trans h (by decide))) (hk _ (ha.app hb))
theorem Ls.nil : Ls (Str.ofString "") 0 := by
  refine ⟨fun c hc => ?_, by decide⟩
  have : (Str.ofString "").cps.toList = [] := by decide
  rw [this] at hc; cases hc
theorem clip_pos (n : Nat) {i : Int} (h : 0 ≤ i) : clip n i = min i.toNat n := by
  obtain ⟨k, rfl⟩ := Int.eq_ofNat_of_zero_le h
  unfold clip
  rw [if_neg (Int.not_lt.mpr h), Int.max_eq_right (Int.le_min.mpr ⟨h, Int.natCast_nonneg n⟩), Int.toNat_natCast]
  rcases Nat.le_total k n with q | q
  · rw [Int.min_eq_left (Int.ofNat_le.mpr q), Nat.min_eq_left q, Int.toNat_natCast]
  · rw [Int.min_eq_right (Int.ofNat_le.mpr q), Nat.min_eq_right q, Int.toNat_natCast]
theorem mem_cut {α : Type} {l : List α} {lo hi : Option Int} {x : α} (h : x ∈ cut l lo hi) : x ∈ l := List.mem_of_mem_drop (List.mem_of_mem_take h)
theorem Ls.cut {x : Str} {n : Nat} (h : Ls x n) (lo hi : Option Int) : Ls (smk (Mine.cut x.cps.toList lo hi)) (Mine.cut x.cps.toList lo hi).length :=
  ⟨fun c hc => h.1 c (mem_cut (by simpa [smk] using hc)), slen_smk _⟩
theorem partOk_of {i : Int} (h0 : 0 ≤ i) (h1 : i ≤ 1000) : partOk (some i) = true := idxInt_of (by omega) (by omega)
theorem zslice_str {x : Str} {lo hi : Option Int} (h1 : partOk lo = true) (h2 : partOk hi = true) (hn : slen x ≤ 1000) : sliceD (.str x) lo hi = .ok (.str (smk (cut x.cps.toList lo hi))) := by
  unfold sliceD
  rw [h1, h2]
  exact if_pos (Nat.le_trans hn (by decide))
theorem preW {x : Str} {n : Nat} {i : Int} {k : KD} (h : Ls x n) (h0 : 0 ≤ i) (h1 : i ≤ n) (hn : n ≤ 1000) (hk : ∀ y, Ls y i.toNat → k (.str y)) : GetW (sliceD (.str x) none (some i)) k := by
  refine .mk _ (zslice_str rfl (partOk_of h0 (Int.le_trans h1 (Int.ofNat_le.mpr hn))) (h.2 ▸ hn)) (hk _ ?_)
  have e : (cut x.cps.toList none (some i)).length = i.toNat := by
    simp only [cut, Option.elim, clip_pos _ h0, List.drop_zero, List.length_take, Nat.sub_zero, ← slen_list, h.2]
    rw [Nat.min_eq_left (Int.toNat_le.mpr h1), Nat.min_eq_left (Int.toNat_le.mpr h1)]
  exact e ▸ h.cut none (some i)
theorem sufW {x : Str} {n : Nat} {i : Int} {k : KD} (h : Ls x n) (h0 : 0 ≤ i) (h1 : i ≤ n) (hn : n ≤ 1000) (hk : ∀ y, Ls y (n - i.toNat) → k (.str y)) : GetW (sliceD (.str x) (some i) none) k := by
  refine .mk _ (zslice_str (partOk_of h0 (Int.le_trans h1 (Int.ofNat_le.mpr hn))) rfl (h.2 ▸ hn)) (hk _ ?_)
  have e : (cut x.cps.toList (some i) none).length = n - i.toNat := by
    simp only [cut, Option.elim, clip_pos _ h0, List.length_take, List.length_drop, ← slen_list, h.2]
    rw [Nat.min_eq_left (Int.toNat_le.mpr h1), Nat.min_self]
  exact e ▸ h.cut (some i) none
theorem midW {x : Str} {n : Nat} {i j : Int} {k : KD} (h : Ls x n) (h0 : 0 ≤ i) (h1 : i ≤ n) (j0 : 0 ≤ j) (j1 : j ≤ 1000) (hn : n ≤ 1000) (hk : ∀ y, Ls y (min j.toNat n - i.toNat) → k (.str y)) : GetW (sliceD (.str x) (some i) (some j)) k := by
  refine .mk _ (zslice_str (partOk_of h0 (Int.le_trans h1 (Int.ofNat_le.mpr hn))) (partOk_of j0 j1) (h.2 ▸ hn)) (hk _ ?_)
  have e : (cut x.cps.toList (some i) (some j)).length = min j.toNat n - i.toNat := by
    simp only [cut, Option.elim, clip_pos _ h0, clip_pos _ j0, List.length_take, List.length_drop, ← slen_list, h.2]
    rw [Nat.min_eq_left (Int.toNat_le.mpr h1), Nat.min_eq_left (Nat.sub_le_sub_right (Nat.min_le_right _ _) _)]
  exact e ▸ h.cut (some i) (some j)
theorem Ls.nm {x : Str} {n : Nat} (h : Ls x n) (h1 : 1 ≤ n) (h2 : n ≤ 8) : Nm x := ⟨h.1, h.2 ▸ h1, h.2 ▸ h2⟩
theorem lenS {x : Str} {n : Nat} {k : KD} (h : Ls x n) (hn : n ≤ 1000) (hk : k (.int n)) : LenW (slen x) k := h.2.symm ▸ .mk (ble_of (Nat.le_trans hn (by decide))) hk
noncomputable def nameWords : List String := ["num", "name", "sum", "less", "times", "part", "rest", "below", "same", "when", "let"]
noncomputable def nmTest (x : Str) : Bool := (x.cps.toList.all fun c => decide (97 ≤ c) && decide (c ≤ 122)) && (decide (1 ≤ slen x) && decide (slen x ≤ 8))
theorem nm_of {x : Str} (h : nmTest x = true) : Nm x := by
  simp only [nmTest, Bool.and_eq_true, List.all_eq_true, decide_eq_true_eq] at h
  exact ⟨fun c hc => h.1 c hc, h.2.1, h.2.2⟩
theorem nameWords_ok {w : String} (h : w ∈ nameWords) : Nm (Str.ofString w) := by
  have : (nameWords.all fun w => nmTest (Str.ofString w)) = true := by decide +kernel
  exact nm_of (List.all_eq_true.mp this w h)
noncomputable def strR (P : Str → Prop) (d : D) (b : Bool) : Prop := ∃ z, d = .str z ∧ b = false ∧ P z
theorem fnS {fns : List MFn} {G : List D} {n i : Nat} (F : MFn) (ρ : Env) {ds : List D} {P : Str → Prop} (h : fns[i]? = some F) (hl : ds.length = F.args) (hρ : initEnv F ds = ρ) (hw : exW (orc fns G n) G F.body ρ (retW (strR P))) : ∃ z, (orc fns G (n + 1)).fn i ds = .ok (.str z, false) ∧ P z := by
  obtain ⟨d, b, e, z, rfl, rfl, h⟩ := fnW F ρ h hl hρ hw
  exact ⟨z, e, h⟩
theorem range_len (u v : Int) : (rangeD u v).length = (v - u).toNat := by simp [rangeD]
theorem rangeW {i : Int} (h0 : -1000000 < i) (h1 : i < 1000000) : (idxInt 0 && idxInt i) = true := by rw [idxInt_of h0 h1]; rfl
end Mine
-- MTr
set_option autoImplicit false
set_option linter.all false
namespace Mine
open PySem

inductive W2 where
  | sum | less | times | part | rest | below | same
noncomputable def W2.s : W2 → String
  | .sum => "sum" | .less => "less" | .times => "times" | .part => "part" | .rest => "rest" | .below => "below" | .same => "same"
noncomputable abbrev W2.d (w : W2) : D := .str (Str.ofString w.s)
inductive Tr where
  | num (v : Int)
  | name (x : Str)
  | two (w : W2) (a b : Tr)
  | whn (c a b : Tr)
  | lt (x : Str) (a b : Tr)
noncomputable def Tr.tag : Tr → String
  | .num _ => "num" | .name _ => "name" | .two w _ _ => w.s | .whn _ _ _ => "when" | .lt _ _ _ => "let"
noncomputable def Tr.rest : Tr → List D
  | .num v => [.int v]
  | .name x => [.str x]
  | .two _ a b => [.tuple (.str (Str.ofString a.tag) :: a.rest), .tuple (.str (Str.ofString b.tag) :: b.rest)]
  | .whn c a b => [.tuple (.str (Str.ofString c.tag) :: c.rest), .tuple (.str (Str.ofString a.tag) :: a.rest), .tuple (.str (Str.ofString b.tag) :: b.rest)]
  | .lt x a b => [.str x, .tuple (.str (Str.ofString a.tag) :: a.rest), .tuple (.str (Str.ofString b.tag) :: b.rest)]
noncomputable abbrev Tr.d (t : Tr) : D := .tuple (.str (Str.ofString t.tag) :: t.rest)
noncomputable def Tr.ok : Tr → Prop
  | .num v => L9 v
  | .name x => Nm x
  | .two _ a b => a.ok ∧ b.ok
  | .whn c a b => c.ok ∧ a.ok ∧ b.ok
  | .lt x a b => Nm x ∧ a.ok ∧ b.ok
noncomputable def Tr.deep : Tr → Nat
  | .num _ => 0
  | .name _ => 0
  | .two _ a b => max a.deep b.deep + 1
  | .whn c a b => max c.deep (max a.deep b.deep) + 1
  | .lt _ a b => max a.deep b.deep + 1
noncomputable def Tr.isN : Tr → Bool
  | .num _ => true
  | _ => false
theorem W2.nnum (w : W2) : (Str.ofString w.s == Str.ofString "num") = false := by cases w <;> rfl
theorem W2.nname (w : W2) : (Str.ofString w.s == Str.ofString "name") = false := by cases w <;> rfl
theorem W2.nwhen (w : W2) : (Str.ofString w.s == Str.ofString "when") = false := by cases w <;> rfl
theorem W2.nlet (w : W2) : (Str.ofString w.s == Str.ofString "let") = false := by cases w <;> rfl
theorem Tr.tagN (t : Tr) : (Str.ofString t.tag == Str.ofString "num") = t.isN := by
  cases t with
  | two w a b => exact w.nnum
  | _ => rfl
theorem Tr.isN_num {t : Tr} (h : t.isN = true) : ∃ v, t = .num v := by
  cases t with
  | num v => exact ⟨v, rfl⟩
  | _ => cases h
theorem W2.lay (w : W2) : PyData.strOk (Str.ofString w.s) = true := by cases w <;> decide +kernel
noncomputable def W2.is : W2 → W2 → Bool
  | .sum, .sum => true | .less, .less => true | .times, .times => true | .part, .part => true | .rest, .rest => true | .below, .below => true | .same, .same => true
  | _, _ => false
theorem W2.eqs (v w : W2) : (Str.ofString v.s == Str.ofString w.s) = v.is w := by cases v <;> cases w <;> rfl
theorem W2.is_eq {v w : W2} (h : v.is w = true) : v = w := by cases v <;> cases w <;> first | rfl | cases h
theorem eqOk_w (w : W2) : eqOk w.d = true := by
  show (PyData.strOk (Str.ofString w.s) && true) = true
  rw [w.lay]; rfl
theorem lay_ws : ∀ l : List W2, PyData.canLayAll0 (l.map W2.d) = true
  | [] => rfl
  | w :: l => by
    show (PyData.strOk (Str.ofString w.s) && PyData.canLayAll0 (l.map W2.d)) = true
    rw [w.lay, lay_ws l]; rfl
theorem deep_ws : ∀ l : List W2, PyData.depthAll (l.map W2.d) = 0
  | [] => rfl
  | w :: l => by
    show max (PyData.depth (PyData.str _)) (PyData.depthAll (l.map W2.d)) = 0
    rw [deep_ws l]; rfl
theorem eqOk_ws (l : List W2) : eqOk (.tuple (l.map W2.d)) = true ∧ eqOk (.list (l.map W2.d)) = true := by
  have h1 := lay_ws l
  have h2 := deep_ws l
  constructor
  · show (PyData.canLayAll0 (l.map W2.d) && decide (PyData.depthAll (l.map W2.d) + 1 ≤ 64)) = true
    rw [h1, h2]; rfl
  · show (PyData.canLayAll0 (l.map W2.d) && decide (PyData.depthAll (l.map W2.d) + 1 ≤ 64)) = true
    rw [h1, h2]; rfl
theorem any_ws (w : W2) : ∀ l : List W2, ((l.map W2.d).any fun y => PyData.eqv y w.d) = l.any (fun v => v.is w)
  | [] => rfl
  | v :: l => by
    show ((Str.ofString v.s == Str.ofString w.s) || (l.map W2.d).any fun y => PyData.eqv y w.d) = _
    rw [any_ws w l, W2.eqs]; rfl
theorem in_tup (w : W2) (l : List W2) : cmpD .In w.d (.tuple (l.map W2.d)) = .ok (.bool (l.any fun v => v.is w)) := by
  show (if (eqOk w.d && eqOk (.tuple (l.map W2.d))) = true then R.ok ((l.map W2.d).any fun y => PyData.eqv y w.d) else R.stuck).yes = _
  rw [eqOk_w, (eqOk_ws l).1, any_ws]; rfl
theorem in_lst (w : W2) (l : List W2) : cmpD .In w.d (.list (l.map W2.d)) = .ok (.bool (l.any fun v => v.is w)) := by
  show (if (eqOk w.d && eqOk (.list (l.map W2.d))) = true then R.ok ((l.map W2.d).any fun y => PyData.eqv y w.d) else R.stuck).yes = _
  rw [eqOk_w, (eqOk_ws l).2, any_ws]; rfl
theorem in_not {x y : D} {b : Bool} (h : cmpD .In x y = .ok (.bool b)) : cmpD .NotIn x y = .ok (.bool (!b)) := by
  have h : (inD x y).yes = .ok (.bool b) := h
  show (inD x y).no = _
  cases hq : inD x y with
  | ok c => rw [hq] at h; cases h; rfl
  | exc c => rw [hq] at h; cases h
  | stuck => rw [hq] at h; cases h
theorem abc_has {c : Nat} (h1 : 97 ≤ c) (h2 : c ≤ 122) : hasSign abc c = true := by
  unfold hasSign
  rw [abc_list]
  have : ∀ k : Nat, k < 26 → ([97, 98, 99, 100, 101, 102, 103, 104, 105, 106, 107, 108, 109, 110, 111, 112, 113, 114, 115, 116, 117, 118, 119, 120, 121, 122] : List Nat).contains (97 + k) = true := by decide
  have := this (c - 97) (by omega)
  rwa [show 97 + (c - 97) = c by omega] at this
theorem notin_abc {c : Nat} (h1 : 97 ≤ c) (h2 : c ≤ 122) : cmpD .NotIn (.str (sone c)) (.str (Str.ofString "abcdefghijklmnopqrstuvwxyz")) = .ok (.bool false) := by
  show (R.ok (hasSign abc c)).no = _
  rw [abc_has h1 h2]; rfl
inductive Outc where
  | is (z : Int)
  | nought
  | great
noncomputable def Outc.r : Outc → R (D × Bool)
  | .is z => .ok (.int z, false)
  | .nought => .exc .nought
  | .great => .exc .great
noncomputable abbrev over (z : Int) : Bool := decide (z < 0 - 1000000000) || decide (1000000000 < z)
noncomputable def lim (z : Int) : Outc := if over z = true then .great else .is z
theorem lim_t {z : Int} (h : over z = true) : lim z = .great := if_pos h
theorem lim_f {z : Int} (h : over z = false) : lim z = .is z := if_neg (by rw [h]; exact Bool.noConfusion)
noncomputable def outW (w : W2) (a b : Int) : Outc := match w with
  | .sum => lim (a + b)
  | .less => lim (a - b)
  | .times => lim (a * b)
  | .below => .is (if decide (a < b) then 1 else 0)
  | .same => .is (if (a == b) then 1 else 0)
  | .part => if (b == 0) = true then .nought else .is (a.fdiv b)
  | .rest => if (b == 0) = true then .nought else .is (a - b * a.fdiv b)
theorem out_ok {w : W2} {a b z : Int} (ha : L9 a) (hb : L9 b) (h : outW w a b = .is z) : L9 z := by
  have hl : ∀ x, lim x = .is z → L9 z := fun x h => by
    unfold lim at h
    split at h
    · cases h
    · rename_i ho
      cases h
      simp only [over, Bool.or_eq_true, decide_eq_true_eq, not_or] at ho
      exact ⟨by omega, by omega⟩
  cases w with
  | sum => exact hl _ h
  | less => exact hl _ h
  | times => exact hl _ h
  | below => cases h; split <;> exact ⟨by decide, by decide⟩
  | same => cases h; split <;> exact ⟨by decide, by decide⟩
  | part =>
    simp only [outW] at h
    split at h
    · cases h
    · rename_i hz
      cases h
      exact fdiv_bound ha.1 ha.2 (by simpa using hz)
  | rest =>
    simp only [outW] at h
    split at h
    · cases h
    · rename_i hz
      cases h
      have hz' : b ≠ 0 := by simpa using hz
      exact rest_l9 hb hz'
end Mine
-- MJ
set_option autoImplicit false
set_option linter.all false
namespace Mine
open PySem

noncomputable def fit (z : Int) : Bool := decide (0 - 1000000000 ≤ z) && decide (z ≤ 1000000000)
theorem fit_l9 {z : Int} (h : fit z = true) : L9 z := by
  simp only [fit, Bool.and_eq_true, decide_eq_true_eq] at h
  exact ⟨by omega, h.2⟩
noncomputable def known (w : W2) (x y : Int) : Tr := match outW w x y with
  | .is z => .num z
  | _ => .two w (.num x) (.num y)
noncomputable def jless (k : Int) (t : Tr) : Tr := match t with
  | .num y => known .less k y
  | t => .two .less (.num k) t
noncomputable def likeS (m n : Int) : Bool := (decide (0 < m) && decide (0 < n)) || (decide (m < 0) && decide (n < 0))
noncomputable def unlike (m n : Int) : Bool := (decide (0 < m) && decide (n < 0)) || (decide (m < 0) && decide (0 < n))
noncomputable def Tr.val : Tr → Int
  | .num x => x
  | _ => 0
noncomputable def sumGo (w : W2) (b : Tr) (n : Int) : Bool := (w.is .sum && b.isN) && (likeS b.val n && fit (b.val + n))
noncomputable def lessGo (w : W2) (a : Tr) (n : Int) : Bool := (w.is .less && a.isN) && (!unlike a.val n && fit (a.val + n))
noncomputable def jsum : Tr → Int → Tr
  | .num x, n => known .sum x n
  | .two w a b, n => cond (n == 0) (.two w a b) (cond (sumGo w b n) (jsum a (b.val + n)) (cond (lessGo w a n) (jless (a.val + n) b) (.two .sum (.two w a b) (.num n))))
  | .name x, n => cond (n == 0) (.name x) (.two .sum (.name x) (.num n))
  | .whn c a b, n => cond (n == 0) (.whn c a b) (.two .sum (.whn c a b) (.num n))
  | .lt x a b, n => cond (n == 0) (.lt x a b) (.two .sum (.lt x a b) (.num n))
noncomputable def unitW (w : W2) (n : Int) : Bool := match w with
  | .times => n == 1
  | .part => n == 1
  | _ => false
noncomputable def goes (w : W2) (m n : Int) : Bool := match w with
  | .times => !(n == 0) && fit (m * n)
  | .part => decide (0 < m) && (decide (0 < n) && fit (m * n))
  | .rest => (decide (0 < m) && decide (0 < n)) && (!decide (m ≤ n) && (m % n == 0))
  | _ => false
noncomputable def goesN (w : W2) (m n : Int) : Int := match w with
  | .rest => n
  | _ => m * n
noncomputable def stays (w : W2) (m n : Int) : Bool := match w with
  | .rest => (decide (0 < m) && decide (0 < n)) && decide (m ≤ n)
  | _ => false
noncomputable def jt (w : W2) : Tr → Int → Tr
  | .num x, n => known w x n
  | .two v a b, n => cond (unitW w n) (.two v a b) (cond (v.is w && b.isN) (cond (goes w b.val n) (jt w a (goesN w b.val n)) (cond (stays w b.val n) (.two v a b) (.two w (.two v a b) (.num n)))) (.two w (.two v a b) (.num n)))
  | .name x, n => cond (unitW w n) (.name x) (.two w (.name x) (.num n))
  | .whn c a b, n => cond (unitW w n) (.whn c a b) (.two w (.whn c a b) (.num n))
  | .lt x a b, n => cond (unitW w n) (.lt x a b) (.two w (.lt x a b) (.num n))
noncomputable def jx (w : W2) (t : Tr) (n : Int) : Tr := match w with
  | .sum => jsum t n
  | .less => jsum t (0 - n)
  | .times => jt .times t n
  | .part => jt .part t n
  | .rest => jt .rest t n
  | .below => .two .below t (.num n)
  | .same => .two .same t (.num n)
noncomputable def jn (w : W2) (t : Tr) (n : Int) : Tr := cond t.isN (known w t.val n) (jx w t n)
noncomputable def comm (w : W2) : Bool := [W2.sum, .times, .same].any fun v => v.is w
noncomputable def J (w : W2) (a b : Tr) : Tr := cond b.isN (jn w a b.val) (cond (a.isN && comm w) (jx w b a.val) (.two w a b))
theorem known_ok {w : W2} {x y : Int} (hx : L9 x) (hy : L9 y) : (known w x y).ok := by
  unfold known
  split
  · rename_i z h; exact Mine.out_ok hx hy h
  · exact ⟨hx, hy⟩
theorem jless_ok {k : Int} {t : Tr} (hk : L9 k) (ht : t.ok) : (jless k t).ok := by
  cases t with
  | num y => exact known_ok hk ht
  | _ => exact ⟨hk, ht⟩
theorem Zac {α : Type} {P : α → Prop} {b : Bool} {x y : α} (hx : b = true → P x) (hy : P y) : P (cond b x y) := by
  cases b with
  | true => exact hx rfl
  | false => exact hy
theorem l9_0 : L9 0 := ⟨by decide, by decide⟩
theorem val_ok {t : Tr} (h : t.ok) : L9 t.val := by
  cases t with
  | num v => exact h
  | _ => exact l9_0
theorem jsum_ok : ∀ (t : Tr) (n : Int), t.ok → L9 n → (jsum t n).ok
  | .num x, n, ht, hn => known_ok ht hn
  | .two w a b, n, ht, hn => Zac (fun _ => ht) (Zac (fun h => jsum_ok a _ ht.1 (fit_l9 (Bool.and_eq_true_iff.mp (Bool.and_eq_true_iff.mp h).2).2)) (Zac (fun h => jless_ok (fit_l9 (Bool.and_eq_true_iff.mp (Bool.and_eq_true_iff.mp h).2).2) ht.2) ⟨ht, hn⟩))
  | .name x, n, ht, hn => Zac (fun _ => ht) ⟨ht, hn⟩
  | .whn c a b, n, ht, hn => Zac (fun _ => ht) ⟨ht, hn⟩
  | .lt x a b, n, ht, hn => Zac (fun _ => ht) ⟨ht, hn⟩
theorem goes_ok {w : W2} {m n : Int} (hn : L9 n) (h : goes w m n = true) : L9 (goesN w m n) := by
  cases w with
  | times => exact fit_l9 (Bool.and_eq_true_iff.mp h).2
  | part => exact fit_l9 (Bool.and_eq_true_iff.mp (Bool.and_eq_true_iff.mp h).2).2
  | rest => exact hn
  | _ => cases h
theorem jt_ok (w : W2) : ∀ (t : Tr) (n : Int), t.ok → L9 n → (jt w t n).ok
  | .num x, n, ht, hn => known_ok ht hn
  | .two v a b, n, ht, hn => Zac (fun _ => ht) (Zac (fun _ => Zac (fun h => jt_ok w a _ ht.1 (goes_ok hn h)) (Zac (fun _ => ht) ⟨ht, hn⟩)) ⟨ht, hn⟩)
  | .name x, n, ht, hn => Zac (fun _ => ht) ⟨ht, hn⟩
  | .whn c a b, n, ht, hn => Zac (fun _ => ht) ⟨ht, hn⟩
  | .lt x a b, n, ht, hn => Zac (fun _ => ht) ⟨ht, hn⟩
theorem neg9 {n : Int} (h : L9 n) : L9 (0 - n) := ⟨by have := h.2; omega, by have := h.1; omega⟩
theorem jx_ok (w : W2) {t : Tr} {n : Int} (ht : t.ok) (hn : L9 n) : (jx w t n).ok := by
  cases w with
  | sum => exact jsum_ok t n ht hn
  | less => exact jsum_ok t _ ht (neg9 hn)
  | times => exact jt_ok _ t n ht hn
  | part => exact jt_ok _ t n ht hn
  | rest => exact jt_ok _ t n ht hn
  | below => exact ⟨ht, hn⟩
  | same => exact ⟨ht, hn⟩
theorem J_ok (w : W2) {a b : Tr} (ha : a.ok) (hb : b.ok) : (J w a b).ok :=
  Zac (fun _ => Zac (P := Tr.ok) (fun _ => known_ok (val_ok ha) (val_ok hb)) (jx_ok w ha (val_ok hb))) (Zac (fun _ => jx_ok w hb (val_ok ha)) ⟨ha, hb⟩)
theorem known_deep (w : W2) (x y : Int) : (known w x y).deep ≤ 1 := by
  unfold known
  split
  · exact Nat.zero_le _
  · exact Nat.le_refl _
theorem jless_deep (k : Int) (t : Tr) : (jless k t).deep ≤ t.deep + 1 := by
  cases t with
  | num y => exact known_deep _ _ _
  | _ => exact Nat.succ_le_succ (Nat.max_le.mpr ⟨Nat.zero_le _, Nat.le_refl _⟩)
theorem nd (w : W2) (t : Tr) (n : Int) : (Tr.two w t (.num n)).deep ≤ t.deep + 1 := Nat.succ_le_succ (Nat.max_le.mpr ⟨Nat.le_refl _, Nat.zero_le _⟩)
theorem jsum_deep : ∀ (t : Tr) (n : Int), (jsum t n).deep ≤ t.deep + 1
  | .num x, n => known_deep _ _ _
  | .two w a b, n => Zac (P := fun t : Tr => t.deep ≤ (Tr.two w a b).deep + 1) (fun _ => Nat.le_succ _) (Zac (P := fun t : Tr => t.deep ≤ (Tr.two w a b).deep + 1) (fun _ => Nat.le_trans (jsum_deep a _) (Nat.succ_le_succ (Nat.le_succ_of_le (Nat.le_max_left _ _))))
      (Zac (P := fun t : Tr => t.deep ≤ (Tr.two w a b).deep + 1) (fun _ => Nat.le_trans (jless_deep _ _) (Nat.succ_le_succ (Nat.le_succ_of_le (Nat.le_max_right _ _)))) (nd _ _ _)))
  | .name x, n => Zac (P := fun t : Tr => t.deep ≤ (Tr.name x).deep + 1) (fun _ => Nat.le_succ _) (nd _ _ _)
  | .whn c a b, n => Zac (P := fun t : Tr => t.deep ≤ (Tr.whn c a b).deep + 1) (fun _ => Nat.le_succ _) (nd _ _ _)
  | .lt x a b, n => Zac (P := fun t : Tr => t.deep ≤ (Tr.lt x a b).deep + 1) (fun _ => Nat.le_succ _) (nd _ _ _)
theorem jt_deep (v : W2) : ∀ (t : Tr) (n : Int), (jt v t n).deep ≤ t.deep + 1
  | .num x, n => known_deep _ _ _
  | .two w a b, n => Zac (P := fun t : Tr => t.deep ≤ (Tr.two w a b).deep + 1) (fun _ => Nat.le_succ _) (Zac (P := fun t : Tr => t.deep ≤ (Tr.two w a b).deep + 1) (fun _ => Zac (P := fun t : Tr => t.deep ≤ (Tr.two w a b).deep + 1) (fun _ => Nat.le_trans (jt_deep v a _) (Nat.succ_le_succ (Nat.le_succ_of_le (Nat.le_max_left _ _))))
      (Zac (P := fun t : Tr => t.deep ≤ (Tr.two w a b).deep + 1) (fun _ => Nat.le_succ _) (nd _ _ _))) (nd _ _ _))
  | .name x, n => Zac (P := fun t : Tr => t.deep ≤ (Tr.name x).deep + 1) (fun _ => Nat.le_succ _) (nd _ _ _)
  | .whn c a b, n => Zac (P := fun t : Tr => t.deep ≤ (Tr.whn c a b).deep + 1) (fun _ => Nat.le_succ _) (nd _ _ _)
  | .lt x a b, n => Zac (P := fun t : Tr => t.deep ≤ (Tr.lt x a b).deep + 1) (fun _ => Nat.le_succ _) (nd _ _ _)
theorem jx_deep (w : W2) (t : Tr) (n : Int) : (jx w t n).deep ≤ t.deep + 1 := by
  cases w with
  | sum => exact jsum_deep t n
  | less => exact jsum_deep t _
  | times => exact jt_deep _ t n
  | part => exact jt_deep _ t n
  | rest => exact jt_deep _ t n
  | below => exact nd _ _ _
  | same => exact nd _ _ _
theorem J_deep (w : W2) (a b : Tr) : (J w a b).deep ≤ max a.deep b.deep + 1 :=
  Zac (P := fun t : Tr => t.deep ≤ max a.deep b.deep + 1) (fun _ => Zac (P := fun t : Tr => t.deep ≤ max a.deep b.deep + 1) (fun _ => Nat.le_trans (known_deep _ _ _) (Nat.succ_le_succ (Nat.zero_le _))) (Nat.le_trans (jx_deep _ _ _) (Nat.succ_le_succ (Nat.le_max_left _ _))))
    (Zac (P := fun t : Tr => t.deep ≤ max a.deep b.deep + 1) (fun _ => Nat.le_trans (jx_deep _ _ _) (Nat.succ_le_succ (Nat.le_max_right _ _))) (Nat.le_refl _))
theorem cond_t {α : Type} {b : Bool} {x y : α} (h : b = true) : cond b x y = x := by rw [h]; rfl
theorem cond_f {α : Type} {b : Bool} {x y : α} (h : b = false) : cond b x y = y := by rw [h]; rfl
theorem jsum_0 {t : Tr} {m : Int} (ht : t.isN = false) (h : (m == 0) = true) : t = jsum t m := by
  cases t with
  | num v => cases ht
  | _ => exact (cond_t h).symm
theorem jt_u {w : W2} {t : Tr} {m : Int} (ht : t.isN = false) (h : unitW w m = true) : t = jt w t m := by
  cases t with
  | num v => cases ht
  | _ => exact (cond_t h).symm
theorem jt_no {w : W2} {t : Tr} {m : Int} (ht : t.isN = false) (hu : unitW w m = false) (h : ∀ v a b, t = .two v a b → (v.is w && b.isN) = false) : Tr.two w t (.num m) = jt w t m := by
  cases t with
  | num v => cases ht
  | two v a b => exact ((cond_f hu).trans (cond_f (h v a b rfl))).symm
  | _ => exact (cond_f hu).symm
theorem sumGo_no {w : W2} {b : Tr} {n : Int} (hw : (w.is .sum && b.isN) = false) : sumGo w b n = false := by unfold sumGo; rw [hw]; rfl
theorem lessGo_no {w : W2} {b : Tr} {n : Int} (hw : (w.is .less && b.isN) = false) : lessGo w b n = false := by unfold lessGo; rw [hw]; rfl
theorem jsum_go {w : W2} {a b : Tr} {n : Int} (h0 : (n == 0) = false) (h : sumGo w b n = true) : jsum a (b.val + n) = jsum (.two w a b) n := ((cond_f h0).trans (cond_t h)).symm
theorem jsum_lo {w : W2} {a b : Tr} {n : Int} (h0 : (n == 0) = false) (h : sumGo w b n = false) (h' : lessGo w a n = true) : jless (a.val + n) b = jsum (.two w a b) n := ((cond_f h0).trans ((cond_f h).trans (cond_t h'))).symm
theorem jsum_no {w : W2} {a b : Tr} {n : Int} (h0 : (n == 0) = false) (h : sumGo w b n = false) (h' : lessGo w a n = false) : .two .sum (.two w a b) (.num n) = jsum (.two w a b) n := ((cond_f h0).trans ((cond_f h).trans (cond_f h'))).symm
theorem isN_val {t : Tr} (h : t.isN = true) : t = .num t.val := by
  cases t with
  | num v => rfl
  | _ => cases h
theorem jt_two {w v : W2} {a b : Tr} {n : Int} (hu : unitW w n = false) (hv : (v.is w && b.isN) = true) : jt w (.two v a b) n = cond (goes w b.val n) (jt w a (goesN w b.val n)) (cond (stays w b.val n) (.two v a b) (.two w (.two v a b) (.num n))) := (cond_f hu).trans (cond_t hv)
theorem jt_go {w v : W2} {a b : Tr} {n : Int} (hu : unitW w n = false) (hv : (v.is w && b.isN) = true) (h : goes w b.val n = true) : jt w a (goesN w b.val n) = jt w (.two v a b) n := ((jt_two hu hv).trans (cond_t h)).symm
theorem jt_st {w v : W2} {a b : Tr} {n : Int} (hu : unitW w n = false) (hv : (v.is w && b.isN) = true) (h : goes w b.val n = false) (h' : stays w b.val n = true) : .two v a b = jt w (.two v a b) n := ((jt_two hu hv).trans ((cond_f h).trans (cond_t h'))).symm
theorem jt_nd {w v : W2} {a b : Tr} {n : Int} (hu : unitW w n = false) (hv : (v.is w && b.isN) = true) (h : goes w b.val n = false) (h' : stays w b.val n = false) : .two w (.two v a b) (.num n) = jt w (.two v a b) n := ((jt_two hu hv).trans ((cond_f h).trans (cond_f h'))).symm
theorem jsum_oth {t : Tr} {m : Int} (ht : t.isN = false) (h2 : ∀ v a b, t ≠ .two v a b) (h0 : (m == 0) = false) : .two .sum t (.num m) = jsum t m := by
  cases t with
  | num v => cases ht
  | two v a b => exact absurd rfl (h2 v a b)
  | _ => exact (cond_f h0).symm
noncomputable def Outc.m : Outc → D
  | .is z => .tuple [.str (Str.ofString "is"), .int z]
  | .nought => .tuple [.str (Str.ofString "nought"), .str (Str.ofString "")]
  | .great => .tuple [.str (Str.ofString "great"), .str (Str.ofString "")]
end Mine
-- MQ
set_option autoImplicit false
set_option linter.all false
namespace Mine
open PySem

theorem strOk_letters {x : Str} (h : Letters x) : PyData.strOk x = true := by
  unfold PyData.strOk
  rw [Array.all_eq_true]
  intro i hi
  have := h x.cps[i] (by simp)
  simp only [decide_eq_true_eq]
  omega
theorem tag_lay (t : Tr) : PyData.strOk (Str.ofString t.tag) = true := by
  cases t with
  | two w a b => exact w.lay
  | num v => exact (by decide +kernel : PyData.strOk (Str.ofString "num") = true)
  | name v => exact (by decide +kernel : PyData.strOk (Str.ofString "name") = true)
  | whn c a b => exact (by decide +kernel : PyData.strOk (Str.ofString "when") = true)
  | lt x a b => exact (by decide +kernel : PyData.strOk (Str.ofString "let") = true)
theorem lay_t {t : Tr} (h : PyData.canLayAll0 t.rest = true) : t.d.canLay0 = true := by
  show (PyData.strOk (Str.ofString t.tag) && PyData.canLayAll0 t.rest) = true
  rw [tag_lay, h]; rfl
theorem rest_lay (t : Tr) : t.ok → PyData.canLayAll0 t.rest = true := by
  induction t with
  | num v => exact fun _ => rfl
  | name x => exact fun h => (show (PyData.strOk x && true) = true by rw [strOk_letters h.1]; rfl)
  | two w a b ha hb => exact fun h => (show (a.d.canLay0 && (b.d.canLay0 && true)) = true by rw [lay_t (ha h.1), lay_t (hb h.2)]; rfl)
  | whn c a b hc ha hb => exact fun h => (show (c.d.canLay0 && (a.d.canLay0 && (b.d.canLay0 && true))) = true by rw [lay_t (hc h.1), lay_t (ha h.2.1), lay_t (hb h.2.2)]; rfl)
  | lt x a b ha hb => exact fun h => (show (PyData.strOk x && (a.d.canLay0 && (b.d.canLay0 && true))) = true by rw [strOk_letters h.1.1, lay_t (ha h.2.1), lay_t (hb h.2.2)]; rfl)
theorem deep_t {t : Tr} {n : Nat} (h : PyData.depthAll t.rest ≤ n) : t.d.depth ≤ n + 1 := by
  show max 0 (PyData.depthAll t.rest) + 1 ≤ n + 1
  exact Nat.succ_le_succ (Nat.max_le.mpr ⟨Nat.zero_le _, h⟩)
theorem rest_deep (t : Tr) : PyData.depthAll t.rest ≤ t.deep := by
  induction t with
  | num v => exact Nat.le_refl 0
  | name v => exact Nat.le_refl 0
  | two w a b ha hb => exact Nat.max_le.mpr ⟨Nat.le_trans (deep_t ha) (Nat.succ_le_succ (Nat.le_max_left _ _)), Nat.max_le.mpr ⟨Nat.le_trans (deep_t hb) (Nat.succ_le_succ (Nat.le_max_right _ _)), Nat.zero_le _⟩⟩
  | whn c a b hc ha hb => exact Nat.max_le.mpr ⟨Nat.le_trans (deep_t hc) (Nat.succ_le_succ (Nat.le_max_left _ _)), Nat.max_le.mpr ⟨Nat.le_trans (deep_t ha) (Nat.succ_le_succ (Nat.le_trans (Nat.le_max_left _ _) (Nat.le_max_right _ _))), Nat.max_le.mpr ⟨Nat.le_trans (deep_t hb) (Nat.succ_le_succ (Nat.le_trans (Nat.le_max_right _ _) (Nat.le_max_right _ _))), Nat.zero_le _⟩⟩⟩
  | lt x a b ha hb => exact Nat.max_le.mpr ⟨Nat.zero_le _, Nat.max_le.mpr ⟨Nat.le_trans (deep_t ha) (Nat.succ_le_succ (Nat.le_max_left _ _)), Nat.max_le.mpr ⟨Nat.le_trans (deep_t hb) (Nat.succ_le_succ (Nat.le_max_right _ _)), Nat.zero_le _⟩⟩⟩
theorem tr_eqOk {t : Tr} (h : t.ok) (hd : t.deep ≤ 62) : eqOk t.d = true := by
  have h1 := lay_t (rest_lay t h)
  have h2 : t.d.depth ≤ 64 := Nat.le_trans (deep_t (rest_deep t)) (by omega)
  unfold eqOk
  rw [h1, decide_eq_true h2]; rfl
noncomputable def tailS : Nat → MS → MS
  | n + 1, .seq _ b => tailS n b
  | _, m => m
noncomputable def thenS : MS → MS
  | .seq (.ite _ a _) _ => a
  | .seq (.forL _ _ b) _ => b
  | .seq (.forR _ _ _ b) _ => b
  | .seq (.loop _ b) _ => b
  | m => m
noncomputable def bodyI (n : Nat) (m : MS) : MS := thenS (tailS n m)
theorem pick_ws (l : List W2) {n x : Int} {k : KD} (hc : (decide (n ≤ (l.map W2.d).length) && (decide (0 < n) && decide (n < 1000000))) = true) (hk : ∀ w : W2, k w.d) : GetW (idxD (.list (l.map W2.d)) (.int (x % n))) k :=
  pickW (fun d => ∃ w : W2, d = w.d) hc (fun d hd => by obtain ⟨w, _, rfl⟩ := List.mem_map.mp hd; exact ⟨w, rfl⟩) fun d ⟨w, e⟩ => e ▸ hk w
noncomputable def allW : List W2 := [.sum, .less, .times, .part, .rest, .below, .same]
noncomputable def trR (P : Tr → Prop) (d : D) (b : Bool) : Prop := ∃ t : Tr, d = t.d ∧ b = false ∧ P t
theorem fnT {fns : List MFn} {G : List D} {n i : Nat} (F : MFn) (ρ : Env) {ds : List D} {P : Tr → Prop} (h : fns[i]? = some F) (hl : ds.length = F.args) (hρ : initEnv F ds = ρ) (hw : exW (orc fns G n) G F.body ρ (retW (trR P))) : ∃ t : Tr, (orc fns G (n + 1)).fn i ds = .ok (t.d, false) ∧ P t := by
  obtain ⟨d, b, e, z, rfl, rfl, h⟩ := fnW F ρ h hl hρ hw
  exact ⟨z, e, h⟩
end Mine
-- MP
set_option autoImplicit false
set_option linter.all false
namespace Mine
open PySem

noncomputable def PD (l : List Tr) : List D := l.map Tr.d
theorem PD_app (l r : List Tr) : PD (l ++ r) = PD l ++ PD r := List.map_append
theorem PD_len (l : List Tr) : (PD l).length = l.length := List.length_map ..
theorem from_end {α : Type} {l : List α} (h : 0 < l.length) : ∃ r a, l = r ++ [a] := ⟨l.dropLast, l.getLast (fun q => by rw [q] at h; exact Nat.lt_irrefl 0 h), (List.dropLast_concat_getLast _).symm⟩
theorem from_end2 {α : Type} {l : List α} (h : 1 < l.length) : ∃ r a b, l = r ++ [a, b] := by
  obtain ⟨r, b, rfl⟩ := from_end (l := l) (by omega)
  rw [List.length_append, List.length_singleton] at h
  obtain ⟨q, a, rfl⟩ := from_end (l := r) (by omega)
  exact ⟨q, a, b, by rw [List.append_assoc]; rfl⟩
theorem from_end3 {α : Type} {l : List α} (h : 2 < l.length) : ∃ r a b c, l = r ++ [a, b, c] := by
  obtain ⟨r, c, rfl⟩ := from_end (l := l) (by omega)
  rw [List.length_append, List.length_singleton] at h
  obtain ⟨q, a, b, rfl⟩ := from_end2 (l := r) (by omega)
  exact ⟨q, a, b, c, by rw [List.append_assoc]; rfl⟩
theorem clip_neg {n m : Nat} {k : Int} (h0 : k < 0) (h : k + n = (m : Int)) (hm : m ≤ n) : clip n k = m := by
  unfold clip
  rw [if_pos h0, h, Int.min_eq_left (Int.ofNat_le.mpr hm), Int.max_eq_right (Int.natCast_nonneg m)]; rfl
theorem slice_end {r e : List D} {k : Int} (hk : k = -(e.length : Int)) (h0 : 0 < e.length) (hl : r.length + e.length ≤ 1000) : sliceD (.list (r ++ e)) none (some k) = .ok (.list r) := by
  have h1 : partOk (some k) = true := idxInt_of (by omega) (by omega)
  have hn : (r ++ e).length ≤ big := by rw [List.length_append]; exact Nat.le_trans hl (by decide)
  have hc : clip (r ++ e).length k = r.length := by
    rw [List.length_append]
    exact clip_neg (by omega) (by omega) (Nat.le_add_right _ _)
  unfold sliceD
  rw [h1]
  show (if (r ++ e).length ≤ big then R.ok (PyData.list (cut (r ++ e) none (some k))) else .stuck) = _
  rw [if_pos hn]
  simp only [cut, Option.elim, hc, List.drop_zero, Nat.sub_zero, List.take_left]
theorem idx_end {l : List D} {k : Int} {n : Nat} {d : D} (h0 : k < 0) (hn : (n : Int) = k + l.length) (hl : l.length ≤ 1000) (h : l[n]? = some d) : idxD (.list l) (.int k) = .ok d := by
  have e1 : idxInt k = true := idxInt_of (by omega) (by omega)
  have e2 : place k l.length = some n := by
    unfold place
    rw [if_neg (by omega), if_pos (by omega), ← hn]; rfl
  unfold idxD
  simp only [e1, e2, h, if_true]
section
variable {r : List Tr} {a b c : Tr} {k : KD}
theorem last1w (hl : r.length ≤ 990) : idxD (.list (PD (r ++ [a]))) (.int (-1)) = .ok a.d := idx_end (n := r.length) (by decide) (by rw [PD_len, List.length_append]; simp only [List.length_cons, List.length_nil]; omega) (by rw [PD_len, List.length_append]; simp only [List.length_cons, List.length_nil]; omega) (by rw [PD_app, List.getElem?_append_right (by rw [PD_len]; exact Nat.le_refl _), PD_len, Nat.sub_self]; rfl)
theorem last2w (hl : r.length ≤ 990) : idxD (.list (PD (r ++ [a, b]))) (.int (-2)) = .ok a.d := idx_end (n := r.length) (by decide) (by rw [PD_len, List.length_append]; simp only [List.length_cons, List.length_nil]; omega) (by rw [PD_len, List.length_append]; simp only [List.length_cons, List.length_nil]; omega) (by rw [PD_app, List.getElem?_append_right (by rw [PD_len]; exact Nat.le_refl _), PD_len, Nat.sub_self]; rfl)
theorem last3w (hl : r.length ≤ 990) : idxD (.list (PD (r ++ [a, b, c]))) (.int (-3)) = .ok a.d := idx_end (n := r.length) (by decide) (by rw [PD_len, List.length_append]; simp only [List.length_cons, List.length_nil]; omega) (by rw [PD_len, List.length_append]; simp only [List.length_cons, List.length_nil]; omega) (by rw [PD_app, List.getElem?_append_right (by rw [PD_len]; exact Nat.le_refl _), PD_len, Nat.sub_self]; rfl)
theorem last21w (hl : r.length ≤ 980) : idxD (.list (PD (r ++ [a, b]))) (.int (-1)) = .ok b.d := by
  have := last1w (r := r ++ [a]) (a := b) (by rw [List.length_append, List.length_singleton]; omega)
  rwa [List.append_assoc] at this
theorem last32w (hl : r.length ≤ 900) : idxD (.list (PD (r ++ [a, b, c]))) (.int (-2)) = .ok b.d := by
  have := last2w (r := r ++ [a]) (a := b) (b := c) (by rw [List.length_append, List.length_singleton]; omega)
  rwa [List.append_assoc] at this
theorem last31w (hl : r.length ≤ 900) : idxD (.list (PD (r ++ [a, b, c]))) (.int (-1)) = .ok c.d := by
  have := last21w (r := r ++ [a]) (a := b) (b := c) (by rw [List.length_append, List.length_singleton]; omega)
  rwa [List.append_assoc] at this
theorem last1 (hl : r.length ≤ 100) : idxD (.list (PD (r ++ [a]))) (.int (-1)) = .ok a.d := last1w (Nat.le_trans hl (by decide))
theorem last2 (hl : r.length ≤ 100) : idxD (.list (PD (r ++ [a, b]))) (.int (-2)) = .ok a.d := last2w (Nat.le_trans hl (by decide))
theorem last3 (hl : r.length ≤ 100) : idxD (.list (PD (r ++ [a, b, c]))) (.int (-3)) = .ok a.d := last3w (Nat.le_trans hl (by decide))
theorem last21 (hl : r.length ≤ 100) : idxD (.list (PD (r ++ [a, b]))) (.int (-1)) = .ok b.d := last21w (Nat.le_trans hl (by decide))
theorem last32 (hl : r.length ≤ 100) : idxD (.list (PD (r ++ [a, b, c]))) (.int (-2)) = .ok b.d := last32w (Nat.le_trans hl (by decide))
theorem last31 (hl : r.length ≤ 100) : idxD (.list (PD (r ++ [a, b, c]))) (.int (-1)) = .ok c.d := last31w (Nat.le_trans hl (by decide))
end
theorem layW {l : List Tr} {x : Tr} {k : KD} (hl : l.length ≤ 100) (hk : k (.list (PD (l ++ [x])))) : LcatW (PD l) [x.d] k := by
  refine .mk (ble_of (by rw [PD_len]; exact Nat.le_trans (Nat.add_le_add_right hl 1) (by decide))) ?_
  rw [PD_app] at hk; exact hk
theorem cutW {l e : List Tr} {n : Int} {k : KD} (hn : n = -(e.length : Int)) (h0 : 0 < e.length) (he : e.length ≤ 3) (hl : l.length ≤ 100) (hk : k (.list (PD l))) : GetW (sliceD (.list (PD (l ++ e))) none (some n)) k := by
  rw [PD_app]
  exact .mk _ (slice_end (by rw [PD_len]; exact hn) (by rw [PD_len]; exact h0) (by rw [PD_len, PD_len]; exact Nat.le_trans (Nat.add_le_add hl he) (by decide))) hk
noncomputable def Pl (d : Nat) (l : List Tr) : Prop := ∀ t ∈ l, t.ok ∧ t.deep ≤ d
theorem Pl.mono {d m : Nat} {l : List Tr} (h : Pl d l) (k : d ≤ m) : Pl m l := fun t ht => ⟨(h t ht).1, Nat.le_trans (h t ht).2 k⟩
theorem Pl.left {d : Nat} {l r : List Tr} (h : Pl d (l ++ r)) : Pl d l := fun t ht => h t (List.mem_append_left _ ht)
theorem Pl.right {d : Nat} {l r : List Tr} (h : Pl d (l ++ r)) : Pl d r := fun t ht => h t (List.mem_append_right _ ht)
theorem Pl.lay {d m : Nat} {l : List Tr} {x : Tr} (h : Pl d l) (hd : d ≤ m) (hx : x.ok ∧ x.deep ≤ m) : Pl m (l ++ [x]) := fun t ht => (List.mem_append.mp ht).elim (h.mono hd t) fun q => List.mem_singleton.mp q ▸ hx
theorem Pl.fst {d : Nat} {a : Tr} {l : List Tr} (h : Pl d (a :: l)) : a.ok ∧ a.deep ≤ d := h a (.head _)
theorem Pl.tl {d : Nat} {a : Tr} {l : List Tr} (h : Pl d (a :: l)) : Pl d l := fun t ht => h t (.tail _ ht)
theorem len1 {α : Type} (r : List α) (a : α) : (r ++ [a]).length = r.length + 1 := List.length_append
theorem len2 {α : Type} (r : List α) (a b : α) : (r ++ [a, b]).length = r.length + 2 := List.length_append
theorem len3 {α : Type} (r : List α) (a b c : α) : (r ++ [a, b, c]).length = r.length + 3 := List.length_append
noncomputable def Tr.sz : Tr → Nat
  | .num _ => 1
  | .name _ => 1
  | .two _ a b => a.sz + b.sz + 1
  | .whn c a b => c.sz + a.sz + b.sz + 1
  | .lt _ a b => a.sz + b.sz + 1
noncomputable def szs : List Tr → Nat
  | [] => 0
  | t :: l => t.sz + szs l
theorem szs_app : ∀ (l r : List Tr), szs (l ++ r) = szs l + szs r
  | [], r => (Nat.zero_add _).symm
  | t :: l, r => by
    show t.sz + szs (l ++ r) = t.sz + szs l + szs r
    rw [szs_app l r, Nat.add_assoc]
theorem szs1 (r : List Tr) (a : Tr) : szs (r ++ [a]) = szs r + a.sz := szs_app _ _
theorem szs2 (r : List Tr) (a b : Tr) : szs (r ++ [a, b]) = szs r + (a.sz + b.sz) := szs_app _ _
theorem szs3 (r : List Tr) (a b c : Tr) : szs (r ++ [a, b, c]) = szs r + (a.sz + (b.sz + c.sz)) := szs_app _ _
theorem sz_l (n : Nat) : 1 + n + 1 ≤ n + 2 := by omega
theorem sz_r (n : Nat) : n + 1 + 1 ≤ n + 2 := Nat.le_refl _
theorem sz_c {c s a b j : Nat} (h : c ≤ s + 2 * j) (hj : j ≤ 2) : c + a + b + 1 ≤ s + (a + b) + 5 := by omega
noncomputable def StepP (d : Nat) (ts l : List Tr) : Prop := ∃ d', Pl d' l ∧ d' + l.length ≤ d + ts.length + 1 ∧ l.length ≤ ts.length + 1 ∧ szs l ≤ szs ts + 5
theorem StepP.of2 {d : Nat} {r : List Tr} {a b x : Tr} (hp : Pl d (r ++ [a, b])) (hx : x.ok ∧ x.deep ≤ d + 1) (hs : x.sz ≤ a.sz + b.sz + 1) : StepP d (r ++ [a, b]) (r ++ [x]) := ⟨d + 1, hp.left.lay (Nat.le_succ _) hx, by rw [len1, len2]; omega, by rw [len1, len2]; omega, by rw [szs1, szs2]; omega⟩
theorem StepP.of1 {d : Nat} {r : List Tr} {a x : Tr} (hp : Pl d (r ++ [a])) (hx : x.ok ∧ x.deep ≤ d + 1) (hs : x.sz ≤ a.sz + 2) : StepP d (r ++ [a]) (r ++ [x]) := ⟨d + 1, hp.left.lay (Nat.le_succ _) hx, by rw [len1, len1]; omega, by rw [len1, len1]; omega, by rw [szs1, szs1]; omega⟩
theorem StepP.of3 {d : Nat} {r : List Tr} {a b c x : Tr} (hp : Pl d (r ++ [a, b, c])) (hx : x.ok ∧ x.deep ≤ d + 3) (hs : x.sz ≤ a.sz + (b.sz + c.sz) + 5) : StepP d (r ++ [a, b, c]) (r ++ [x]) := ⟨d + 3, hp.left.lay (Nat.le_add_right _ _) hx, by rw [len1, len3]; omega, by rw [len1, len3]; omega, by rw [szs1, szs3]; omega⟩
theorem StepP.of0 {d : Nat} {r : List Tr} {x : Tr} (hp : Pl d r) (hx : x.ok ∧ x.deep ≤ d) (hs : x.sz ≤ 1) : StepP d r (r ++ [x]) := ⟨d, hp.lay (Nat.le_refl _) hx, Nat.le_of_eq (by rw [len1]; rfl), Nat.le_of_eq (len1 _ _), by rw [szs1]; omega⟩
theorem two_deep {d : Nat} {w : W2} {a b : Tr} (ha : a.ok ∧ a.deep ≤ d) (hb : b.ok ∧ b.deep ≤ d) : (Tr.two w a b).ok ∧ (Tr.two w a b).deep ≤ d + 1 := ⟨⟨ha.1, hb.1⟩, Nat.succ_le_succ (Nat.max_le.mpr ⟨ha.2, hb.2⟩)⟩
theorem lt_deep {d : Nat} {x : Str} {a b : Tr} (hx : Nm x) (ha : a.ok ∧ a.deep ≤ d) (hb : b.ok ∧ b.deep ≤ d) : (Tr.lt x a b).ok ∧ (Tr.lt x a b).deep ≤ d + 1 := ⟨⟨hx, ha.1, hb.1⟩, Nat.succ_le_succ (Nat.max_le.mpr ⟨ha.2, hb.2⟩)⟩
theorem whn_deep {d : Nat} {c a b : Tr} (hc : c.ok ∧ c.deep ≤ d) (ha : a.ok ∧ a.deep ≤ d) (hb : b.ok ∧ b.deep ≤ d) : (Tr.whn c a b).ok ∧ (Tr.whn c a b).deep ≤ d + 1 := ⟨⟨hc.1, ha.1, hb.1⟩, Nat.succ_le_succ (Nat.max_le.mpr ⟨hc.2, Nat.max_le.mpr ⟨ha.2, hb.2⟩⟩)⟩
theorem num_deep (d : Nat) {v : Int} (h : L9 v) : (Tr.num v).ok ∧ (Tr.num v).deep ≤ d := ⟨h, Nat.zero_le _⟩
theorem name_deep (d : Nat) {x : Str} (h : Nm x) : (Tr.name x).ok ∧ (Tr.name x).deep ≤ d := ⟨h, Nat.zero_le _⟩
noncomputable def Tr.isT : Tr → Bool
  | .two _ _ _ => true
  | _ => false
theorem in_tag (t : Tr) : cmpD .In (.str (Str.ofString t.tag)) (.list (allW.map W2.d)) = .ok (.bool t.isT) := by
  have key : ∀ (s : Str), PyData.strOk s = true → cmpD .In (.str s) (.list (allW.map W2.d)) = .ok (.bool (allW.any fun v => Str.ofString v.s == s)) := fun s hs => by
    have h1 : eqOk (.str s) = true := by
      show (PyData.strOk s && true) = true
      rw [hs]; rfl
    show (if (eqOk (.str s) && eqOk (.list (allW.map W2.d))) = true then R.ok ((allW.map W2.d).any fun y => PyData.eqv y (.str s)) else R.stuck).yes = _
    rw [h1, (eqOk_ws allW).2]; rfl
  rw [key _ (tag_lay t)]
  cases t with
  | two w a b => cases w <;> rfl
  | _ => rfl
noncomputable def pileR (P : List Tr → Prop) (d : D) (b : Bool) : Prop := ∃ l, d = .list (PD l) ∧ b = false ∧ P l
theorem fnP {fns : List MFn} {G : List D} {n i : Nat} (F : MFn) (ρ : Env) {ds : List D} {P : List Tr → Prop} (h : fns[i]? = some F) (hl : ds.length = F.args) (hρ : initEnv F ds = ρ) (hw : exW (orc fns G n) G F.body ρ (retW (pileR P))) : ∃ l, (orc fns G (n + 1)).fn i ds = .ok (.list (PD l), false) ∧ P l := by
  obtain ⟨d, b, e, z, rfl, rfl, h⟩ := fnW F ρ h hl hρ hw
  exact ⟨z, e, h⟩
theorem one_nil {t : Tr} (h : t.ok) (hd : t.deep ≤ 61) : cmpD .Eq (.list (PD [t])) (.list []) = .ok (.bool false) := by
  have h1 : eqOk (.list (PD [t])) = true := by
    have h1 := lay_t (rest_lay t h)
    have h2 : t.d.depth ≤ 63 := Nat.le_trans (deep_t (rest_deep t)) (by omega)
    show ((t.d.canLay0 && true) && decide (max t.d.depth 0 + 1 ≤ 64)) = true
    rw [h1, decide_eq_true (by omega)]; rfl
  show (if (eqOk (.list (PD [t])) && eqOk (.list [])) = true then R.ok (PyData.eqv (.list (PD [t])) (.list [])) else _).yes = _
  rw [h1]; rfl
theorem cut_map {α β : Type} (f : α → β) (l : List α) (a b : Option Int) : cut (l.map f) a b = (cut l a b).map f := by
  simp only [cut, List.length_map, List.map_take, List.map_drop]
theorem min_sub {A B n : Nat} (h : A ≤ B) : min B n - min A n ≤ B - A := by
  rcases Nat.le_total n A with q | q
  · rw [Nat.min_eq_right q, Nat.min_eq_right (Nat.le_trans q h), Nat.sub_self]; exact Nat.zero_le _
  · rw [Nat.min_eq_left q]; exact Nat.sub_le_sub_right (Nat.min_le_left _ _) _
theorem nat_sub {a b : Int} (h0 : 0 ≤ a) : b.toNat - a.toNat ≤ (b - a).toNat := by
  obtain ⟨n, rfl⟩ := Int.eq_ofNat_of_zero_le h0
  cases b with
  | ofNat m => exact Nat.le_of_eq (Int.toNat_sub m n).symm
  | negSucc m => show 0 - n ≤ _; rw [Nat.zero_sub]; exact Nat.zero_le _
theorem cellsW {ys : List Int} {a b : Int} {k : KD} (h : ys.length ≤ 1000) (ha : 0 ≤ a ∧ a ≤ b) (hb : b ≤ 1000) (hk : ∀ zs : List Int, (∀ z ∈ zs, z ∈ ys) → zs.length ≤ (b - a).toNat → k (.list (zs.map PyData.int))) : GetW (sliceD (.list (ys.map PyData.int)) (some a) (some b)) k := by
  refine .mk (.list ((cut ys (some a) (some b)).map PyData.int)) ?_ (hk _ (fun z hz => mem_cut hz) ?_)
  · have h1 : partOk (some a) = true := partOk_of ha.1 (by omega)
    have h2 : partOk (some b) = true := partOk_of (by omega) hb
    unfold sliceD
    rw [h1, h2]
    show (if (ys.map PyData.int).length ≤ big then R.ok (PyData.list (cut (ys.map PyData.int) (some a) (some b))) else .stuck) = _
    rw [if_pos (by rw [len_map_int]; exact Nat.le_trans h (by decide)), cut_map]
  · unfold cut
    show (List.take (clip ys.length b - clip ys.length a) _).length ≤ _
    rw [List.length_take, clip_pos _ ha.1, clip_pos _ (Int.le_trans ha.1 ha.2)]
    exact Nat.le_trans (Nat.min_le_left _ _) (Nat.le_trans (min_sub (Int.toNat_le_toNat ha.2)) (nat_sub ha.1))
end Mine
-- C11
set_option autoImplicit false
set_option linter.all false
namespace Mine
open PySem
namespace L11
noncomputable def F_within : MFn := { name := (Str.ofString "within"), slots := [(Str.ofString "number")], args := 1, body :=
  (.seq (.ite (.or (.cmp .Lt (.var 0) (.bin .Sub (.cint 0) (.glob 0))) (.cmp .Gt (.var 0) (.glob 0)))
  (.seq (.raise .great (.cstr (Str.ofString "over the limit")))
  .skip)
  .skip)
  (.seq (.ret (.var 0))
  .skip)) }
noncomputable def F_reckoned : MFn := { name := (Str.ofString "reckoned"), slots := [(Str.ofString "word"), (Str.ofString "one"), (Str.ofString "two")], args := 3, body :=
  (.seq (.ite (.cmp .Eq (.var 0) (.cstr (Str.ofString "sum")))
  (.seq (.retX (.call 0 (.cons (.bin .Add (.var 1) (.var 2)) .nil)))
  .skip)
  .skip)
  (.seq (.ite (.cmp .Eq (.var 0) (.cstr (Str.ofString "less")))
  (.seq (.retX (.call 0 (.cons (.bin .Sub (.var 1) (.var 2)) .nil)))
  .skip)
  .skip)
  (.seq (.ite (.cmp .Eq (.var 0) (.cstr (Str.ofString "times")))
  (.seq (.retX (.call 0 (.cons (.bin .Mult (.var 1) (.var 2)) .nil)))
  .skip)
  .skip)
  (.seq (.ite (.cmp .Eq (.var 0) (.cstr (Str.ofString "below")))
  (.seq (.ret (.bi1 .int (.cmp .Lt (.var 1) (.var 2))))
  .skip)
  .skip)
  (.seq (.ite (.cmp .Eq (.var 0) (.cstr (Str.ofString "same")))
  (.seq (.ret (.bi1 .int (.cmp .Eq (.var 1) (.var 2))))
  .skip)
  .skip)
  (.seq (.ite (.cmp .Eq (.var 2) (.cint 0))
  (.seq (.raise .nought (.cstr (Str.ofString "by nought")))
  .skip)
  .skip)
  (.seq (.ite (.cmp .Eq (.var 0) (.cstr (Str.ofString "part")))
  (.seq (.ret (.bin .FloorDiv (.var 1) (.var 2)))
  .skip)
  .skip)
  (.seq (.ret (.bin .Sub (.var 1) (.bin .Mult (.var 2) (.bin .FloorDiv (.var 1) (.var 2)))))
  .skip)))))))) }
noncomputable def F_is_num : MFn := { name := (Str.ofString "is_num"), slots := [(Str.ofString "expr")], args := 1, body :=
  (.seq (.ret (.cmp .Eq (.idx (.var 0) (.cint 0)) (.cstr (Str.ofString "num"))))
  .skip) }
noncomputable def F_fits : MFn := { name := (Str.ofString "fits"), slots := [(Str.ofString "number")], args := 1, body :=
  (.seq (.ret (.cmp2 .LtE .LtE (.bin .Sub (.cint 0) (.glob 0)) (.var 0) (.glob 0)))
  .skip) }
noncomputable def F_both_known : MFn := { name := (Str.ofString "both_known"), slots := [(Str.ofString "word"), (Str.ofString "one"), (Str.ofString "two")], args := 3, body :=
  (.seq (.tryx (.seq (.retX (.tupD (.cons (.cstr (Str.ofString "num")) (.cons (.call 1 (.cons (.var 0) (.cons (.idx (.var 1) (.cint 1)) (.cons (.idx (.var 2) (.cint 1)) .nil)))) .nil))))
  .skip)
  (.cons .valueError none (.seq (.ret (.tupD (.cons (.var 0) (.cons (.var 1) (.cons (.var 2) .nil)))))
  .skip) .nil))
  .skip) }
noncomputable def F_joined : MFn := { name := (Str.ofString "joined"), slots := [(Str.ofString "word"), (Str.ofString "one"), (Str.ofString "two"), (Str.ofString "n")], args := 3, body :=
  (.seq (.ite (.and (.call 2 (.cons (.var 1) .nil)) (.call 2 (.cons (.var 2) .nil)))
  (.seq (.ret (.call 4 (.cons (.var 0) (.cons (.var 1) (.cons (.var 2) .nil)))))
  .skip)
  .skip)
  (.seq (.ite (.and (.call 2 (.cons (.var 1) .nil)) (.cmp .In (.var 0) (.tupD (.cons (.cstr (Str.ofString "sum")) (.cons (.cstr (Str.ofString "times")) (.cons (.cstr (Str.ofString "same")) .nil))))))
  (.seq (.ret (.call 5 (.cons (.var 0) (.cons (.var 2) (.cons (.var 1) .nil)))))
  .skip)
  .skip)
  (.seq (.ite (.nt (.call 2 (.cons (.var 2) .nil)))
  (.seq (.ret (.tupD (.cons (.var 0) (.cons (.var 1) (.cons (.var 2) .nil)))))
  .skip)
  .skip)
  (.seq (.asg 3 (.idx (.var 2) (.cint 1)))
  (.seq (.ite (.cmp .Eq (.var 0) (.cstr (Str.ofString "less")))
  (.seq (.ret (.call 5 (.cons (.cstr (Str.ofString "sum")) (.cons (.var 1) (.cons (.tupD (.cons (.cstr (Str.ofString "num")) (.cons (.bin .Sub (.cint 0) (.var 3)) .nil))) .nil)))))
  .skip)
  .skip)
  (.seq (.ite (.or (.and (.cmp .Eq (.var 0) (.cstr (Str.ofString "sum"))) (.cmp .Eq (.var 3) (.cint 0))) (.and (.cmp .In (.var 0) (.tupD (.cons (.cstr (Str.ofString "times")) (.cons (.cstr (Str.ofString "part")) .nil)))) (.cmp .Eq (.var 3) (.cint 1))))
  (.seq (.ret (.var 1))
  .skip)
  .skip)
  (.seq (.ite (.cmp .Eq (.var 0) (.cstr (Str.ofString "sum")))
  (.seq (.ret (.call 6 (.cons (.var 1) (.cons (.var 3) .nil))))
  .skip)
  .skip)
  (.seq (.ite (.and (.cmp .In (.var 0) (.tupD (.cons (.cstr (Str.ofString "times")) (.cons (.cstr (Str.ofString "part")) (.cons (.cstr (Str.ofString "rest")) .nil))))) (.and (.cmp .Eq (.idx (.var 1) (.cint 0)) (.var 0)) (.call 2 (.cons (.idx (.var 1) (.cint 2)) .nil))))
  (.seq (.ret (.call 7 (.cons (.var 0) (.cons (.var 1) (.cons (.var 3) .nil)))))
  .skip)
  .skip)
  (.seq (.ret (.tupD (.cons (.var 0) (.cons (.var 1) (.cons (.var 2) .nil)))))
  .skip))))))))) }
noncomputable def F_joined_sum : MFn := { name := (Str.ofString "joined_sum"), slots := [(Str.ofString "t"), (Str.ofString "n"), (Str.ofString "m"), (Str.ofString "unlike")], args := 2, body :=
  (.seq (.ite (.and (.cmp .Eq (.idx (.var 0) (.cint 0)) (.cstr (Str.ofString "sum"))) (.call 2 (.cons (.idx (.var 0) (.cint 2)) .nil)))
  (.seq (.asg 2 (.idx (.idx (.var 0) (.cint 2)) (.cint 1)))
  (.seq (.ite (.and (.or (.and (.cmp .Gt (.var 2) (.cint 0)) (.cmp .Gt (.var 1) (.cint 0))) (.and (.cmp .Lt (.var 2) (.cint 0)) (.cmp .Lt (.var 1) (.cint 0)))) (.call 3 (.cons (.bin .Add (.var 2) (.var 1)) .nil)))
  (.seq (.ret (.call 5 (.cons (.cstr (Str.ofString "sum")) (.cons (.idx (.var 0) (.cint 1)) (.cons (.tupD (.cons (.cstr (Str.ofString "num")) (.cons (.bin .Add (.var 2) (.var 1)) .nil))) .nil)))))
  .skip)
  .skip)
  .skip))
  .skip)
  (.seq (.ite (.and (.cmp .Eq (.idx (.var 0) (.cint 0)) (.cstr (Str.ofString "less"))) (.call 2 (.cons (.idx (.var 0) (.cint 1)) .nil)))
  (.seq (.asg 2 (.idx (.idx (.var 0) (.cint 1)) (.cint 1)))
  (.seq (.asg 3 (.or (.and (.cmp .Gt (.var 2) (.cint 0)) (.cmp .Lt (.var 1) (.cint 0))) (.and (.cmp .Lt (.var 2) (.cint 0)) (.cmp .Gt (.var 1) (.cint 0)))))
  (.seq (.ite (.and (.nt (.var 3)) (.call 3 (.cons (.bin .Add (.var 2) (.var 1)) .nil)))
  (.seq (.ret (.call 5 (.cons (.cstr (Str.ofString "less")) (.cons (.tupD (.cons (.cstr (Str.ofString "num")) (.cons (.bin .Add (.var 2) (.var 1)) .nil))) (.cons (.idx (.var 0) (.cint 2)) .nil)))))
  .skip)
  .skip)
  .skip)))
  .skip)
  (.seq (.ret (.tupD (.cons (.cstr (Str.ofString "sum")) (.cons (.var 0) (.cons (.tupD (.cons (.cstr (Str.ofString "num")) (.cons (.var 1) .nil))) .nil)))))
  .skip))) }
noncomputable def F_joined_twice : MFn := { name := (Str.ofString "joined_twice"), slots := [(Str.ofString "word"), (Str.ofString "t"), (Str.ofString "n"), (Str.ofString "m")], args := 3, body :=
  (.seq (.asg 3 (.idx (.idx (.var 1) (.cint 2)) (.cint 1)))
  (.seq (.ite (.and (.cmp .Eq (.var 0) (.cstr (Str.ofString "times"))) (.and (.cmp .NotEq (.var 2) (.cint 0)) (.call 3 (.cons (.bin .Mult (.var 3) (.var 2)) .nil))))
  (.seq (.ret (.call 5 (.cons (.cstr (Str.ofString "times")) (.cons (.idx (.var 1) (.cint 1)) (.cons (.tupD (.cons (.cstr (Str.ofString "num")) (.cons (.bin .Mult (.var 3) (.var 2)) .nil))) .nil)))))
  .skip)
  .skip)
  (.seq (.ite (.and (.cmp .Eq (.var 0) (.cstr (Str.ofString "part"))) (.and (.cmp .Gt (.var 3) (.cint 0)) (.and (.cmp .Gt (.var 2) (.cint 0)) (.call 3 (.cons (.bin .Mult (.var 3) (.var 2)) .nil)))))
  (.seq (.ret (.call 5 (.cons (.cstr (Str.ofString "part")) (.cons (.idx (.var 1) (.cint 1)) (.cons (.tupD (.cons (.cstr (Str.ofString "num")) (.cons (.bin .Mult (.var 3) (.var 2)) .nil))) .nil)))))
  .skip)
  .skip)
  (.seq (.ite (.and (.cmp .Eq (.var 0) (.cstr (Str.ofString "rest"))) (.and (.cmp .Gt (.var 3) (.cint 0)) (.cmp .Gt (.var 2) (.cint 0))))
  (.seq (.ite (.cmp .LtE (.var 3) (.var 2))
  (.seq (.ret (.var 1))
  .skip)
  .skip)
  (.seq (.ite (.cmp .Eq (.bin .Mod (.var 3) (.var 2)) (.cint 0))
  (.seq (.ret (.call 5 (.cons (.cstr (Str.ofString "rest")) (.cons (.idx (.var 1) (.cint 1)) (.cons (.tupD (.cons (.cstr (Str.ofString "num")) (.cons (.var 2) .nil))) .nil)))))
  .skip)
  .skip)
  .skip))
  .skip)
  (.seq (.ret (.tupD (.cons (.var 0) (.cons (.var 1) (.cons (.tupD (.cons (.cstr (Str.ofString "num")) (.cons (.var 2) .nil))) .nil)))))
  .skip))))) }
noncomputable def F_chosen : MFn := { name := (Str.ofString "chosen"), slots := [(Str.ofString "cond"), (Str.ofString "one"), (Str.ofString "two")], args := 3, body :=
  (.seq (.ite (.call 2 (.cons (.var 0) .nil))
  (.seq (.ite (.cmp .NotEq (.idx (.var 0) (.cint 1)) (.cint 0))
  (.seq (.ret (.var 1))
  .skip)
  .skip)
  (.seq (.ret (.var 2))
  .skip))
  .skip)
  (.seq (.ite (.and (.cmp .Eq (.idx (.var 0) (.cint 0)) (.cstr (Str.ofString "same"))) (.cmp .Eq (.idx (.var 0) (.cint 2)) (.tupD (.cons (.cstr (Str.ofString "num")) (.cons (.cint 0) .nil)))))
  (.seq (.ret (.call 8 (.cons (.idx (.var 0) (.cint 1)) (.cons (.var 2) (.cons (.var 1) .nil)))))
  .skip)
  .skip)
  (.seq (.ret (.tupD (.cons (.cstr (Str.ofString "when")) (.cons (.var 0) (.cons (.var 1) (.cons (.var 2) .nil))))))
  .skip))) }
noncomputable def F_folded : MFn := { name := (Str.ofString "folded"), slots := [(Str.ofString "expr"), (Str.ofString "known"), (Str.ofString "made"), (Str.ofString "inner")], args := 2, body :=
  (.seq (.ite (.cmp .Eq (.idx (.var 0) (.cint 0)) (.cstr (Str.ofString "num")))
  (.seq (.ret (.var 0))
  .skip)
  .skip)
  (.seq (.ite (.cmp .Eq (.idx (.var 0) (.cint 0)) (.cstr (Str.ofString "name")))
  (.seq (.ite (.cmp .In (.idx (.var 0) (.cint 1)) (.var 1))
  (.seq (.ret (.tupD (.cons (.cstr (Str.ofString "num")) (.cons (.idx (.var 1) (.idx (.var 0) (.cint 1))) .nil))))
  .skip)
  .skip)
  (.seq (.ret (.var 0))
  .skip))
  .skip)
  (.seq (.ite (.cmp .Eq (.idx (.var 0) (.cint 0)) (.cstr (Str.ofString "when")))
  (.seq (.ret (.call 8 (.cons (.call 9 (.cons (.idx (.var 0) (.cint 1)) (.cons (.var 1) .nil))) (.cons (.call 9 (.cons (.idx (.var 0) (.cint 2)) (.cons (.var 1) .nil))) (.cons (.call 9 (.cons (.idx (.var 0) (.cint 3)) (.cons (.var 1) .nil))) .nil)))))
  .skip)
  .skip)
  (.seq (.ite (.cmp .NotEq (.idx (.var 0) (.cint 0)) (.cstr (Str.ofString "let")))
  (.seq (.ret (.call 5 (.cons (.idx (.var 0) (.cint 0)) (.cons (.call 9 (.cons (.idx (.var 0) (.cint 1)) (.cons (.var 1) .nil))) (.cons (.call 9 (.cons (.idx (.var 0) (.cint 2)) (.cons (.var 1) .nil))) .nil)))))
  .skip)
  .skip)
  (.seq (.asg 2 (.call 9 (.cons (.idx (.var 0) (.cint 2)) (.cons (.var 1) .nil))))
  (.seq (.asgOwn 3 (.bi1 .dict (.var 1)))
  (.seq (.ite (.call 2 (.cons (.var 2) .nil))
  (.seq (.store 3 (.idx (.var 0) (.cint 1)) (.idx (.var 2) (.cint 1)))
  (.seq (.ret (.call 9 (.cons (.idx (.var 0) (.cint 3)) (.cons (.own 3) .nil))))
  .skip))
  .skip)
  (.seq (.pop 3 (.idx (.var 0) (.cint 1)))
  (.seq (.ret (.tupD (.cons (.cstr (Str.ofString "let")) (.cons (.idx (.var 0) (.cint 1)) (.cons (.var 2) (.cons (.call 9 (.cons (.idx (.var 0) (.cint 3)) (.cons (.own 3) .nil))) .nil))))))
  .skip))))))))) }
noncomputable def F_law_mixed : MFn := { name := (Str.ofString "_law_mixed"), slots := [(Str.ofString "_law_script"), (Str.ofString "_law_found"), (Str.ofString "_law_more"), (Str.ofString "_law_cell")], args := 1, body :=
  (.seq (.asgOwn 1 (.lstD .nil))
  (.seq (.asg 2 (.cint 1))
  (.seq (.forL 3 (.var 0)
  (.seq (.asg 2 (.bin .Mod (.bin .Add (.bin .Add (.bin .Mult (.var 2) (.cint 6364136223846793005)) (.var 3)) (.cint 1442695040888963407)) (.cint 1000000000000000003)))
  (.seq (.append 1 (.var 2))
  .skip)))
  (.seq (.ret (.own 1))
  .skip)))) }
noncomputable def F_law_cell_at : MFn := { name := (Str.ofString "_law_cell_at"), slots := [(Str.ofString "_law_script"), (Str.ofString "_law_k")], args := 2, body :=
  (.seq (.ite (.cmp .Lt (.var 1) (.bi1 .len (.var 0)))
  (.seq (.ret (.idx (.var 0) (.var 1)))
  .skip)
  .skip)
  (.seq (.ret (.cint 0))
  .skip)) }
noncomputable def F_law_whole : MFn := { name := (Str.ofString "_law_whole"), slots := [(Str.ofString "_law_found")], args := 1, body :=
  (.seq (.ret (.and (.isi (.var 0) .int) (.nt (.isi (.var 0) .bool))))
  .skip) }
noncomputable def F_law_number_by : MFn := { name := (Str.ofString "_law_number_by"), slots := [(Str.ofString "_law_cell"), (Str.ofString "_law_way"), (Str.ofString "_law_more")], args := 1, body :=
  (.seq (.asg 1 (.bin .Mod (.var 0) (.cint 8)))
  (.seq (.asg 2 (.bin .FloorDiv (.var 0) (.cint 8)))
  (.seq (.ite (.cmp .Eq (.var 1) (.cint 0))
  (.seq (.ret (.bin .Sub (.bin .Mod (.var 2) (.cint 2000000001)) (.cint 1000000000)))
  .skip)
  .skip)
  (.seq (.ite (.cmp .Eq (.var 1) (.cint 1))
  (.seq (.ret (.idx (.lstD (.cons (.cint 1000000000) (.cons (.neg (.cint 1000000000)) (.cons (.cint 999999999) (.cons (.neg (.cint 999999999)) .nil))))) (.bin .Mod (.var 2) (.cint 4))))
  .skip)
  .skip)
  (.seq (.ite (.cmp .Eq (.var 1) (.cint 2))
  (.seq (.ret (.bin .Sub (.bin .Mod (.var 2) (.cint 60001)) (.cint 30000)))
  .skip)
  .skip)
  (.seq (.ite (.cmp .Lt (.var 1) (.cint 5))
  (.seq (.ret (.idx (.lstD (.cons (.cint 0) (.cons (.cint 1) (.cons (.neg (.cint 1)) (.cons (.cint 2) (.cons (.cint 3) (.cons (.cint 4) (.cons (.cint 6) (.cons (.cint 8) (.cons (.cint 12) (.cons (.cint 24) (.cons (.neg (.cint 2)) (.cons (.neg (.cint 1)) (.cons (.cint 5) (.cons (.cint 1) (.cons (.cint 50000) (.cons (.cint 30000) (.cons (.cint 2000) .nil)))))))))))))))))) (.bin .Mod (.var 2) (.cint 17))))
  .skip)
  .skip)
  (.seq (.ret (.bin .Sub (.bin .Mod (.var 2) (.cint 13)) (.cint 6)))
  .skip))))))) }
noncomputable def F_law_name_by : MFn := { name := (Str.ofString "_law_name_by"), slots := [(Str.ofString "_law_seed"), (Str.ofString "_law_k"), (Str.ofString "_law_signs"), (Str.ofString "_law_words"), (Str.ofString "_law_more"), (Str.ofString "_law_name"), (Str.ofString "_law_at"), (Str.ofString "_law_turn"), (Str.ofString "_law_spot"), (Str.ofString "_law_two"), (Str.ofString "_law_sign")], args := 2, body :=
  (.seq (.asg 2 (.cstr (Str.ofString "abcdefghijklmnopqrstuvwxyz")))
  (.seq (.asg 3 (.lstD (.cons (.cstr (Str.ofString "num")) (.cons (.cstr (Str.ofString "name")) (.cons (.cstr (Str.ofString "sum")) (.cons (.cstr (Str.ofString "less")) (.cons (.cstr (Str.ofString "times")) (.cons (.cstr (Str.ofString "part")) (.cons (.cstr (Str.ofString "rest")) (.cons (.cstr (Str.ofString "below")) (.cons (.cstr (Str.ofString "same")) (.cons (.cstr (Str.ofString "when")) (.cons (.cstr (Str.ofString "let")) .nil)))))))))))))
  (.seq (.asg 4 (.bin .FloorDiv (.var 0) (.cint 6)))
  (.seq (.ite (.and (.cmp .Eq (.bin .Mod (.var 0) (.cint 6)) (.cint 0)) (.cmp .Lt (.var 1) (.cint 4)))
  (.seq (.ret (.idx (.var 3) (.bin .Mod (.bin .Add (.var 4) (.var 1)) (.cint 11))))
  .skip)
  .skip)
  (.seq (.asg 5 (.cstr (Str.ofString "")))
  (.seq (.asg 6 (.bin .FloorDiv (.var 4) (.cint 7)))
  (.seq (.forR 7 (.cint 0) (.bin .Add (.cint 1) (.bin .Mod (.var 4) (.cint 7)))
  (.seq (.asg 6 (.bin .Add (.bin .Add (.var 6) (.cint 1)) (.bin .Mod (.bin .FloorDiv (.var 4) (.cint 182)) (.cint 25))))
  (.seq (.asg 5 (.bin .Add (.var 5) (.idx (.var 2) (.bin .Mod (.var 6) (.cint 26)))))
  .skip)))
  (.seq (.asg 8 (.bin .Mod (.bin .FloorDiv (.var 4) (.cint 4550)) (.bi1 .len (.var 5))))
  (.seq (.ite (.cmp .Gt (.var 1) (.cint 3))
  (.seq (.asg 8 (.bi2 .min (.var 8) (.cint 6)))
  (.seq (.asg 9 (.bin .Add (.idx (.var 2) (.bin .Mod (.bin .Add (.var 6) (.bin .FloorDiv (.var 1) (.cint 26))) (.cint 26))) (.idx (.var 2) (.bin .Mod (.var 1) (.cint 26)))))
  (.seq (.ret (.bin .Add (.bin .Add (.slice (.var 5) .none (.some (.var 8))) (.var 9)) (.slice (.var 5) (.some (.var 8)) (.some (.cint 6)))))
  .skip)))
  .skip)
  (.seq (.ite (.cmp .Gt (.bin .Mod (.var 0) (.cint 6)) (.cint 3))
  (.seq (.ret (.bin .Add (.idx (.var 2) (.bin .Mod (.bin .Add (.bin .FloorDiv (.var 4) (.cint 7)) (.var 1)) (.cint 26))) (.var 5)))
  .skip)
  .skip)
  (.seq (.ite (.cmp .Eq (.var 1) (.cint 1))
  (.seq (.asg 10 (.idx (.var 2) (.bin .Mod (.bin .Add (.find (.var 2) (.idx (.var 5) (.var 8))) (.cint 1)) (.cint 26))))
  (.seq (.ret (.bin .Add (.bin .Add (.slice (.var 5) .none (.some (.var 8))) (.var 10)) (.slice (.var 5) (.some (.bin .Add (.var 8) (.cint 1))) .none)))
  .skip))
  .skip)
  (.seq (.ret (.bin .Add (.var 5) (.idx (.lstD (.cons (.cstr (Str.ofString "")) (.cons (.cstr (Str.ofString "")) (.cons (.idx (.var 2) (.bin .Mod (.var 6) (.cint 26))) (.cons (.idx (.var 2) (.bin .Mod (.bin .Add (.var 6) (.cint 1)) (.cint 26))) .nil))))) (.var 1))))
  .skip)))))))))))) }
noncomputable def F_law_step : MFn := { name := (Str.ofString "_law_step"), slots := [(Str.ofString "_law_pile"), (Str.ofString "_law_kind"), (Str.ofString "_law_more"), (Str.ofString "_law_seed"), (Str.ofString "_law_words"), (Str.ofString "_law_word"), (Str.ofString "_law_number"), (Str.ofString "_law_cond"), (Str.ofString "_law_turn")], args := 4, body :=
  (.seq (.asg 4 (.lstD (.cons (.cstr (Str.ofString "sum")) (.cons (.cstr (Str.ofString "less")) (.cons (.cstr (Str.ofString "times")) (.cons (.cstr (Str.ofString "part")) (.cons (.cstr (Str.ofString "rest")) (.cons (.cstr (Str.ofString "below")) (.cons (.cstr (Str.ofString "same")) .nil)))))))))
  (.seq (.asg 5 (.idx (.var 4) (.bin .Mod (.var 2) (.cint 7))))
  (.seq (.ite (.and (.or (.cmp .Eq (.var 1) (.cint 12)) (.cmp .Gt (.var 1) (.cint 16))) (.cmp .Gt (.bi1 .len (.var 0)) (.cint 1)))
  (.seq (.ret (.bin .Add (.slice (.var 0) .none (.some (.neg (.cint 2)))) (.lstD (.cons (.tupD (.cons (.cstr (Str.ofString "let")) (.cons (.call 14 (.cons (.var 3) (.cons (.bin .Mod (.var 2) (.cint 3)) .nil))) (.cons (.idx (.var 0) (.neg (.cint 2))) (.cons (.idx (.var 0) (.neg (.cint 1))) .nil))))) .nil))))
  .skip)
  .skip)
  (.seq (.ite (.and (.cmp .Gt (.var 1) (.cint 12)) (.cmp .Gt (.bi1 .len (.var 0)) (.cint 0)))
  (.seq (.ite (.and (.cmp .Eq (.var 1) (.cint 14)) (.cmp .In (.idx (.idx (.var 0) (.neg (.cint 1))) (.cint 0)) (.var 4)))
  (.seq (.asg 5 (.idx (.idx (.var 0) (.neg (.cint 1))) (.cint 0)))
  .skip)
  .skip)
  (.seq (.asg 6 (.tupD (.cons (.cstr (Str.ofString "num")) (.cons (.call 13 (.cons (.bin .FloorDiv (.var 2) (.cint 7)) .nil)) .nil))))
  (.seq (.ite (.cmp .Eq (.var 1) (.cint 16))
  (.seq (.ret (.bin .Add (.slice (.var 0) .none (.some (.neg (.cint 1)))) (.lstD (.cons (.tupD (.cons (.var 5) (.cons (.var 6) (.cons (.idx (.var 0) (.neg (.cint 1))) .nil)))) .nil))))
  .skip)
  .skip)
  (.seq (.ret (.bin .Add (.slice (.var 0) .none (.some (.neg (.cint 1)))) (.lstD (.cons (.tupD (.cons (.var 5) (.cons (.idx (.var 0) (.neg (.cint 1))) (.cons (.var 6) .nil)))) .nil))))
  .skip))))
  .skip)
  (.seq (.ite (.and (.cmp .Eq (.var 1) (.cint 10)) (.cmp .Gt (.bi1 .len (.var 0)) (.cint 0)))
  (.seq (.asg 6 (.tupD (.cons (.cstr (Str.ofString "num")) (.cons (.call 13 (.cons (.bin .FloorDiv (.var 2) (.cint 3)) .nil)) .nil))))
  (.seq (.ret (.bin .Add (.slice (.var 0) .none (.some (.neg (.cint 1)))) (.lstD (.cons (.tupD (.cons (.cstr (Str.ofString "let")) (.cons (.call 14 (.cons (.var 3) (.cons (.bin .Mod (.var 2) (.cint 3)) .nil))) (.cons (.var 6) (.cons (.idx (.var 0) (.neg (.cint 1))) .nil))))) .nil))))
  .skip))
  .skip)
  (.seq (.ite (.and (.cmp .Eq (.var 1) (.cint 11)) (.cmp .Gt (.bi1 .len (.var 0)) (.cint 2)))
  (.seq (.asg 7 (.idx (.var 0) (.neg (.cint 3))))
  (.seq (.forR 8 (.cint 0) (.bin .Mod (.var 2) (.cint 3))
  (.seq (.asg 7 (.tupD (.cons (.cstr (Str.ofString "same")) (.cons (.var 7) (.cons (.tupD (.cons (.cstr (Str.ofString "num")) (.cons (.cint 0) .nil))) .nil)))))
  .skip))
  (.seq (.ret (.bin .Add (.slice (.var 0) .none (.some (.neg (.cint 3)))) (.lstD (.cons (.tupD (.cons (.cstr (Str.ofString "when")) (.cons (.var 7) (.cons (.idx (.var 0) (.neg (.cint 2))) (.cons (.idx (.var 0) (.neg (.cint 1))) .nil))))) .nil))))
  .skip)))
  .skip)
  (.seq (.ite (.and (.cmp .Gt (.var 1) (.cint 5)) (.cmp .Gt (.bi1 .len (.var 0)) (.cint 1)))
  (.seq (.ret (.bin .Add (.slice (.var 0) .none (.some (.neg (.cint 2)))) (.lstD (.cons (.tupD (.cons (.var 5) (.cons (.idx (.var 0) (.neg (.cint 2))) (.cons (.idx (.var 0) (.neg (.cint 1))) .nil)))) .nil))))
  .skip)
  .skip)
  (.seq (.ite (.cmp .Lt (.var 1) (.cint 2))
  (.seq (.ret (.bin .Add (.var 0) (.lstD (.cons (.tupD (.cons (.cstr (Str.ofString "num")) (.cons (.call 13 (.cons (.var 2) .nil)) .nil))) .nil))))
  .skip)
  .skip)
  (.seq (.ret (.bin .Add (.var 0) (.lstD (.cons (.tupD (.cons (.cstr (Str.ofString "name")) (.cons (.call 14 (.cons (.var 3) (.cons (.bin .Mod (.var 2) (.cint 3)) .nil))) .nil))) .nil))))
  .skip))))))))) }
noncomputable def F_law_tree_by : MFn := { name := (Str.ofString "_law_tree_by"), slots := [(Str.ofString "_law_cells"), (Str.ofString "_law_seed"), (Str.ofString "_law_pile"), (Str.ofString "_law_cell")], args := 2, body :=
  (.seq (.asg 2 (.lstD .nil))
  (.seq (.forL 3 (.var 0)
  (.seq (.asg 2 (.call 15 (.cons (.var 2) (.cons (.bin .Mod (.var 3) (.cint 20)) (.cons (.bin .FloorDiv (.var 3) (.cint 20)) (.cons (.var 1) .nil))))))
  .skip))
  (.seq (.loop (.cmp .Gt (.bi1 .len (.var 2)) (.cint 1))
  (.seq (.asg 2 (.bin .Add (.slice (.var 2) .none (.some (.neg (.cint 2)))) (.lstD (.cons (.tupD (.cons (.cstr (Str.ofString "sum")) (.cons (.idx (.var 2) (.neg (.cint 2))) (.cons (.idx (.var 2) (.neg (.cint 1))) .nil)))) .nil))))
  .skip))
  (.seq (.ite (.cmp .Eq (.var 2) (.lstD .nil))
  (.seq (.ret (.tupD (.cons (.cstr (Str.ofString "num")) (.cons (.cint 0) .nil))))
  .skip)
  .skip)
  (.seq (.ret (.idx (.var 2) (.cint 0)))
  .skip))))) }
noncomputable def F_law_link : MFn := { name := (Str.ofString "_law_link"), slots := [(Str.ofString "_law_word"), (Str.ofString "_law_code"), (Str.ofString "_law_row")], args := 2, body :=
  (.seq (.asg 2 (.lstD (.cons (.cint 0) (.cons (.cint 1) (.cons (.neg (.cint 1)) (.cons (.cint 500000000) (.cons (.neg (.cint 500000000)) (.cons (.cint 3) (.cons (.cint 999999999) (.cons (.cint 7) (.cons (.neg (.cint 2)) .nil)))))))))))
  (.seq (.ite (.cmp .Eq (.var 0) (.cstr (Str.ofString "times")))
  (.seq (.asg 2 (.lstD (.cons (.neg (.cint 1)) (.cons (.cint 2) (.cons (.neg (.cint 1)) (.cons (.cint 1000) (.cons (.cint 1) (.cons (.cint 0) (.cons (.cint 31622) (.cons (.neg (.cint 3)) (.cons (.neg (.cint 1)) .nil)))))))))))
  .skip)
  .skip)
  (.seq (.ite (.cmp .Eq (.var 0) (.cstr (Str.ofString "part")))
  (.seq (.asg 2 (.lstD (.cons (.cint 2) (.cons (.neg (.cint 1)) (.cons (.cint 3) (.cons (.cint 5) (.cons (.cint 40000) (.cons (.neg (.cint 2)) (.cons (.cint 30000) (.cons (.cint 7) (.cons (.cint 0) .nil)))))))))))
  .skip)
  .skip)
  (.seq (.ite (.cmp .Eq (.var 0) (.cstr (Str.ofString "rest")))
  (.seq (.asg 2 (.lstD (.cons (.cint 12) (.cons (.cint 8) (.cons (.cint 4) (.cons (.cint 18) (.cons (.cint 12) (.cons (.cint 6) (.cons (.cint 9) (.cons (.cint 6) (.cons (.cint 3) .nil)))))))))))
  .skip)
  .skip)
  (.seq (.ret (.idx (.var 2) (.bin .Mod (.var 1) (.cint 9))))
  .skip))))) }
noncomputable def F_law_many_by : MFn := { name := (Str.ofString "_law_many_by"), slots := [(Str.ofString "_law_seed"), (Str.ofString "_law_cell"), (Str.ofString "_law_words"), (Str.ofString "_law_expr"), (Str.ofString "_law_k"), (Str.ofString "_law_word")], args := 2, body :=
  (.seq (.asg 2 (.lstD (.cons (.cstr (Str.ofString "sum")) (.cons (.cstr (Str.ofString "less")) (.cons (.cstr (Str.ofString "times")) (.cons (.cstr (Str.ofString "part")) (.cons (.cstr (Str.ofString "rest")) (.cons (.cstr (Str.ofString "below")) (.cons (.cstr (Str.ofString "same")) .nil)))))))))
  (.seq (.asg 3 (.tupD (.cons (.cstr (Str.ofString "name")) (.cons (.call 14 (.cons (.var 0) (.cons (.bin .Mod (.var 1) (.cint 40)) .nil))) .nil))))
  (.seq (.forR 4 (.cint 0) (.bin .Add (.cint 5) (.bin .Mod (.bin .FloorDiv (.var 1) (.cint 40)) (.cint 36)))
  (.seq (.asg 5 (.idx (.var 2) (.bin .Mod (.bin .FloorDiv (.var 1) (.cint 1440)) (.cint 7))))
  (.seq (.ite (.cmp .Eq (.bin .Mod (.bin .FloorDiv (.var 1) (.cint 10080)) (.cint 2)) (.cint 1))
  (.seq (.asg 5 (.idx (.var 2) (.bin .Mod (.bin .Add (.bin .FloorDiv (.var 1) (.cint 20160)) (.var 4)) (.cint 2))))
  .skip)
  .skip)
  (.seq (.asg 3 (.tupD (.cons (.var 5) (.cons (.var 3) (.cons (.tupD (.cons (.cstr (Str.ofString "name")) (.cons (.call 14 (.cons (.var 0) (.cons (.var 4) .nil))) .nil))) .nil)))))
  .skip))))
  (.seq (.ret (.var 3))
  .skip)))) }
noncomputable def F_law_expr_by : MFn := { name := (Str.ofString "_law_expr_by"), slots := [(Str.ofString "_law_script"), (Str.ofString "_law_seed"), (Str.ofString "_law_cell"), (Str.ofString "_law_room"), (Str.ofString "_law_word"), (Str.ofString "_law_code"), (Str.ofString "_law_expr"), (Str.ofString "_law_many"), (Str.ofString "_law_k"), (Str.ofString "_law_number")], args := 1, body :=
  (.seq (.asg 1 (.call 11 (.cons (.var 0) (.cons (.cint 0) .nil))))
  (.seq (.asg 2 (.call 11 (.cons (.var 0) (.cons (.cint 1) .nil))))
  (.seq (.asg 3 (.cint 26))
  (.seq (.ite (.cmp .Gt (.bi1 .len (.var 0)) (.cint 63))
  (.seq (.asg 3 (.cint 48))
  .skip)
  .skip)
  (.seq (.ite (.cmp .Lt (.bin .Mod (.var 2) (.cint 8)) (.cint 4))
  (.seq (.ret (.call 16 (.cons (.slice (.var 0) (.some (.cint 2)) (.some (.bin .Add (.cint 2) (.var 3)))) (.cons (.var 1) .nil))))
  .skip)
  .skip)
  (.seq (.ite (.cmp .Eq (.bin .Mod (.var 2) (.cint 8)) (.cint 7))
  (.seq (.ret (.call 18 (.cons (.var 1) (.cons (.bin .FloorDiv (.var 2) (.cint 8)) .nil))))
  .skip)
  .skip)
  (.seq (.asg 4 (.idx (.lstD (.cons (.cstr (Str.ofString "sum")) (.cons (.cstr (Str.ofString "less")) (.cons (.cstr (Str.ofString "times")) (.cons (.cstr (Str.ofString "part")) (.cons (.cstr (Str.ofString "rest")) (.cons (.cstr (Str.ofString "part")) (.cons (.cstr (Str.ofString "rest")) .nil)))))))) (.bin .Mod (.bin .FloorDiv (.var 2) (.cint 8)) (.cint 7))))
  (.seq (.asg 5 (.bin .FloorDiv (.var 2) (.cint 20160)))
  (.seq (.asg 6 (.tupD (.cons (.cstr (Str.ofString "name")) (.cons (.call 14 (.cons (.var 1) (.cons (.cint 3) .nil))) .nil))))
  (.seq (.ite (.cmp .Eq (.bin .Mod (.bin .FloorDiv (.var 2) (.cint 56)) (.cint 3)) (.cint 1))
  (.seq (.asg 6 (.call 16 (.cons (.slice (.var 0) (.some (.cint 2)) (.some (.cint 8))) (.cons (.var 1) .nil))))
  .skip)
  .skip)
  (.seq (.ite (.and (.cmp .Eq (.bin .Mod (.bin .FloorDiv (.var 2) (.cint 56)) (.cint 3)) (.cint 2)) (.or (.cmp .Eq (.var 4) (.cstr (Str.ofString "sum"))) (.cmp .Eq (.var 4) (.cstr (Str.ofString "less")))))
  (.seq (.asg 6 (.tupD (.cons (.cstr (Str.ofString "less")) (.cons (.tupD (.cons (.cstr (Str.ofString "num")) (.cons (.call 17 (.cons (.var 4) (.cons (.bin .FloorDiv (.var 5) (.cint 4)) .nil))) .nil))) (.cons (.var 6) .nil)))))
  .skip)
  .skip)
  (.seq (.asg 7 (.bin .Mod (.bin .FloorDiv (.var 2) (.cint 168)) (.bin .Add (.cint 30) (.bin .Mult (.cint 30) (.bi1 .int (.cmp .Eq (.idx (.var 6) (.cint 0)) (.cstr (Str.ofString "name"))))))))
  (.seq (.ite (.cmp .Eq (.bin .Mod (.bin .FloorDiv (.var 2) (.cint 10080)) (.cint 2)) (.cint 1))
  (.seq (.asg 7 (.bin .Add (.cint 1) (.bin .Mod (.var 7) (.cint 4))))
  .skip)
  .skip)
  (.seq (.forR 8 (.cint 0) (.var 7)
  (.seq (.asg 9 (.call 17 (.cons (.var 4) (.cons (.bin .Add (.bin .FloorDiv (.var 5) (.cint 4)) (.bin .Mult (.var 8) (.bin .Add (.cint 1) (.bin .Mod (.var 5) (.cint 4))))) .nil))))
  (.seq (.ite (.cmp .Eq (.bin .Mod (.bin .FloorDiv (.var 5) (.cint 36)) (.cint 4)) (.cint 1))
  (.seq (.asg 9 (.call 13 (.cons (.bin .Add (.bin .FloorDiv (.var 5) (.cint 144)) (.bin .Mult (.var 8) (.bin .Add (.cint 1) (.bin .Mod (.var 5) (.cint 4))))) .nil)))
  .skip)
  .skip)
  (.seq (.ite (.and (.cmp .Eq (.bin .Mod (.bin .FloorDiv (.var 5) (.cint 36)) (.cint 4)) (.cint 2)) (.cmp .Gt (.bin .Mod (.bin .Add (.bin .FloorDiv (.var 5) (.cint 144)) (.var 8)) (.cint 3)) (.cint 0)))
  (.seq (.asg 6 (.tupD (.cons (.var 4) (.cons (.tupD (.cons (.cstr (Str.ofString "num")) (.cons (.var 9) .nil))) (.cons (.var 6) .nil)))))
  .skip)
  (.seq (.asg 6 (.tupD (.cons (.var 4) (.cons (.var 6) (.cons (.tupD (.cons (.cstr (Str.ofString "num")) (.cons (.var 9) .nil))) .nil)))))
  .skip))
  .skip))))
  (.seq (.ret (.var 6))
  .skip))))))))))))))) }
noncomputable def F_law_count : MFn := { name := (Str.ofString "_law_count"), slots := [(Str.ofString "_law_script")], args := 1, body :=
  (.seq (.ite (.cmp .Eq (.bin .Mod (.call 11 (.cons (.var 0) (.cons (.cint 1) .nil))) (.cint 8)) (.cint 7))
  (.seq (.ret (.cint 41))
  .skip)
  .skip)
  (.seq (.ret (.cint 4))
  .skip)) }
noncomputable def F_law_known_by : MFn := { name := (Str.ofString "_law_known_by"), slots := [(Str.ofString "_law_script"), (Str.ofString "_law_seed"), (Str.ofString "_law_known"), (Str.ofString "_law_k"), (Str.ofString "_law_cell")], args := 1, body :=
  (.seq (.asg 1 (.call 11 (.cons (.var 0) (.cons (.cint 0) .nil))))
  (.seq (.asgOwn 2 .dctD)
  (.seq (.forR 3 (.cint 0) (.call 20 (.cons (.var 0) .nil))
  (.seq (.asg 4 (.call 11 (.cons (.var 0) (.cons (.bin .Add (.cint 2) (.bin .Mult (.cint 3) (.var 3))) .nil))))
  (.seq (.ite (.cmp .Lt (.bin .Mod (.bin .Add (.bin .FloorDiv (.var 4) (.cint 3)) (.bin .Mult (.cint 5) (.var 3))) (.cint 6)) (.bin .Sub (.cint 3) (.bin .Mult (.cint 2) (.bi1 .int (.cmp .Eq (.var 3) (.cint 3))))))
  (.seq (.store 2 (.call 14 (.cons (.var 1) (.cons (.var 3) .nil))) (.call 13 (.cons (.bin .Add (.bin .FloorDiv (.var 4) (.cint 18)) (.var 3)) .nil)))
  .skip)
  .skip)
  .skip)))
  (.seq (.ret (.own 2))
  .skip)))) }
noncomputable def F_law_setting_by : MFn := { name := (Str.ofString "_law_setting_by"), slots := [(Str.ofString "_law_script"), (Str.ofString "_law_turn"), (Str.ofString "_law_seed"), (Str.ofString "_law_setting"), (Str.ofString "_law_k"), (Str.ofString "_law_cell")], args := 2, body :=
  (.seq (.asg 2 (.call 11 (.cons (.var 0) (.cons (.cint 0) .nil))))
  (.seq (.asgOwn 3 .dctD)
  (.seq (.forR 4 (.cint 0) (.call 20 (.cons (.var 0) .nil))
  (.seq (.asg 5 (.call 11 (.cons (.var 0) (.cons (.bin .Add (.bin .Add (.cint 1) (.var 1)) (.bin .Mult (.cint 2) (.var 4))) .nil))))
  (.seq (.ite (.cmp .Gt (.bin .Mod (.bin .Add (.bin .Add (.bin .FloorDiv (.var 5) (.cint 2)) (.var 1)) (.var 4)) (.bin .Add (.cint 7) (.bin .Mult (.cint 30) (.bi1 .int (.cmp .Gt (.var 4) (.cint 3)))))) (.cint 0))
  (.seq (.store 3 (.call 14 (.cons (.var 2) (.cons (.var 4) .nil))) (.call 13 (.cons (.bin .Add (.bin .Add (.bin .FloorDiv (.var 5) (.cint 74)) (.bin .Mult (.cint 5) (.var 1))) (.bin .Mult (.cint 3) (.var 4))) .nil)))
  .skip)
  .skip)
  .skip)))
  (.seq (.ret (.own 3))
  .skip)))) }
noncomputable def F_law_made : MFn := { name := (Str.ofString "_law_made"), slots := [(Str.ofString "_law_word"), (Str.ofString "_law_one"), (Str.ofString "_law_two"), (Str.ofString "_law_number")], args := 3, body :=
  (.seq (.asg 3 (.cint 0))
  (.seq (.ite (.cmp .Eq (.var 0) (.cstr (Str.ofString "sum")))
  (.seq (.asg 3 (.bin .Add (.var 1) (.var 2)))
  .skip)
  .skip)
  (.seq (.ite (.cmp .Eq (.var 0) (.cstr (Str.ofString "less")))
  (.seq (.asg 3 (.bin .Sub (.var 1) (.var 2)))
  .skip)
  .skip)
  (.seq (.ite (.cmp .Eq (.var 0) (.cstr (Str.ofString "times")))
  (.seq (.asg 3 (.bin .Mult (.var 1) (.var 2)))
  .skip)
  .skip)
  (.seq (.ite (.cmp .Eq (.var 0) (.cstr (Str.ofString "below")))
  (.seq (.asg 3 (.bi1 .int (.cmp .Lt (.var 1) (.var 2))))
  .skip)
  .skip)
  (.seq (.ite (.cmp .Eq (.var 0) (.cstr (Str.ofString "same")))
  (.seq (.asg 3 (.bi1 .int (.cmp .Eq (.var 1) (.var 2))))
  .skip)
  .skip)
  (.seq (.ite (.or (.cmp .Eq (.var 0) (.cstr (Str.ofString "part"))) (.cmp .Eq (.var 0) (.cstr (Str.ofString "rest"))))
  (.seq (.ite (.cmp .Eq (.var 2) (.cint 0))
  (.seq (.ret (.tupD (.cons (.cstr (Str.ofString "nought")) (.cons (.cstr (Str.ofString "")) .nil))))
  .skip)
  .skip)
  (.seq (.asg 3 (.bin .FloorDiv (.var 1) (.var 2)))
  (.seq (.ite (.cmp .Eq (.var 0) (.cstr (Str.ofString "rest")))
  (.seq (.asg 3 (.bin .Sub (.var 1) (.bin .Mult (.var 2) (.var 3))))
  .skip)
  .skip)
  .skip)))
  .skip)
  (.seq (.ite (.or (.cmp .Gt (.var 3) (.cint 1000000000)) (.cmp .Lt (.var 3) (.neg (.cint 1000000000))))
  (.seq (.ret (.tupD (.cons (.cstr (Str.ofString "great")) (.cons (.cstr (Str.ofString "")) .nil))))
  .skip)
  .skip)
  (.seq (.ret (.tupD (.cons (.cstr (Str.ofString "is")) (.cons (.var 3) .nil))))
  .skip))))))))) }
noncomputable def F_law_value : MFn := { name := (Str.ofString "_law_value"), slots := [(Str.ofString "_law_expr"), (Str.ofString "_law_setting"), (Str.ofString "_law_word"), (Str.ofString "_law_one"), (Str.ofString "_law_inner"), (Str.ofString "_law_two")], args := 2, body :=
  (.seq (.asg 2 (.idx (.var 0) (.cint 0)))
  (.seq (.ite (.cmp .Eq (.var 2) (.cstr (Str.ofString "num")))
  (.seq (.ret (.tupD (.cons (.cstr (Str.ofString "is")) (.cons (.idx (.var 0) (.cint 1)) .nil))))
  .skip)
  .skip)
  (.seq (.ite (.cmp .Eq (.var 2) (.cstr (Str.ofString "name")))
  (.seq (.ite (.cmp .In (.idx (.var 0) (.cint 1)) (.var 1))
  (.seq (.ret (.tupD (.cons (.cstr (Str.ofString "is")) (.cons (.idx (.var 1) (.idx (.var 0) (.cint 1))) .nil))))
  .skip)
  .skip)
  (.seq (.ret (.tupD (.cons (.cstr (Str.ofString "unset")) (.cons (.idx (.var 0) (.cint 1)) .nil))))
  .skip))
  .skip)
  (.seq (.asg 3 (.call 24 (.cons (.idx (.var 0) (.bin .Add (.cint 1) (.bi1 .int (.cmp .Eq (.var 2) (.cstr (Str.ofString "let")))))) (.cons (.var 1) .nil))))
  (.seq (.ite (.cmp .NotEq (.idx (.var 3) (.cint 0)) (.cstr (Str.ofString "is")))
  (.seq (.ret (.var 3))
  .skip)
  .skip)
  (.seq (.ite (.cmp .Eq (.var 2) (.cstr (Str.ofString "when")))
  (.seq (.ret (.call 24 (.cons (.idx (.var 0) (.bin .Sub (.cint 3) (.bi1 .int (.cmp .NotEq (.idx (.var 3) (.cint 1)) (.cint 0))))) (.cons (.var 1) .nil))))
  .skip)
  .skip)
  (.seq (.ite (.cmp .Eq (.var 2) (.cstr (Str.ofString "let")))
  (.seq (.asgOwn 4 (.bi1 .dict (.var 1)))
  (.seq (.store 4 (.idx (.var 0) (.cint 1)) (.idx (.var 3) (.cint 1)))
  (.seq (.ret (.call 24 (.cons (.idx (.var 0) (.cint 3)) (.cons (.own 4) .nil))))
  .skip)))
  .skip)
  (.seq (.asg 5 (.call 24 (.cons (.idx (.var 0) (.cint 2)) (.cons (.var 1) .nil))))
  (.seq (.ite (.cmp .NotEq (.idx (.var 5) (.cint 0)) (.cstr (Str.ofString "is")))
  (.seq (.ret (.var 5))
  .skip)
  .skip)
  (.seq (.ret (.call 23 (.cons (.var 2) (.cons (.idx (.var 3) (.cint 1)) (.cons (.idx (.var 5) (.cint 1)) .nil)))))
  .skip)))))))))) }
noncomputable def F_law_is_name : MFn := { name := (Str.ofString "_law_is_name"), slots := [(Str.ofString "_law_word"), (Str.ofString "_law_sign")], args := 1, body :=
  (.seq (.ite (.or (.nt (.isi (.var 0) .str)) (.nt (.cmp2 .LtE .LtE (.cint 1) (.bi1 .len (.var 0)) (.cint 8))))
  (.seq (.ret (.cbool false))
  .skip)
  .skip)
  (.seq (.forL 1 (.var 0)
  (.seq (.ite (.cmp .NotIn (.var 1) (.cstr (Str.ofString "abcdefghijklmnopqrstuvwxyz")))
  (.seq (.ret (.cbool false))
  .skip)
  .skip)
  .skip))
  (.seq (.ret (.cbool true))
  .skip))) }
noncomputable def F_law_is_expr : MFn := { name := (Str.ofString "_law_is_expr"), slots := [(Str.ofString "_law_expr"), (Str.ofString "_law_rest"), (Str.ofString "_law_one")], args := 1, body :=
  (.seq (.ite (.or (.nt (.isi (.var 0) .tuple)) (.or (.cmp .Lt (.bi1 .len (.var 0)) (.cint 2)) (.nt (.isi (.idx (.var 0) (.cint 0)) .str))))
  (.seq (.ret (.cbool false))
  .skip)
  .skip)
  (.seq (.ite (.cmp .Eq (.idx (.var 0) (.cint 0)) (.cstr (Str.ofString "num")))
  (.seq (.ret (.and (.cmp .Eq (.bi1 .len (.var 0)) (.cint 2)) (.and (.call 12 (.cons (.idx (.var 0) (.cint 1)) .nil)) (.cmp2 .LtE .LtE (.neg (.cint 1000000000)) (.idx (.var 0) (.cint 1)) (.cint 1000000000)))))
  .skip)
  .skip)
  (.seq (.ite (.cmp .Eq (.idx (.var 0) (.cint 0)) (.cstr (Str.ofString "name")))
  (.seq (.ret (.and (.cmp .Eq (.bi1 .len (.var 0)) (.cint 2)) (.call 25 (.cons (.idx (.var 0) (.cint 1)) .nil))))
  .skip)
  .skip)
  (.seq (.asg 1 (.bi1 .list (.slice (.var 0) (.some (.cint 1)) .none)))
  (.seq (.ite (.cmp .Eq (.idx (.var 0) (.cint 0)) (.cstr (Str.ofString "let")))
  (.seq (.ite (.or (.cmp .NotEq (.bi1 .len (.var 0)) (.cint 4)) (.nt (.call 25 (.cons (.idx (.var 0) (.cint 1)) .nil))))
  (.seq (.ret (.cbool false))
  .skip)
  .skip)
  (.seq (.asg 1 (.bi1 .list (.slice (.var 0) (.some (.cint 2)) .none)))
  .skip))
  (.seq (.ite (.cmp .Eq (.idx (.var 0) (.cint 0)) (.cstr (Str.ofString "when")))
  (.seq (.ite (.cmp .NotEq (.bi1 .len (.var 0)) (.cint 4))
  (.seq (.ret (.cbool false))
  .skip)
  .skip)
  .skip)
  (.seq (.ite (.or (.cmp .NotIn (.idx (.var 0) (.cint 0)) (.lstD (.cons (.cstr (Str.ofString "sum")) (.cons (.cstr (Str.ofString "less")) (.cons (.cstr (Str.ofString "times")) (.cons (.cstr (Str.ofString "part")) (.cons (.cstr (Str.ofString "rest")) (.cons (.cstr (Str.ofString "below")) (.cons (.cstr (Str.ofString "same")) .nil))))))))) (.cmp .NotEq (.bi1 .len (.var 0)) (.cint 3)))
  (.seq (.ret (.cbool false))
  .skip)
  .skip)
  .skip))
  .skip))
  (.seq (.forL 2 (.var 1)
  (.seq (.ite (.nt (.call 26 (.cons (.var 2) .nil)))
  (.seq (.ret (.cbool false))
  .skip)
  .skip)
  .skip))
  (.seq (.ret (.cbool true))
  .skip))))))) }
noncomputable def F_law_needs : MFn := { name := (Str.ofString "_law_needs"), slots := [(Str.ofString "_law_expr"), (Str.ofString "_law_found"), (Str.ofString "_law_first"), (Str.ofString "_law_k"), (Str.ofString "_law_name"), (Str.ofString "_law_own")], args := 1, body :=
  (.seq (.ite (.cmp .Eq (.idx (.var 0) (.cint 0)) (.cstr (Str.ofString "name")))
  (.seq (.ret (.lstD (.cons (.idx (.var 0) (.cint 1)) .nil)))
  .skip)
  .skip)
  (.seq (.asgOwn 1 (.lstD .nil))
  (.seq (.ite (.cmp .Eq (.idx (.var 0) (.cint 0)) (.cstr (Str.ofString "num")))
  (.seq (.ret (.own 1))
  .skip)
  .skip)
  (.seq (.asg 2 (.bin .Add (.cint 1) (.bi1 .int (.cmp .Eq (.idx (.var 0) (.cint 0)) (.cstr (Str.ofString "let"))))))
  (.seq (.forR 3 (.var 2) (.bi1 .len (.var 0))
  (.seq (.forL 4 (.call 27 (.cons (.idx (.var 0) (.var 3)) .nil))
  (.seq (.asg 5 (.and (.cmp .Eq (.idx (.var 0) (.cint 0)) (.cstr (Str.ofString "let"))) (.and (.cmp .Eq (.var 3) (.cint 3)) (.cmp .Eq (.var 4) (.idx (.var 0) (.cint 1))))))
  (.seq (.ite (.and (.cmp .NotIn (.var 4) (.own 1)) (.nt (.var 5)))
  (.seq (.append 1 (.var 4))
  .skip)
  .skip)
  .skip)))
  .skip))
  (.seq (.ret (.own 1))
  .skip)))))) }
noncomputable def F_law : MFn := { name := (Str.ofString "law"), slots := [(Str.ofString "_law_script"), (Str.ofString "_law_expr"), (Str.ofString "_law_known"), (Str.ofString "_law_dealt"), (Str.ofString "_law_cell"), (Str.ofString "_law_name"), (Str.ofString "_law_number"), (Str.ofString "_law_one"), (Str.ofString "_law_two"), (Str.ofString "_law_turn"), (Str.ofString "_law_setting"), (Str.ofString "_law_due")], args := 1, body :=
  (.seq (.asg 0 (.call 10 (.cons (.var 0) .nil)))
  (.seq (.asg 1 (.call 19 (.cons (.var 0) .nil)))
  (.seq (.asg 2 (.call 21 (.cons (.var 0) .nil)))
  (.deal 3 4 5 6 (.bin .FloorDiv (.call 11 (.cons (.var 0) (.cons (.cint 1) .nil))) (.cint 9)) (.var 2)
  (.seq (.asg 7 (.call 9 (.cons (.call 9 (.cons (.var 1) (.cons (.bi1 .dict (.idx (.var 3) (.cint 0))) .nil))) (.cons (.bi1 .dict (.idx (.var 3) (.cint 1))) .nil))))
  (.seq (.asg 8 (.call 9 (.cons (.call 9 (.cons (.var 1) (.cons (.bi1 .dict (.idx (.var 3) (.cint 1))) .nil))) (.cons (.bi1 .dict (.idx (.var 3) (.cint 0))) .nil))))
  (.seq (.ite (.or (.nt (.call 26 (.cons (.var 7) .nil))) (.nt (.call 26 (.cons (.var 8) .nil))))
  (.seq (.ret (.cbool false))
  .skip)
  .skip)
  (.seq (.forL 5 (.bin .Add (.call 27 (.cons (.var 7) .nil)) (.call 27 (.cons (.var 8) .nil)))
  (.seq (.ite (.cmp .In (.var 5) (.var 2))
  (.seq (.ret (.cbool false))
  .skip)
  .skip)
  .skip))
  (.seq (.forR 9 (.cint 0) (.cint 4)
  (.seq (.asgFresh 10 22 (.cons (.var 0) (.cons (.var 9) .nil)))
  (.seq (.update 10 (.var 2))
  (.seq (.asg 11 (.call 24 (.cons (.var 1) (.cons (.own 10) .nil))))
  (.seq (.ite (.or (.cmp .NotEq (.call 24 (.cons (.var 7) (.cons (.own 10) .nil))) (.var 11)) (.cmp .NotEq (.call 24 (.cons (.var 8) (.cons (.own 10) .nil))) (.var 11)))
  (.seq (.ret (.cbool false))
  .skip)
  .skip)
  .skip)))))
  (.seq (.ret (.cbool true))
  .skip)))))))))) }
noncomputable def fns : List MFn := [F_within, F_reckoned, F_is_num, F_fits, F_both_known, F_joined, F_joined_sum, F_joined_twice, F_chosen, F_folded, F_law_mixed, F_law_cell_at, F_law_whole, F_law_number_by, F_law_name_by, F_law_step, F_law_tree_by, F_law_link, F_law_many_by, F_law_expr_by, F_law_count, F_law_known_by, F_law_setting_by, F_law_made, F_law_value, F_law_is_name, F_law_is_expr, F_law_needs, F_law]
noncomputable def gnames : List Str := [(Str.ofString "LIMIT")]
noncomputable def globs : List D := [.int 1000000000]
noncomputable def cls : Cls := ⟨[(.valueError, []), (.nought, [(Str.ofString "FoldError")]), (.great, [(Str.ofString "FoldError")])], []⟩
end L11
end Mine
-- MF
set_option autoImplicit false
set_option linter.all false
namespace Mine
open PySem

noncomputable def Tr.isZ : Tr → Bool
  | .num v => v == 0
  | _ => false
noncomputable def Ch : Tr → Tr → Tr → Tr
  | .num v, a, b => cond (v == 0) b a
  | .two w c z, a, b => cond (w.is .same && z.isZ) (Ch c b a) (.whn (.two w c z) a b)
  | .name x, a, b => .whn (.name x) a b
  | .whn c d e, a, b => .whn (.whn c d e) a b
  | .lt x c d, a, b => .whn (.lt x c d) a b
noncomputable abbrev Kf : Type := Str → Option Int
noncomputable def kput (g : Kf) (x : Str) (v : Int) : Kf := fun y => cond (x == y) (some v) (g y)
noncomputable def kdel (g : Kf) (x : Str) : Kf := fun y => cond (x == y) none (g y)
noncomputable def nameF (x : Str) : Option Int → Tr
  | some v => .num v
  | none => .name x
noncomputable def Tr.F : Tr → Kf → Tr
  | .num v, _ => .num v
  | .name x, g => nameF x (g x)
  | .two w a b, g => J w (a.F g) (b.F g)
  | .whn c a b, g => Ch (c.F g) (a.F g) (b.F g)
  | .lt x a b, g => cond (a.F g).isN (b.F (kput g x (a.F g).val)) (.lt x (a.F g) (b.F (kdel g x)))
noncomputable def K9 (g : Kf) : Prop := ∀ x v, g x = some v → L9 v
theorem K9.put {g : Kf} (h : K9 g) (x : Str) {v : Int} (hv : L9 v) : K9 (kput g x v) := fun y u e => by
  unfold kput at e
  cases q : x == y with
  | true => rw [q] at e; cases e; exact hv
  | false => rw [q] at e; exact h y u e
theorem K9.del {g : Kf} (h : K9 g) (x : Str) : K9 (kdel g x) := fun y u e => by
  unfold kdel at e
  cases q : x == y with
  | true => rw [q] at e; cases e
  | false => rw [q] at e; exact h y u e
theorem Ch_ok : ∀ (c a b : Tr), c.ok → a.ok → b.ok → (Ch c a b).ok
  | .num v, a, b, _, ha, hb => Zac (fun _ => hb) ha
  | .two w c z, a, b, hc, ha, hb => Zac (fun _ => Ch_ok c b a hc.1 hb ha) ⟨hc, ha, hb⟩
  | .name x, a, b, hc, ha, hb => ⟨hc, ha, hb⟩
  | .whn c d e, a, b, hc, ha, hb => ⟨hc, ha, hb⟩
  | .lt x c d, a, b, hc, ha, hb => ⟨hc, ha, hb⟩
theorem Ch_deep {n : Nat} : ∀ (c a b : Tr), c.deep ≤ n → a.deep ≤ n → b.deep ≤ n → (Ch c a b).deep ≤ n + 1
  | .num v, a, b, _, ha, hb => Zac (P := fun t : Tr => t.deep ≤ n + 1) (fun _ => Nat.le_succ_of_le hb) (Nat.le_succ_of_le ha)
  | .two w c z, a, b, hc, ha, hb => Zac (P := fun t : Tr => t.deep ≤ n + 1) (fun _ => Ch_deep c b a (Nat.le_trans (Nat.le_succ_of_le (Nat.le_max_left _ _)) hc) hb ha) (Nat.succ_le_succ (Nat.max_le.mpr ⟨hc, Nat.max_le.mpr ⟨ha, hb⟩⟩))
  | .name x, a, b, hc, ha, hb => Nat.succ_le_succ (Nat.max_le.mpr ⟨hc, Nat.max_le.mpr ⟨ha, hb⟩⟩)
  | .whn c d e, a, b, hc, ha, hb => Nat.succ_le_succ (Nat.max_le.mpr ⟨hc, Nat.max_le.mpr ⟨ha, hb⟩⟩)
  | .lt x c d, a, b, hc, ha, hb => Nat.succ_le_succ (Nat.max_le.mpr ⟨hc, Nat.max_le.mpr ⟨ha, hb⟩⟩)
theorem F_ok : ∀ (t : Tr) (g : Kf), t.ok → K9 g → (t.F g).ok
  | .num v, _, ht, _ => ht
  | .name x, g, ht, hg => by
    show (nameF x (g x)).ok
    cases e : g x with
    | none => exact ht
    | some v => exact hg x v e
  | .two w a b, g, ht, hg => J_ok w (F_ok a g ht.1 hg) (F_ok b g ht.2 hg)
  | .whn c a b, g, ht, hg => Ch_ok _ _ _ (F_ok c g ht.1 hg) (F_ok a g ht.2.1 hg) (F_ok b g ht.2.2 hg)
  | .lt x a b, g, ht, hg => Zac (fun _ => F_ok b _ ht.2.2 (hg.put x (val_ok (F_ok a g ht.2.1 hg)))) ⟨ht.1, F_ok a g ht.2.1 hg, F_ok b _ ht.2.2 (hg.del x)⟩
theorem two_l (w : W2) (a b : Tr) : a.deep + 1 ≤ (Tr.two w a b).deep := Nat.succ_le_succ (Nat.le_max_left _ _)
theorem two_r (w : W2) (a b : Tr) : b.deep + 1 ≤ (Tr.two w a b).deep := Nat.succ_le_succ (Nat.le_max_right _ _)
theorem lt_l (x : Str) (a b : Tr) : a.deep + 1 ≤ (Tr.lt x a b).deep := Nat.succ_le_succ (Nat.le_max_left _ _)
theorem lt_r (x : Str) (a b : Tr) : b.deep + 1 ≤ (Tr.lt x a b).deep := Nat.succ_le_succ (Nat.le_max_right _ _)
theorem whn_1 (c a b : Tr) : c.deep + 1 ≤ (Tr.whn c a b).deep := Nat.succ_le_succ (Nat.le_max_left _ _)
theorem whn_2 (c a b : Tr) : a.deep + 1 ≤ (Tr.whn c a b).deep := Nat.succ_le_succ (Nat.le_trans (Nat.le_max_left _ _) (Nat.le_max_right _ _))
theorem whn_3 (c a b : Tr) : b.deep + 1 ≤ (Tr.whn c a b).deep := Nat.succ_le_succ (Nat.le_trans (Nat.le_max_right _ _) (Nat.le_max_right _ _))
theorem F_deep : ∀ (t : Tr) (g : Kf), (t.F g).deep ≤ t.deep
  | .num v, _ => Nat.le_refl _
  | .name x, g => by
    show (nameF x (g x)).deep ≤ _
    cases g x with
    | none => exact Nat.le_refl _
    | some v => exact Nat.le_refl _
  | .two w a b, g => Nat.le_trans (J_deep w _ _) (Nat.succ_le_succ (Nat.max_le.mpr ⟨Nat.le_trans (F_deep a g) (Nat.le_max_left _ _), Nat.le_trans (F_deep b g) (Nat.le_max_right _ _)⟩))
  | .whn c a b, g => Ch_deep _ _ _ (Nat.le_trans (F_deep c g) (Nat.le_max_left _ _)) (Nat.le_trans (F_deep a g) (Nat.le_trans (Nat.le_max_left _ _) (Nat.le_max_right _ _))) (Nat.le_trans (F_deep b g) (Nat.le_trans (Nat.le_max_right _ _) (Nat.le_max_right _ _)))
  | .lt x a b, g => Zac (P := fun t : Tr => t.deep ≤ (Tr.lt x a b).deep) (fun _ => Nat.le_trans (F_deep b _) (Nat.le_of_succ_le (lt_r x a b))) (Nat.succ_le_succ (Nat.max_le.mpr ⟨Nat.le_trans (F_deep a g) (Nat.le_max_left _ _), Nat.le_trans (F_deep b _) (Nat.le_max_right _ _)⟩))
noncomputable def Kv (kv : List (D × D)) : Prop := ∀ p ∈ kv, ∃ x v, p = (.str x, .int v) ∧ L9 v
noncomputable def intO : Option D → Option Int
  | some (.int v) => some v
  | _ => none
noncomputable def look (kv : List (D × D)) : Kf := fun x => intO (dget x kv)
theorem dget_cons (y z : Str) (v : D) (kv : List (D × D)) : dget y ((.str z, v) :: kv) = if (z == y) = true then some v else dget y kv := rfl
theorem Kv.nil : Kv [] := fun p hp => nomatch hp
theorem Kv.get {kv : List (D × D)} (h : Kv kv) (x : Str) : dget x kv = (look kv x).map PyData.int ∧ ∀ v, look kv x = some v → L9 v := by
  induction kv with
  | nil => exact ⟨rfl, fun v e => nomatch e⟩
  | cons p kv ih =>
    obtain ⟨y, v, rfl, hv⟩ := h p (.head _)
    have ih := ih fun p hp => h p (.tail _ hp)
    unfold look at ih ⊢
    rw [dget_cons]
    by_cases q : (y == x) = true
    · rw [if_pos q]; exact ⟨rfl, fun u e => by cases e; exact hv⟩
    · rw [if_neg q]; exact ih
theorem Kv.k9 {kv : List (D × D)} (h : Kv kv) : K9 (look kv) := fun x v e => (h.get x).2 v e
theorem Kv.some {kv : List (D × D)} (h : Kv kv) (x : Str) : (dget x kv).isSome = (look kv x).isSome := by
  rw [(h.get x).1]; cases look kv x <;> rfl
theorem Kv.put {kv : List (D × D)} (h : Kv kv) (x : Str) {v : Int} (hv : L9 v) : Kv (dput x (.int v) kv) := by
  unfold dput
  split
  · intro p hp
    obtain ⟨q, hq, rfl⟩ := List.mem_map.mp hp
    obtain ⟨y, u, rfl, hu⟩ := h q hq
    by_cases e : keyIs x (.str y) = true
    · rw [if_pos e]; exact ⟨y, v, rfl, hv⟩
    · rw [if_neg e]; exact ⟨y, u, rfl, hu⟩
  · intro p hp
    rcases List.mem_append.mp hp with hp | hp
    · exact h p hp
    · exact ⟨x, v, List.mem_singleton.mp hp, hv⟩
theorem Kv.del {kv : List (D × D)} (h : Kv kv) (x : Str) : Kv (ddel x kv) := fun p hp => h p (List.mem_filter.mp hp).1
theorem put_len (x : Str) (v : D) (kv : List (D × D)) : (dput x v kv).length ≤ kv.length + 1 := by
  unfold dput
  split
  · rw [List.length_map]; exact Nat.le_succ _
  · rw [List.length_append]; exact Nat.le_refl _
theorem del_len (x : Str) (kv : List (D × D)) : (ddel x kv).length ≤ kv.length := List.length_filter_le ..
theorem get_app (x y : Str) (v : D) (kv : List (D × D)) (hk : Kv kv) : dget y (kv ++ [(.str x, v)]) = match dget y kv with | some d => some d | none => (if (x == y) = true then some v else none) := by
  induction kv with
  | nil => rfl
  | cons p kv ih =>
    obtain ⟨z, u, rfl, hv⟩ := hk p (.head _)
    rw [List.cons_append, dget_cons, dget_cons]
    by_cases q : (z == y) = true
    · rw [if_pos q, if_pos q]
    · rw [if_neg q, if_neg q]; exact ih fun p hp => hk p (.tail _ hp)
theorem get_map (x y : Str) (v : D) (kv : List (D × D)) (hk : Kv kv) : dget y (kv.map fun p => if keyIs x p.1 then (p.1, v) else p) = if (x == y) = true then (dget y kv).map (fun _ => v) else dget y kv := by
  induction kv with
  | nil => split <;> rfl
  | cons p kv ih =>
    obtain ⟨z, u, rfl, hv⟩ := hk p (.head _)
    have ih := ih fun p hp => hk p (.tail _ hp)
    rw [List.map_cons]
    by_cases e : (z == x) = true
    · rw [if_pos (show keyIs x (.str z) = true from e)]
      cases beq_iff_eq.mp e
      rw [dget_cons, dget_cons]
      by_cases q : (x == y) = true
      · rw [if_pos q, if_pos q, if_pos q]; rfl
      · rw [if_neg q] at ih; rw [if_neg q, if_neg q, if_neg q]; exact ih
    · rw [if_neg (show ¬ keyIs x (.str z) = true from e), dget_cons, dget_cons]
      by_cases q : (z == y) = true
      · have : ¬ (x == y) = true := fun r => e (by rw [beq_iff_eq] at *; rw [q, r])
        rw [if_pos q, if_pos q, if_neg this]
      · rw [if_neg q, if_neg q]; exact ih
theorem look_put {kv : List (D × D)} (h : Kv kv) (x : Str) (v : Int) : look (dput x (.int v) kv) = kput (look kv) x v := funext fun y => by
  unfold look kput dput
  by_cases hs : (dget x kv).isSome = true
  · rw [if_pos hs, get_map x y _ kv h]
    cases q : x == y with
    | true =>
      cases beq_iff_eq.mp q
      obtain ⟨d, hd⟩ := Option.isSome_iff_exists.mp hs
      rw [if_pos rfl, hd]; rfl
    | false => rw [if_neg (by decide)]; rfl
  · rw [if_neg hs, get_app x y _ kv h]
    cases q : x == y with
    | true =>
      cases beq_iff_eq.mp q
      have hd : dget x kv = none := by
        cases e : dget x kv with
        | none => rfl
        | some d => rw [e] at hs; exact absurd rfl hs
      rw [hd]; rfl
    | false =>
      show _ = intO (dget y kv)
      cases dget y kv <;> rfl
theorem look_del {kv : List (D × D)} (h : Kv kv) (x : Str) : look (ddel x kv) = kdel (look kv) x := funext fun y => by
  show intO (dget y (kv.filter fun p => !keyIs x p.1)) = cond (x == y) none (intO (dget y kv))
  induction kv with
  | nil => cases x == y <;> rfl
  | cons p kv ih =>
    obtain ⟨z, u, rfl, hv⟩ := h p (.head _)
    have ih := ih fun p hp => h p (.tail _ hp)
    rw [List.filter_cons]
    cases e : z == x with
    | true =>
      rw [if_neg (show ¬ (!keyIs x (.str z)) = true from fun r => by rw [show keyIs x (.str z) = true from e] at r; cases r), ih, dget_cons]
      cases beq_iff_eq.mp e
      cases x == y <;> rfl
    | false =>
      rw [if_pos (show (!keyIs x (.str z)) = true from by rw [show keyIs x (.str z) = false from e]; rfl), dget_cons, dget_cons]
      cases q : z == y with
      | true =>
        have : (x == y) = false := by rw [beq_eq_false_iff_ne] at *; intro r; exact e (by rw [r]; exact beq_iff_eq.mp q)
        rw [this]; rfl
      | false => exact ih
theorem within_t {t : Tr} (h : withins false false t.rest = true) : within false false t.d = true := by
  show (true && withins false false t.rest) = true
  rw [h]; rfl
theorem withins1 {t : Tr} {l : List D} (h : withins false false t.rest = true) (hl : withins false false l = true) : withins false false (t.d :: l) = true := by
  show (within false false t.d && withins false false l) = true
  rw [within_t h, hl]; rfl
theorem rest_flat : ∀ t : Tr, withins false false t.rest = true
  | .num _ => rfl
  | .name _ => rfl
  | .two _ a b => withins1 (rest_flat a) (withins1 (rest_flat b) rfl)
  | .whn c a b => withins1 (rest_flat c) (withins1 (rest_flat a) (withins1 (rest_flat b) rfl))
  | .lt x a b => show (true && withins false false [a.d, b.d]) = true by rw [withins1 (rest_flat a) (withins1 (rest_flat b) rfl)]; rfl
theorem tr_alias (t : Tr) (e : Bool) (xs : List D) : aliasOk e xs t.d = true := by
  have : flat t.d = true := within_t (rest_flat t)
  unfold aliasOk; rw [this, Bool.or_true]; rfl
theorem dictW {kv : List (D × D)} {k : KD} (h : kv.length ≤ 1000) (hk : k (.dict kv)) : GetW (b1D .dict (.dict kv)) k := .mk _ (if_pos (Nat.le_trans h (by decide))) hk
theorem blt_of {n : Nat} (h : n ≤ 1000) : Nat.blt n big = true := Nat.ble_eq_true_of_le (Nat.le_trans (Nat.succ_le_succ h) (by decide))
noncomputable def dctR (P : List (D × D) → Prop) (d : D) (b : Bool) : Prop := ∃ kv, d = .dict kv ∧ b = true ∧ P kv
theorem fnD {fns : List MFn} {G : List D} {n i : Nat} (F : MFn) (ρ : Env) {ds : List D} {P : List (D × D) → Prop} (h : fns[i]? = some F) (hl : ds.length = F.args) (hρ : initEnv F ds = ρ) (hw : exW (orc fns G n) G F.body ρ (retW (dctR P))) : ∃ kv, (orc fns G (n + 1)).fn i ds = .ok (.dict kv, true) ∧ P kv := by
  obtain ⟨d, b, e, z, rfl, rfl, h⟩ := fnW F ρ h hl hρ hw
  exact ⟨z, e, h⟩
theorem bitS (b : Bool) : smallInt (if b = true then 1 else 0) = true := by cases b <;> rfl
noncomputable def Nd (kv : List (D × D)) : Prop := (kv.map (·.1)).Nodup
theorem get_mem {kv : List (D × D)} (h : Kv kv) {x : Str} (hx : PyData.str x ∈ kv.map (·.1)) : (dget x kv).isSome = true := by
  induction kv with
  | nil => cases hx
  | cons p kv ih =>
    obtain ⟨y, v, rfl, _⟩ := h p (.head _)
    rw [dget_cons]
    by_cases q : (y == x) = true
    · rw [if_pos q]; rfl
    · rw [if_neg q]
      rcases List.mem_cons.mp hx with e | e
      · cases e; exact absurd (beq_self_eq_true _) q
      · exact ih (fun p hp => h p (.tail _ hp)) e
theorem mem_get {kv : List (D × D)} (h : Kv kv) {x : Str} (hx : (dget x kv).isSome = true) : PyData.str x ∈ kv.map (·.1) := by
  induction kv with
  | nil => cases hx
  | cons p kv ih =>
    obtain ⟨y, v, rfl, _⟩ := h p (.head _)
    rw [dget_cons] at hx
    by_cases q : (y == x) = true
    · cases beq_iff_eq.mp q; exact .head _
    · rw [if_neg q] at hx; exact .tail _ (ih (fun p hp => h p (.tail _ hp)) hx)
theorem Nd.del {kv : List (D × D)} (h : Nd kv) (x : Str) : Nd (ddel x kv) := h.sublist ((List.filter_sublist (l := kv)).map _)
theorem nott1 {b : Bool} (h : (!b) = true) : b = false := by cases b <;> first | rfl | cases h
theorem Nd.put {kv : List (D × D)} (h : Nd kv) (hk : Kv kv) (x : Str) (v : D) : Nd (dput x v kv) := by
  unfold dput
  by_cases q : (dget x kv).isSome = true
  · rw [if_pos q]
    have : (kv.map fun p => if keyIs x p.1 = true then (p.1, v) else p).map (·.1) = kv.map (·.1) := by
      rw [List.map_map]
      refine List.map_congr_left fun p _ => ?_
      show (if keyIs x p.1 = true then (p.1, v) else p).1 = p.1
      split <;> rfl
    unfold Nd; rw [this]; exact h
  · rw [if_neg q]
    unfold Nd
    rw [List.map_append]
    refine List.nodup_append.mpr ⟨h, List.nodup_cons.mpr ⟨(fun r => nomatch r), .nil⟩, fun a ha b hb e => ?_⟩
    cases List.mem_singleton.mp hb
    cases e
    exact q (get_mem hk ha)
theorem eq_zero {t : Tr} (h : t.ok) (hd : t.deep ≤ 62) : cmpD .Eq t.d (.tuple [.str (Str.ofString "num"), .int 0]) = .ok (.bool t.isZ) := by
  have h1 := tr_eqOk h hd
  have h2 : eqOk (.tuple [.str (Str.ofString "num"), .int 0]) = true := tr_eqOk (t := .num 0) l9_0 (Nat.zero_le _)
  have key : PyData.eqv t.d (.tuple [.str (Str.ofString "num"), .int 0]) = t.isZ := by
    cases t with
    | num v => show (true && ((v == 0) && true)) = _; rw [Bool.and_true]; rfl
    | name x => rfl
    | two w a b => cases w <;> rfl
    | whn c a b => rfl
    | lt x a b => rfl
  show (if (eqOk t.d && eqOk (.tuple [.str (Str.ofString "num"), .int 0])) = true then R.ok (PyData.eqv t.d (.tuple [.str (Str.ofString "num"), .int 0])) else _).yes = _
  rw [h1, h2, key]; rfl
end Mine
-- MN
set_option autoImplicit false
set_option linter.all false
namespace Mine
open PySem

theorem Tr.sz1 (t : Tr) : 1 ≤ t.sz := by
  cases t <;> exact Nat.succ_le_succ (Nat.zero_le _)
theorem known_sz (w : W2) (x y : Int) : (known w x y).sz ≤ 3 := by
  unfold known
  split
  · exact Nat.succ_le_succ (Nat.zero_le _)
  · exact Nat.le_refl _
theorem jless_sz (k : Int) (t : Tr) : (jless k t).sz ≤ t.sz + 2 := by
  cases t with
  | num y => exact known_sz _ _ _
  | _ => exact sz_l _
theorem sz_a {a b : Nat} : a + 2 ≤ a + b + 1 + 2 := by omega
theorem sz_b {a b : Nat} : b + 2 ≤ a + b + 1 + 2 := by omega
theorem jsum_sz : ∀ (t : Tr) (n : Int), (jsum t n).sz ≤ t.sz + 2
  | .num x, n => known_sz _ _ _
  | .two w a b, n => Zac (P := fun t : Tr => t.sz ≤ (Tr.two w a b).sz + 2) (fun _ => Nat.le_add_right _ _) (Zac (P := fun t : Tr => t.sz ≤ (Tr.two w a b).sz + 2) (fun _ => Nat.le_trans (jsum_sz a _) sz_a)
      (Zac (P := fun t : Tr => t.sz ≤ (Tr.two w a b).sz + 2) (fun _ => Nat.le_trans (jless_sz _ _) sz_b) (Nat.le_refl _)))
  | .name x, n => Zac (P := fun t : Tr => t.sz ≤ (Tr.name x).sz + 2) (fun _ => Nat.le_add_right _ _) (Nat.le_refl _)
  | .whn c a b, n => Zac (P := fun t : Tr => t.sz ≤ (Tr.whn c a b).sz + 2) (fun _ => Nat.le_add_right _ _) (Nat.le_refl _)
  | .lt x a b, n => Zac (P := fun t : Tr => t.sz ≤ (Tr.lt x a b).sz + 2) (fun _ => Nat.le_add_right _ _) (Nat.le_refl _)
theorem jt_sz (v : W2) : ∀ (t : Tr) (n : Int), (jt v t n).sz ≤ t.sz + 2
  | .num x, n => known_sz _ _ _
  | .two w a b, n => Zac (P := fun t : Tr => t.sz ≤ (Tr.two w a b).sz + 2) (fun _ => Nat.le_add_right _ _) (Zac (P := fun t : Tr => t.sz ≤ (Tr.two w a b).sz + 2) (fun _ => Zac (P := fun t : Tr => t.sz ≤ (Tr.two w a b).sz + 2) (fun _ => Nat.le_trans (jt_sz v a _) sz_a)
      (Zac (P := fun t : Tr => t.sz ≤ (Tr.two w a b).sz + 2) (fun _ => Nat.le_add_right _ _) (Nat.le_refl _))) (Nat.le_refl _))
  | .name x, n => Zac (P := fun t : Tr => t.sz ≤ (Tr.name x).sz + 2) (fun _ => Nat.le_add_right _ _) (Nat.le_refl _)
  | .whn c a b, n => Zac (P := fun t : Tr => t.sz ≤ (Tr.whn c a b).sz + 2) (fun _ => Nat.le_add_right _ _) (Nat.le_refl _)
  | .lt x a b, n => Zac (P := fun t : Tr => t.sz ≤ (Tr.lt x a b).sz + 2) (fun _ => Nat.le_add_right _ _) (Nat.le_refl _)
theorem jx_sz (w : W2) (t : Tr) (n : Int) : (jx w t n).sz ≤ t.sz + 2 := by
  cases w with
  | sum => exact jsum_sz t n
  | less => exact jsum_sz t _
  | times => exact jt_sz _ t n
  | part => exact jt_sz _ t n
  | rest => exact jt_sz _ t n
  | below => exact Nat.le_refl _
  | same => exact Nat.le_refl _
theorem sz_3 {a b : Nat} (ha : 1 ≤ a) (hb : 1 ≤ b) : 3 ≤ a + b + 1 := by omega
theorem sz_4 {a b : Nat} (hb : 1 ≤ b) : a + 2 ≤ a + b + 1 := by omega
theorem sz_5 {a b : Nat} (hb : 1 ≤ b) : a + 2 ≤ b + a + 1 := by omega
theorem J_sz (w : W2) (a b : Tr) : (J w a b).sz ≤ a.sz + b.sz + 1 :=
  Zac (P := fun t : Tr => t.sz ≤ a.sz + b.sz + 1) (fun _ => Zac (P := fun t : Tr => t.sz ≤ a.sz + b.sz + 1) (fun _ => Nat.le_trans (known_sz _ _ _) (sz_3 a.sz1 b.sz1)) (Nat.le_trans (jx_sz _ _ _) (sz_4 b.sz1)))
    (Zac (P := fun t : Tr => t.sz ≤ a.sz + b.sz + 1) (fun _ => Nat.le_trans (jx_sz _ _ _) (sz_5 a.sz1)) (Nat.le_refl _))
theorem sz_6 {c a b : Nat} : b ≤ c + a + b + 1 := by omega
theorem sz_7 {c a b : Nat} : a ≤ c + a + b + 1 := by omega
theorem sz_8 {c z a b : Nat} : c + b + a + 1 ≤ c + z + 1 + a + b + 1 := by omega
theorem Ch_sz : ∀ (c a b : Tr), (Ch c a b).sz ≤ c.sz + a.sz + b.sz + 1
  | .num v, a, b => Zac (P := fun t : Tr => t.sz ≤ 1 + a.sz + b.sz + 1) (fun _ => sz_6) sz_7
  | .two w c z, a, b => Zac (P := fun t : Tr => t.sz ≤ (Tr.two w c z).sz + a.sz + b.sz + 1) (fun _ => Nat.le_trans (Ch_sz c b a) sz_8) (Nat.le_refl _)
  | .name x, a, b => Nat.le_refl _
  | .whn c d e, a, b => Nat.le_refl _
  | .lt x c d, a, b => Nat.le_refl _
theorem sz_9 {a b c d : Nat} (h : a ≤ c) (k : b ≤ d) : a + b + 1 ≤ c + d + 1 := by omega
theorem sz_10 {a b : Nat} : b ≤ a + b + 1 := by omega
theorem F_sz : ∀ (t : Tr) (g : Kf), (t.F g).sz ≤ t.sz
  | .num v, _ => Nat.le_refl _
  | .name x, g => by
    show (nameF x (g x)).sz ≤ _
    cases g x with
    | none => exact Nat.le_refl _
    | some v => exact Nat.le_refl _
  | .two w a b, g => Nat.le_trans (J_sz w _ _) (sz_9 (F_sz a g) (F_sz b g))
  | .whn c a b, g => Nat.le_trans (Ch_sz _ _ _) (sz_9 (Nat.add_le_add (F_sz c g) (F_sz a g)) (F_sz b g))
  | .lt x a b, g => Zac (P := fun t : Tr => t.sz ≤ (Tr.lt x a b).sz) (fun _ => Nat.le_trans (F_sz b _) sz_10) (sz_9 (F_sz a g) (F_sz b _))
theorem sub_sl {a b : Nat} (h : a + b + 1 ≤ 400) : a ≤ 400 := by omega
theorem sub_sr {a b : Nat} (h : a + b + 1 ≤ 400) : b ≤ 400 := by omega
theorem for1 {O : Orc} {G : List D} {K : KS} {i : Nat} {b : MS} {x : D} {xs : List D} {ρ : Env} (h : exW O G b (ρ.set i (.fr x)) (turnW (fun ρ' => OkS (forLoop (fun x ρ' => ex O G b (ρ'.set i (.fr x))) xs ρ') K) K)) : OkS (forLoop (fun x ρ' => ex O G b (ρ'.set i (.fr x))) (x :: xs) ρ) K := turnW_ok (exW_ok b _ _ h) fun _ h => h
noncomputable def Fr : Tr → (Str → Prop) → Prop
  | .num _, _ => True
  | .name x, Q => Q x
  | .two _ a b, Q => Fr a Q ∧ Fr b Q
  | .whn c a b, Q => Fr c Q ∧ Fr a Q ∧ Fr b Q
  | .lt x a b, Q => Fr a Q ∧ Fr b (fun y => y = x ∨ Q y)
theorem Fr.mono : ∀ {t : Tr} {Q R : Str → Prop}, Fr t Q → (∀ y, Q y → R y) → Fr t R
  | .num _, _, _, _, _ => trivial
  | .name x, _, _, h, k => k x h
  | .two _ a b, _, _, h, k => ⟨Fr.mono h.1 k, Fr.mono h.2 k⟩
  | .whn c a b, _, _, h, k => ⟨Fr.mono h.1 k, Fr.mono h.2.1 k, Fr.mono h.2.2 k⟩
  | .lt x a b, _, _, h, k => ⟨Fr.mono h.1 k, Fr.mono h.2 fun y q => q.elim .inl fun q => .inr (k y q)⟩
theorem known_fr (w : W2) (x y : Int) (Q : Str → Prop) : Fr (known w x y) Q := by
  unfold known
  split
  · trivial
  · exact ⟨trivial, trivial⟩
theorem jless_fr (k : Int) {t : Tr} {Q : Str → Prop} (h : Fr t Q) : Fr (jless k t) Q := by
  cases t with
  | num y => exact known_fr _ _ _ _
  | _ => exact ⟨trivial, h⟩
theorem jsum_fr {Q : Str → Prop} : ∀ (t : Tr) (n : Int), Fr t Q → Fr (jsum t n) Q
  | .num x, n, _ => known_fr _ _ _ _
  | .two w a b, n, h => Zac (P := (Fr · Q)) (fun _ => h) <| Zac (P := (Fr · Q)) (fun _ => jsum_fr a _ h.1) <| Zac (P := (Fr · Q)) (fun _ => jless_fr _ h.2) ⟨h, trivial⟩
  | .name x, n, h => Zac (P := (Fr · Q)) (fun _ => h) ⟨h, trivial⟩
  | .whn c a b, n, h => Zac (P := (Fr · Q)) (fun _ => h) ⟨h, trivial⟩
  | .lt x a b, n, h => Zac (P := (Fr · Q)) (fun _ => h) ⟨h, trivial⟩
theorem jt_fr {Q : Str → Prop} (w : W2) : ∀ (t : Tr) (n : Int), Fr t Q → Fr (jt w t n) Q
  | .num x, n, _ => known_fr _ _ _ _
  | .two v a b, n, h => Zac (P := (Fr · Q)) (fun _ => h) <| Zac (P := (Fr · Q)) (fun _ => Zac (P := (Fr · Q)) (fun _ => jt_fr w a _ h.1) <| Zac (P := (Fr · Q)) (fun _ => h) ⟨h, trivial⟩) ⟨h, trivial⟩
  | .name x, n, h => Zac (P := (Fr · Q)) (fun _ => h) ⟨h, trivial⟩
  | .whn c a b, n, h => Zac (P := (Fr · Q)) (fun _ => h) ⟨h, trivial⟩
  | .lt x a b, n, h => Zac (P := (Fr · Q)) (fun _ => h) ⟨h, trivial⟩
theorem jx_fr (w : W2) {t : Tr} {n : Int} {Q : Str → Prop} (h : Fr t Q) : Fr (jx w t n) Q := by
  cases w with
  | sum => exact jsum_fr t n h
  | less => exact jsum_fr t _ h
  | times => exact jt_fr _ t n h
  | part => exact jt_fr _ t n h
  | rest => exact jt_fr _ t n h
  | below => exact ⟨h, trivial⟩
  | same => exact ⟨h, trivial⟩
theorem J_fr (w : W2) {a b : Tr} {Q : Str → Prop} (ha : Fr a Q) (hb : Fr b Q) : Fr (J w a b) Q :=
  Zac (P := (Fr · Q)) (fun _ => Zac (P := (Fr · Q)) (fun _ => known_fr _ _ _ _) (jx_fr w ha)) (Zac (P := (Fr · Q)) (fun _ => jx_fr w hb) ⟨ha, hb⟩)
theorem Ch_fr {Q : Str → Prop} : ∀ (c a b : Tr), Fr c Q → Fr a Q → Fr b Q → Fr (Ch c a b) Q
  | .num v, a, b, _, ha, hb => Zac (P := (Fr · Q)) (fun _ => hb) ha
  | .two w c z, a, b, hc, ha, hb => Zac (P := (Fr · Q)) (fun _ => Ch_fr c b a hc.1 hb ha) ⟨hc, ha, hb⟩
  | .name x, a, b, hc, ha, hb => ⟨hc, ha, hb⟩
  | .whn c d e, a, b, hc, ha, hb => ⟨hc, ha, hb⟩
  | .lt x c d, a, b, hc, ha, hb => ⟨hc, ha, hb⟩
theorem F_fr : ∀ (t : Tr) (g : Kf) (Q : Str → Prop), Fr t Q → Fr (t.F g) (fun y => Q y ∧ g y = none)
  | .num v, _, _, _ => trivial
  | .name x, g, Q, h => by
    show Fr (nameF x (g x)) _
    cases e : g x with
    | none => exact ⟨h, e⟩
    | some v => trivial
  | .two w a b, g, Q, h => J_fr w (F_fr a g Q h.1) (F_fr b g Q h.2)
  | .whn c a b, g, Q, h => Ch_fr _ _ _ (F_fr c g Q h.1) (F_fr a g Q h.2.1) (F_fr b g Q h.2.2)
  | .lt x a b, g, Q, h => Zac (P := (Fr · (fun y => Q y ∧ g y = none)))
      (fun _ => (F_fr b _ _ h.2).mono fun y ⟨q, e⟩ => by
        unfold kput at e
        cases hx : x == y with
        | true => rw [hx] at e; cases e
        | false =>
          rw [hx] at e
          exact ⟨q.resolve_left (fun r => by rw [r, beq_self_eq_true] at hx; cases hx), e⟩)
      ⟨F_fr a g Q h.1, (F_fr b _ _ h.2).mono fun y ⟨q, e⟩ => by
        unfold kdel at e
        cases hx : x == y with
        | true => exact .inl (beq_iff_eq.mp hx).symm
        | false =>
          rw [hx] at e
          exact q.imp id fun q => ⟨q, e⟩⟩
noncomputable def addN (own : Str → Bool) : List Str → List Str → List Str
  | f, [] => f
  | f, y :: l => addN own (cond (!f.contains y && !own y) (f ++ [y]) f) l
noncomputable def Tr.nd : Tr → List Str
  | .num _ => []
  | .name x => [x]
  | .two _ a b => addN (fun _ => false) (addN (fun _ => false) [] a.nd) b.nd
  | .whn c a b => addN (fun _ => false) (addN (fun _ => false) (addN (fun _ => false) [] c.nd) a.nd) b.nd
  | .lt x a b => addN (fun y => y == x) (addN (fun _ => false) [] a.nd) b.nd
theorem addN_len (own : Str → Bool) : ∀ (l f : List Str), (addN own f l).length ≤ f.length + l.length
  | [], f => Nat.le_refl _
  | y :: l, f => by
    refine Nat.le_trans (addN_len own l _) ?_
    cases (!f.contains y && !own y) with
    | true => show (f ++ [y]).length + l.length ≤ f.length + (l.length + 1); rw [List.length_append, List.length_singleton]; omega
    | false => exact Nat.add_le_add_left (Nat.le_succ _) _
theorem nd_two {a b A B : Nat} (own : Str → Bool) {f l : List Str} (hf : f.length ≤ a) (hl : l.length ≤ b) : (addN own f l).length ≤ a + b := Nat.le_trans (addN_len own l f) (Nat.add_le_add hf hl)
theorem nd_len : ∀ t : Tr, t.nd.length ≤ t.sz
  | .num _ => Nat.zero_le _
  | .name _ => Nat.le_refl _
  | .two _ a b => Nat.le_succ_of_le (nd_two (A := 0) (B := 0) _ (Nat.le_trans (addN_len _ a.nd []) (by rw [List.length_nil, Nat.zero_add]; exact nd_len a)) (nd_len b))
  | .whn c a b => Nat.le_succ_of_le (nd_two (A := 0) (B := 0) _ (nd_two (A := 0) (B := 0) _ (Nat.le_trans (addN_len _ c.nd []) (by rw [List.length_nil, Nat.zero_add]; exact nd_len c)) (nd_len a)) (nd_len b))
  | .lt x a b => Nat.le_succ_of_le (nd_two (A := 0) (B := 0) _ (Nat.le_trans (addN_len _ a.nd []) (by rw [List.length_nil, Nat.zero_add]; exact nd_len a)) (nd_len b))
theorem addN_all {Q : Str → Prop} (own : Str → Bool) : ∀ (l f : List Str), (∀ y ∈ f, Q y) → (∀ y ∈ l, own y = false → Q y) → ∀ y ∈ addN own f l, Q y
  | [], f, hf, _ => hf
  | y :: l, f, hf, hl => by
    refine addN_all own l _ (fun z hz => ?_) fun z hz => hl z (.tail _ hz)
    cases e : (!f.contains y && !own y) with
    | true =>
      rw [e] at hz
      rcases List.mem_append.mp hz with hz | hz
      · exact hf z hz
      · rw [List.mem_singleton.mp hz]; exact hl y (.head _) (nott1 (Bool.and_eq_true_iff.mp e).2)
    | false => rw [e] at hz; exact hf z hz
theorem addN_old (own : Str → Bool) {y : Str} : ∀ (l f : List Str), y ∈ f → y ∈ addN own f l
  | [], f, h => h
  | z :: l, f, h => addN_old own l _ (by
    cases (!f.contains z && !own z) with
    | true => exact List.mem_append_left _ h
    | false => exact h)
theorem addN_new (own : Str → Bool) {y : Str} (ho : own y = false) : ∀ (l f : List Str), y ∈ l → y ∈ addN own f l
  | z :: l, f, h => by
    rcases List.mem_cons.mp h with rfl | h
    · refine addN_old own l _ ?_
      rw [ho]
      cases e : f.contains y with
      | true => exact List.contains_iff_mem.mp e
      | false => exact List.mem_append_right _ (.head _)
    · exact addN_new own ho l _ h
theorem fr_nd : ∀ {t : Tr} {Q : Str → Prop}, Fr t Q → ∀ y ∈ t.nd, Q y
  | .num _, _, _, y, hy => nomatch hy
  | .name x, _, h, y, hy => List.mem_singleton.mp hy ▸ h
  | .two _ a b, _, h, y, hy => addN_all _ _ _ (addN_all _ _ _ (fun _ q => nomatch q) fun z hz _ => fr_nd h.1 z hz) (fun z hz _ => fr_nd h.2 z hz) y hy
  | .whn c a b, _, h, y, hy => addN_all _ _ _ (addN_all _ _ _ (addN_all _ _ _ (fun _ q => nomatch q) fun z hz _ => fr_nd h.1 z hz) fun z hz _ => fr_nd h.2.1 z hz) (fun z hz _ => fr_nd h.2.2 z hz) y hy
  | .lt x a b, _, h, y, hy => addN_all _ _ _ (addN_all _ _ _ (fun _ q => nomatch q) fun z hz _ => fr_nd h.1 z hz) (fun z hz e => (fr_nd h.2 z hz).resolve_left fun r => by rw [r, beq_self_eq_true] at e; cases e) y hy
theorem nd_fr : ∀ t : Tr, Fr t (fun y => y ∈ t.nd)
  | .num _ => trivial
  | .name x => .head _
  | .two _ a b => ⟨(nd_fr a).mono fun y h => addN_old _ _ _ (addN_new _ rfl _ _ h), (nd_fr b).mono fun y h => addN_new _ rfl _ _ h⟩
  | .whn c a b => ⟨(nd_fr c).mono fun y h => addN_old _ _ _ (addN_old _ _ _ (addN_new _ rfl _ _ h)), (nd_fr a).mono fun y h => addN_old _ _ _ (addN_new _ rfl _ _ h), (nd_fr b).mono fun y h => addN_new _ rfl _ _ h⟩
  | .lt x a b => ⟨(nd_fr a).mono fun y h => addN_old _ _ _ (addN_new _ rfl _ _ h), (nd_fr b).mono fun y h => by
      cases e : y == x with
      | true => exact .inl (beq_iff_eq.mp e)
      | false => exact .inr (addN_new (fun y => y == x) e _ _ h)⟩
theorem nd_F (t : Tr) (g : Kf) : ∀ y ∈ (t.F g).nd, y ∈ t.nd ∧ g y = none := fr_nd (F_fr t g _ (nd_fr t))
noncomputable def SD (l : List Str) : List D := l.map PyData.str
theorem SD_len (l : List Str) : (SD l).length = l.length := List.length_map ..
theorem SD_app (l r : List Str) : SD (l ++ r) = SD l ++ SD r := List.map_append
theorem nm_eqOk {y : Str} (h : Nm y) : eqOk (.str y) = true := by
  show (PyData.strOk y && true) = true
  rw [strOk_letters h.1]; rfl
theorem lay_strs : ∀ {l : List Str}, (∀ z ∈ l, Nm z) → PyData.canLayAll0 (SD l) = true
  | [], _ => rfl
  | w :: l, h => by
    show (PyData.strOk w && PyData.canLayAll0 (SD l)) = true
    rw [strOk_letters (h w (.head _)).1, lay_strs fun z hz => h z (.tail _ hz)]; rfl
theorem deep_strs : ∀ l : List Str, PyData.depthAll (SD l) = 0
  | [] => rfl
  | w :: l => by
    show max (PyData.depth (PyData.str _)) (PyData.depthAll (SD l)) = 0
    rw [deep_strs l]; rfl
theorem any_strs (y : Str) : ∀ l : List Str, ((SD l).any fun z => PyData.eqv z (.str y)) = l.contains y
  | [] => rfl
  | z :: l => by
    show ((z == y) || (SD l).any fun z => PyData.eqv z (.str y)) = _
    rw [any_strs y l, List.contains_cons, Bool.eq_iff_iff.mpr (show (z == y) = true ↔ (y == z) = true by rw [beq_iff_eq, beq_iff_eq]; exact eq_comm)]
theorem in_strs {l : List Str} {y : Str} (hl : ∀ z ∈ l, Nm z) (hy : Nm y) : cmpD .In (.str y) (.list (SD l)) = .ok (.bool (l.contains y)) := by
  have h2 : eqOk (.list (SD l)) = true := by
    show (PyData.canLayAll0 (SD l) && decide (PyData.depthAll (SD l) + 1 ≤ 64)) = true
    rw [lay_strs hl, deep_strs]; rfl
  show (if (eqOk (.str y) && eqOk (.list (SD l))) = true then R.ok ((SD l).any fun z => PyData.eqv z (.str y)) else R.stuck).yes = _
  rw [nm_eqOk hy, h2, any_strs]; rfl
theorem ok_fr : ∀ {t : Tr}, t.ok → Fr t Nm
  | .num _, _ => trivial
  | .name x, h => h
  | .two _ a b, h => ⟨ok_fr h.1, ok_fr h.2⟩
  | .whn c a b, h => ⟨ok_fr h.1, ok_fr h.2.1, ok_fr h.2.2⟩
  | .lt x a b, h => ⟨ok_fr h.2.1, (ok_fr h.2.2).mono fun _ q => .inr q⟩
theorem nd_nm {t : Tr} (h : t.ok) : ∀ y ∈ t.nd, Nm y := fr_nd (ok_fr h)
end Mine
-- MV
set_option autoImplicit false
set_option linter.all false
namespace Mine
open PySem

noncomputable def Outc.v : Outc → R Int
  | .is z => .ok z
  | .nought => .exc .nought
  | .great => .exc .great
noncomputable def nameV (x : Str) : Option Int → R Int
  | some v => .ok v
  | none => .exc (.unset x)
noncomputable def Tr.V : Tr → Kf → R Int
  | .num v, _ => .ok v
  | .name x, g => nameV x (g x)
  | .two w a b, g => (a.V g).bind fun p => (b.V g).bind fun q => (outW w p q).v
  | .whn c a b, g => (c.V g).bind fun p => cond (p == 0) (b.V g) (a.V g)
  | .lt x a b, g => (a.V g).bind fun p => b.V (kput g x p)
noncomputable def VT : R Int → List D
  | .ok v => [.str (Str.ofString "is"), .int v]
  | .exc (.unset w) => [.str (Str.ofString "unset"), .str w]
  | .exc .nought => [.str (Str.ofString "nought"), .str (Str.ofString "")]
  | _ => [.str (Str.ofString "great"), .str (Str.ofString "")]
noncomputable abbrev VM (r : R Int) : D := .tuple (VT r)
theorem VM_out (o : Outc) : VM o.v = o.m := by cases o <;> rfl
inductive Vk : R Int → Prop
  | is {v : Int} (h : L9 v) : Vk (.ok v)
  | unset {x : Str} (h : Nm x) : Vk (.exc (.unset x))
  | nought : Vk (.exc .nought)
  | great : Vk (.exc .great)
theorem Vk.bind {r : R Int} {f : Int → R Int} (h : Vk r) (k : ∀ v, L9 v → Vk (f v)) : Vk (r.bind f) := by
  cases h with
  | is h => exact k _ h
  | unset h => exact .unset h
  | nought => exact .nought
  | great => exact .great
theorem out_k {w : W2} {a b : Int} (ha : L9 a) (hb : L9 b) : Vk (outW w a b).v := by
  cases e : outW w a b with
  | is z => exact .is (out_ok ha hb e)
  | nought => exact .nought
  | great => exact .great
theorem V_k : ∀ (t : Tr) (g : Kf), t.ok → K9 g → Vk (t.V g)
  | .num v, _, ht, _ => .is ht
  | .name x, g, ht, hg => by
    show Vk (nameV x (g x))
    cases e : g x with
    | none => exact .unset ht
    | some v => exact .is (hg x v e)
  | .two w a b, g, ht, hg => (V_k a g ht.1 hg).bind fun p hp => (V_k b g ht.2 hg).bind fun q hq => out_k hp hq
  | .whn c a b, g, ht, hg => (V_k c g ht.1 hg).bind fun p hp => Zac (P := Vk) (fun _ => V_k b g ht.2.2 hg) (V_k a g ht.2.1 hg)
  | .lt x a b, g, ht, hg => (V_k a g ht.2.1 hg).bind fun p hp => V_k b _ ht.2.2 (hg.put x hp)
theorem V2 {w : W2} {a b : Tr} {g : Kf} {p q : Int} (h1 : a.V g = .ok p) (h2 : b.V g = .ok q) : (Tr.two w a b).V g = (outW w p q).v := by
  show (a.V g).bind _ = _
  rw [h1]; show (b.V g).bind _ = _
  rw [h2]; rfl
theorem V2x {w : W2} {a b : Tr} {g : Kf} {c : EC} (h1 : a.V g = .exc c) : (Tr.two w a b).V g = .exc c := by
  show (a.V g).bind _ = _
  rw [h1]; rfl
theorem V2y {w : W2} {a b : Tr} {g : Kf} {p : Int} {c : EC} (h1 : a.V g = .ok p) (h2 : b.V g = .exc c) : (Tr.two w a b).V g = .exc c := by
  show (a.V g).bind _ = _
  rw [h1]; show (b.V g).bind _ = _
  rw [h2]; rfl
theorem Vw {c a b : Tr} {g : Kf} {p : Int} (h1 : c.V g = .ok p) : (Tr.whn c a b).V g = cond (p == 0) (b.V g) (a.V g) := by
  show (c.V g).bind _ = _
  rw [h1]; rfl
theorem Vwx {c a b : Tr} {g : Kf} {e : EC} (h1 : c.V g = .exc e) : (Tr.whn c a b).V g = .exc e := by
  show (c.V g).bind _ = _
  rw [h1]; rfl
theorem Vl {x : Str} {a b : Tr} {g : Kf} {p : Int} (h1 : a.V g = .ok p) : (Tr.lt x a b).V g = b.V (kput g x p) := by
  show (a.V g).bind _ = _
  rw [h1]; rfl
theorem Vlx {x : Str} {a b : Tr} {g : Kf} {c : EC} (h1 : a.V g = .exc c) : (Tr.lt x a b).V g = .exc c := by
  show (a.V g).bind _ = _
  rw [h1]; rfl
theorem okM {r r' : R Int} (h : r' = r) : R.ok (VM r, false) = .ok (VM r', false) := by rw [h]
theorem vm_alias (r : R Int) (e : Bool) (xs : List D) : aliasOk e xs (VM r) = true := by
  cases r with
  | ok v => cases e <;> rfl
  | exc c => cases c <;> cases e <;> rfl
  | stuck => cases e <;> rfl
end Mine
-- MJV
set_option autoImplicit false
set_option linter.all false
namespace Mine
open PySem

theorem Vk.congr {r : R Int} {f f' : Int → R Int} (h : Vk r) (k : ∀ v, L9 v → f v = f' v) : r.bind f = r.bind f' := by
  cases h with
  | is h => exact k _ h
  | _ => rfl
theorem R.assoc (r : R Int) (f g : Int → R Int) : (r.bind f).bind g = r.bind fun v => (f v).bind g := by cases r <;> rfl
theorem Vk.same {r : R Int} {f : Int → R Int} (h : Vk r) (k : ∀ v, L9 v → f v = .ok v) : r.bind f = r := by
  cases h with
  | is h => exact k _ h
  | _ => rfl
theorem lim_in {z : Int} (h : L9 z) : lim z = .is z := lim_f (by
  unfold over
  rw [Bool.or_eq_false_iff, decide_eq_false_iff_not, decide_eq_false_iff_not]
  exact ⟨by have := h.1; omega, Int.not_lt.mpr h.2⟩)
theorem lim_hi {z : Int} (h : 1000000000 < z) : lim z = .great := lim_t (by unfold over; rw [decide_eq_true h, Bool.or_true])
theorem lim_lo {z : Int} (h : z < -1000000000) : lim z = .great := lim_t (by unfold over; rw [decide_eq_true (show z < 0 - 1000000000 by omega)]; rfl)
theorem lim_two {a b : Int} {f : Int → R Int} (h1 : L9 a → f a = (lim b).v) (h2 : 1000000000 < a → (1000000000 < b ∨ b < -1000000000)) (h3 : a < -1000000000 → (1000000000 < b ∨ b < -1000000000)) : (lim a).v.bind f = (lim b).v := by
  by_cases q1 : 1000000000 < a
  · rw [lim_hi q1]
    rcases h2 q1 with q | q
    · rw [lim_hi q]; rfl
    · rw [lim_lo q]; rfl
  · by_cases q2 : a < -1000000000
    · rw [lim_lo q2]
      rcases h3 q2 with q | q
      · rw [lim_hi q]; rfl
      · rw [lim_lo q]; rfl
    · have h : L9 a := ⟨by omega, by omega⟩
      rw [lim_in h]; exact h1 h
theorem known_V (w : W2) (x y : Int) (g : Kf) : (known w x y).V g = (outW w x y).v := by
  unfold known
  cases e : outW w x y with
  | is z => rfl
  | nought => show (outW w x y).v = _; rw [e]
  | great => show (outW w x y).v = _; rw [e]
theorem jless_V (k : Int) (t : Tr) (g : Kf) : (jless k t).V g = (Tr.two .less (.num k) t).V g := by
  cases t with
  | num y => exact known_V _ _ _ _
  | _ => rfl
theorem nb_no {b : Bool} (h : (!b) = true) : b = false := by cases b <;> first | rfl | cases h
theorem like_up {m n : Int} (h : likeS m n = true) : (0 < m ∧ 0 < n) ∨ (m < 0 ∧ n < 0) := by
  simp only [likeS, Bool.or_eq_true, Bool.and_eq_true, decide_eq_true_eq] at h
  exact h
theorem sum_two {p m n : Int} (hp : L9 p) (h : (0 < m ∧ 0 < n) ∨ (m < 0 ∧ n < 0)) : (lim (p + m)).v.bind (fun q => (lim (q + n)).v) = (lim (p + (m + n))).v := by
  have := hp.1
  have := hp.2
  refine lim_two (fun _ => by rw [Int.add_assoc]) (fun q => .inl (by omega)) fun q => .inr (by omega)
theorem less_two {p m n : Int} (hp : L9 p) (h : unlike m n = false) : (lim (m - p)).v.bind (fun q => (lim (q + n)).v) = (lim (m + n - p)).v := by
  have := hp.1
  have := hp.2
  have h1 : (0 < m → 0 ≤ n) ∧ (m < 0 → n ≤ 0) := by
    simp only [unlike, Bool.or_eq_false_iff, Bool.and_eq_false_iff, decide_eq_false_iff_not] at h
    omega
  refine lim_two (fun _ => by rw [show m - p + n = m + n - p by omega]) (fun q => .inl (by omega)) fun q => .inr (by omega)
theorem sum_zero {t : Tr} {g : Kf} {n : Int} (h : Vk (t.V g)) (hn : (n == 0) = true) : t.V g = (Tr.two .sum t (.num n)).V g := by
  cases beq_iff_eq.mp hn
  exact (h.same fun v hv => by show (lim (v + 0)).v = _; rw [Int.add_zero, lim_in hv]; rfl).symm
theorem isN_eq {t : Tr} (h : t.isN = true) : t = .num t.val := by
  obtain ⟨v, rfl⟩ := Tr.isN_num h
  rfl
theorem V_cond {b : Bool} {x y : Tr} {g : Kf} {r : R Int} (h1 : b = true → x.V g = r) (h2 : b = false → y.V g = r) : (cond b x y).V g = r := by
  cases b with
  | true => exact h1 rfl
  | false => exact h2 rfl
theorem jsum_V {g : Kf} (hg : K9 g) : ∀ (t : Tr) (n : Int), t.ok → L9 n → (jsum t n).V g = (Tr.two .sum t (.num n)).V g
  | .num x, n, _, _ => known_V _ _ _ _
  | .name x, n, ht, _ => V_cond (sum_zero (V_k _ g ht hg)) fun _ => rfl
  | .whn c a b, n, ht, _ => V_cond (sum_zero (V_k _ g ht hg)) fun _ => rfl
  | .lt x a b, n, ht, _ => V_cond (sum_zero (V_k _ g ht hg)) fun _ => rfl
  | .two w a b, n, ht, hn => V_cond (sum_zero (V_k _ g ht hg)) fun _ => V_cond (fun h => by
      have h1 := Bool.and_eq_true_iff.mp h
      have h2 := Bool.and_eq_true_iff.mp h1.1
      have h3 := Bool.and_eq_true_iff.mp h1.2
      cases W2.is_eq h2.1
      rw [jsum_V hg a _ ht.1 (fit_l9 h3.2), isN_eq h2.2]
      show (a.V g).bind _ = ((a.V g).bind _).bind _
      rw [R.assoc]
      exact (V_k a g ht.1 hg).congr fun p hp => (sum_two hp (like_up h3.1)).symm) fun _ => V_cond (fun h => by
      have h1 := Bool.and_eq_true_iff.mp h
      have h2 := Bool.and_eq_true_iff.mp h1.1
      have h3 := Bool.and_eq_true_iff.mp h1.2
      cases W2.is_eq h2.1
      rw [jless_V, isN_eq h2.2]
      show (b.V g).bind _ = ((b.V g).bind _).bind _
      rw [R.assoc]
      exact (V_k b g ht.2 hg).congr fun p hp => (less_two hp (nb_no h3.1)).symm) fun _ => rfl
theorem times_two {p m n : Int} (hn : n ≠ 0) : (lim (p * m)).v.bind (fun q => (lim (q * n)).v) = (lim (p * (m * n))).v := by
  have e : p * (m * n) = p * m * n := (Int.mul_assoc ..).symm
  rw [e]
  have hi : ∀ {x : Int}, 1000000000 < x → 1000000000 < x * n ∨ x * n < -1000000000 := fun {x} h => by
    rcases Int.lt_or_gt_of_ne hn with q | q
    · refine .inr ?_
      have : x * n ≤ x * (-1) := Int.mul_le_mul_of_nonneg_left (by omega) (by omega)
      omega
    · refine .inl ?_
      have : x * 1 ≤ x * n := Int.mul_le_mul_of_nonneg_left (by omega) (by omega)
      omega
  refine lim_two (fun _ => rfl) hi fun h => ?_
  have := hi (x := -(p * m)) (by omega)
  rw [Int.neg_mul] at this
  omega
theorem part_two {p m n : Int} (hm : 0 < m) (hn : 0 < n) : (p.fdiv m).fdiv n = p.fdiv (m * n) := by
  rw [Int.fdiv_eq_ediv_of_nonneg _ (Int.le_of_lt hm), Int.fdiv_eq_ediv_of_nonneg _ (Int.le_of_lt hn), Int.fdiv_eq_ediv_of_nonneg _ (Int.le_of_lt (Int.mul_pos hm hn)), Int.ediv_ediv, if_neg (fun q => absurd q.1 (Int.not_lt.mpr (Int.le_of_lt hm))), Int.sub_zero]
theorem rest_mod {p m : Int} (hm : 0 < m) : p - m * p.fdiv m = p % m := by
  rw [Int.fdiv_eq_ediv_of_nonneg _ (Int.le_of_lt hm)]
  have := Int.emod_add_mul_ediv p m
  omega
theorem out_part {p m : Int} (hm : 0 < m) : outW .part p m = .is (p.fdiv m) := if_neg (by rw [beq_iff_eq]; omega)
theorem out_rest {p m : Int} (hm : 0 < m) : outW .rest p m = .is (p % m) := by
  show (if (m == 0) = true then Outc.nought else .is (p - m * p.fdiv m)) = _
  rw [if_neg (by rw [beq_iff_eq]; omega), rest_mod hm]
theorem goes_V {w : W2} {p m n : Int} (hp : L9 p) (h : goes w m n = true) : (outW w p m).v.bind (fun q => (outW w q n).v) = (outW w p (goesN w m n)).v := by
  cases w with
  | times =>
    have h := Bool.and_eq_true_iff.mp h
    exact times_two fun q => by rw [q] at h; cases h.1
  | part =>
    have h1 := Bool.and_eq_true_iff.mp h
    have h2 := Bool.and_eq_true_iff.mp h1.2
    have hm := of_decide_eq_true h1.1
    have hn := of_decide_eq_true h2.1
    rw [out_part hm]
    show (outW .part (p.fdiv m) n).v = (outW .part p (m * n)).v
    rw [out_part hn, out_part (Int.mul_pos hm hn), part_two hm hn]
  | rest =>
    have h1 := Bool.and_eq_true_iff.mp h
    have h2 := Bool.and_eq_true_iff.mp h1.1
    have h3 := Bool.and_eq_true_iff.mp h1.2
    have hm := of_decide_eq_true h2.1
    have hn := of_decide_eq_true h2.2
    rw [out_rest hm]
    show (outW .rest (p % m) n).v = (outW .rest p n).v
    rw [out_rest hn, out_rest hn, Int.emod_emod_of_dvd _ (Int.dvd_of_emod_eq_zero (beq_iff_eq.mp h3.2))]
  | _ => cases h
theorem stays_V {w : W2} {p m n : Int} (h : stays w m n = true) : (outW w p m).v.bind (fun q => (outW w q n).v) = (outW w p m).v := by
  cases w with
  | rest =>
    have h1 := Bool.and_eq_true_iff.mp h
    have h2 := Bool.and_eq_true_iff.mp h1.1
    have hm := of_decide_eq_true h2.1
    have hn := of_decide_eq_true h2.2
    have hmn := of_decide_eq_true h1.2
    rw [out_rest hm]
    show (outW .rest (p % m) n).v = _
    rw [out_rest hn, Int.emod_eq_of_lt (Int.emod_nonneg _ (by omega)) (Int.lt_of_lt_of_le (Int.emod_lt_of_pos _ hm) hmn)]
  | _ => cases h
theorem unit_V {w : W2} {t : Tr} {g : Kf} {n : Int} (h : Vk (t.V g)) (hn : unitW w n = true) : t.V g = (Tr.two w t (.num n)).V g := by
  refine (h.same fun v hv => ?_).symm
  cases w with
  | times =>
    cases beq_iff_eq.mp hn
    show (lim (v * 1)).v = _
    rw [Int.mul_one, lim_in hv]; rfl
  | part =>
    cases beq_iff_eq.mp hn
    show (outW .part v 1).v = _
    rw [out_part (by decide), Int.fdiv_one]; rfl
  | _ => cases hn
theorem jt_V (w : W2) {g : Kf} (hg : K9 g) : ∀ (t : Tr) (n : Int), t.ok → L9 n → (jt w t n).V g = (Tr.two w t (.num n)).V g
  | .num x, n, _, _ => known_V _ _ _ _
  | .name x, n, ht, _ => V_cond (unit_V (V_k _ g ht hg)) fun _ => rfl
  | .whn c a b, n, ht, _ => V_cond (unit_V (V_k _ g ht hg)) fun _ => rfl
  | .lt x a b, n, ht, _ => V_cond (unit_V (V_k _ g ht hg)) fun _ => rfl
  | .two v a b, n, ht, hn => V_cond (unit_V (V_k _ g ht hg)) fun _ => V_cond (fun h => V_cond (fun h2 => by
      have h1 := Bool.and_eq_true_iff.mp h
      cases W2.is_eq h1.1
      rw [jt_V w hg a _ ht.1 (goes_ok hn h2), isN_eq h1.2]
      show (a.V g).bind _ = ((a.V g).bind _).bind _
      rw [R.assoc]
      exact (V_k a g ht.1 hg).congr fun p hp => (goes_V hp h2).symm) fun _ => V_cond (fun h2 => by
      have h1 := Bool.and_eq_true_iff.mp h
      cases W2.is_eq h1.1
      rw [isN_eq h1.2]
      show (a.V g).bind _ = ((a.V g).bind _).bind _
      rw [R.assoc]
      exact (V_k a g ht.1 hg).congr fun p hp => (stays_V h2).symm) fun _ => rfl) fun _ => rfl
theorem jx_V (w : W2) {g : Kf} (hg : K9 g) {t : Tr} {n : Int} (ht : t.ok) (hn : L9 n) : (jx w t n).V g = (Tr.two w t (.num n)).V g := by
  cases w with
  | sum => exact jsum_V hg t n ht hn
  | less =>
    refine (jsum_V hg t _ ht (neg9 hn)).trans ((V_k t g ht hg).congr fun p hp => ?_)
    show (lim (p + (0 - n))).v = (lim (p - n)).v
    rw [show p + (0 - n) = p - n by omega]
  | times => exact jt_V _ hg t n ht hn
  | part => exact jt_V _ hg t n ht hn
  | rest => exact jt_V _ hg t n ht hn
  | below => rfl
  | same => rfl
theorem comm_V {w : W2} {p x : Int} (h : comm w = true) : outW w p x = outW w x p := by
  cases w with
  | sum => show lim (p + x) = lim (x + p); rw [Int.add_comm]
  | times => show lim (p * x) = lim (x * p); rw [Int.mul_comm]
  | same => show Outc.is (if (p == x) = true then 1 else 0) = .is (if (x == p) = true then 1 else 0); rw [show (p == x) = (x == p) from Bool.eq_iff_iff.mpr ⟨fun q => by rw [beq_iff_eq] at *; exact q.symm, fun q => by rw [beq_iff_eq] at *; exact q.symm⟩]
  | _ => cases h
theorem J_V (w : W2) {a b : Tr} {g : Kf} (hg : K9 g) (ha : a.ok) (hb : b.ok) : (J w a b).V g = (Tr.two w a b).V g :=
  V_cond (fun h => by
    rw [isN_eq h] at hb ⊢
    refine V_cond (fun q => ?_) fun _ => jx_V w hg ha hb
    rw [isN_eq q]; exact known_V _ _ _ _) fun _ => V_cond (fun h => by
    have h := Bool.and_eq_true_iff.mp h
    rw [isN_eq h.1] at ha ⊢
    exact (jx_V w hg hb ha).trans ((V_k b g hb hg).congr fun p _ => by show (outW w p a.val).v = _; rw [comm_V h.2])) fun _ => rfl
theorem isZ_eq {t : Tr} (h : t.isZ = true) : t = .num 0 := by
  cases t with
  | num v => cases beq_iff_eq.mp h; rfl
  | _ => cases h
theorem Ch_V {g : Kf} : ∀ (c a b : Tr), (Ch c a b).V g = (Tr.whn c a b).V g
  | .num v, a, b => by
    show (cond (v == 0) b a).V g = cond (v == 0) (b.V g) (a.V g)
    cases v == 0 <;> rfl
  | .name x, a, b => rfl
  | .whn c d e, a, b => rfl
  | .lt x c d, a, b => rfl
  | .two w c z, a, b => V_cond (fun h => by
      have h := Bool.and_eq_true_iff.mp h
      cases W2.is_eq h.1
      rw [isZ_eq h.2, Ch_V c b a]
      show (c.V g).bind _ = ((c.V g).bind _).bind _
      rw [R.assoc]
      congr 1; funext p
      show cond (p == 0) (a.V g) (b.V g) = cond ((if (p == 0) = true then (1 : Int) else 0) == 0) (b.V g) (a.V g)
      cases p == 0 <;> rfl) fun _ => rfl
noncomputable def kor (k g : Kf) : Kf := fun x => match k x with
  | some v => some v
  | none => g x
theorem kor_put (k g : Kf) (x : Str) (v : Int) : kor (kput k x v) g = kput (kor k g) x v := funext fun y => by
  unfold kor kput
  cases x == y <;> rfl
theorem kor_del (k g : Kf) (x : Str) (v : Int) : kor (kdel k x) (kput g x v) = kput (kor k g) x v := funext fun y => by
  unfold kor kput kdel
  cases x == y <;> rfl
theorem K9.kor {k g : Kf} (hk : K9 k) (hg : K9 g) : K9 (kor k g) := fun x v e => by
  unfold Mine.kor at e
  cases q : k x with
  | some u => rw [q] at e; cases e; exact hk x _ q
  | none => rw [q] at e; exact hg x v e
theorem F_V : ∀ (t : Tr) (k g : Kf), t.ok → K9 k → K9 g → (t.F k).V g = t.V (kor k g)
  | .num v, _, _, _, _, _ => rfl
  | .name x, k, g, _, _, _ => by
    show (nameF x (k x)).V g = nameV x (kor k g x)
    unfold kor
    cases k x <;> rfl
  | .two w a b, k, g, ht, hk, hg => by
    show (J w (a.F k) (b.F k)).V g = _
    rw [J_V w hg (F_ok a k ht.1 hk) (F_ok b k ht.2 hk)]
    show ((a.F k).V g).bind _ = (a.V (kor k g)).bind _
    rw [F_V a k g ht.1 hk hg, F_V b k g ht.2 hk hg]
  | .whn c a b, k, g, ht, hk, hg => by
    show (Ch (c.F k) (a.F k) (b.F k)).V g = _
    rw [Ch_V]
    show ((c.F k).V g).bind _ = (c.V (kor k g)).bind _
    rw [F_V c k g ht.1 hk hg, F_V a k g ht.2.1 hk hg, F_V b k g ht.2.2 hk hg]
  | .lt x a b, k, g, ht, hk, hg => by
    have ha := F_V a k g ht.2.1 hk hg
    have oa := F_ok a k ht.2.1 hk
    refine V_cond (fun h => ?_) fun h => ?_
    · rw [F_V b _ g ht.2.2 (hk.put x (val_ok oa)) hg, kor_put]
      rw [isN_eq h] at ha
      exact (Vl ha.symm).symm
    · show ((a.F k).V g).bind _ = (a.V (kor k g)).bind _
      rw [ha]
      exact (V_k a _ ht.2.1 (hk.kor hg)).congr fun p hp => by rw [F_V b _ _ ht.2.2 (hk.del x) (hg.put x hp), kor_del]
end Mine
-- Y11
set_option autoImplicit false
set_option linter.all false
set_option maxRecDepth 10000
namespace Mine
open PySem
namespace L11
theorem cell_at_i (n : Nat) (ys : List Int) (k : Int) (hk : Ki k) (hl : ys.length ≤ 1000) (hy : ∀ y ∈ ys, Sm y) :
    ∃ z, (orc fns globs (n + 1)).fn 11 [.list (ys.map PyData.int), .int k] = .ok (.int z, false) ∧ Sm z := by
  refine fnI F_law_cell_at [.fr (.list (ys.map PyData.int)), .fr (.int k)] rfl rfl rfl ?_
  have e := len_map_int ys
  refine LenW.mk (ble_of (by rw [e]; exact Nat.le_trans hl (by decide))) ?_
  refine IteW.mk (fun h => ?_) fun h => ⟨0, rfl, rfl, by decide, by decide⟩
  have h := of_decide_eq_true h
  have hlt : k.toNat < ys.length := by have := hk.1; omega
  refine GetW.mk (.int ys[k.toNat]) (zidx_list hk.1 (Int.lt_trans hk.2 (by decide)) (by rw [List.getElem?_map, List.getElem?_eq_getElem hlt]; rfl)) ?_
  exact ⟨_, rfl, rfl, hy _ (List.getElem_mem _)⟩
theorem number_by_ok (n : Nat) (c : Int) (hc : Sm c) :
    ∃ z, (orc fns globs (n + 1)).fn 13 [.int c] = .ok (.int z, false) ∧ L9 z := by
  refine fnI F_law_number_by [.fr (.int c), .unset, .unset] rfl rfl rfl ?_
  refine ModW.pos (by decide) (DivW.pos hc.small rfl (by decide) ?_)
  refine IteW.mk (fun h => ModW.pos (by decide) ⟨_, rfl, rfl, L9.modsub rfl⟩) fun h => ?_
  refine IteW.mk (fun h => ModW.pos (by decide) (pick_int (-1000000000) 1000000000 rfl rfl fun z h1 h2 => ⟨z, rfl, rfl, h1, h2⟩)) fun h => ?_
  refine IteW.mk (fun h => ModW.pos (by decide) ⟨_, rfl, rfl, L9.modsub rfl⟩) fun h => ?_
  refine IteW.mk (fun h => ModW.pos (by decide) (pick_int (-1000000000) 1000000000 rfl rfl fun z h1 h2 => ⟨z, rfl, rfl, h1, h2⟩)) fun h => ?_
  exact ModW.pos (by decide) ⟨_, rfl, rfl, L9.modsub rfl⟩
noncomputable def mixI (s : Slot) (m : Nat) (xs : List D) (ρ : Env) : Prop := ∃ (ys zs : List Int) (v : Int) (c : Slot), xs = zs.map PyData.int ∧ ρ = [s, .own (.list (ys.map PyData.int)), .fr (.int v), c] ∧ Sm v ∧ ys.length + zs.length = m ∧ ∀ y ∈ ys, Sm y
theorem mixed_ok (n : Nat) (xs : List Int) (hx : xs.length ≤ 1000) : ∃ ys : List Int, (orc fns globs (n + 1)).fn 10 [.list (xs.map PyData.int)] = .ok (.list (ys.map PyData.int), true) ∧ ys.length = xs.length ∧ ∀ y ∈ ys, Sm y := by
  have := fnW (fns := fns) (G := globs) (n := n) (i := 10) (ds := [.list (xs.map PyData.int)]) F_law_mixed [.fr (.list (xs.map PyData.int)), .unset, .unset, .unset] (P := fun d b => ∃ ys : List Int, d = .list (ys.map PyData.int) ∧ b = true ∧ ys.length = xs.length ∧ ∀ y ∈ ys, Sm y) rfl rfl rfl ?_
  · obtain ⟨d, b, e, ys, rfl, rfl, h⟩ := this
    exact ⟨ys, e, h⟩
  refine ForW.mk _ rfl (ble_of (by rw [len_map_int]; exact Nat.le_trans hx (by decide))) (forW (mixI (.fr (.list (xs.map PyData.int))) xs.length) ⟨[], xs, 1, _, rfl, rfl, ⟨by decide, by decide⟩, by simp, fun y hy => nomatch hy⟩ ?_ ?_)
  · rintro x l ρ ⟨ys, zs, v, c, e, rfl, hv, hl, hy⟩
    cases zs with
    | nil => cases e
    | cons z zs =>
      cases e
      refine MulW.mk hv.small rfl (ModW.pos (by decide) ?_)
      have hs : Sm ((v * 6364136223846793005 + z + 1442695040888963407) % 1000000000000000003) := Sm.mod rfl
      rw [List.length_cons] at hl
      refine IfW.mk (ble_of (by rw [len_map_int]; exact Nat.le_trans (show _ ≤ 1000 by omega) (by decide))) ⟨ys ++ [_], zs, _, _, rfl, by rw [List.map_append]; rfl, hs, by rw [List.length_append]; simp only [List.length_cons, List.length_nil]; omega, fun y hy' => ?_⟩
      rcases List.mem_append.mp hy' with hy' | hy'
      · exact hy y hy'
      · rw [List.mem_singleton.mp hy']; exact hs
  · rintro ρ ⟨ys, zs, v, c, e, rfl, hv, hl, hy⟩
    cases zs with
    | nil => exact ⟨ys, rfl, rfl, by simpa using hl, hy⟩
    | cons z zs => cases e
noncomputable def nameI (s0 s1 s3 : Slot) (more : Int) (m : Nat) (l : List D) (ρ : Env) : Prop := ∃ (x : Str) (a : Int) (t : Slot) (j : Nat), ρ = [s0, s1, .fr (.str (Str.ofString "abcdefghijklmnopqrstuvwxyz")), s3, .fr (.int more), .fr (.str x), .fr (.int a), t, .unset, .unset, .unset] ∧ Ls x j ∧ j + l.length = m
theorem few {k : Int} (h0 : 0 ≤ k) (h3 : ¬ 3 < k) (h1 : k ≠ 1) : k = 0 ∨ k = 2 ∨ k = 3 := by
  obtain ⟨n, rfl⟩ := Int.eq_ofNat_of_zero_le h0
  have : ∀ n < 4, n ≠ 1 → n = 0 ∨ n = 2 ∨ n = 3 := by decide
  rcases this n (Nat.lt_succ_of_le (Int.ofNat_le.mp (Int.not_lt.mp h3))) (fun q => h1 (by rw [q]; rfl)) with rfl | rfl | rfl
  · exact .inl rfl
  · exact .inr (.inl rfl)
  · exact .inr (.inr rfl)
theorem name_by_i (n : Nat) (c k : Int) (hc : Sm c) (hk : Ki k) :
    ∃ x, (orc fns globs (n + 1)).fn 14 [.int c, .int k] = .ok (.str x, false) ∧ Nm x := by
  have hm : Sm (c / 6) := hc.div (by decide)
  have hks : smallInt k = true := small_of (by have := hk.1; omega) (by have := hk.2; omega)
  refine fnS F_law_name_by [.fr (.int c), .fr (.int k), .unset, .unset, .unset, .unset, .unset, .unset, .unset, .unset, .unset] rfl rfl rfl ?_
  refine DivW.pos hc.small rfl (by decide) (ModW.pos (by decide) (AndW.mk _ (fun _ => rfl) (IteW.mk (fun h => ?_) fun h => ?_)))
  · exact ModW.pos (by decide) (pick_w nameWords rfl fun w hw => ⟨_, rfl, rfl, nameWords_ok hw⟩)
  have h7 := mod_lt (x := c / 6) (m := 7) (by decide)
  refine DivW.pos hm.small rfl (by decide) (ModW.pos (by decide) (IfW.mk (rangeW (by omega) (by omega)) ?_))
  refine forW (nameI (.fr (.int c)) (.fr (.int k)) _ (c / 6) (1 + c / 6 % 7).toNat) ⟨_, _, _, 0, rfl, Ls.nil, by rw [range_len, Int.sub_zero, Nat.zero_add]⟩ ?_ ?_
  · rintro d l ρ ⟨x, a, t, j, rfl, hx, hj⟩
    rw [List.length_cons] at hj
    refine DivW.pos hm.small rfl (by decide) (ModW.pos (by decide) (ModW.pos (by decide) (abcW fun s hs => addS hx hs (by omega) fun y hy => ?_)))
    exact ⟨y, _, _, _, rfl, hy, by omega⟩
  · rintro ρ ⟨y, a, t, j, rfl, hy, hj⟩
    rw [List.length_nil, Nat.add_zero] at hj
    have j1 : 1 ≤ j := by omega
    have j7 : j ≤ 7 := by omega
    have j8 : j ≤ 1000 := Nat.le_trans j7 (by decide)
    clear hj h7
    refine DivW.pos hm.small rfl (by decide) (lenS hy j8 (ModW.pos (Int.ofNat_lt.mpr j1) ?_))
    obtain ⟨p, ep, hp⟩ := nat_of (mod_lt (x := c / 6 / 4550) (m := (j : Int)) (Int.ofNat_lt.mpr j1))
    rw [ep]
    have p0 := Int.natCast_nonneg p
    have p1 : (p : Int) ≤ j := Int.ofNat_le.mpr (Nat.le_of_lt hp)
    have r1 := nm1 hp j7
    have r2 := nm2 hp j7
    have p6 : ¬ ((6 : Int) < p) := by omega
    have j2 : 1 + j ≤ 8 := Nat.succ_le_succ j7 |> fun h => by rw [Nat.add_comm]; exact h
    refine IteW.mk (fun h3 => ?_) fun h3 => ?_
    · refine GetW.mk (.int p) (congrArg R.ok (congrArg PyData.int (if_neg p6))) ?_
      refine DivW.pos hks rfl (by decide) (ModW.pos (by decide) (abcW fun s1 q1 => ModW.pos (by decide) (abcW fun s2 q2 => addS q1 q2 (by decide) fun tw q3 => ?_)))
      refine preW hy p0 p1 j8 fun s3 qp => addS qp q3 r1.1 fun u qu => midW hy p0 p1 (by decide) (by decide) j8 fun v qv => addS qu qv r1.2.1 fun z qz => ?_
      exact ⟨z, rfl, rfl, qz.nm r1.2.2.1 r1.2.2.2⟩
    refine ModW.pos (by decide) (IteW.mk (fun h4 => ?_) fun h4 => ?_)
    · refine DivW.pos hm.small rfl (by decide) (ModW.pos (by decide) (abcW fun s1 q1 => addS q1 hy (Nat.le_trans j2 (by decide)) fun z qz => ?_))
      exact ⟨z, rfl, rfl, qz.nm (Nat.le_add_right 1 j) j2⟩
    refine IteW.mk (fun h5 => ?_) fun h5 => ?_
    · refine signW hy p0 (Int.ofNat_lt.mpr hp) j8 fun s1 q1 => GetW.mk _ rfl (ModW.pos (by decide) (abcW fun s2 q2 => ?_))
      refine preW hy p0 p1 j8 fun s3 qp => addS qp q2 r2.1 fun u qu => sufW (i := ((p + 1 : Nat) : Int)) hy (Int.natCast_nonneg _) (Int.ofNat_le.mpr hp) j8 fun v qv => addS qu qv r2.2.1 fun z qz => ?_
      exact ⟨z, rfl, rfl, qz.nm r2.2.2.1 r2.2.2.2⟩
    refine ModW.pos (by decide) (abcW fun s1 q1 => ModW.pos (by decide) (abcW fun s2 q2 => ?_))
    have q : k = 0 ∨ k = 2 ∨ k = 3 := few hk.1 (of_decide_eq_false h3) (beq_eq_false_iff_ne.mp h5)
    have out : ∀ (x : Str) (i : Nat), Ls x i → i ≤ 1 → idxD (.list [.str (Str.ofString ""), .str (Str.ofString ""), .str s1, .str s2]) (.int k) = .ok (.str x) → GetW (idxD (.list [.str (Str.ofString ""), .str (Str.ofString ""), .str s1, .str s2]) (.int k)) fun d => binW .Add (.str y) d fun d => retW (strR Nm) (.ret d false []) := fun x i hx hi e =>
      have q8 : j + i ≤ 8 := Nat.add_le_add j7 hi
      .mk _ e (addS hy hx (Nat.le_trans q8 (by decide)) fun z qz => ⟨z, rfl, rfl, qz.nm (Nat.le_trans j1 (Nat.le_add_right j i)) q8⟩)
    rcases q with rfl | rfl | rfl
    · exact out _ 0 Ls.nil (by decide) rfl
    · exact out _ 1 q1 (by decide) rfl
    · exact out _ 1 q2 (by decide) rfl
end L11
end Mine
-- Y11t
set_option autoImplicit false
set_option linter.all false
set_option maxRecDepth 10000
namespace Mine
open PySem
namespace L11
noncomputable def condI (s0 s1 s2 s3 s4 s5 s6 : Slot) (d m z : Nat) (l : List D) (ρ : Env) : Prop := ∃ (c : Tr) (t : Slot) (j : Nat), ρ = [s0, s1, s2, s3, s4, s5, s6, .fr c.d, t] ∧ c.ok ∧ c.deep ≤ d + j ∧ j + l.length = m ∧ c.sz ≤ z + 2 * j
theorem step_ok (n : Nat) (ts : List Tr) (d : Nat) (kind more seed : Int) (hm : Sm more) (hs : Sm seed) (hp : Pl d ts) (hl : ts.length ≤ 100) :
    ∃ l, (orc fns globs (n + 2)).fn 15 [.list (PD ts), .int kind, .int more, .int seed] = .ok (.list (PD l), false) ∧ StepP d ts l := by
  obtain ⟨x, ex, hx⟩ := name_by_i n seed (more % 3) hs (Ki.mod rfl)
  obtain ⟨v7, e7, h7⟩ := number_by_ok n (more / 7) (hm.div (by decide))
  obtain ⟨v3, e3, h3⟩ := number_by_ok n (more / 3) (hm.div (by decide))
  obtain ⟨v1, e1, h1⟩ := number_by_ok n more hm
  have hlen : ∀ {k : KD}, k (.int ts.length) → LenW (PD ts).length k := fun {k} h => (PD_len ts).symm ▸ .mk (ble_of (Nat.le_trans hl (by decide))) h
  have big1 : ∀ {m : Nat}, decide ((m : Int) < (ts.length : Int)) = true → m < ts.length := fun {m} h => by have := of_decide_eq_true h; omega
  refine fnP F_law_step [.fr (.list (PD ts)), .fr (.int kind), .fr (.int more), .fr (.int seed), .unset, .unset, .unset, .unset, .unset] rfl rfl rfl (ModW.pos (by decide) <| pick_ws allW rfl fun w => ?_)
  refine OrW.mk _ (fun _ => rfl) <| AndW.mk (decide ((1 : Int) < ts.length)) (fun _ => hlen rfl) <| IteW.mk (fun q => ?_) fun _ => ?_
  · obtain ⟨r, a, b, rfl⟩ := from_end2 (big1 (m := 1) (Bool.and_eq_true_iff.mp q).2)
    rw [List.length_append] at hl
    have hr := hp.right
    have hr9 : r.length ≤ 100 := Nat.le_trans (Nat.le_add_right _ _) hl
    refine cutW (e := [a, b]) rfl (Nat.succ_pos _) (Nat.le_of_ble_eq_true rfl) hr9 <| ModW.pos (by decide) <| CallW.mk _ _ ex rfl <| GetW.mk _ (last2 hr9) <| GetW.mk _ (last21 hr9) <| layW (x := .lt x a b) hr9 ⟨_, rfl, rfl, .of2 hp (lt_deep hx hr.fst hr.tl.fst) (Nat.le_refl _)⟩
  refine AndW.mk (decide ((0 : Int) < ts.length)) (fun _ => hlen rfl) <| IteW.mk (fun q => ?_) fun _ => ?_
  · obtain ⟨r, a, rfl⟩ := from_end (big1 (m := 0) (Bool.and_eq_true_iff.mp q).2)
    rw [List.length_append] at hl
    have hr9 : r.length ≤ 100 := Nat.le_trans (Nat.le_add_right _ _) hl
    have ha := hp.right.fst
    have fin : ∀ (t : Tr), t.ok ∧ t.deep ≤ d + 1 → t.sz ≤ a.sz + 2 → StepP d (r ++ [a]) (r ++ [t]) := fun t ht hs => .of1 hp ht hs
    have tail : ∀ (w : W2) (s4 : Slot), exW (orc fns globs (n + 1)) globs (tailS 1 (bodyI 3 F_law_step.body)) [.fr (.list (PD (r ++ [a]))), .fr (.int kind), .fr (.int more), .fr (.int seed), s4, .fr w.d, .unset, .unset, .unset] (retW (pileR (StepP d (r ++ [a])))) := fun w s4 => by
      refine DivW.pos hm.small rfl (by decide) <| CallW.mk _ _ e7 rfl <| IteW.mk (fun _ => ?_) fun _ => ?_
      · exact cutW (e := [a]) rfl (Nat.succ_pos _) (Nat.le_of_ble_eq_true rfl) hr9 <| GetW.mk _ (last1 hr9) <| layW (x := .two w (.num v7) a) hr9 ⟨_, rfl, rfl, fin _ (two_deep (num_deep d h7) ha) (sz_l _)⟩
      · exact cutW (e := [a]) rfl (Nat.succ_pos _) (Nat.le_of_ble_eq_true rfl) hr9 <| GetW.mk _ (last1 hr9) <| layW (x := .two w a (.num v7)) hr9 ⟨_, rfl, rfl, fin _ (two_deep ha (num_deep d h7)) (sz_r _)⟩
    refine AndW.mk a.isT (fun _ => GetW.mk _ (last1 hr9) <| GetW.mk _ (in_tag a) rfl) <| IteW.mk (fun q2 => GetW.mk _ (last1 hr9) ?_) fun _ => ?_
    · cases a with
      | two v a b => exact tail v _
      | _ => exact absurd (Bool.and_eq_true_iff.mp q2).2 Bool.noConfusion
    · exact tail w _
  refine AndW.mk (decide ((0 : Int) < ts.length)) (fun _ => hlen rfl) <| IteW.mk (fun q => ?_) fun _ => ?_
  · obtain ⟨r, a, rfl⟩ := from_end (big1 (m := 0) (Bool.and_eq_true_iff.mp q).2)
    rw [List.length_append] at hl
    have hr9 : r.length ≤ 100 := Nat.le_trans (Nat.le_add_right _ _) hl
    refine DivW.pos hm.small rfl (by decide) <| CallW.mk _ _ e3 rfl <| cutW (e := [a]) rfl (Nat.succ_pos _) (Nat.le_of_ble_eq_true rfl) hr9 <| ModW.pos (by decide) <| CallW.mk _ _ ex rfl <| GetW.mk _ (last1 hr9) <| layW (x := .lt x (.num v3) a) hr9 ⟨_, rfl, rfl, .of1 hp (lt_deep hx (num_deep d h3) hp.right.fst) (sz_l _)⟩
  refine AndW.mk (decide ((2 : Int) < ts.length)) (fun _ => hlen rfl) <| IteW.mk (fun q => ?_) fun _ => ?_
  · obtain ⟨r, c, a, b, rfl⟩ := from_end3 (big1 (m := 2) (Bool.and_eq_true_iff.mp q).2)
    rw [List.length_append] at hl
    have hr9 : r.length ≤ 100 := Nat.le_trans (Nat.le_add_right _ _) hl
    have hr := hp.right
    have hm3 := mod_lt (x := more) (m := 3) (by decide)
    refine GetW.mk _ (last3 hr9) <| ModW.pos (by decide) <| IfW.mk (rangeW (by omega) (by omega)) (forW (condI _ _ _ _ _ _ _ d (more % 3).toNat c.sz) ⟨c, _, 0, rfl, hr.fst.1, hr.fst.2, by rw [range_len, Int.sub_zero, Nat.zero_add], Nat.le_refl _⟩ ?_ ?_)
    · rintro z l ρ ⟨c', t, j, rfl, hc, hd, hj, hz⟩
      rw [List.length_cons] at hj
      exact ⟨.two .same c' (.num 0), _, j + 1, rfl, ⟨hc, l9_0⟩, Nat.succ_le_succ (Nat.max_le.mpr ⟨hd, Nat.zero_le _⟩), by omega, Nat.succ_le_succ (Nat.succ_le_succ hz)⟩
    · rintro ρ ⟨c', t, j, rfl, hc, hd, hj, hz⟩
      rw [List.length_nil, Nat.add_zero] at hj
      have hj2 : j ≤ 2 := by omega
      refine cutW (e := [c, a, b]) rfl (Nat.succ_pos _) (Nat.le_of_ble_eq_true rfl) hr9 <| GetW.mk _ (last32 hr9) <| GetW.mk _ (last31 hr9) <| layW (x := .whn c' a b) hr9 ⟨_, rfl, rfl, .of3 hp (whn_deep (d := d + 2) ⟨hc, Nat.le_trans hd (Nat.add_le_add_left hj2 d)⟩ ⟨hr.tl.fst.1, Nat.le_trans hr.tl.fst.2 (Nat.le_add_right _ _)⟩ ⟨hr.tl.tl.fst.1, Nat.le_trans hr.tl.tl.fst.2 (Nat.le_add_right _ _)⟩) (sz_c hz hj2)⟩
  refine AndW.mk (decide ((1 : Int) < ts.length)) (fun _ => hlen rfl) <| IteW.mk (fun q => ?_) fun _ => ?_
  · obtain ⟨r, a, b, rfl⟩ := from_end2 (big1 (m := 1) (Bool.and_eq_true_iff.mp q).2)
    rw [List.length_append] at hl
    have hr9 : r.length ≤ 100 := Nat.le_trans (Nat.le_add_right _ _) hl
    have hr := hp.right
    refine cutW (e := [a, b]) rfl (Nat.succ_pos _) (Nat.le_of_ble_eq_true rfl) hr9 <| GetW.mk _ (last2 hr9) <| GetW.mk _ (last21 hr9) <| layW (x := .two w a b) hr9 ⟨_, rfl, rfl, .of2 hp (two_deep hr.fst hr.tl.fst) (Nat.le_refl _)⟩
  have one : ∀ t : Tr, t.ok ∧ t.deep ≤ d → t.sz ≤ 1 → StepP d ts (ts ++ [t]) := fun t ht hs => .of0 hp ht hs
  refine IteW.mk (fun _ => ?_) fun _ => ?_
  · exact CallW.mk _ _ e1 rfl <| layW (x := .num v1) hl ⟨_, rfl, rfl, one _ (num_deep d h1) (Nat.le_refl _)⟩
  · exact ModW.pos (by decide) <| CallW.mk _ _ ex rfl <| layW (x := .name x) hl ⟨_, rfl, rfl, one _ (name_deep d hx) (Nat.le_refl _)⟩
noncomputable def treeI (cs sd : Slot) (m : Nat) (xs : List D) (ρ : Env) : Prop := ∃ (ts : List Tr) (d : Nat) (t : Slot) (zs : List Int), xs = zs.map PyData.int ∧ ρ = [cs, sd, .fr (.list (PD ts)), t] ∧ Pl d ts ∧ d + ts.length + zs.length ≤ m ∧ ts.length + zs.length ≤ 100 ∧ (∀ z ∈ zs, Sm z) ∧ szs ts + ts.length + 6 * zs.length ≤ 6 * m
noncomputable def treeW (cs sd t : Slot) (m k : Nat) (ρ : Env) : Prop := ∃ (ts : List Tr) (d : Nat), ρ = [cs, sd, .fr (.list (PD ts)), t] ∧ Pl d ts ∧ d + ts.length ≤ m ∧ ts.length ≤ 100 ∧ ts.length = k ∧ szs ts + ts.length ≤ 6 * m
theorem join3 {s r a b m : Nat} (h : s + (a + b) + (r + 2) ≤ m) : s + (a + b + 1) + (r + 1) ≤ m := by omega
theorem join2 {d r m : Nat} (h : d + (r + 2) ≤ m) : d + 1 + (r + 1) ≤ m := by omega
theorem tree_by_ok (n : Nat) (ys : List Int) (seed : Int) (hs : Sm seed) (hl : ys.length ≤ 60) (hy : ∀ y ∈ ys, Sm y) :
    ∃ t : Tr, (orc fns globs (n + 3)).fn 16 [.list (ys.map PyData.int), .int seed] = .ok (t.d, false) ∧ t.ok ∧ t.deep ≤ ys.length ∧ t.sz ≤ 6 * ys.length + 1 := by
  refine fnT F_law_tree_by [.fr (.list (ys.map PyData.int)), .fr (.int seed), .unset, .unset] rfl rfl rfl ?_
  refine ForW.mk _ rfl (ble_of (by rw [len_map_int]; exact Nat.le_trans hl (by decide))) (forW (treeI _ _ ys.length) ⟨[], 0, _, ys, rfl, rfl, (show Pl 0 [] from fun t ht => nomatch ht), Nat.le_of_eq (Nat.zero_add _), Nat.le_trans (Nat.le_of_eq (Nat.zero_add _)) (Nat.le_trans hl (by decide)), hy, Nat.le_of_eq (Nat.zero_add _)⟩ ?_ ?_)
  · rintro x xs ρ ⟨ts, d, t, zs, e, rfl, hp, hd, hb, hz, hs6⟩
    cases zs with
    | nil => cases e
    | cons z zs =>
      cases e
      rw [List.length_cons] at hd hb hs6
      have hz0 := hz z (.head _)
      obtain ⟨l, el, d', hp', hd', hl', hs'⟩ := step_ok n ts d (z % 20) (z / 20) seed (hz0.div (by decide)) hs hp (by omega)
      exact ModW.pos (by decide) <| DivW.pos hz0.small rfl (by decide) <| CallW.mk _ _ el rfl ⟨l, d', _, zs, rfl, rfl, hp', by omega, by omega, fun z hz' => hz z (.tail _ hz'), by omega⟩
  · rintro ρ ⟨ts, d, t, zs, e, rfl, hp, hd, hb, _, hs6⟩
    refine whileW (treeW _ _ t ys.length) (n := ts.length) (by omega) ⟨ts, d, rfl, hp, by omega, by omega, rfl, by omega⟩ ?_
    rintro k ρ ⟨ts, d, rfl, hp, hd, hb, rfl, hs6⟩
    have hlen : ∀ {k : KD}, k (.int ts.length) → LenW (PD ts).length k := fun {k} h => (PD_len ts).symm ▸ .mk (ble_of (Nat.le_trans hb (by decide))) h
    refine hlen <| IteW.mk (fun q => ?_) fun q => ?_
    · obtain ⟨r, a, b, rfl⟩ := from_end2 (l := ts) (by have := of_decide_eq_true q; omega)
      have hr := hp.right
      rw [len2] at hd hb hs6
      rw [szs2] at hs6
      have hr9 : r.length ≤ 100 := Nat.le_trans (Nat.le_add_right _ _) hb
      refine cutW (e := [a, b]) rfl (Nat.succ_pos _) (Nat.le_of_ble_eq_true rfl) hr9 <| GetW.mk _ (last2 hr9) <| GetW.mk _ (last21 hr9) <| layW (x := .two .sum a b) hr9 ⟨r.length + 1, by rw [len2]; exact Nat.lt_succ_self _, r ++ [.two .sum a b], d + 1, rfl, hp.left.lay (Nat.le_succ _) (two_deep hr.fst hr.tl.fst), ?_, ?_, ?_, ?_⟩
      · rw [len1]; exact join2 hd
      · rw [len1]; exact Nat.le_of_succ_le hb
      · rw [len1]
      · rw [len1, szs1]; exact join3 hs6
    · have q1 := of_decide_eq_false q
      match ts, hp, hd, q1, hs6 with
      | [], _, _, _, _ => exact GetW.mk (.bool true) rfl <| iteT rfl ⟨.num 0, rfl, rfl, l9_0, Nat.zero_le _, Nat.succ_le_succ (Nat.zero_le _)⟩
      | [t], hp, hd, _, hs6 =>
        have ht := hp.fst
        rw [List.length_singleton] at hd
        exact GetW.mk (.bool false) (one_nil ht.1 (by omega)) <| iteF rfl <| GetW.mk _ (zidx_list (by decide) (by decide) rfl) ⟨t, rfl, rfl, ht.1, by omega, Nat.le_trans (Nat.le_add_right _ _) (Nat.le_trans (Nat.le_of_succ_le hs6) (Nat.le_succ _))⟩
      | a :: b :: r, _, _, q1, _ => exact absurd (show (1 : Int) < ((r.length + 1 + 1 : Nat) : Int) by omega) q1
theorem link_ok (n : Nat) (w : W2) (c : Int) : ∃ z, (orc fns globs (n + 1)).fn 17 [w.d, .int c] = .ok (.int z, false) ∧ L9 z := by
  refine fnI F_law_link [.fr w.d, .fr (.int c), .unset] rfl rfl rfl ?_
  cases w with
  | times => exact iteT rfl <| iteF rfl <| iteF rfl <| ModW.pos (by decide) <| pick_int (-1000000000) 1000000000 rfl rfl fun z h1 h2 => ⟨z, rfl, rfl, h1, h2⟩
  | part => exact iteF rfl <| iteT rfl <| iteF rfl <| ModW.pos (by decide) <| pick_int (-1000000000) 1000000000 rfl rfl fun z h1 h2 => ⟨z, rfl, rfl, h1, h2⟩
  | rest => exact iteF rfl <| iteF rfl <| iteT rfl <| ModW.pos (by decide) <| pick_int (-1000000000) 1000000000 rfl rfl fun z h1 h2 => ⟨z, rfl, rfl, h1, h2⟩
  | sum => exact iteF rfl <| iteF rfl <| iteF rfl <| ModW.pos (by decide) <| pick_int (-1000000000) 1000000000 rfl rfl fun z h1 h2 => ⟨z, rfl, rfl, h1, h2⟩
  | less => exact iteF rfl <| iteF rfl <| iteF rfl <| ModW.pos (by decide) <| pick_int (-1000000000) 1000000000 rfl rfl fun z h1 h2 => ⟨z, rfl, rfl, h1, h2⟩
  | below => exact iteF rfl <| iteF rfl <| iteF rfl <| ModW.pos (by decide) <| pick_int (-1000000000) 1000000000 rfl rfl fun z h1 h2 => ⟨z, rfl, rfl, h1, h2⟩
  | same => exact iteF rfl <| iteF rfl <| iteF rfl <| ModW.pos (by decide) <| pick_int (-1000000000) 1000000000 rfl rfl fun z h1 h2 => ⟨z, rfl, rfl, h1, h2⟩
noncomputable def manyI (s0 s1 s2 : Slot) (m : Nat) (l : List D) (ρ : Env) : Prop := ∃ (t : Tr) (a b : Slot) (j : Nat), ρ = [s0, s1, s2, .fr t.d, a, b] ∧ t.ok ∧ t.deep ≤ j ∧ j + l.length = m ∧ (t.sz ≤ 1 + 2 * j) ∧ ∀ d ∈ l, ∃ z, d = .int z ∧ 0 ≤ z ∧ z < 100
theorem range_in {u : Int} (h : u ≤ 100) : ∀ d ∈ rangeD 0 u, ∃ z, d = .int z ∧ 0 ≤ z ∧ z < 100 := fun d hd => by
  obtain ⟨k, hk, rfl⟩ := List.mem_map.mp hd
  have := List.mem_range.mp hk
  exact ⟨_, rfl, by omega, by omega⟩
theorem many_by_ok (n : Nat) (seed cell : Int) (hs : Sm seed) (hc : Sm cell) :
    ∃ t : Tr, (orc fns globs (n + 2)).fn 18 [.int seed, .int cell] = .ok (t.d, false) ∧ t.ok ∧ t.deep ≤ 59 ∧ t.sz ≤ 400 := by
  obtain ⟨x, ex, hx⟩ := name_by_i n seed (cell % 40) hs (Ki.mod rfl)
  have h36 := mod_lt (x := cell / 40) (m := 36) (by decide)
  refine fnT F_law_many_by [.fr (.int seed), .fr (.int cell), .unset, .unset, .unset, .unset] rfl rfl rfl (ModW.pos (by decide) <| CallW.mk _ _ ex rfl <| DivW.pos hc.small rfl (by decide) <| ModW.pos (by decide) <| IfW.mk (rangeW (by omega) (by omega)) (forW (manyI _ _ _ (5 + cell / 40 % 36).toNat) ⟨.name x, _, _, 0, rfl, hx, Nat.le_refl 0, by rw [range_len, Int.sub_zero, Nat.zero_add], Nat.le_refl _, range_in (by omega)⟩ ?_ ?_))
  · rintro d l ρ ⟨t, a, b, j, rfl, ht, hd, hj, hz, hin⟩
    obtain ⟨k, rfl, k0, k1⟩ := hin d (.head _)
    rw [List.length_cons] at hj
    obtain ⟨y, ey, hy⟩ := name_by_i n seed k hs ⟨k0, by omega⟩
    have fin : ∀ (w : W2) (s0 s1 s2 a b : Slot), manyI s0 s1 s2 (5 + cell / 40 % 36).toNat l [s0, s1, s2, .fr (Tr.two w t (.name y)).d, a, b] := fun w s0 s1 s2 a b => ⟨_, _, _, j + 1, rfl, ⟨ht, hy⟩, Nat.succ_le_succ (Nat.max_le.mpr ⟨hd, Nat.zero_le _⟩), by omega, Nat.succ_le_succ (Nat.succ_le_succ hz), fun d hd => hin d (.tail _ hd)⟩
    refine DivW.pos hc.small rfl (by decide) <| ModW.pos (by decide) <| pick_ws allW rfl fun w => DivW.pos hc.small rfl (by decide) <| ModW.pos (by decide) <| IteW.mk (fun _ => ?_) fun _ => ?_
    · exact DivW.pos hc.small rfl (by decide) <| ModW.pos (by decide) <| pick_ws allW rfl fun w => CallW.mk _ _ ey rfl (fin w _ _ _ _ _)
    · exact CallW.mk _ _ ey rfl (fin w _ _ _ _ _)
  · rintro ρ ⟨t, a, b, j, rfl, ht, hd, hj, hz, _⟩
    rw [List.length_nil] at hj
    exact ⟨t, rfl, rfl, ht, by omega, by omega⟩
end L11
end Mine
-- Y11x
set_option autoImplicit false
set_option linter.all false
set_option maxRecDepth 10000
namespace Mine
open PySem
namespace L11
theorem mul4 {k c : Int} (h0 : 0 ≤ k) (h1 : k < 100) : 0 ≤ k * (1 + c % 4) ∧ k * (1 + c % 4) ≤ 400 := by
  have h := mod_lt (x := c) (m := 4) (by decide)
  exact ⟨Int.mul_nonneg h0 (by omega), Int.le_trans (Int.mul_le_mul (show k ≤ 100 by omega) (show 1 + c % 4 ≤ 4 by omega) (by omega) (by decide)) (by decide)⟩
noncomputable def chainI (s0 s1 s2 s3 s4 s5 s7 : Slot) (m : Nat) (l : List D) (ρ : Env) : Prop := ∃ (t : Tr) (a b : Slot), ρ = [s0, s1, s2, s3, s4, s5, .fr t.d, s7, a, b] ∧ t.ok ∧ t.deep + l.length ≤ m ∧ t.sz + 2 * l.length ≤ 400 ∧ ∀ d ∈ l, ∃ z, d = .int z ∧ 0 ≤ z ∧ z < 100
noncomputable def Dp (t : Tr) : Prop := t.ok ∧ t.deep ≤ 59 ∧ t.sz ≤ 400
theorem chain_ok (n : Nat) (w : W2) (c m : Int) (t : Tr) (s0 s1 s2 s3 : Slot) (hc : 0 ≤ c ∧ c < 100000000000000) (ht : t.ok) (hm : 0 ≤ m) (hd : t.deep + m.toNat ≤ 59) (hz : t.sz ≤ 200) :
    exW (orc fns globs (n + 1)) globs (tailS 13 F_law_expr_by.body) [s0, s1, s2, s3, .fr w.d, .fr (.int c), .fr t.d, .fr (.int m), .unset, .unset] (retW (trR Dp)) := by
  have hs : Sm c := ⟨hc.1, by omega⟩
  refine IfW.mk (rangeW (by omega) (by omega)) (forW (chainI _ _ _ _ _ _ _ 59) ⟨t, _, _, rfl, ht, by rw [range_len, Int.sub_zero]; exact hd, by rw [range_len, Int.sub_zero]; omega, range_in (by omega)⟩ ?_ ?_)
  · rintro d l ρ ⟨t, a, b, rfl, ht, hd, hz, hin⟩
    obtain ⟨k, rfl, k0, k1⟩ := hin d (.head _)
    rw [List.length_cons] at hd hz
    have hk := mul4 (c := c) k0 k1
    have fin : ∀ (u : Tr) (s : Slot) (y : Slot), u.ok ∧ u.deep ≤ t.deep + 1 → u.sz ≤ t.sz + 2 → chainI s0 s1 s2 s3 (.fr w.d) (.fr (.int c)) (.fr (.int m)) 59 l [s0, s1, s2, s3, .fr w.d, .fr (.int c), .fr u.d, .fr (.int m), s, y] := fun u s y hu hs => ⟨u, s, y, rfl, hu.1, by have := hu.2; omega, by omega, fun d hd => hin d (.tail _ hd)⟩
    have tail : ∀ v : Int, L9 v → exW (orc fns globs (n + 1)) globs (tailS 2 (bodyI 13 F_law_expr_by.body)) [s0, s1, s2, s3, .fr w.d, .fr (.int c), .fr t.d, .fr (.int m), .fr (.int k), .fr (.int v)] (turnW (chainI s0 s1 s2 s3 (.fr w.d) (.fr (.int c)) (.fr (.int m)) 59 l) (retW (trR Dp))) := fun v hv => by
      refine DivW.pos hs.small rfl (by decide) <| ModW.pos (by decide) <| AndW.mk _ (fun _ => DivW.pos hs.small rfl (by decide) <| ModW.pos (by decide) rfl) <| IteW.mk (fun _ => ?_) fun _ => ?_
      · exact fin (.two w (.num v) t) _ _ (two_deep (num_deep _ hv) ⟨ht, Nat.le_refl _⟩) (sz_l _)
      · exact fin (.two w t (.num v)) _ _ (two_deep ⟨ht, Nat.le_refl _⟩ (num_deep _ hv)) (sz_r _)
    obtain ⟨v, ev, hv⟩ := link_ok n w (c / 4 + k * (1 + c % 4))
    refine DivW.pos hs.small rfl (by decide) <| ModW.pos (by decide) <| MulW.mk (small_of (by omega) (by omega)) (small_of (by have := mod_lt (x := c) (m := 4) (by decide); omega) (by have := mod_lt (x := c) (m := 4) (by decide); omega)) <| CallW.mk _ _ ev rfl <| DivW.pos hs.small rfl (by decide) <| ModW.pos (by decide) <| IteW.mk (fun _ => ?_) fun _ => tail v hv
    have hs2 : Sm (c / 144 + k * (1 + c % 4)) := ⟨by omega, by omega⟩
    obtain ⟨v, ev, hv⟩ := number_by_ok n _ hs2
    exact DivW.pos hs.small rfl (by decide) <| ModW.pos (by decide) <| MulW.mk (small_of (by omega) (by omega)) (small_of (by have := mod_lt (x := c) (m := 4) (by decide); omega) (by have := mod_lt (x := c) (m := 4) (by decide); omega)) <| CallW.mk _ _ ev rfl <| tail v hv
  · rintro ρ ⟨t, a, b, rfl, ht, hd, hz, _⟩
    exact ⟨t, rfl, rfl, ht, Nat.le_trans (Nat.le_add_right _ _) hd, Nat.le_trans (Nat.le_add_right _ _) hz⟩
theorem many_ok (n : Nat) (w : W2) (cell c : Int) (t : Tr) (s0 s1 s3 s7 : Slot) (hs : Sm cell) (hc : 0 ≤ c ∧ c < 100000000000000) (ht : t.ok) (hd : t.deep ≤ 7) (hz : t.sz ≤ 200) :
    exW (orc fns globs (n + 1)) globs (tailS 11 F_law_expr_by.body) [s0, s1, .fr (.int cell), s3, .fr w.d, .fr (.int c), .fr t.d, s7, .unset, .unset] (retW (trR Dp)) := by
  have tail : ∀ (m : Int), 0 ≤ m → t.deep + m.toNat ≤ 59 → exW (orc fns globs (n + 1)) globs (tailS 12 F_law_expr_by.body) [s0, s1, .fr (.int cell), s3, .fr w.d, .fr (.int c), .fr t.d, .fr (.int m), .unset, .unset] (retW (trR Dp)) := fun m h0 h1 => by
    refine DivW.pos hs.small rfl (by decide) <| ModW.pos (by decide) <| IteW.mk (fun _ => ModW.pos (by decide) ?_) fun _ => ?_
    · have := mod_lt (x := m) (m := 4) (by decide)
      exact chain_ok n w c _ t _ _ _ _ hc ht (by omega) (by omega) hz
    · exact chain_ok n w c _ t _ _ _ _ hc ht h0 h1 hz
  have h30 := mod_lt (x := cell / 168) (m := 30) (by decide)
  have go : (Str.ofString t.tag == Str.ofString "name") = false → exW (orc fns globs (n + 1)) globs (tailS 11 F_law_expr_by.body) [s0, s1, .fr (.int cell), s3, .fr w.d, .fr (.int c), .fr t.d, s7, .unset, .unset] (retW (trR Dp)) := fun e => by
    refine DivW.pos hs.small rfl (by decide) ?_
    show MulW 30 (if (Str.ofString t.tag == Str.ofString "name") = true then 1 else 0) _
    rw [e]
    exact MulW.mk rfl rfl <| show ModW (cell / 168) 30 _ from ModW.pos (by decide) <| tail _ h30.1 (by omega)
  cases t with
  | name x => exact DivW.pos hs.small rfl (by decide) <| MulW.mk rfl rfl <| show ModW (cell / 168) 60 _ from ModW.pos (by decide) <| tail _ (mod_lt (by decide)).1 (by have := mod_lt (x := cell / 168) (m := 60) (by decide); show 0 + (cell / 168 % 60).toNat ≤ 59; omega)
  | two v a b => exact go (W2.nname v)
  | _ => exact go rfl
theorem expr_by_ok (n : Nat) (ys : List Int) (hl : ys.length ≤ 1000) (hy : ∀ y ∈ ys, Sm y) :
    ∃ t : Tr, (orc fns globs (n + 4)).fn 19 [.list (ys.map PyData.int)] = .ok (t.d, false) ∧ Dp t := by
  obtain ⟨seed, e0, hs⟩ := cell_at_i (n + 2) ys 0 ⟨by decide, by decide⟩ hl hy
  obtain ⟨cell, e1, hc⟩ := cell_at_i (n + 2) ys 1 ⟨by decide, by decide⟩ hl hy
  obtain ⟨t8, e8, h8⟩ := many_by_ok (n + 1) seed (cell / 8) hs (hc.div (by decide))
  obtain ⟨x, ex, hx⟩ := name_by_i (n + 1) seed 3 hs ⟨by decide, by decide⟩
  have tree : ∀ zs : List Int, (∀ z ∈ zs, z ∈ ys) → zs.length ≤ 59 → ∃ t : Tr, (orc fns globs (n + 3)).fn 16 [.list (zs.map PyData.int), .int seed] = .ok (t.d, false) ∧ t.ok ∧ t.deep ≤ zs.length ∧ t.sz ≤ 6 * zs.length + 1 := fun zs hz hzl => tree_by_ok n zs seed hs (by omega) fun z h => hy z (hz z h)
  refine fnT F_law_expr_by [.fr (.list (ys.map PyData.int)), .unset, .unset, .unset, .unset, .unset, .unset, .unset, .unset, .unset] rfl rfl rfl (CallW.mk _ _ e0 rfl <| CallW.mk _ _ e1 rfl ?_)
  have tail : ∀ r : Int, 0 ≤ r → r ≤ 48 → exW (orc fns globs (n + 3)) globs (tailS 4 F_law_expr_by.body) [.fr (.list (ys.map PyData.int)), .fr (.int seed), .fr (.int cell), .fr (.int r), .unset, .unset, .unset, .unset, .unset, .unset] (retW (trR Dp)) := fun r r0 r1 => by
    refine ModW.pos (by decide) <| IteW.mk (fun _ => cellsW hl ⟨by decide, by omega⟩ (by omega) fun zs hz hzl => ?_) fun _ => ?_
    · obtain ⟨t, et, ht, hd, hs⟩ := tree zs hz (by omega)
      exact CallW.mk _ _ et rfl ⟨t, rfl, rfl, ht, by omega, by omega⟩
    refine ModW.pos (by decide) <| IteW.mk (fun _ => DivW.pos hc.small rfl (by decide) <| CallW.mk _ _ e8 rfl ⟨t8, rfl, rfl, h8⟩) fun _ => ?_
    refine DivW.pos hc.small rfl (by decide) <| ModW.pos (by decide) <| pick_ws [.sum, .less, .times, .part, .rest, .part, .rest] rfl fun w => DivW.pos hc.small rfl (by decide) <| CallW.mk _ _ ex rfl ?_
    have hcode : 0 ≤ cell / 20160 ∧ cell / 20160 < 100000000000000 := by have := hc.1; have := hc.2; omega
    have hcs : Sm (cell / 20160) := hc.div (by decide)
    have tail2 : ∀ t : Tr, t.ok → t.deep ≤ 6 → t.sz ≤ 100 → exW (orc fns globs (n + 3)) globs (tailS 10 F_law_expr_by.body) [.fr (.list (ys.map PyData.int)), .fr (.int seed), .fr (.int cell), .fr (.int r), .fr w.d, .fr (.int (cell / 20160)), .fr t.d, .unset, .unset, .unset] (retW (trR Dp)) := fun t ht hd hs => by
      refine DivW.pos hc.small rfl (by decide) <| ModW.pos (by decide) <| AndW.mk _ (fun _ => OrW.mk _ (fun _ => rfl) rfl) <| IteW.mk (fun _ => ?_) fun _ => ?_
      · obtain ⟨v, ev, hv⟩ := link_ok (n + 2) w (cell / 20160 / 4)
        exact DivW.pos hcs.small rfl (by decide) <| CallW.mk _ _ ev rfl <| many_ok (n + 2) w cell _ (.two .less (.num v) t) _ _ _ _ hc hcode ⟨hv, ht⟩ (two_deep (num_deep 6 hv) ⟨ht, hd⟩).2 (Nat.le_trans (sz_l _) (Nat.le_trans (Nat.add_le_add_right hs 2) (by decide)))
      · exact many_ok (n + 2) w cell _ t _ _ _ _ hc hcode ht (Nat.le_succ_of_le hd) (Nat.le_trans hs (by decide))
    refine DivW.pos hc.small rfl (by decide) <| ModW.pos (by decide) <| IteW.mk (fun _ => cellsW hl (by decide) (by decide) fun zs hz hzl => ?_) fun _ => tail2 (.name x) hx (Nat.zero_le _) (Nat.succ_le_succ (Nat.zero_le _))
    obtain ⟨t, et, ht, hd, hs⟩ := tree zs hz (Nat.le_trans hzl (by decide))
    exact CallW.mk _ _ et rfl <| tail2 t ht (Nat.le_trans hd hzl) (Nat.le_trans hs (Nat.le_trans (Nat.succ_le_succ (Nat.mul_le_mul_left 6 hzl)) (by decide)))
  exact LenW.mk (ble_of (by rw [len_map_int]; exact Nat.le_trans hl (by decide))) <| IteW.mk (fun _ => tail 48 (by decide) (by decide)) fun _ => tail 26 (by decide) (by decide)
end L11
end Mine
-- Y11n
set_option autoImplicit false
set_option linter.all false
set_option maxRecDepth 10000
namespace Mine
open PySem
namespace L11
noncomputable def ownE : ME := (.and (.cmp .Eq (.var 3) (.cint 3)) (.cmp .Eq (.var 4) (.idx (.var 0) (.cint 1))))
noncomputable def innI (t : Tr) (s2 : Slot) (k : Int) (own : Str → Bool) (r : List Str) (l : List D) (ρ : Env) : Prop := ∃ (f ys : List Str) (s4 s5 : Slot), l = SD ys ∧ ρ = [.fr t.d, .own (.list (SD f)), s2, .fr (.int k), s4, s5] ∧ addN own f ys = r ∧ f.length + ys.length ≤ 500 ∧ (∀ y ∈ f, Nm y) ∧ ∀ y ∈ ys, Nm y
theorem inner_ok (n : Nat) (t : Tr) (s2 s4 s5 : Slot) (k : Int) (own : Str → Bool) (f ys : List Str) (K : KS) (hf : ∀ y ∈ f, Nm y) (hu : ∀ y ∈ ys, Nm y) (hl : f.length + ys.length ≤ 500)
    (ho : ∀ (y : Str) (F s5 : Slot) (K : KD), K (.bool (own y)) → AndW (Str.ofString t.tag == Str.ofString "let") (evW (orc fns globs n) globs [.fr t.d, F, s2, .fr (.int k), .fr (.str y), s5] ownE) K)
    (hk : ∀ s4 s5, K (.next [.fr t.d, .own (.list (SD (addN own f ys))), s2, .fr (.int k), s4, s5])) :
    OkS (forLoop (fun x ρ' => ex (orc fns globs n) globs (bodyI 0 (bodyI 4 F_law_needs.body)) (ρ'.set 4 (.fr x))) (SD ys) [.fr t.d, .own (.list (SD f)), s2, .fr (.int k), s4, s5]) K := by
  refine forW (innI t s2 k own (addN own f ys)) ⟨f, ys, _, _, rfl, rfl, rfl, hl, hf, hu⟩ ?_ ?_
  · rintro d l ρ ⟨f, ys, s4, s5, e, rfl, hr, hl, hf, hy⟩
    cases ys with
    | nil => cases e
    | cons y ys =>
      cases e
      rw [List.length_cons] at hl
      have hy0 := hy y (.head _)
      refine ho y _ _ _ <| GetW.mk _ (in_not (in_strs hf hy0)) <| AndW.mk (!own y) (fun _ => rfl) <| IteW.mk (fun q => ?_) fun q => ?_
      · refine IfW.mk (blt_of (by rw [SD_len]; omega)) ⟨f ++ [y], ys, .fr (.str y), .fr (.bool (own y)), rfl, ?_, ?_, ?_, ?_, fun z hz => hy z (.tail _ hz)⟩
        · rw [SD_app]; rfl
        · rw [← hr]
          show _ = addN own (cond _ _ _) ys
          rw [q]; rfl
        · rw [List.length_append, List.length_singleton]; omega
        · intro z hz
          rcases List.mem_append.mp hz with hz | hz
          · exact hf z hz
          · rw [List.mem_singleton.mp hz]; exact hy0
      · refine ⟨f, ys, _, _, rfl, rfl, ?_, by omega, hf, fun z hz => hy z (.tail _ hz)⟩
        rw [← hr]
        show _ = addN own (cond _ _ _) ys
        rw [q]; rfl
  · rintro ρ ⟨f, ys, s4, s5, e, rfl, hr, hl, hf, hy⟩
    cases ys with
    | nil =>
      rw [← hr] at hk
      exact hk _ _
    | cons u ts => cases e
theorem ix2 {u v : Int} (h0 : -1000000 < u) (h1 : u < 1000000) (h2 : -1000000 < v) (h3 : v < 1000000) : (idxInt u && idxInt v) = true := by rw [idxInt_of h0 h1, idxInt_of h2 h3]; rfl
theorem ix13 : (idxInt 1 && idxInt 3) = true := ix2 (by decide) (by decide) (by decide) (by decide)
theorem ix14 : (idxInt 1 && idxInt 4) = true := ix2 (by decide) (by decide) (by decide) (by decide)
theorem ix24 : (idxInt 2 && idxInt 4) = true := ix2 (by decide) (by decide) (by decide) (by decide)
theorem forR12 {body : D → Env → SR} {K : KS} {ρ : Env} (h : OkS (forLoop body [.int 1, .int 2] ρ) K) : OkS (forLoop body (rangeD 1 3) ρ) K := h
theorem forR13 {body : D → Env → SR} {K : KS} {ρ : Env} (h : OkS (forLoop body [.int 1, .int 2, .int 3] ρ) K) : OkS (forLoop body (rangeD 1 4) ρ) K := h
theorem forR23 {body : D → Env → SR} {K : KS} {ρ : Env} (h : OkS (forLoop body [.int 2, .int 3] ρ) K) : OkS (forLoop body (rangeD 2 4) ρ) K := h
theorem sub_s5 {a b : Nat} (h : a + b + 1 ≤ 400) : a + b ≤ 500 := by omega
theorem nd0 {u : Tr} (h : u.sz ≤ 400) : ([] : List Str).length + u.nd.length ≤ 500 := by rw [List.length_nil, Nat.zero_add]; exact Nat.le_trans (nd_len u) (Nat.le_trans h (by decide))
theorem ndb {u : Tr} (h : u.sz ≤ 400) : Nat.ble (SD u.nd).length big = true := ble_of (by rw [SD_len]; exact Nat.le_trans (nd_len u) (Nat.le_trans h (by decide)))
theorem nd1 {u v : Tr} (h : u.sz + v.sz + 1 ≤ 400) : (addN (fun _ => false) [] u.nd).length + v.nd.length ≤ 500 :=
  Nat.le_trans (Nat.add_le_add (Nat.le_trans (addN_len _ _ _) (by rw [List.length_nil, Nat.zero_add]; exact nd_len u)) (nd_len v)) (sub_s5 h)
theorem nd2 {u v w : Tr} (h : u.sz + v.sz + w.sz + 1 ≤ 400) : (addN (fun _ => false) (addN (fun _ => false) [] u.nd) v.nd).length + w.nd.length ≤ 500 :=
  Nat.le_trans (Nat.add_le_add (Nat.le_trans (addN_len _ _ _) (Nat.add_le_add (Nat.le_trans (addN_len _ _ _) (by rw [List.length_nil, Nat.zero_add]; exact nd_len u)) (nd_len v))) (nd_len w)) (sub_s5 h)
theorem nm0 : ∀ y ∈ ([] : List Str), Nm y := fun _ h => nomatch h
theorem nm1 {own : Str → Bool} {f l : List Str} (hf : ∀ y ∈ f, Nm y) (hl : ∀ y ∈ l, Nm y) : ∀ y ∈ addN own f l, Nm y := addN_all own l f hf fun y hy _ => hl y hy
theorem needs_ok : ∀ (t : Tr) (N : Nat), t.ok → t.sz ≤ 400 → t.deep + 2 ≤ N → ∃ b, (orc fns globs N).fn 27 [t.d] = .ok (.list (SD t.nd), b)
  | .num v, N, ht, hs, hN => by
    obtain ⟨n, rfl⟩ := ex2 hN
    exact ⟨_, fnE F_law_needs [.fr (Tr.num v).d, .unset, .unset, .unset, .unset, .unset] rfl rfl rfl (iteF rfl <| iteT rfl rfl)⟩
  | .name x, N, ht, hs, hN => by
    obtain ⟨n, rfl⟩ := ex2 hN
    exact ⟨_, fnE F_law_needs [.fr (Tr.name x).d, .unset, .unset, .unset, .unset, .unset] rfl rfl rfl (iteT rfl rfl)⟩
  | .two w a b, N, ht, hs, hN => by
    obtain ⟨n, rfl⟩ := ex2 hN
    have sa := sub_sl hs
    have sb := sub_sr hs
    obtain ⟨fa, ea⟩ := needs_ok a (n + 1) ht.1 sa (sub_1 (two_l w a b) hN)
    obtain ⟨fb, eb⟩ := needs_ok b (n + 1) ht.2 sb (sub_1 (two_r w a b) hN)
    have ho : ∀ (k : Int) (y : Str) (F s2 s5 : Slot) (K : KD), K (.bool false) → AndW (Str.ofString (Tr.two w a b).tag == Str.ofString "let") (evW (orc fns globs (n + 1)) globs [.fr (Tr.two w a b).d, F, s2, .fr (.int k), .fr (.str y), s5] ownE) K := fun k y F s2 s5 K h => andF w.nlet h
    refine ⟨true, fnE F_law_needs [.fr (Tr.two w a b).d, .unset, .unset, .unset, .unset, .unset] rfl rfl rfl (iteF w.nname <| iteF w.nnum <| show exW (orc fns globs (n + 1)) globs (tailS 4 F_law_needs.body) [.fr (Tr.two w a b).d, .own (.list []), .fr (.int (1 + if (Str.ofString w.s == Str.ofString "let") = true then 1 else 0)), .unset, .unset, .unset] _ from ?_)⟩
    rw [w.nlet]
    exact LenW.mk rfl <| IfW.mk ix13 <| forR12 <| for1 <| CallW.mk _ _ ea rfl <| ForW.mk (SD a.nd) rfl (ndb sa) <| inner_ok _ (.two w a b) _ _ _ _ (fun _ => false) [] a.nd _ nm0 (nd_nm ht.1) (nd0 sa) (fun y F s5 K h => ho 1 y F _ s5 K h) fun _ _ => for1 <| CallW.mk _ _ eb rfl <| ForW.mk (SD b.nd) rfl (ndb sb) <| inner_ok _ (.two w a b) _ _ _ _ (fun _ => false) _ b.nd _ (nm1 nm0 (nd_nm ht.1)) (nd_nm ht.2) (nd1 hs) (fun y F s5 K h => ho 2 y F _ s5 K h) fun _ _ => rfl
  | .whn c a b, N, ht, hs, hN => by
    obtain ⟨n, rfl⟩ := ex2 hN
    have sca : c.sz + a.sz ≤ 400 := sub_sl hs
    have sc : c.sz ≤ 400 := Nat.le_trans (Nat.le_add_right _ _) sca
    have sa : a.sz ≤ 400 := Nat.le_trans (Nat.le_add_left _ _) sca
    have sb := sub_sr hs
    obtain ⟨fc, ec⟩ := needs_ok c (n + 1) ht.1 sc (sub_1 (whn_1 c a b) hN)
    obtain ⟨fa, ea⟩ := needs_ok a (n + 1) ht.2.1 sa (sub_1 (whn_2 c a b) hN)
    obtain ⟨fb, eb⟩ := needs_ok b (n + 1) ht.2.2 sb (sub_1 (whn_3 c a b) hN)
    have n1 : c.sz + a.sz + 1 ≤ 400 := Nat.le_trans (Nat.succ_le_succ (Nat.le_add_right _ b.sz)) hs
    refine ⟨true, fnE F_law_needs [.fr (Tr.whn c a b).d, .unset, .unset, .unset, .unset, .unset] rfl rfl rfl (iteF rfl <| iteF rfl ?_)⟩
    exact LenW.mk rfl <| IfW.mk ix14 <| forR13 <| for1 <| CallW.mk _ _ ec rfl <| ForW.mk (SD c.nd) rfl (ndb sc) <| inner_ok _ (.whn c a b) _ _ _ _ (fun _ => false) [] c.nd _ nm0 (nd_nm ht.1) (nd0 sc) (fun y F s5 K h => andF rfl h) fun _ _ => for1 <| CallW.mk _ _ ea rfl <| ForW.mk (SD a.nd) rfl (ndb sa) <| inner_ok _ (.whn c a b) _ _ _ _ (fun _ => false) _ a.nd _ (nm1 nm0 (nd_nm ht.1)) (nd_nm ht.2.1) (nd1 n1) (fun y F s5 K h => andF rfl h) fun _ _ =>
      for1 <| CallW.mk _ _ eb rfl <| ForW.mk (SD b.nd) rfl (ndb sb) <| inner_ok _ (.whn c a b) _ _ _ _ (fun _ => false) _ b.nd _ (nm1 (nm1 nm0 (nd_nm ht.1)) (nd_nm ht.2.1)) (nd_nm ht.2.2) (nd2 hs) (fun y F s5 K h => andF rfl h) fun _ _ => rfl
  | .lt x a b, N, ht, hs, hN => by
    obtain ⟨n, rfl⟩ := ex2 hN
    have sa := sub_sl hs
    have sb := sub_sr hs
    obtain ⟨fa, ea⟩ := needs_ok a (n + 1) ht.2.1 sa (sub_1 (lt_l x a b) hN)
    obtain ⟨fb, eb⟩ := needs_ok b (n + 1) ht.2.2 sb (sub_1 (lt_r x a b) hN)
    refine ⟨true, fnE F_law_needs [.fr (Tr.lt x a b).d, .unset, .unset, .unset, .unset, .unset] rfl rfl rfl (iteF rfl <| iteF rfl ?_)⟩
    exact LenW.mk rfl <| IfW.mk ix24 <| forR23 <| for1 <| CallW.mk _ _ ea rfl <| ForW.mk (SD a.nd) rfl (ndb sa) <| inner_ok _ (.lt x a b) _ _ _ _ (fun _ => false) [] a.nd _ nm0 (nd_nm ht.2.1) (nd0 sa) (fun y F s5 K h => andT rfl <| andF rfl h) fun _ _ => for1 <| CallW.mk _ _ eb rfl <| ForW.mk (SD b.nd) rfl (ndb sb) <| inner_ok _ (.lt x a b) _ _ _ _ (fun y => y == x) _ b.nd _ (nm1 nm0 (nd_nm ht.2.1)) (nd_nm ht.2.2) (nd1 hs) (fun y F s5 K h => andT rfl <| andT rfl h) fun _ _ => rfl
end L11
end Mine
-- Y11j
set_option autoImplicit false
set_option linter.all false
set_option maxRecDepth 10000
namespace Mine
open PySem
namespace L11
theorem within_ok (n : Nat) (z : Int) : (orc fns globs (n + 1)).fn 0 [.int z] = (lim z).r := by
  refine fnE F_within [.fr (.int z)] rfl rfl rfl (OrW.mk _ (fun _ => rfl) (IteW.mk (fun h => ?_) fun h => ?_))
  · exact (congrArg Outc.r (lim_t h)).symm
  · exact (congrArg Outc.r (lim_f h)).symm
theorem retr {O : Orc} {f : Nat} {xs : List D} {o : Outc} {k : KD} {kx : EC → Prop} (h : O.fn f xs = o.r) (h1 : ∀ z, o = .is z → k (.int z)) (h2 : o = .nought → kx .nought) (h3 : o = .great → kx .great) : CallX O f false xs k kx := by
  cases o with
  | is z => exact .ok _ _ h rfl (h1 z rfl)
  | nought => exact .ex _ h (h2 rfl)
  | great => exact .ex _ h (h3 rfl)
theorem retWithin (n : Nat) (z : Int) (ρ : Env) : CallX (orc fns globs (n + 1)) 0 false [.int z] (fun d => finS (.ret d false ρ) = (lim z).r) fun c => finS (.exc c ρ) = (lim z).r :=
  retr (within_ok n z) (fun v e => by rw [e]; rfl) (fun e => by rw [e]; rfl) fun e => by rw [e]; rfl
theorem quoZ {a b : Int} {w : W2} (hw : w = .part ∨ w = .rest) (h : (b == 0) = true) : outW w a b = .nought := by
  rcases hw with rfl | rfl <;> exact if_pos h
theorem quoN {b : Int} (o : Outc) (h : (b == 0) = false) : o.r = (if (b == 0) = true then Outc.nought else o).r := by rw [if_neg (by rw [h]; exact Bool.noConfusion)]
theorem reckoned_ok (n : Nat) (w : W2) (a b : Int) (ha : L9 a) (hb : L9 b) : (orc fns globs (n + 2)).fn 1 [w.d, .int a, .int b] = (outW w a b).r := by
  refine fnE F_reckoned [.fr w.d, .fr (.int a), .fr (.int b)] rfl rfl rfl ?_
  cases w with
  | sum => exact iteT rfl (retWithin n _ _)
  | less => exact iteF rfl (iteT rfl (retWithin n _ _))
  | times => exact iteF rfl (iteF rfl (iteT rfl (MulW.mk ha.small hb.small (retWithin n _ _))))
  | part =>
    refine iteF rfl (iteF rfl (iteF rfl (iteF rfl (iteF rfl (IteW.mk (fun h => ?_) fun h => ?_)))))
    · exact (congrArg Outc.r (quoZ (.inl rfl) h)).symm
    · exact iteT rfl (DivW.any ha.small hb.small (beq_eq_false_iff_ne.mp h) (quoN (.is _) h))
  | rest =>
    refine iteF rfl (iteF rfl (iteF rfl (iteF rfl (iteF rfl (IteW.mk (fun h => ?_) fun h => ?_)))))
    · exact (congrArg Outc.r (quoZ (.inr rfl) h)).symm
    · have hz := beq_eq_false_iff_ne.mp h
      exact iteF rfl (DivW.any ha.small hb.small hz (MulW.mk hb.small (L9.small (fdiv_bound ha.1 ha.2 hz)) (quoN (.is _) h)))
  | below => exact iteF rfl (iteF rfl (iteF rfl (iteT rfl rfl)))
  | same => exact iteF rfl (iteF rfl (iteF rfl (iteF rfl (iteT rfl rfl))))
theorem is_num_ok (n : Nat) (t : Tr) : (orc fns globs (n + 1)).fn 2 [t.d] = .ok (.bool t.isN, false) :=
  fnE F_is_num [.fr t.d] rfl rfl rfl (congrArg (fun b => R.ok (PyData.bool b, false)) t.tagN)
theorem fits_ok (n : Nat) (z : Int) : (orc fns globs (n + 1)).fn 3 [.int z] = .ok (.bool (fit z), false) :=
  fnE F_fits [.fr (.int z)] rfl rfl rfl (AndW.mk _ (fun _ => rfl) rfl)
theorem both_ok (n : Nat) (w : W2) (x y : Int) (hx : L9 x) (hy : L9 y) : (orc fns globs (n + 3)).fn 4 [w.d, (Tr.num x).d, (Tr.num y).d] = .ok ((known w x y).d, false) := by
  refine fnE F_both_known [.fr w.d, .fr (Tr.num x).d, .fr (Tr.num y).d] rfl rfl rfl (retr (reckoned_ok n w x y hx hy) (fun z e => ?_) (fun e => ?_) fun e => ?_)
  · unfold known; rw [e]; exact rfl
  · unfold known; rw [e]; exact rfl
  · unfold known; rw [e]; exact rfl
theorem okT {t u : Tr} (h : t = u) : R.ok (t.d, false) = .ok (u.d, false) := by rw [h]
theorem joined_step (n : Nat) (w : W2) (t : Tr) (m : Int) (ht : t.isN = false) (hw : w.is .less = false)
    (hs : (m == 0) = false → (orc fns globs (n + 1)).fn 6 [t.d, .int m] = .ok ((jsum t m).d, false))
    (h2 : ∀ v a b, t = .two v a b → (v.is w && b.isN) = true → unitW w m = false → ([W2.times, .part, .rest].any fun v => v.is w) = true → (orc fns globs (n + 1)).fn 7 [w.d, t.d, .int m] = .ok ((jt w t m).d, false)) :
    (orc fns globs (n + 2)).fn 5 [w.d, t.d, (Tr.num m).d] = .ok ((jx w t m).d, false) := by
  have hn := is_num_ok n t
  rw [ht] at hn
  have tw : ∀ K : KD, unitW w m = false → ([W2.times, .part, .rest].any fun v => v.is w) = true → (∀ v a b, t = .two v a b → (v.is w && b.isN) = true → K (.bool true)) → ((∀ v a b, t = .two v a b → (v.is w && b.isN) = false) → K (.bool false)) →
      evW (orc fns globs (n + 1)) globs [.fr w.d, .fr t.d, .fr (Tr.num m).d, .fr (.int m)] (.and (.cmp .Eq (.idx (.var 1) (.cint 0)) (.var 0)) (.call 2 (.cons (.idx (.var 1) (.cint 2)) .nil))) K := fun K hu hg k1 k2 => by
    cases t with
    | num v => cases ht
    | name x => exact andF (by cases w <;> first | rfl | cases hg) (k2 fun v a b e => by cases e)
    | whn x a b => exact andF (by cases w <;> first | rfl | cases hg) (k2 fun v a b e => by cases e)
    | lt x a b => exact andF (by cases w <;> first | rfl | cases hg) (k2 fun v a b e => by cases e)
    | two v a b =>
      refine AndW.cas (fun q => CallW.mk _ _ (is_num_ok n b) rfl ?_) fun q => ?_
      · have q' : v.is w = true := (W2.eqs v w).symm.trans q
        cases hb : b.isN with
        | true => exact k1 v a b rfl (by rw [q', hb]; rfl)
        | false => exact k2 fun v' a' b' e => by cases e; rw [hb, Bool.and_false]
      · exact k2 fun v' a' b' e => by cases e; rw [← W2.eqs]; exact Bool.and_eq_false_iff.mpr (.inl q)
  refine fnE F_joined [.fr w.d, .fr t.d, .fr (Tr.num m).d, .unset] rfl rfl rfl (CallW.mk _ _ hn rfl (andF rfl (iteF rfl (CallW.mk _ _ hn rfl (andF rfl (iteF rfl (CallW.mk _ _ (is_num_ok n (.num m)) rfl (iteF rfl ?_))))))))
  cases w with
  | less => cases hw
  | sum => exact iteF rfl (andT rfl (OrW.cas (fun q => iteT rfl (okT (jsum_0 ht q))) fun q => GetW.mk _ (in_tup .sum [.times, .part]) (andF rfl (iteF rfl (iteT rfl (CallW.mk _ _ (hs q) rfl rfl))))))
  | times =>
    exact iteF rfl (andF rfl (orF rfl (GetW.mk _ (in_tup .times [.times, .part]) (andT rfl (IteW.mk (fun q => okT (jt_u ht q)) fun q => iteF rfl (GetW.mk _ (in_tup .times [.times, .part, .rest]) (andT rfl
      (tw _ q rfl (fun v a b e c => iteT rfl (CallW.mk _ _ (h2 v a b e c q rfl) rfl rfl)) fun c => iteF rfl (okT (jt_no (w := .times) ht q c))))))))))
  | part =>
    exact iteF rfl (andF rfl (orF rfl (GetW.mk _ (in_tup .part [.times, .part]) (andT rfl (IteW.mk (fun q => okT (jt_u ht q)) fun q => iteF rfl (GetW.mk _ (in_tup .part [.times, .part, .rest]) (andT rfl
      (tw _ q rfl (fun v a b e c => iteT rfl (CallW.mk _ _ (h2 v a b e c q rfl) rfl rfl)) fun c => iteF rfl (okT (jt_no (w := .part) ht q c))))))))))
  | rest =>
    exact iteF rfl (andF rfl (orF rfl (GetW.mk _ (in_tup .rest [.times, .part]) (andF rfl (iteF rfl (iteF rfl (GetW.mk _ (in_tup .rest [.times, .part, .rest]) (andT rfl
      (tw _ rfl rfl (fun v a b e c => iteT rfl (CallW.mk _ _ (h2 v a b e c rfl rfl) rfl rfl)) fun c => iteF rfl (okT (jt_no (w := .rest) ht rfl c)))))))))))
  | below => exact iteF rfl (andF rfl (orF rfl (GetW.mk _ (in_tup .below [.times, .part]) (andF rfl (iteF rfl (iteF rfl (GetW.mk _ (in_tup .below [.times, .part, .rest]) (andF rfl (iteF rfl rfl)))))))))
  | same => exact iteF rfl (andF rfl (orF rfl (GetW.mk _ (in_tup .same [.times, .part]) (andF rfl (iteF rfl (iteF rfl (GetW.mk _ (in_tup .same [.times, .part, .rest]) (andF rfl (iteF rfl rfl)))))))))
theorem joined_sum_ok (n : Nat) (t : Tr) (m : Int) (ht : t.isN = false) (h0 : (m == 0) = false)
    (ha : ∀ v a b, t = .two v a b → ∀ k, L9 k → (orc fns globs (n + 1)).fn 5 [W2.sum.d, a.d, (Tr.num k).d] = .ok ((jsum a k).d, false))
    (hl : ∀ v a b, t = .two v a b → ∀ k, L9 k → (orc fns globs (n + 1)).fn 5 [W2.less.d, (Tr.num k).d, b.d] = .ok ((jless k b).d, false)) :
    (orc fns globs (n + 2)).fn 6 [t.d, .int m] = .ok ((jsum t m).d, false) := by
  refine fnE F_joined_sum [.fr t.d, .fr (.int m), .unset, .unset] rfl rfl rfl ?_
  cases t with
  | num v => cases ht
  | name x => exact andF rfl (iteF rfl (andF rfl (iteF rfl (okT (jsum_oth (t := .name x) rfl (fun _ _ _ q => nomatch q) h0)))))
  | whn x a b => exact andF rfl (iteF rfl (andF rfl (iteF rfl (okT (jsum_oth (t := .whn x a b) rfl (fun _ _ _ q => nomatch q) h0)))))
  | lt x a b => exact andF rfl (iteF rfl (andF rfl (iteF rfl (okT (jsum_oth (t := .lt x a b) rfl (fun _ _ _ q => nomatch q) h0)))))
  | two v a b =>
    replace ha := ha v a b rfl
    replace hl := hl v a b rfl
    cases v with
    | sum =>
      refine andT rfl (CallW.mk _ _ (is_num_ok n b) rfl (IteW.mk (fun q => ?_) fun q => ?_))
      · obtain ⟨x, rfl⟩ := Tr.isN_num q
        refine AndW.mk _ (fun _ => rfl) (OrW.mk _ (fun _ => AndW.mk _ (fun _ => rfl) rfl) (AndW.mk _ (fun _ => CallW.mk _ _ (fits_ok n (x + m)) rfl rfl) (IteW.mk (fun q => ?_) fun q => ?_)))
        · exact CallW.mk _ _ (ha (x + m) (fit_l9 (Bool.and_eq_true_iff.mp q).2)) rfl (okT (jsum_go (w := .sum) (b := .num x) h0 q))
        · exact andF rfl (iteF rfl (okT (jsum_no (w := .sum) (b := .num x) h0 q rfl)))
      · exact andF rfl (iteF rfl (okT (jsum_no h0 (sumGo_no (by rw [q]; rfl)) rfl)))
    | less =>
      refine andF rfl (iteF rfl (andT rfl (CallW.mk _ _ (is_num_ok n a) rfl (IteW.mk (fun q => ?_) fun q => ?_))))
      · obtain ⟨x, rfl⟩ := Tr.isN_num q
        refine AndW.mk _ (fun _ => rfl) (OrW.mk _ (fun _ => AndW.mk _ (fun _ => rfl) rfl) (AndW.mk _ (fun _ => CallW.mk _ _ (fits_ok n (x + m)) rfl rfl) (IteW.mk (fun q => ?_) fun q => ?_)))
        · exact CallW.mk _ _ (hl (x + m) (fit_l9 (Bool.and_eq_true_iff.mp q).2)) rfl (okT (jsum_lo (w := .less) (a := .num x) h0 rfl q))
        · exact okT (jsum_no (w := .less) (a := .num x) h0 rfl q)
      · exact okT (jsum_no h0 rfl (lessGo_no (by rw [q]; rfl)))
    | times => exact andF rfl (iteF rfl (andF rfl (iteF rfl (okT (jsum_no h0 rfl rfl)))))
    | part => exact andF rfl (iteF rfl (andF rfl (iteF rfl (okT (jsum_no h0 rfl rfl)))))
    | rest => exact andF rfl (iteF rfl (andF rfl (iteF rfl (okT (jsum_no h0 rfl rfl)))))
    | below => exact andF rfl (iteF rfl (andF rfl (iteF rfl (okT (jsum_no h0 rfl rfl)))))
    | same => exact andF rfl (iteF rfl (andF rfl (iteF rfl (okT (jsum_no h0 rfl rfl)))))
theorem joined_twice_ok (n : Nat) (w v : W2) (a b : Tr) (m : Int) (hb : b.ok) (hm : L9 m) (hv : (v.is w && b.isN) = true) (hu : unitW w m = false) (hg : ([W2.times, .part, .rest].any fun v => v.is w) = true)
    (ha : ∀ k, L9 k → (orc fns globs (n + 1)).fn 5 [w.d, a.d, (Tr.num k).d] = .ok ((jt w a k).d, false)) :
    (orc fns globs (n + 2)).fn 7 [w.d, (Tr.two v a b).d, .int m] = .ok ((jt w (.two v a b) m).d, false) := by
  obtain ⟨x, rfl⟩ := Tr.isN_num (Bool.and_eq_true_iff.mp hv).2
  have hx : L9 x := hb
  refine fnE F_joined_twice [.fr w.d, .fr (Tr.two v a (.num x)).d, .fr (.int m), .unset] rfl rfl rfl ?_
  cases w with
  | times =>
    refine andT rfl (AndW.mk _ (fun _ => MulW.mk hx.small hm.small (CallW.mk _ _ (fits_ok n (x * m)) rfl rfl)) (IteW.mk (fun q => ?_) fun q => ?_))
    · exact MulW.mk hx.small hm.small (CallW.mk _ _ (ha (x * m) (goes_ok (w := .times) (m := x) hm q)) rfl (okT (jt_go (w := .times) (a := a) (b := .num x) hu hv q)))
    · exact andF rfl (iteF rfl (andF rfl (iteF rfl (okT (jt_nd (a := a) (b := .num x) hu hv q rfl)))))
  | part =>
    refine andF rfl (iteF rfl (andT rfl (AndW.mk _ (fun _ => AndW.mk _ (fun _ => MulW.mk hx.small hm.small (CallW.mk _ _ (fits_ok n (x * m)) rfl rfl)) rfl) (IteW.mk (fun q => ?_) fun q => ?_))))
    · exact MulW.mk hx.small hm.small (CallW.mk _ _ (ha (x * m) (goes_ok (w := .part) (m := x) hm q)) rfl (okT (jt_go (w := .part) (a := a) (b := .num x) hu hv q)))
    · exact andF rfl (iteF rfl (okT (jt_nd (a := a) (b := .num x) hu hv q rfl)))
  | rest =>
    refine andF rfl (iteF rfl (andF rfl (iteF rfl (andT rfl (AndW.mk _ (fun _ => rfl) (IteW.mk (fun q => ?_) fun q => ?_))))))
    · refine IteW.mk (fun q2 => okT (jt_st (w := .rest) (a := a) (b := .num x) hu hv ?_ ?_)) fun q2 => ModW.pos (of_decide_eq_true (Bool.and_eq_true_iff.mp q).2) (IteW.mk (fun q3 => ?_) fun q3 => ?_)
      · show ((decide (0 < x) && decide (0 < m)) && (!decide (x ≤ m) && (x % m == 0))) = false
        rw [q2, Bool.not_true, Bool.false_and, Bool.and_false]
      · exact Bool.and_eq_true_iff.mpr ⟨q, q2⟩
      · exact CallW.mk _ _ (ha m hm) rfl (okT (jt_go (w := .rest) (a := a) (b := .num x) hu hv (Bool.and_eq_true_iff.mpr ⟨q, Bool.and_eq_true_iff.mpr ⟨show (!decide (x ≤ m)) = true by rw [q2]; rfl, q3⟩⟩)))
      · refine okT (jt_nd (a := a) (b := .num x) hu hv ?_ ?_)
        · show ((decide (0 < x) && decide (0 < m)) && (!decide (x ≤ m) && (x % m == 0))) = false
          rw [q3, Bool.and_false, Bool.and_false]
        · show ((decide (0 < x) && decide (0 < m)) && decide (x ≤ m)) = false
          rw [q2, Bool.and_false]
    · refine okT (jt_nd (a := a) (b := .num x) hu hv ?_ ?_)
      · show ((decide (0 < x) && decide (0 < m)) && (!decide (x ≤ m) && (x % m == 0))) = false
        rw [q, Bool.false_and]
      · show ((decide (0 < x) && decide (0 < m)) && decide (x ≤ m)) = false
        rw [q, Bool.false_and]
  | sum => cases hg
  | less => cases hg
  | below => cases hg
  | same => cases hg
theorem jn_f {w : W2} {t : Tr} {n : Int} (h : t.isN = false) : jx w t n = jn w t n := (cond_f h).symm
theorem jn_sum (t : Tr) (n : Int) : jn .sum t n = jsum t n := by cases t <;> rfl
theorem jn_t (w : W2) (hw : ([W2.times, .part, .rest].any fun v => v.is w) = true) (t : Tr) (n : Int) : jn w t n = jt w t n := by
  cases w with
  | times => cases t <;> rfl
  | part => cases t <;> rfl
  | rest => cases t <;> rfl
  | _ => cases hw
theorem joined_nn (n : Nat) (w : W2) (x y : Int) (hx : L9 x) (hy : L9 y) : (orc fns globs (n + 4)).fn 5 [w.d, (Tr.num x).d, (Tr.num y).d] = .ok ((known w x y).d, false) :=
  fnE F_joined [.fr w.d, .fr (Tr.num x).d, .fr (Tr.num y).d, .unset] rfl rfl rfl (CallW.mk _ _ (is_num_ok (n + 2) (.num x)) rfl (andT rfl (CallW.mk _ _ (is_num_ok (n + 2) (.num y)) rfl (iteT rfl (CallW.mk _ _ (both_ok n w x y hx hy) rfl rfl)))))
theorem joined_nb (n : Nat) (w : W2) (a b : Tr) (hb : b.isN = false) (hc : (a.isN && comm w) = false) : (orc fns globs (n + 2)).fn 5 [w.d, a.d, b.d] = .ok ((Tr.two w a b).d, false) := by
  have h1 := is_num_ok n a
  have h2 := is_num_ok n b
  rw [hb] at h2
  refine fnE F_joined [.fr w.d, .fr a.d, .fr b.d, .unset] rfl rfl rfl (CallW.mk _ _ h1 rfl (AndW.mk _ (fun _ => CallW.mk _ _ h2 rfl rfl) (iteF (Bool.and_false _) (CallW.mk _ _ h1 rfl (AndW.mk _ (fun _ => GetW.mk _ (in_tup w [.sum, .times, .same]) rfl) (iteF hc (CallW.mk _ _ h2 rfl (iteT rfl rfl))))))))
theorem joined_less (n : Nat) (k : Int) (b : Tr) (hk : L9 k) (hb : b.ok) : (orc fns globs (n + 4)).fn 5 [W2.less.d, (Tr.num k).d, b.d] = .ok ((jless k b).d, false) := by
  cases h : b.isN with
  | true => obtain ⟨y, rfl⟩ := Tr.isN_num h; exact joined_nn n .less k y hk hb
  | false =>
    refine (joined_nb (n + 2) .less (.num k) b h rfl).trans (okT ?_)
    cases b with
    | num v => cases h
    | _ => rfl
theorem joined_num : ∀ (t : Tr) (w : W2) (m : Int) (N : Nat), t.ok → L9 m → w.is .less = false → 2 * t.deep + 4 ≤ N → (orc fns globs N).fn 5 [w.d, t.d, (Tr.num m).d] = .ok ((jn w t m).d, false)
  | .num x, w, m, N, ht, hm, hw, hN => by
    obtain ⟨n, rfl⟩ := exk (k := 4) hN
    exact joined_nn n w x m ht hm
  | .name x, w, m, N, ht, hm, hw, hN => by
    obtain ⟨n, rfl⟩ := exk (k := 3) (Nat.le_of_succ_le hN)
    exact joined_step (n + 1) w (.name x) m rfl hw (fun h0 => joined_sum_ok n (.name x) m rfl h0 (fun v a b e => nomatch e) fun v a b e => nomatch e) fun v a b e => nomatch e
  | .whn c x y, w, m, N, ht, hm, hw, hN => by
    obtain ⟨n, rfl⟩ := exk (k := 3) (Nat.le_of_succ_le hN)
    exact joined_step (n + 1) w (.whn c x y) m rfl hw (fun h0 => joined_sum_ok n (.whn c x y) m rfl h0 (fun v a b e => nomatch e) fun v a b e => nomatch e) fun v a b e => nomatch e
  | .lt c x y, w, m, N, ht, hm, hw, hN => by
    obtain ⟨n, rfl⟩ := exk (k := 3) (Nat.le_of_succ_le hN)
    exact joined_step (n + 1) w (.lt c x y) m rfl hw (fun h0 => joined_sum_ok n (.lt c x y) m rfl h0 (fun v a b e => nomatch e) fun v a b e => nomatch e) fun v a b e => nomatch e
  | .two v a b, w, m, N, ht, hm, hw, hN => by
    have hd : a.deep + 1 ≤ (Tr.two v a b).deep := Nat.succ_le_succ (Nat.le_max_left _ _)
    obtain ⟨n, rfl⟩ := exk (m := 2 * max a.deep b.deep) (k := 6) hN
    have ih := fun w k hw hk => joined_num a w k (n + 4) ht.1 hk hw (sub_j2 hd hN)
    refine joined_step (n + 4) w (.two v a b) m rfl hw (fun h0 => joined_sum_ok (n + 3) (.two v a b) m rfl h0 (fun v' a' b' e k hk => ?_) fun v' a' b' e k hk => ?_) fun v' a' b' e hv hu hg => ?_
    · cases e; exact (ih .sum k rfl hk).trans (okT (jn_sum a k))
    · cases e; exact joined_less n k b hk ht.2
    · cases e
      exact joined_twice_ok (n + 3) w v a b m ht.2 hm hv hu hg fun k hk => (ih w k hw hk).trans (okT (jn_t w hg a k))
theorem joined_ok (w : W2) (a b : Tr) (N : Nat) (ha : a.ok) (hb : b.ok) (hN : 2 * max a.deep b.deep + 6 ≤ N) : (orc fns globs N).fn 5 [w.d, a.d, b.d] = .ok ((J w a b).d, false) := by
  cases hbn : b.isN with
  | true =>
    obtain ⟨m, rfl⟩ := Tr.isN_num hbn
    show _ = R.ok ((jn w a m).d, false)
    cases hw : w.is .less with
    | false => exact joined_num a w m N ha hb hw (sub_ml hN)
    | true =>
      obtain rfl := W2.is_eq hw
      cases han : a.isN with
      | true => obtain ⟨x, rfl⟩ := Tr.isN_num han; 
                obtain ⟨n, rfl⟩ := exk (k := 4) (Nat.le_of_succ_le (Nat.le_of_succ_le hN))
                exact joined_nn n .less x m ha hb
      | false =>
        obtain ⟨n, rfl⟩ := ex2 (m := _ + 4) hN
        have hn := is_num_ok n a
        rw [han] at hn
        refine (fnE F_joined [.fr W2.less.d, .fr a.d, .fr (Tr.num m).d, .unset] rfl rfl rfl (CallW.mk _ _ hn rfl (andF rfl (iteF rfl (CallW.mk _ _ hn rfl (andF rfl (iteF rfl (CallW.mk _ _ (is_num_ok n (.num m)) rfl (iteF rfl (iteT rfl (CallW.mk _ _ (joined_num a .sum (0 - m) (n + 1) ha (neg9 hb) rfl (sub_ml1 hN)) rfl rfl))))))))))).trans (okT ?_)
        rw [jn_sum]
        exact jn_f (w := .less) han
  | false =>
    have e : J w a b = cond (a.isN && comm w) (jx w b a.val) (.two w a b) := cond_f hbn
    rw [e]
    cases hc : (a.isN && comm w) with
    | false =>
      obtain ⟨n, rfl⟩ := ex2 (m := _ + 4) hN
      exact joined_nb n w a b hbn hc
    | true =>
      have hc' := Bool.and_eq_true_iff.mp hc
      obtain ⟨x, rfl⟩ := Tr.isN_num hc'.1
      obtain ⟨n, rfl⟩ := ex2 (m := _ + 4) hN
      have hn := is_num_ok n b
      rw [hbn] at hn
      have hl : w.is .less = false := by cases w <;> first | rfl | exact absurd hc'.2 (by decide)
      refine fnE F_joined [.fr w.d, .fr (Tr.num x).d, .fr b.d, .unset] rfl rfl rfl (CallW.mk _ _ (is_num_ok n (.num x)) rfl (andT rfl (CallW.mk _ _ hn rfl (iteF rfl (CallW.mk _ _ (is_num_ok n (.num x)) rfl (andT rfl (GetW.mk _ (in_tup w [.sum, .times, .same]) (iteT hc'.2 (CallW.mk _ _ (joined_num b w x (n + 1) hb ha hl (sub_mr1 hN)) rfl ?_)))))))))
      exact okT (jn_f hbn).symm
end L11
end Mine
-- Y11f
set_option autoImplicit false
set_option linter.all false
set_option maxRecDepth 10000
namespace Mine
open PySem
namespace L11
theorem chosen_ok : ∀ (c a b : Tr) (N : Nat), c.ok → c.deep ≤ 62 → c.deep + 2 ≤ N → (orc fns globs N).fn 8 [c.d, a.d, b.d] = .ok ((Ch c a b).d, false)
  | .num v, a, b, N, hc, _, hN => by
    obtain ⟨n, rfl⟩ := ex2 hN
    refine fnE F_chosen [.fr (Tr.num v).d, .fr a.d, .fr b.d] rfl rfl rfl (CallW.mk _ _ (is_num_ok n _) rfl <| iteT rfl <| IteW.mk (fun q => ?_) fun q => ?_)
    · exact okT (cond_f (by simpa using q)).symm
    · exact okT (cond_t (by simpa using q)).symm
  | .name x, a, b, N, hc, _, hN => by
    obtain ⟨n, rfl⟩ := ex2 hN
    exact fnE F_chosen [.fr (Tr.name x).d, .fr a.d, .fr b.d] rfl rfl rfl (CallW.mk _ _ (is_num_ok n _) rfl <| iteF rfl <| andF rfl <| iteF rfl rfl)
  | .whn c d e, a, b, N, hc, _, hN => by
    obtain ⟨n, rfl⟩ := ex2 hN
    exact fnE F_chosen [.fr (Tr.whn c d e).d, .fr a.d, .fr b.d] rfl rfl rfl (CallW.mk _ _ (is_num_ok n _) rfl <| iteF rfl <| andF rfl <| iteF rfl rfl)
  | .lt x c d, a, b, N, hc, _, hN => by
    obtain ⟨n, rfl⟩ := ex2 hN
    exact fnE F_chosen [.fr (Tr.lt x c d).d, .fr a.d, .fr b.d] rfl rfl rfl (CallW.mk _ _ (is_num_ok n _) rfl <| iteF rfl <| andF rfl <| iteF rfl rfl)
  | .two w c z, a, b, N, hc, hd, hN => by
    obtain ⟨n, rfl⟩ := ex2 hN
    have h1 := two_l w c z
    have h2 := two_r w c z
    have ih := chosen_ok c b a (n + 1) hc.1 (sub_le h1 hd) (sub_1 h1 hN)
    refine fnE F_chosen [.fr (Tr.two w c z).d, .fr a.d, .fr b.d] rfl rfl rfl (CallW.mk _ _ (is_num_ok n _) rfl <| iteF rfl <| AndW.mk z.isZ (fun _ => GetW.mk _ (eq_zero hc.2 (sub_le h2 hd)) rfl) <| IteW.mk (fun q => ?_) fun q => ?_)
    · exact CallW.mk _ _ ih rfl (okT (cond_t (by rw [← W2.eqs]; exact q)).symm)
    · exact okT (show Tr.whn (.two w c z) a b = Ch (.two w c z) a b from (cond_f (by rw [← W2.eqs]; exact q)).symm)
theorem folded_ok : ∀ (t : Tr) (kv : List (D × D)) (N : Nat), t.ok → t.deep ≤ 60 → Kv kv → kv.length + t.deep ≤ 500 → 2 * t.deep + 8 ≤ N → (orc fns globs N).fn 9 [t.d, .dict kv] = .ok ((t.F (look kv)).d, false)
  | .num v, kv, N, ht, _, hk, hl, hN => by
    obtain ⟨n, rfl⟩ := ex2 hN
    exact fnE F_folded [.fr (Tr.num v).d, .fr (.dict kv), .unset, .unset] rfl rfl rfl (iteT rfl rfl)
  | .name x, kv, N, ht, _, hk, hl, hN => by
    obtain ⟨n, rfl⟩ := ex2 hN
    refine fnE F_folded [.fr (Tr.name x).d, .fr (.dict kv), .unset, .unset] rfl rfl rfl (iteF rfl <| iteT rfl ?_)
    have hg := (hk.get x).1
    cases e : look kv x with
    | none =>
      rw [e] at hg
      exact iteF (by rw [hg]; rfl) (okT (show Tr.name x = nameF x (look kv x) by rw [e]; rfl))
    | some v =>
      rw [e] at hg
      exact iteT (by rw [hg]; rfl) <| GetW.mk (.int v) (show (match dget x kv with | some v => R.ok v | none => .stuck) = _ by rw [hg]; rfl) (okT (show Tr.num v = nameF x (look kv x) by rw [e]; rfl))
  | .two w a b, kv, N, ht, hd, hk, hl, hN => by
    obtain ⟨n, rfl⟩ := ex2 hN
    have h1 := two_l w a b
    have h2 := two_r w a b
    have ea := folded_ok a kv (n + 1) ht.1 (sub_le h1 hd) hk (sub_add h1 hl) (sub_f2 h1 hN)
    have eb := folded_ok b kv (n + 1) ht.2 (sub_le h2 hd) hk (sub_add h2 hl) (sub_f2 h2 hN)
    have da := F_deep a (look kv)
    have db := F_deep b (look kv)
    exact fnE F_folded [.fr (Tr.two w a b).d, .fr (.dict kv), .unset, .unset] rfl rfl rfl (iteF w.nnum <| iteF w.nname <| iteF w.nwhen <| iteT (congrArg (!·) w.nlet) <| CallW.mk _ _ ea rfl <| CallW.mk _ _ eb rfl <| CallW.mk _ _ (joined_ok w _ _ (n + 1) (F_ok a _ ht.1 hk.k9) (F_ok b _ ht.2 hk.k9) (sub_j da db h1 h2 hN)) rfl rfl)
  | .whn c a b, kv, N, ht, hd, hk, hl, hN => by
    obtain ⟨n, rfl⟩ := ex2 hN
    have h0 := whn_1 c a b
    have h1 := whn_2 c a b
    have h2 := whn_3 c a b
    have ec := folded_ok c kv (n + 1) ht.1 (sub_le h0 hd) hk (sub_add h0 hl) (sub_f2 h0 hN)
    have ea := folded_ok a kv (n + 1) ht.2.1 (sub_le h1 hd) hk (sub_add h1 hl) (sub_f2 h1 hN)
    have eb := folded_ok b kv (n + 1) ht.2.2 (sub_le h2 hd) hk (sub_add h2 hl) (sub_f2 h2 hN)
    have dc := F_deep c (look kv)
    exact fnE F_folded [.fr (Tr.whn c a b).d, .fr (.dict kv), .unset, .unset] rfl rfl rfl (iteF rfl <| iteF rfl <| iteT rfl <| CallW.mk _ _ ec rfl <| CallW.mk _ _ ea rfl <| CallW.mk _ _ eb rfl <| CallW.mk _ _ (chosen_ok _ _ _ (n + 1) (F_ok c _ ht.1 hk.k9) (Nat.le_trans dc (sub_le h0 (Nat.le_trans hd (by decide)))) (sub_c dc h0 hN)) rfl rfl)
  | .lt x a b, kv, N, ht, hd, hk, hl, hN => by
    obtain ⟨n, rfl⟩ := ex2 hN
    have h1 := lt_l x a b
    have h2 := lt_r x a b
    have ea := folded_ok a kv (n + 1) ht.2.1 (sub_le h1 hd) hk (sub_add h1 hl) (sub_f2 h1 hN)
    have oa := F_ok a (look kv) ht.2.1 hk.k9
    refine fnE F_folded [.fr (Tr.lt x a b).d, .fr (.dict kv), .unset, .unset] rfl rfl rfl (iteF rfl <| iteF rfl <| iteF rfl <| iteF rfl <| CallW.mk _ _ ea rfl <| dictW (Nat.le_trans (sub_b hl) (by decide)) <| CallW.mk _ _ (is_num_ok n _) rfl <| IteW.mk (fun q => ?_) fun q => ?_)
    · have hp := put_len x (.int (a.F (look kv)).val) kv
      have eb := folded_ok b (dput x (.int (a.F (look kv)).val) kv) (n + 1) ht.2.2 (sub_le h2 hd) (hk.put x (val_ok oa)) (sub_l hp h2 hl) (sub_f2 h2 hN)
      rw [look_put hk] at eb
      have e := cond_t (x := b.F (kput (look kv) x (a.F (look kv)).val)) (y := .lt x (a.F (look kv)) (b.F (kdel (look kv) x))) q
      rw [isN_val q] at eb ⊢
      exact IfW.mk (blt_of (Nat.le_trans (sub_b hl) (by decide))) <| CallW.mk _ _ eb (tr_alias _ _ _) (okT e.symm)
    · have hp := del_len x kv
      have eb := folded_ok b (ddel x kv) (n + 1) ht.2.2 (sub_le h2 hd) (hk.del x) (sub_l0 hp h2 hl) (sub_f2 h2 hN)
      rw [look_del hk] at eb
      exact IfW.mk (ble_of (Nat.le_trans (sub_b hl) (by decide))) <| CallW.mk _ _ eb (tr_alias _ _ _) (okT (show Tr.lt x (a.F (look kv)) (b.F (kdel (look kv) x)) = (Tr.lt x a b).F (look kv) from (cond_f q).symm))
theorem count_ok (n : Nat) (ys : List Int) (hl : ys.length ≤ 1000) (hy : ∀ y ∈ ys, Sm y) : ∃ z, (orc fns globs (n + 2)).fn 20 [.list (ys.map PyData.int)] = .ok (.int z, false) ∧ (0 ≤ z ∧ z ≤ 41) := by
  obtain ⟨c, e1, _⟩ := cell_at_i n ys 1 ⟨by decide, by decide⟩ hl hy
  exact fnI F_law_count [.fr (.list (ys.map PyData.int))] rfl rfl rfl (CallW.mk _ _ e1 rfl <| ModW.pos (by decide) <| IteW.mk (fun _ => ⟨_, rfl, rfl, by decide, by decide⟩) fun _ => ⟨_, rfl, rfl, by decide, by decide⟩)
noncomputable def KvN (kv : List (D × D)) : Prop := Kv kv ∧ Nd kv ∧ kv.length ≤ 41
noncomputable def knownI (s0 s1 : Slot) (l : List D) (ρ : Env) : Prop := ∃ (kv : List (D × D)) (a b : Slot), ρ = [s0, s1, .own (.dict kv), a, b] ∧ Kv kv ∧ Nd kv ∧ kv.length + l.length ≤ 41 ∧ ∀ d ∈ l, ∃ z, d = .int z ∧ 0 ≤ z ∧ z < 100
theorem known_by_ok (n : Nat) (ys : List Int) (hl : ys.length ≤ 1000) (hy : ∀ y ∈ ys, Sm y) : ∃ kv, (orc fns globs (n + 3)).fn 21 [.list (ys.map PyData.int)] = .ok (.dict kv, true) ∧ KvN kv := by
  obtain ⟨seed, e0, hs⟩ := cell_at_i (n + 1) ys 0 ⟨by decide, by decide⟩ hl hy
  obtain ⟨m, em, m0, m1⟩ := count_ok n ys hl hy
  refine fnD F_law_known_by [.fr (.list (ys.map PyData.int)), .unset, .unset, .unset, .unset] rfl rfl rfl (CallW.mk _ _ e0 rfl <| CallW.mk _ _ em rfl <| IfW.mk (rangeW (by omega) (by omega)) (forW (knownI _ _) ⟨[], _, _, rfl, .nil, .nil, by rw [range_len]; show 0 + _ ≤ 41; omega, range_in (by omega)⟩ ?_ ?_))
  · rintro d l ρ ⟨kv, a, b, rfl, hk, hn, hkl, hin⟩
    obtain ⟨k, rfl, k0, k1⟩ := hin d (.head _)
    rw [List.length_cons] at hkl
    obtain ⟨c, ec, hc⟩ := cell_at_i (n + 1) ys (2 + 3 * k) ⟨by omega, by omega⟩ hl hy
    have hkS : smallInt k = true := small_of (by omega) (by omega)
    have h18 : Sm (c / 18 + k) := ⟨by have := hc.1; omega, by have := hc.2; omega⟩
    obtain ⟨v, ev, hv⟩ := number_by_ok (n + 1) _ h18
    obtain ⟨x, ex, hx⟩ := name_by_i n seed k hs ⟨k0, by omega⟩
    refine MulW.mk rfl hkS <| CallW.mk _ _ ec rfl <| DivW.pos hc.small rfl (by decide) <| MulW.mk rfl hkS <| ModW.pos (by decide) <| MulW.mk rfl (bitS _) <| IteW.mk (fun _ => ?_) fun _ => ?_
    · refine DivW.pos hc.small rfl (by decide) <| CallW.mk _ _ ev rfl <| CallW.mk _ _ ex rfl <| IfW.mk (blt_of (by omega)) ⟨_, _, _, rfl, hk.put x hv, hn.put hk x _, ?_, fun d hd => hin d (.tail _ hd)⟩
      have := put_len x (.int v) kv
      omega
    · exact ⟨kv, _, _, rfl, hk, hn, by omega, fun d hd => hin d (.tail _ hd)⟩
  · rintro ρ ⟨kv, a, b, rfl, hk, hn, hkl, _⟩
    exact ⟨kv, rfl, rfl, hk, hn, hkl⟩
noncomputable def setI (s0 s1 s2 : Slot) (l : List D) (ρ : Env) : Prop := ∃ (kv : List (D × D)) (a b : Slot), ρ = [s0, s1, s2, .own (.dict kv), a, b] ∧ Kv kv ∧ Nd kv ∧ kv.length + l.length ≤ 41 ∧ ∀ d ∈ l, ∃ z, d = .int z ∧ 0 ≤ z ∧ z < 100
theorem set_a {t k : Int} (t0 : 0 ≤ t) (t1 : t < 10) (k0 : 0 ≤ k) (k1 : k < 100) : Ki (1 + t + 2 * k) := ⟨by omega, by omega⟩
theorem set_b {t k c : Int} (t0 : 0 ≤ t) (t1 : t < 10) (k0 : 0 ≤ k) (k1 : k < 100) (hc : Sm c) : Sm (c / 74 + 5 * t + 3 * k) := ⟨by have := hc.1; omega, by have := hc.2; omega⟩
theorem set_s {k : Int} (k0 : 0 ≤ k) (k1 : k < 100) : smallInt k = true := small_of (by omega) (by omega)
theorem set_p (b : Bool) : (0 : Int) < 7 + 30 * (if b = true then 1 else 0) := by cases b <;> decide
theorem setting_by_ok (n : Nat) (ys : List Int) (t : Int) (t0 : 0 ≤ t) (t1 : t < 10) (hl : ys.length ≤ 1000) (hy : ∀ y ∈ ys, Sm y) : ∃ kv, (orc fns globs (n + 3)).fn 22 [.list (ys.map PyData.int), .int t] = .ok (.dict kv, true) ∧ KvN kv := by
  obtain ⟨seed, e0, hs⟩ := cell_at_i (n + 1) ys 0 ⟨by decide, by decide⟩ hl hy
  obtain ⟨m, em, m0, m1⟩ := count_ok n ys hl hy
  have ht := set_s t0 (Int.lt_trans t1 (by decide))
  refine fnD F_law_setting_by [.fr (.list (ys.map PyData.int)), .fr (.int t), .unset, .unset, .unset, .unset] rfl rfl rfl (CallW.mk _ _ e0 rfl <| CallW.mk _ _ em rfl <| IfW.mk (rangeW (Int.lt_of_lt_of_le (by decide) m0) (Int.lt_of_le_of_lt m1 (by decide))) (forW (setI _ _ _) ⟨[], _, _, rfl, .nil, .nil, by rw [range_len]; show 0 + _ ≤ 41; omega, range_in (Int.le_trans m1 (by decide))⟩ ?_ ?_))
  · rintro d l ρ ⟨kv, a, b, rfl, hk, hn, hkl, hin⟩
    obtain ⟨k, rfl, k0, k1⟩ := hin d (.head _)
    rw [List.length_cons] at hkl
    obtain ⟨c, ec, hc⟩ := cell_at_i (n + 1) ys (1 + t + 2 * k) (set_a t0 t1 k0 k1) hl hy
    have hkS := set_s k0 k1
    obtain ⟨v, ev, hv⟩ := number_by_ok (n + 1) _ (set_b t0 t1 k0 k1 hc)
    obtain ⟨x, ex, hx⟩ := name_by_i n seed k hs ⟨k0, Int.lt_trans k1 (by decide)⟩
    refine MulW.mk rfl hkS <| CallW.mk _ _ ec rfl <| DivW.pos hc.small rfl (by decide) <| MulW.mk rfl (bitS _) <| ModW.pos (set_p _) <| IteW.mk (fun _ => ?_) fun _ => ?_
    · refine DivW.pos hc.small rfl (by decide) <| MulW.mk rfl ht <| MulW.mk rfl hkS <| CallW.mk _ _ ev rfl <| CallW.mk _ _ ex rfl <| IfW.mk (blt_of (Nat.le_trans (sub_b hkl) (by decide))) ⟨_, _, _, rfl, hk.put x hv, hn.put hk x _, Nat.le_trans (Nat.add_le_add_right (put_len x (.int v) kv) _) (Nat.le_trans (Nat.le_of_eq (Nat.succ_add _ _)) hkl), fun d hd => hin d (.tail _ hd)⟩
    · exact ⟨kv, _, _, rfl, hk, hn, Nat.le_of_succ_le hkl, fun d hd => hin d (.tail _ hd)⟩
  · rintro ρ ⟨kv, a, b, rfl, hk, hn, hkl, _⟩
    exact ⟨kv, rfl, rfl, hk, hn, hkl⟩
end L11
end Mine
-- Y11l
set_option autoImplicit false
set_option linter.all false
set_option maxRecDepth 10000
namespace Mine
open PySem
namespace L11
theorem sub_v {a b N : Nat} (h : a + 1 ≤ b) (hN : b + 3 ≤ N + 1) : a + 3 ≤ N := by omega
theorem ex_v {a N : Nat} (h : a + 3 ≤ N) : ∃ n, N = n + 3 := ⟨N - 3, by omega⟩
theorem over2 (z : Int) : (decide (1000000000 < z) || decide (z < -1000000000)) = over z := by
  unfold over
  rw [Bool.or_comm]; rfl
theorem lim_mt {z : Int} (h : (decide (1000000000 < z) || decide (z < -1000000000)) = true) : R.ok (Outc.great.m, false) = .ok ((lim z).m, false) := by rw [lim_t ((over2 z).symm.trans h)]
theorem lim_mf {z : Int} (h : (decide (1000000000 < z) || decide (z < -1000000000)) = false) : R.ok ((Outc.is z).m, false) = .ok ((lim z).m, false) := by rw [lim_f ((over2 z).symm.trans h)]
theorem over_no {z : Int} (h : L9 z) : (decide (1000000000 < z) || decide (z < -1000000000)) = false := by
  rw [Bool.or_eq_false_iff, decide_eq_false_iff_not, decide_eq_false_iff_not]
  exact ⟨Int.not_lt.mpr h.2, Int.not_lt.mpr h.1⟩
theorem bit9 (b : Bool) : L9 (if b then 1 else 0) := by cases b <;> exact ⟨by decide, by decide⟩
theorem quoM {b : Int} (o : Outc) (h : (b == 0) = false) : R.ok (o.m, false) = .ok ((if (b == 0) = true then Outc.nought else o).m, false) := by rw [if_neg (by rw [h]; exact Bool.noConfusion)]
theorem made_ok (n : Nat) (w : W2) (a b : Int) (ha : L9 a) (hb : L9 b) : (orc fns globs (n + 1)).fn 23 [w.d, .int a, .int b] = .ok ((outW w a b).m, false) := by
  refine fnE F_law_made [.fr w.d, .fr (.int a), .fr (.int b), .unset] rfl rfl rfl ?_
  cases w with
  | sum => exact iteT rfl (iteF rfl (iteF rfl (iteF rfl (iteF rfl (orF rfl (iteF rfl (OrW.mk _ (fun _ => rfl) (IteW.mk lim_mt lim_mf))))))))
  | less => exact iteF rfl (iteT rfl (iteF rfl (iteF rfl (iteF rfl (orF rfl (iteF rfl (OrW.mk _ (fun _ => rfl) (IteW.mk lim_mt lim_mf))))))))
  | times => exact iteF rfl (iteF rfl (iteT rfl (MulW.mk ha.small hb.small (iteF rfl (iteF rfl (orF rfl (iteF rfl (OrW.mk _ (fun _ => rfl) (IteW.mk lim_mt lim_mf)))))))))
  | below => exact iteF rfl (iteF rfl (iteF rfl (iteT rfl (iteF rfl (orF rfl (iteF rfl (OrW.mk _ (fun _ => rfl) (iteF (over_no (bit9 _)) rfl))))))))
  | same => exact iteF rfl (iteF rfl (iteF rfl (iteF rfl (iteT rfl (orF rfl (iteF rfl (OrW.mk _ (fun _ => rfl) (iteF (over_no (bit9 _)) rfl))))))))
  | part =>
    refine iteF rfl (iteF rfl (iteF rfl (iteF rfl (iteF rfl (orT rfl (iteT rfl (IteW.mk (fun h => ?_) fun h => ?_)))))))
    · exact (congrArg (fun o => R.ok (Outc.m o, false)) (quoZ (.inl rfl) h)).symm
    · have hz := beq_eq_false_iff_ne.mp h
      exact DivW.any ha.small hb.small hz (iteF rfl (OrW.mk _ (fun _ => rfl) (iteF (over_no (fdiv_bound ha.1 ha.2 hz)) (quoM (.is _) h))))
  | rest =>
    refine iteF rfl (iteF rfl (iteF rfl (iteF rfl (iteF rfl (orF rfl (iteT rfl (IteW.mk (fun h => ?_) fun h => ?_)))))))
    · exact (congrArg (fun o => R.ok (Outc.m o, false)) (quoZ (.inr rfl) h)).symm
    · have hz := beq_eq_false_iff_ne.mp h
      have hr : L9 (a - b * a.fdiv b) := rest_l9 hb hz
      exact DivW.any ha.small hb.small hz (iteT rfl (MulW.mk hb.small (L9.small (fdiv_bound ha.1 ha.2 hz)) (OrW.mk _ (fun _ => rfl) (iteF (over_no hr) (quoM (.is _) h)))))
theorem lvalue_ok : ∀ (t : Tr) (kv : List (D × D)) (N : Nat), t.ok → Kv kv → kv.length + t.deep ≤ 500 → t.deep + 3 ≤ N → (orc fns globs N).fn 24 [t.d, .dict kv] = .ok (VM (t.V (look kv)), false)
  | .num v, kv, N, ht, hk, hl, hN => by
    obtain ⟨n, rfl⟩ := ex_v hN
    exact fnE F_law_value [.fr (Tr.num v).d, .fr (.dict kv), .unset, .unset, .unset, .unset] rfl rfl rfl (iteT rfl rfl)
  | .name x, kv, N, ht, hk, hl, hN => by
    obtain ⟨n, rfl⟩ := ex_v hN
    refine fnE F_law_value [.fr (Tr.name x).d, .fr (.dict kv), .unset, .unset, .unset, .unset] rfl rfl rfl (iteF rfl <| iteT rfl ?_)
    have hg := (hk.get x).1
    cases e : look kv x with
    | none =>
      rw [e] at hg
      exact iteF (by rw [hg]; rfl) (okM (r := .exc (.unset x)) (show nameV x (look kv x) = _ by rw [e]; rfl))
    | some v =>
      rw [e] at hg
      exact iteT (by rw [hg]; rfl) <| GetW.mk (.int v) (show (match dget x kv with | some v => R.ok v | none => .stuck) = _ by rw [hg]; rfl) (okM (r := .ok v) (show nameV x (look kv x) = _ by rw [e]; rfl))
  | .two w a b, kv, N, ht, hk, hl, hN => by
    obtain ⟨n, rfl⟩ := ex_v hN
    have h1 := two_l w a b
    have h2 := two_r w a b
    have ea := lvalue_ok a kv (n + 2) ht.1 hk (sub_add h1 hl) (sub_v h1 hN)
    have eb := lvalue_ok b kv (n + 2) ht.2 hk (sub_add h2 hl) (sub_v h2 hN)
    have ka := V_k a _ ht.1 hk.k9
    have kb := V_k b _ ht.2 hk.k9
    have tail : exW (orc fns globs (n + 2)) globs (tailS 4 F_law_value.body) [.fr (Tr.two w a b).d, .fr (.dict kv), .fr w.d, .fr (VM (a.V (look kv))), .unset, .unset] (fun s => finS s = .ok (VM ((Tr.two w a b).V (look kv)), false)) := by
      generalize e1 : a.V (look kv) = r at ka
      cases ka with
      | is hp =>
        refine iteF rfl <| iteF w.nwhen <| iteF w.nlet <| CallW.mk _ _ eb (vm_alias _ _ _) ?_
        generalize e2 : b.V (look kv) = r at kb
        cases kb with
        | is hq => exact iteF rfl <| CallW.mk _ _ (made_ok (n + 1) w _ _ hp hq) (VM_out _ ▸ vm_alias _ _ _) (VM_out (outW w _ _) ▸ okM (V2 e1 e2))
        | unset hx => exact iteT rfl (okM (V2y e1 e2))
        | nought => exact iteT rfl (okM (V2y e1 e2))
        | great => exact iteT rfl (okM (V2y e1 e2))
      | unset hx => exact iteT rfl (okM (V2x e1))
      | nought => exact iteT rfl (okM (V2x e1))
      | great => exact iteT rfl (okM (V2x e1))
    cases w <;> exact fnE F_law_value [.fr (Tr.two _ a b).d, .fr (.dict kv), .unset, .unset, .unset, .unset] rfl rfl rfl (iteF rfl <| iteF rfl <| CallW.mk _ _ ea (vm_alias _ _ _) tail)
  | .whn c a b, kv, N, ht, hk, hl, hN => by
    obtain ⟨n, rfl⟩ := ex_v hN
    have h0 := whn_1 c a b
    have h1 := whn_2 c a b
    have h2 := whn_3 c a b
    have ec := lvalue_ok c kv (n + 2) ht.1 hk (sub_add h0 hl) (sub_v h0 hN)
    have ea := lvalue_ok a kv (n + 2) ht.2.1 hk (sub_add h1 hl) (sub_v h1 hN)
    have eb := lvalue_ok b kv (n + 2) ht.2.2 hk (sub_add h2 hl) (sub_v h2 hN)
    have kc := V_k c _ ht.1 hk.k9
    refine fnE F_law_value [.fr (Tr.whn c a b).d, .fr (.dict kv), .unset, .unset, .unset, .unset] rfl rfl rfl (iteF rfl <| iteF rfl <| CallW.mk _ _ ec (vm_alias _ _ _) ?_)
    generalize e1 : c.V (look kv) = r at kc
    cases kc with
    | @is p hp =>
      refine iteF rfl <| iteT rfl ?_
      cases p with
      | ofNat m => cases m with
        | zero => exact CallW.mk _ _ eb (vm_alias _ _ _) (okM (Vw e1))
        | succ m => exact CallW.mk _ _ ea (vm_alias _ _ _) (okM (Vw e1))
      | negSucc m => exact CallW.mk _ _ ea (vm_alias _ _ _) (okM (Vw e1))
    | unset hx => exact iteT rfl (okM (Vwx e1))
    | nought => exact iteT rfl (okM (Vwx e1))
    | great => exact iteT rfl (okM (Vwx e1))
  | .lt x a b, kv, N, ht, hk, hl, hN => by
    obtain ⟨n, rfl⟩ := ex_v hN
    have h1 := lt_l x a b
    have h2 := lt_r x a b
    have ea := lvalue_ok a kv (n + 2) ht.2.1 hk (sub_add h1 hl) (sub_v h1 hN)
    have ka := V_k a _ ht.2.1 hk.k9
    refine fnE F_law_value [.fr (Tr.lt x a b).d, .fr (.dict kv), .unset, .unset, .unset, .unset] rfl rfl rfl (iteF rfl <| iteF rfl <| CallW.mk _ _ ea (vm_alias _ _ _) ?_)
    generalize e1 : a.V (look kv) = r at ka
    cases ka with
    | @is p hp =>
      have eb := lvalue_ok b (dput x (.int p) kv) (n + 2) ht.2.2 (hk.put x hp) (sub_l (put_len x (.int p) kv) h2 hl) (sub_v h2 hN)
      rw [look_put hk] at eb
      exact iteF rfl <| iteF rfl <| iteT rfl <| dictW (Nat.le_trans (sub_b hl) (by decide)) <| IfW.mk (blt_of (Nat.le_trans (sub_b hl) (by decide))) <| CallW.mk _ _ eb (vm_alias _ _ _) (okM (Vl e1))
    | unset hx => exact iteT rfl (okM (Vlx e1))
    | nought => exact iteT rfl (okM (Vlx e1))
    | great => exact iteT rfl (okM (Vlx e1))
end L11
end Mine
-- Y11g
set_option autoImplicit false
set_option linter.all false
set_option maxRecDepth 10000
namespace Mine
open PySem
namespace L11
theorem whole_ok (n : Nat) (v : Int) : (orc fns globs (n + 1)).fn 12 [.int v] = .ok (.bool true, false) :=
  fnE F_law_whole [.fr (.int v)] rfl rfl rfl (GetW.mk (.bool true) rfl (AndW.mk true (fun _ => GetW.mk (.bool false) rfl rfl) rfl))
theorem isname_ok (n : Nat) (x : Str) (hx : Nm x) : (orc fns globs (n + 1)).fn 25 [.str x] = .ok (.bool true, false) := by
  refine fnE F_law_is_name [.fr (.str x), .unset] rfl rfl rfl ?_
  have h1 : decide ((1 : Int) ≤ slen x) = true := decide_eq_true (by have := hx.2.1; omega)
  have h2 : decide ((slen x : Int) ≤ 8) = true := decide_eq_true (by have := hx.2.2; omega)
  have hl : slen x ≤ 1000 := Nat.le_trans hx.2.2 (by decide)
  refine GetW.mk (.bool true) rfl (OrW.mk false (fun _ => LenW.mk (ble_of (Nat.le_trans hl (by decide))) (AndW.mk true (fun _ => congrArg PyData.bool h2) (congrArg (fun b => PyData.bool (!(b && true))) h1))) (iteF rfl ?_))
  refine ForW.mk (x.cps.toList.map fun c => .str (sone c)) rfl (ble_of (by rw [List.length_map, ← slen_list]; exact Nat.le_trans hl (by decide))) (forW (fun l ρ => (∀ d ∈ l, ∃ c, d = .str (sone c) ∧ 97 ≤ c ∧ c ≤ 122) ∧ ∃ s, ρ = [.fr (.str x), s]) ⟨fun d hd => ?_, _, rfl⟩ ?_ ?_)
  · obtain ⟨c, hc, rfl⟩ := List.mem_map.mp hd
    exact ⟨c, rfl, hx.1 c hc⟩
  · rintro d l ρ ⟨hd, s, rfl⟩
    obtain ⟨c, rfl, c1, c2⟩ := hd d (.head _)
    refine GetW.mk (.bool false) (notin_abc c1 c2) (iteF rfl ⟨fun d hd' => hd d (.tail _ hd'), _, rfl⟩)
  · rintro ρ ⟨_, s, rfl⟩
    exact rfl
theorem in_words (w : W2) : cmpD .NotIn w.d (.list (strs1 ["sum", "less", "times", "part", "rest", "below", "same"])) = .ok (.bool false) := by
  have := in_lst w [.sum, .less, .times, .part, .rest, .below, .same]
  have e : ([W2.sum, .less, .times, .part, .rest, .below, .same].any fun v => v.is w) = true := by cases w <;> rfl
  rw [e] at this
  exact in_not this
theorem is_expr_ok (t : Tr) : ∀ (N : Nat), t.ok → t.deep + 2 ≤ N → (orc fns globs N).fn 26 [t.d] = .ok (.bool true, false) := by
  induction t with
  | num v =>
    intro N ht hN
    obtain ⟨n, rfl⟩ := ex2 hN
    refine fnE F_law_is_expr [.fr (Tr.num v).d, .unset, .unset] rfl rfl rfl (GetW.mk (.bool true) rfl ?_)
    refine OrW.mk false (fun _ => LenW.mk rfl (OrW.mk false (fun _ => GetW.mk (.bool true) rfl rfl) rfl)) (iteF rfl <| iteT rfl <| LenW.mk rfl <| andT rfl <| CallW.mk _ _ (whole_ok n v) rfl <| andT rfl <| AndW.mk true (fun _ => congrArg PyData.bool (decide_eq_true ht.2)) ?_)
    exact congrArg (fun b => R.ok (PyData.bool (b && true), false)) (decide_eq_true ht.1)
  | name x =>
    intro N ht hN
    obtain ⟨n, rfl⟩ := ex2 hN
    refine fnE F_law_is_expr [.fr (Tr.name x).d, .unset, .unset] rfl rfl rfl (GetW.mk (.bool true) rfl ?_)
    exact OrW.mk false (fun _ => LenW.mk rfl (OrW.mk false (fun _ => GetW.mk (.bool true) rfl rfl) rfl)) (iteF rfl <| iteF rfl <| iteT rfl <| LenW.mk rfl <| andT rfl <| CallW.mk _ _ (isname_ok n x ht) rfl rfl)
  | two w a b iha ihb =>
    intro N ht hN
    obtain ⟨n, rfl⟩ := ex2 hN
    refine fnE F_law_is_expr [.fr (Tr.two w a b).d, .unset, .unset] rfl rfl rfl (GetW.mk (.bool true) rfl ?_)
    have ih1 := iha (n + 1) ht.1 (sub_1 (show a.deep + 1 ≤ (Tr.two w a b).deep from Nat.succ_le_succ (Nat.le_max_left _ _)) hN)
    have ih2 := ihb (n + 1) ht.2 (sub_1 (show b.deep + 1 ≤ (Tr.two w a b).deep from Nat.succ_le_succ (Nat.le_max_right _ _)) hN)
    refine OrW.mk false (fun _ => LenW.mk rfl (OrW.mk false (fun _ => GetW.mk (.bool true) rfl rfl) rfl)) (iteF rfl <| iteF w.nnum <| iteF w.nname <| GetW.mk (.tuple [a.d, b.d]) rfl <| GetW.mk (.list [a.d, b.d]) rfl <| iteF w.nlet <| iteF w.nwhen <| GetW.mk (.bool false) (in_words w) <| orF rfl <| LenW.mk rfl <| iteF rfl ?_)
    refine ForW.mk [a.d, b.d] rfl rfl (forW (fun l ρ => (∀ d ∈ l, (orc fns globs (n + 1)).fn 26 [d] = .ok (.bool true, false)) ∧ ∃ s0 s1 s, ρ = [s0, s1, s]) ⟨fun d hd => ?_, _, _, _, rfl⟩ ?_ ?_)
    · rcases List.mem_cons.mp hd with rfl | hd
      · exact ih1
      · rw [List.mem_singleton.mp hd]; exact ih2
    · rintro d l ρ ⟨hd, s0, s1, s, rfl⟩
      exact CallW.mk _ _ (hd d (.head _)) rfl (iteF rfl ⟨fun d hd' => hd d (.tail _ hd'), _, _, _, rfl⟩)
    · rintro ρ ⟨_, s0, s1, s, rfl⟩
      exact rfl
  | whn c a b ihc iha ihb =>
    intro N ht hN
    obtain ⟨n, rfl⟩ := ex2 hN
    refine fnE F_law_is_expr [.fr (Tr.whn c a b).d, .unset, .unset] rfl rfl rfl (GetW.mk (.bool true) rfl ?_)
    have ih0 := ihc (n + 1) ht.1 (sub_1 (show c.deep + 1 ≤ (Tr.whn c a b).deep from Nat.succ_le_succ (Nat.le_max_left _ _)) hN)
    have ih1 := iha (n + 1) ht.2.1 (sub_1 (show a.deep + 1 ≤ (Tr.whn c a b).deep from Nat.succ_le_succ (Nat.le_trans (Nat.le_max_left _ _) (Nat.le_max_right _ _))) hN)
    have ih2 := ihb (n + 1) ht.2.2 (sub_1 (show b.deep + 1 ≤ (Tr.whn c a b).deep from Nat.succ_le_succ (Nat.le_trans (Nat.le_max_right _ _) (Nat.le_max_right _ _))) hN)
    refine OrW.mk false (fun _ => LenW.mk rfl (OrW.mk false (fun _ => GetW.mk (.bool true) rfl rfl) rfl)) (iteF rfl <| iteF rfl <| iteF rfl <| GetW.mk (.tuple [c.d, a.d, b.d]) rfl <| GetW.mk (.list [c.d, a.d, b.d]) rfl <| iteF rfl <| iteT rfl <| LenW.mk rfl <| iteF rfl ?_)
    refine ForW.mk [c.d, a.d, b.d] rfl rfl (forW (fun l ρ => (∀ d ∈ l, (orc fns globs (n + 1)).fn 26 [d] = .ok (.bool true, false)) ∧ ∃ s0 s1 s, ρ = [s0, s1, s]) ⟨fun d hd => ?_, _, _, _, rfl⟩ ?_ ?_)
    · rcases List.mem_cons.mp hd with rfl | hd
      · exact ih0
      · rcases List.mem_cons.mp hd with rfl | hd
        · exact ih1
        · rw [List.mem_singleton.mp hd]; exact ih2
    · rintro d l ρ ⟨hd, s0, s1, s, rfl⟩
      exact CallW.mk _ _ (hd d (.head _)) rfl (iteF rfl ⟨fun d hd' => hd d (.tail _ hd'), _, _, _, rfl⟩)
    · rintro ρ ⟨_, s0, s1, s, rfl⟩
      exact rfl
  | lt x a b iha ihb =>
    intro N ht hN
    obtain ⟨n, rfl⟩ := ex2 hN
    refine fnE F_law_is_expr [.fr (Tr.lt x a b).d, .unset, .unset] rfl rfl rfl (GetW.mk (.bool true) rfl ?_)
    have ih1 := iha (n + 1) ht.2.1 (sub_1 (show a.deep + 1 ≤ (Tr.lt x a b).deep from Nat.succ_le_succ (Nat.le_max_left _ _)) hN)
    have ih2 := ihb (n + 1) ht.2.2 (sub_1 (show b.deep + 1 ≤ (Tr.lt x a b).deep from Nat.succ_le_succ (Nat.le_max_right _ _)) hN)
    refine OrW.mk false (fun _ => LenW.mk rfl (OrW.mk false (fun _ => GetW.mk (.bool true) rfl rfl) rfl)) (iteF rfl <| iteF rfl <| iteF rfl <| GetW.mk (.tuple [.str x, a.d, b.d]) rfl <| GetW.mk (.list [.str x, a.d, b.d]) rfl <| iteT rfl <| LenW.mk rfl <| orF rfl <| CallW.mk _ _ (isname_ok n x ht.1) rfl <| iteF rfl <| GetW.mk (.tuple [a.d, b.d]) rfl <| GetW.mk (.list [a.d, b.d]) rfl ?_)
    refine ForW.mk [a.d, b.d] rfl rfl (forW (fun l ρ => (∀ d ∈ l, (orc fns globs (n + 1)).fn 26 [d] = .ok (.bool true, false)) ∧ ∃ s0 s1 s, ρ = [s0, s1, s]) ⟨fun d hd => ?_, _, _, _, rfl⟩ ?_ ?_)
    · rcases List.mem_cons.mp hd with rfl | hd
      · exact ih1
      · rw [List.mem_singleton.mp hd]; exact ih2
    · rintro d l ρ ⟨hd, s0, s1, s, rfl⟩
      exact CallW.mk _ _ (hd d (.head _)) rfl (iteF rfl ⟨fun d hd' => hd d (.tail _ hd'), _, _, _, rfl⟩)
    · rintro ρ ⟨_, s0, s1, s, rfl⟩
      exact rfl
end L11
end Mine
-- Y11h
set_option autoImplicit false
set_option linter.all false
set_option maxRecDepth 10000
namespace Mine
open PySem
namespace L11
theorem ne_tup {l : List D} (h1 : eqOk (.tuple l) = true) : cmpD .NotEq (.tuple l) (.tuple l) = .ok (.bool false) := by
  show (if (eqOk (.tuple l) && eqOk (.tuple l)) = true then R.ok (PyData.eqv (.tuple l) (.tuple l)) else _).no = _
  rw [SeqAt.eqv_refl _ (Bool.and_eq_true_iff.mp h1).1, h1]; rfl
theorem eqOk_s2 {s x : Str} (h : PyData.strOk s = true) (hx : PyData.strOk x = true) : eqOk (.tuple [.str s, .str x]) = true := by
  show ((PyData.strOk s && (PyData.strOk x && true)) && true) = true
  rw [h, hx]; rfl
theorem eqOk_si {s : Str} (h : PyData.strOk s = true) (z : Int) : eqOk (.tuple [.str s, .int z]) = true := by
  show ((PyData.strOk s && (true && true)) && true) = true
  rw [h]; rfl
theorem vm_ne {r : R Int} (h : Vk r) : cmpD .NotEq (VM r) (VM r) = .ok (.bool false) := by
  cases h with
  | is _ => exact ne_tup (eqOk_si (by decide +kernel) _)
  | unset hx => exact ne_tup (eqOk_s2 (by decide +kernel) (strOk_letters hx.1))
  | nought => exact ne_tup (eqOk_s2 (by decide +kernel) (by decide +kernel))
  | great => exact ne_tup (eqOk_s2 (by decide +kernel) (by decide +kernel))
theorem get_new {pre c l : List (D × D)} {y : Str} {v : D} (hk : Kv (pre ++ (.str y, v) :: l)) (hn : Nd (pre ++ (.str y, v) :: l)) (hc : c.Sublist pre) : dput y v c = c ++ [(.str y, v)] := by
  have hq : dget y c = none := by
    cases e : dget y c with
    | none => rfl
    | some d =>
      exfalso
      have hp : Kv c := fun p hp => hk p (List.mem_append_left _ (hc.subset hp))
      unfold Nd at hn
      rw [List.map_append] at hn
      exact (List.nodup_append.mp hn).2.2 (.str y) ((hc.map _).subset (mem_get hp (by rw [e]; rfl))) (.str y) (.head _) rfl
  unfold dput
  rw [hq, if_neg (by exact Bool.noConfusion)]
theorem look_cons (x y : Str) (v : Int) (r : List (D × D)) : look ((.str x, .int v) :: r) y = cond (x == y) (some v) (look r y) := by
  unfold look
  rw [dget_cons]
  cases q : x == y with
  | true => rw [if_pos rfl]; rfl
  | false => rw [if_neg (by decide)]; rfl
theorem look_no {r : List (D × D)} {x : Str} (hk : Kv r) (h : PyData.str x ∉ r.map (·.1)) : look r x = none := by
  cases e : dget x r with
  | none => unfold look; rw [e]; rfl
  | some d => exact absurd (mem_get hk (by rw [e]; rfl)) h
theorem look_upd : ∀ {r a : List (D × D)}, Kv a → Kv r → Nd r → look (dupd a r) = kor (look r) (look a) ∧ Kv (dupd a r) ∧ (dupd a r).length ≤ a.length + r.length
  | [], a, ha, _, _ => ⟨rfl, ha, Nat.le_refl _⟩
  | p :: r, a, ha, hr, hn => by
    obtain ⟨x, v, rfl, hv⟩ := hr p (.head _)
    have hr' : Kv r := fun p hp => hr p (.tail _ hp)
    have hn' := List.nodup_cons.mp hn
    obtain ⟨e1, e2, e3⟩ := look_upd (r := r) (ha.put x hv) hr' hn'.2
    refine ⟨?_, e2, Nat.le_trans e3 (Nat.le_trans (Nat.add_le_add_right (put_len x (.int v) a) _) (Nat.le_of_eq (Nat.succ_add _ _)))⟩
    show look (dupd (dput x (.int v) a) r) = _
    rw [e1, look_put ha]
    funext y
    unfold kor
    rw [look_cons]
    cases q : x == y with
    | true =>
      have q' := beq_iff_eq.mp q
      subst q'
      rw [look_no hr' hn'.1]
      show cond (x == x) (some v) (look a x) = some v
      rw [q]; rfl
    | false =>
      show (match look r y with | some v => some v | none => cond (x == y) (some v) (look a y)) = _
      rw [q]; rfl
theorem kor_put2 {A B : Kf} {x : Str} (v : Int) (h : A x = none) : kor A (kput B x v) = kput (kor A B) x v := funext fun y => by
  unfold kor kput
  cases q : x == y with
  | true => cases beq_iff_eq.mp q; rw [h]; rfl
  | false => rfl
theorem kk1 (A B L : Kf) : kor A (kor B (kor (kor A B) L)) = kor (kor A B) L := funext fun y => by
  unfold kor
  cases A y with
  | some v => rfl
  | none => cases B y <;> rfl
theorem kk2 {A B : Kf} (L : Kf) (h : ∀ x, A x ≠ none → B x = none) : kor B (kor A (kor (kor A B) L)) = kor (kor A B) L := funext fun y => by
  have := h y
  unfold kor
  cases q : A y with
  | some v => rw [this (by rw [q]; exact fun z => nomatch z)]
  | none => cases B y <;> rfl
theorem kvsub {a b : List (D × D)} (h : Kv b) (s : a.Sublist b) : Kv a := fun p hp => h p (s.subset hp)
theorem fdiv2 {c : Int} (h : Sm c) : Sm (c.fdiv 2) := by rw [Int.fdiv_eq_ediv_of_nonneg _ (by decide)]; exact h.div (by decide)
theorem deal_ok {s0 s1 s2 s7 s8 s9 s10 s11 : Slot} {kw : List (D × D)} (hk : Kv kw) (hn : Nd kw) (hl : kw.length ≤ 41) : ∀ (r pre a b : List (D × D)) (c : Int) (s5 s6 : Slot), kw = pre ++ r → Sm c → a.Sublist pre → b.Sublist pre → look pre = kor (look a) (look b) → (∀ x, look a x ≠ none → look b x = none) →
    ∃ (c' : Int) (s5' s6' : Slot) (a' b' : List (D × D)), dealt 4 5 6 r [s0, s1, s2, .unset, .fr (.int c), s5, s6, s7, s8, s9, s10, s11] a b = some ([s0, s1, s2, .unset, .fr (.int c'), s5', s6', s7, s8, s9, s10, s11], a', b') ∧ a'.Sublist kw ∧ b'.Sublist kw ∧ look kw = kor (look a') (look b') ∧ ∀ x, look a' x ≠ none → look b' x = none
  | [], pre, a, b, c, s5, s6, e, _, ha, hb, h1, h2 => by
    rw [List.append_nil] at e
    subst e
    exact ⟨c, s5, s6, a, b, rfl, ha, hb, h1, h2⟩
  | p :: r, pre, a, b, c, s5, s6, e, hc, ha, hb, h1, h2 => by
    have hk0 := hk
    have hn0 := hn
    rw [e] at hk0 hn0
    obtain ⟨x, v, rfl, hv⟩ := hk0 p (List.mem_append_right _ (.head _))
    have hp : Kv pre := fun p hp => hk0 p (List.mem_append_left _ hp)
    have nx : PyData.str x ∉ pre.map (·.1) := fun hm => by
      unfold Nd at hn0
      rw [List.map_append] at hn0
      exact (List.nodup_append.mp hn0).2.2 (.str x) hm (.str x) (.head _) rfl
    have la : look a x = none := look_no (kvsub hp ha) fun hm => nx ((ha.map _).subset hm)
    have lb : look b x = none := look_no (kvsub hp hb) fun hm => nx ((hb.map _).subset hm)
    have pl : pre.length ≤ 41 := by rw [e, List.length_append] at hl; exact Nat.le_trans (Nat.le_add_right _ _) hl
    have e2 : kw = (pre ++ [(PyData.str x, PyData.int v)]) ++ r := by rw [e, List.append_assoc]; rfl
    have lp : look (pre ++ [(PyData.str x, PyData.int v)]) = kput (look pre) x v := by rw [← get_new hk0 hn0 (List.Sublist.refl _), look_put hp]
    have one : ∀ {c : List (D × D)}, c.Sublist pre → (dput x (.int v) c).Sublist (pre ++ [(PyData.str x, PyData.int v)]) := fun {c} h => by rw [get_new hk0 hn0 h]; exact h.append (List.Sublist.refl _)
    have old : ∀ {c : List (D × D)}, c.Sublist pre → c.Sublist (pre ++ [(PyData.str x, PyData.int v)]) := fun h => h.trans (List.sublist_append_left _ _)
    have cnd : (smallInt c && Nat.blt a.length big && Nat.blt b.length big) = true := by
      rw [hc.small, blt_of (Nat.le_trans ha.length_le (Nat.le_trans pl (by decide))), blt_of (Nat.le_trans hb.length_le (Nat.le_trans pl (by decide)))]; rfl
    have red : ∀ E, cond (c.fmod 2 == 0) (dealt 4 5 6 r [s0, s1, s2, .unset, .fr (.int (c.fdiv 2)), .fr (.str x), .fr (.int v), s7, s8, s9, s10, s11] (dput x (.int v) a) b) (dealt 4 5 6 r [s0, s1, s2, .unset, .fr (.int (c.fdiv 2)), .fr (.str x), .fr (.int v), s7, s8, s9, s10, s11] a (dput x (.int v) b)) = some E → dealt 4 5 6 ((.str x, .int v) :: r) [s0, s1, s2, .unset, .fr (.int c), s5, s6, s7, s8, s9, s10, s11] a b = some E := fun E h => by
      show cond (smallInt c && Nat.blt a.length big && Nat.blt b.length big) _ none = _
      rw [cnd]; exact h
    cases q : c.fmod 2 == 0 with
    | true =>
      obtain ⟨c', s5', s6', a', b', h, r1⟩ := deal_ok hk hn hl r (pre ++ [(PyData.str x, PyData.int v)]) (dput x (.int v) a) b (c.fdiv 2) (.fr (.str x)) (.fr (.int v)) e2 (fdiv2 hc) (one ha) (old hb) (by rw [lp, h1, look_put (kvsub hp ha), kor_put]) fun y hy => by
        rw [look_put (kvsub hp ha)] at hy
        unfold kput at hy
        cases z : x == y with
        | true => cases beq_iff_eq.mp z; exact lb
        | false => rw [z] at hy; exact h2 y hy
      exact ⟨c', s5', s6', a', b', red _ (by rw [q]; exact h), r1⟩
    | false =>
      obtain ⟨c', s5', s6', a', b', h, r1⟩ := deal_ok hk hn hl r (pre ++ [(PyData.str x, PyData.int v)]) a (dput x (.int v) b) (c.fdiv 2) (.fr (.str x)) (.fr (.int v)) e2 (fdiv2 hc) (old ha) (one hb) (by rw [lp, h1, look_put (kvsub hp hb), kor_put2 v la]) fun y hy => by
        rw [look_put (kvsub hp hb)]
        unfold kput
        cases z : x == y with
        | true => cases beq_iff_eq.mp z; exact absurd la hy
        | false => exact h2 y hy
      exact ⟨c', s5', s6', a', b', red _ (by rw [q]; exact h), r1⟩
noncomputable def namesI (s0 s1 s2 s3 s4 s6 s7 s8 s9 s10 s11 : Slot) (kw : List (D × D)) (l : List D) (ρ : Env) : Prop := ∃ (ys : List Str) (s5 : Slot), l = SD ys ∧ ρ = [s0, s1, s2, s3, s4, s5, s6, s7, s8, s9, s10, s11] ∧ ∀ y ∈ ys, look kw y = none
noncomputable def lawI (s0 s1 s2 s3 s4 s5 s6 s7 s8 : Slot) (l : List D) (ρ : Env) : Prop := ∃ (a b c : Slot), ρ = [s0, s1, s2, s3, s4, s5, s6, s7, s8, a, b, c] ∧ ∀ d ∈ l, ∃ z, d = .int z ∧ 0 ≤ z ∧ z < 10
theorem range_four : ∀ d ∈ rangeD 0 4, ∃ z, d = .int z ∧ 0 ≤ z ∧ z < 10 := fun d hd => by
  obtain ⟨k, hk, rfl⟩ := List.mem_map.mp hd
  have := List.mem_range.mp hk
  exact ⟨_, rfl, by omega, by omega⟩
structure Tw (t : Tr) (u : Tr) : Prop where
  ok : u.ok
  deep : u.deep ≤ 60
  sz : u.sz ≤ 400
theorem Tw.F {t u : Tr} (h : Tw t u) {g : Kf} (hg : K9 g) : Tw t (u.F g) := ⟨F_ok u g h.ok hg, Nat.le_trans (F_deep u g) h.deep, Nat.le_trans (F_sz u g) h.sz⟩
theorem fold2 {t u : Tr} (h : Tw t u) {kv : List (D × D)} (hk : Kv kv) (hl : kv.length ≤ 41) : (orc fns globs 599).fn 9 [u.d, .dict kv] = .ok ((u.F (look kv)).d, false) :=
  folded_ok u kv 599 h.ok h.deep hk (Nat.le_trans (Nat.add_le_add hl h.deep) (by decide)) (Nat.le_trans (Nat.add_le_add_right (Nat.mul_le_mul_left 2 h.deep) 8) (by decide))
theorem law_ok (xs : List Int) (hx : xs.length ≤ 200) : callF fns globs 600 28 [.list (xs.map PyData.int)] = .ok (.bool true, false) := by
  obtain ⟨ys, e0, l0, hy⟩ := mixed_ok 598 xs (Nat.le_trans hx (by decide))
  have hl : ys.length ≤ 1000 := l0 ▸ Nat.le_trans hx (by decide)
  obtain ⟨t, e1, ht, hd, hs⟩ := expr_by_ok 595 ys hl hy
  obtain ⟨kw, e2, hw, hwn, hwl⟩ := known_by_ok 596 ys hl hy
  obtain ⟨cell, ec, hcell⟩ := cell_at_i 598 ys 1 ⟨by decide, by decide⟩ hl hy
  have T0 : Tw t t := ⟨ht, Nat.le_succ_of_le hd, hs⟩
  obtain ⟨c', s5', s6', a, b, hdl, ha, hb, hK, hdis⟩ := deal_ok (s0 := .fr (.list (ys.map PyData.int))) (s1 := .fr t.d) (s2 := .fr (.dict kw)) (s7 := .unset) (s8 := .unset) (s9 := .unset) (s10 := .unset) (s11 := .unset) hw hwn hwl kw [] [] [] (cell / 9) .unset .unset rfl (hcell.div (by decide)) (List.Sublist.refl _) (List.Sublist.refl _) rfl fun x h => rfl
  have ka := kvsub hw ha
  have kb := kvsub hw hb
  have al := Nat.le_trans ha.length_le hwl
  have bl := Nat.le_trans hb.length_le hwl
  have f3 : ∀ {b : Nat}, b ≤ 60 → b + 2 ≤ 599 := fun k => Nat.le_trans (Nat.add_le_add_right k 2) (by decide)
  have TA := T0.F ka.k9
  have TB := T0.F kb.k9
  have T1 := TA.F kb.k9
  have T2 := TB.F ka.k9
  obtain ⟨b1, n1⟩ := needs_ok ((t.F (look a)).F (look b)) 599 T1.ok T1.sz (f3 T1.deep)
  obtain ⟨b2, n2⟩ := needs_ok ((t.F (look b)).F (look a)) 599 T2.ok T2.sz (f3 T2.deep)
  have i1 := is_expr_ok ((t.F (look a)).F (look b)) 599 T1.ok (f3 T1.deep)
  have i2 := is_expr_ok ((t.F (look b)).F (look a)) 599 T2.ok (f3 T2.deep)
  have da : ∀ {n : Nat}, n ≤ 41 → n ≤ 1000 := fun h => Nat.le_trans h (by decide)
  have nlen : ∀ {u : Tr}, Tw t u → u.nd.length ≤ 400 := fun h => Nat.le_trans (nd_len _) h.sz
  have l2 : (SD ((t.F (look a)).F (look b)).nd).length + (SD ((t.F (look b)).F (look a)).nd).length ≤ big := by
    rw [SD_len, SD_len]; exact Nat.le_trans (Nat.add_le_add (nlen T1) (nlen T2)) (by decide)
  refine fnE F_law [.fr (.list (xs.map PyData.int)), .unset, .unset, .unset, .unset, .unset, .unset, .unset, .unset, .unset, .unset, .unset] rfl rfl rfl (CallW.mk _ _ e0 rfl <| CallW.mk _ _ e1 rfl <| CallW.mk _ _ e2 rfl <| CallW.mk _ _ ec rfl <| DivW.pos hcell.small rfl (by decide) <| IfW.mk (ble_of (Nat.le_trans hwl (by decide))) <| DealW.mk _ a b hdl <| GetW.mk (.dict a) rfl <| dictW (da al) <| CallW.mk _ _ (fold2 T0 ka al) (tr_alias _ _ _) <| GetW.mk (.dict b) rfl <| dictW (da bl) <| CallW.mk _ _ (fold2 TA kb bl) (tr_alias _ _ _) <| GetW.mk (.dict b) rfl <| dictW (da bl) <| CallW.mk _ _ (fold2 T0 kb bl) (tr_alias _ _ _) <| GetW.mk (.dict a) rfl <| dictW (da al) <| CallW.mk _ _ (fold2 TB ka al) (tr_alias _ _ _) <| CallW.mk _ _ i1 rfl <| orF rfl <| CallW.mk _ _ i2 rfl <| iteF rfl <| CallW.mk _ _ n1 rfl <| CallW.mk _ _ n2 rfl <| LcatW.mk (Nat.ble_eq_true_of_le l2) <| ForW.mk _ rfl (by rw [List.length_append]; exact Nat.ble_eq_true_of_le l2) (forW (namesI _ _ _ _ _ _ _ _ _ _ _ kw) ⟨((t.F (look a)).F (look b)).nd ++ ((t.F (look b)).F (look a)).nd, _, (SD_app _ _).symm, rfl, fun y hy => ?_⟩ ?_ ?_))
  · rw [hK]
    unfold kor
    rcases List.mem_append.mp hy with hy | hy
    · have q1 := nd_F (t.F (look a)) (look b) y hy
      rw [(nd_F t (look a) y q1.1).2]; exact q1.2
    · have q1 := nd_F (t.F (look b)) (look a) y hy
      rw [q1.2]; exact (nd_F t (look b) y q1.1).2
  · rintro d l ρ ⟨ys, s5, e, rfl, hy⟩
    cases ys with
    | nil => cases e
    | cons y ys =>
      cases e
      have hg := (hw.get y).1
      rw [hy y (.head _)] at hg
      exact iteF (by rw [hg]; rfl) ⟨ys, _, rfl, rfl, fun z hz => hy z (.tail _ hz)⟩
  · rintro ρ ⟨zs, s5, e, rfl, _⟩
    refine IfW.mk (rangeW (by decide) (by decide)) (forW (lawI _ _ _ _ _ _ _ _ _) ⟨_, _, _, rfl, range_four⟩ ?_ ?_)
    · rintro d l ρ ⟨sa, sb, sc, rfl, hin⟩
      obtain ⟨z, rfl, z0, z1⟩ := hin d (.head _)
      obtain ⟨kv, e5, hv, hvn, hvl⟩ := setting_by_ok 596 ys z z0 z1 hl hy
      obtain ⟨u1, u2, u3⟩ := look_upd (a := kv) hv hw hwn
      have u82 : (dupd kv kw).length ≤ 82 := Nat.le_trans u3 (Nat.add_le_add hvl hwl)
      have lv : ∀ {u : Tr}, Tw t u → (orc fns globs 599).fn 24 [u.d, .dict (dupd kv kw)] = .ok (VM (u.V (look (dupd kv kw))), false) := fun {u} h => lvalue_ok u (dupd kv kw) 599 h.ok u2 (Nat.le_trans (Nat.add_le_add u82 h.deep) (by decide)) (Nat.le_trans (Nat.add_le_add_right h.deep 3) (by decide))
      have v0 := lv T0
      have v1 := lv T1
      have v2 := lv T2
      have k9 := (ka.k9.kor kb.k9).kor hv.k9
      have vk := V_k t (kor (kor (look a) (look b)) (look kv)) ht k9
      rw [u1, hK] at v0 v1 v2
      rw [F_V _ _ _ TA.ok kb.k9 k9, F_V t _ _ ht ka.k9 (kb.k9.kor k9), kk1] at v1
      rw [F_V _ _ _ TB.ok ka.k9 k9, F_V t _ _ ht kb.k9 (ka.k9.kor k9), kk2 _ hdis] at v2
      have ne := vm_ne vk
      generalize t.V (kor (kor (look a) (look b)) (look kv)) = r at v0 v1 v2 vk ne
      exact FreshW.mk _ e5 rfl <| IfW.mk (blt_of (Nat.le_trans (Nat.add_le_add hvl hwl) (by decide))) <| CallW.mk _ _ v0 (vm_alias _ _ _) <| CallW.mk _ _ v1 (vm_alias _ _ _) <| GetW.mk _ ne <| orF rfl <| CallW.mk _ _ v2 (vm_alias _ _ _) <| GetW.mk _ ne <| iteF rfl ⟨_, _, _, rfl, fun d hd => hin d (.tail _ hd)⟩
    · rintro ρ ⟨sa, sb, sc, rfl, _⟩
      rfl
end L11
end Mine
open PySem PySem.W PyProof.Rows
set_option maxRecDepth 100000
set_option maxHeartbeats 8000000
namespace Mine
namespace L11
theorem okAll : (fns.all fun F => okS true F.body) = true := by decide +kernel
theorem walked : PySem.Challenge.rw_uf040022_11.Holds := by
  w_on; o_law; o_head (clsHook cls); (case hw => w_witness2)
  intro w s₀ s₁ mg mb G Y fa o pm cd doc dV kV ho hd hcd hD hmg hg args vals as hpre hlay hrd hwl hlo
  refine Ground.open G ?_
  intro T B D TE TW
  clear hd hcd hD B D TE TW
  wrow_args hpre hlay hrd hwl hlo
  rename_i xs _ _ _ _ _ _ _ a vs _ _ _ W _ _ _ hlen _
  refine law_run (fns := fns) (gn := gnames) (G := globs) (F := F_law) (i := 28) (P := w.params) (b := false) (c := cls) Y rfl T (by decide +kernel) (by decide +kernel) (by decide +kernel) ?_ ?_ rfl rfl hmg W (law_ok xs (by omega)) fun h' tk x1 => ?_
  · intro i x d h1 h2
    rcases i with _ | i
    · cases h1; cases h2; exact rep_const T (by first | rfl | kernel_rfl) rfl
    cases h1
  · exact fun F hF => List.all_eq_true.mp okAll F hF
  · refine good_bool x1 hg (raisesW_false ?_) ?_ rfl
    · wrow_none_raised
    · wrow_post
end L11
end Mine

theorem PySem.Challenge.cw_uf040022_11_holds : PySem.Challenge.rw_uf040022_11.Holds :=
  Mine.L11.walked
